import PyProof.Rows.All
import Wide.All
import OpenK.AllK
import Wide.FinOn
import HandS.ForMost
import HandS.More
import HandS.IsInst
import HandS.Wide
import HandS.StrMore
import HandS.RevRange
import HandS.Rev
import HandS.ExcOwn
import HandS.TryOnly
import HandS.WordsExc
import HandS.ExcIs
import HandS.EndBits
import HandS.Evl
import HandS.Conv
import KE.DataMinMax
import PyProof.ListStr
import KE.IntBitsLaws
import HandS.RevTup
import PySem.Challenge.RW_twinless_k21_whole_forks
set_option Elab.async false
set_option linter.all false
set_option maxRecDepth 100000
set_option maxHeartbeats 4000000

namespace Tw
open PySem PySem.Spec PyProof.Rows L2

/-! ## what a piece of code made and dropped is forgotten -/
/-- objects whose description leans on no other tracked object -/
def flatO : HO → Bool
  | .ins _ _ _ => false
  | .dT _ => false
  | .frz _ u => flatO u
  | _ => true
def Fl (H : Hp) : Prop := ∀ a o, H a = some o → flatO o = true
theorem Fl.upd {H : Hp} {p : Addr} {o : HO} (h : Fl H) (f : flatO o = true) : Fl (L2.upd H p o) := fun a u e => by
  by_cases q : a = p
  · subst q
    rw [upd_same] at e
    cases e
    exact f
  · rw [upd_ne q] at e
    exact h a u e
theorem flat_ok {P : Program} {w : World} {H H' : Hp} {h : Heap} {a : Addr} : ∀ {o : HO}, flatO o = true → ObjOk P w H h a o → ObjOk P w H' h a o := by
  intro o
  induction o with
  | lst xs => exact fun _ x => x
  | tup xs => exact fun _ x => x
  | dK kvs => exact fun _ x => x
  | dT kvs => intro f; cases f
  | set S n => exact fun _ x => x
  | ins C dx fs => intro f; cases f
  | own y => exact fun _ x => x
  | xd fs => exact fun _ x => x
  | rng lo hi => exact fun _ x => x
  | frz ob u ih => exact fun f x => ⟨x.1, ih f x.2⟩
  | tbl ps => exact fun _ x => x
  | met f y => exact fun _ x => x
  | ext g => exact fun _ x => x
theorem un_cut {fs ex : List Addr} {H H1 H2 : Hp} {h h' : Heap} (u : Un fs ex H H1 h h') (s1 : Same H H2) (s2 : Same H2 H1) : Un fs ex H H2 h h' where
  keep := u.keep
  slot := u.slot
  free := fun b o e n hx => s2.free (u.free b o e n hx)
  there := u.there
  tups := fun b xs e => s1 _ _ e
  frzs := fun b o x e => s1 _ _ e
  tbls := fun b ps e => ⟨#[], by
    rw [s1 _ _ e]
    simp⟩
theorem hok_cut {P : Program} {w : World} {H1 H2 : Hp} {h : Heap} (x : HOk P w H1 h) (s2 : Same H2 H1) (f : Fl H2) : HOk P w H2 h := fun a o e => flat_ok (f a o e) (x a o (s2 a o e))
theorem inv_cut {X : Cx} {pins : List (Addr × Obj)} {σ σ' : L2.St} {H H1 H2 : Hp} {s s' : Shared} (I : Inv X pins σ H s) (I' : Inv X pins σ' H1 s') (s1 : Same H H2) (s2 : Same H2 H1) (f : Fl H2) : Inv X pins σ' H2 s' where
  ok := I'.ok
  os := I'.os
  bare := I'.bare
  base := ⟨I'.base.keep, I'.base.slot, fun b o e n hx => s2.free (I'.base.free b o e n hx), I'.base.there, fun b xs e => s1 _ _ (I.base.tups b xs e), fun b o u e => s1 _ _ (I.base.frzs b o u e), fun b ps e => by
    obtain ⟨more, q⟩ := I.base.tbls b ps e
    exact ⟨more, s1 _ _ q⟩⟩
  loc := I'.loc
  cell := I'.cell
  free := s2.free I'.free
  freeC := fun x c e => s2.free (I'.freeC x c e)
  pin := fun p hp => by
    obtain ⟨e, n, r⟩ := I'.pin p hp
    exact ⟨e, s2.free n, r⟩
  hok := hok_cut I'.hok s2 f
  len := I'.len

/-- the wish at a def's end, by what the caller shall see -/
def Rt (H : Hp) (Q : VK) : VK := fun v H1 => ∃ H2, Same H H2 ∧ Same H2 H1 ∧ Fl H2 ∧ Q v H2
theorem fn_cut {P : Program} {w : World} {K : PySem.W.Frag} {mg : Str → Option Value} {base : Heap} {CX : CXT} {k : Nat} {f : Addr} {fd : FuncData} {ps : List Str} {sp sp' : Sp} (F : FnOk P w K mg base CX k f fd ps sp')
    (h : ∀ vs H Q E, sp vs H Q E → sp' vs H (Rt H Q) E) : FnOk P w K mg base CX k f fd ps sp := by
  refine ⟨fun vs H Q E q => F.len _ _ _ _ (h _ _ _ _ q), fun A outer s H args us vs Q E hr he hb hv hs => ?_⟩
  refine codeAny_mono (F.run A outer s H args us vs (Rt H Q) E hr he hb hv (h _ _ _ _ hs)) fun r s' q => ?_
  cases r with
  | error e => exact q
  | ok fl =>
    cases fl with
    | next => exact q
    | brk => exact q
    | cont => exact q
    | ret u =>
      obtain ⟨v, H1, os, bare, un, hok, r, H2, s1, s2, f2, q⟩ := q
      exact ⟨v, H2, os, bare, un_cut un s1 s2, hok_cut hok s2 f2, r, q⟩
/-- a def by its body; the heap behind it is what was, and what is handed back -/
theorem okP {P : Program} {w : World} {K : PySem.W.Frag} {mg : Str → Option Value} {base : Heap} {x qual : Str} {st : Stmt} {f : Addr} {fd : FuncData} {N ps : List Str} {k : Nat} {sp : Sp} (F : Fun K x qual st f fd) (S : FnScope N ps (defScope st))
    (len : ∀ vs H Q E, sp vs H Q E → vs.length = ps.length)
    (hbody : ∀ (cdv : Value) (A : Around) (outer : List Env) (s : Shared) (H : Hp) (vs : List V) (Q : VK) (E : XK), Room k (A.deeper (envOfC qual (defScope st) s.heap.objs.size f cdv)) → sp vs H Q E →
      ∃ t, PSs (cxOf CX0 P w K mg base N qual (defScope st) f cdv A outer s H E).nox (defBody st) t ∧ t { nx := fun _ H' => Rt H Q .non H', rt := Rt H Q } (start N vs) H) : FnOk P w K mg base CX0 (k + 1) f fd ps sp := by
  refine fn_cut (sp' := fun vs H Q' E => ∃ Q, Q' = Rt H Q ∧ sp vs H Q E) (F.ok S (fun vs H Q E h => ?_) (fun cdv A outer s H vs Q E hr h => ?_)) (fun vs H Q E h => ⟨Q, rfl, h⟩)
  · obtain ⟨Q', _, q⟩ := h
    exact len _ _ _ _ q
  · obtain ⟨Q', rfl, q⟩ := h
    exact hbody cdv A outer s H vs Q' E hr q

/-- an expression, a test, a statement: what they leave on the heap besides is forgotten -/
def tF (t : TE) : TE := fun σ H Q => t σ H (Rt H Q)
theorem pe_F {X : Cx} {e : Expr} {t : TE} (h : PE X e t) : PE X e (tF t) := by
  refine ⟨fun pins s σ H Q I q => ?_⟩
  refine thn (h.run pins s σ H _ I q) fun u s1 hu => ?_
  obtain ⟨v, H1, I1, r, H2, s1, s2, f2, q⟩ := hu
  exact ⟨v, H2, inv_cut I I1 s1 s2 f2, r, q⟩
def RtT (H : Hp) (Q : Bool → Hp → Prop) : Bool → Hp → Prop := fun b H1 => ∃ H2, Same H H2 ∧ Same H2 H1 ∧ Fl H2 ∧ Q b H2
def tFT (t : TT) : TT := fun σ H Q => t σ H (RtT H Q)
theorem pt_F {X : Cx} {e : Expr} {t : TT} (h : PT X e t) : PT X e (tFT t) := by
  refine ⟨fun pins s σ H Q I q => ?_⟩
  refine thn (h.run pins s σ H _ I q) fun u s1 hu => ?_
  obtain ⟨H1, I1, H2, s1, s2, f2, q⟩ := hu
  exact ⟨H2, inv_cut I I1 s1 s2 f2, q⟩

/-! ## heaps -/
theorem same_new {H H1 : Hp} {p : Addr} {o : HO} (s : Same H H1) (n : H p = none) : Same H (upd H1 p o) := fun a u e => by
  rw [upd_ne (ne_of_none e n)]
  exact s a u e
theorem same_new' {H H1 : Hp} {p : Addr} {o : HO} (s : Same H H1) (n : H1 p = none) : Same H (upd H1 p o) := same_new s (s.free n)
theorem same_put {H H1 : Hp} {p : Addr} {o : HO} (s : Same H H1) (h : H1 p = some o) : Same (upd H p o) H1 := fun a u e => by
  by_cases q : a = p
  · subst q
    rw [upd_same] at e
    cases e
    exact h
  · rw [upd_ne q] at e
    exact s a u e
theorem at_old {H : Hp} {p a : Addr} {o u : HO} (h : H a = some u) (n : H p = none) : (upd H p o) a = some u := by
  rw [upd_ne (ne_of_none h n)]
  exact h
theorem at_oth {H : Hp} {p a : Addr} {o u : HO} (h : H a = some u) (n : a ≠ p) : (upd H p o) a = some u := by
  rw [upd_ne n]
  exact h
theorem sq_old {K : PySem.W.Frag} {H : Hp} {p a : Addr} {o : HO} {xs : List V} (h : SqL K H a xs) (n : H p = none) : SqL K (upd H p o) a xs := (same_new (Same.refl H) n).seq h

theorem rt_val {H H1 : Hp} {Q : VK} {v : V} (f : Fl H) (s : Same H H1) (q : Q v H) : Rt H Q v H1 := ⟨H, Same.refl H, s, f, q⟩
theorem rt_new {H H1 : Hp} {Q : VK} {p : Addr} {o : HO} (f : Fl H) (s : Same H H1) (n : H p = none) (fo : flatO o = true) (h : H1 p = some o) (q : Q (.ref p) (upd H p o)) : Rt H Q (.ref p) H1 :=
  ⟨upd H p o, same_new (Same.refl H) n, same_put s h, f.upd fo, q⟩

/-! ## what evaluates to what -/
def Vl (t : TE) (σ : L2.St) (H : Hp) (v : V) : Prop := ∀ Q : VK, Q v H → t σ H Q
def Nw (t : TE) (σ : L2.St) (H : Hp) (o : HO) : Prop := ∀ Q : VK, (∀ p, H p = none → Q (.ref p) (upd H p o)) → t σ H Q
def As (t : TT) (σ : L2.St) (H : Hp) (b : Bool) : Prop := ∀ Q : Bool → Hp → Prop, Q b H → t σ H Q
def Av (t : TA) (σ : L2.St) (H : Hp) (vs : List V) : Prop := ∀ Q : List V → Hp → Prop, Q vs H → t σ H Q
/-- with what is left besides -/
def Gv (t : TE) (σ : L2.St) (H : Hp) (v : V) : Prop := ∀ Q : VK, (∀ H1, Same H H1 → Q v H1) → t σ H Q
def Gn (t : TE) (σ : L2.St) (H : Hp) (o : HO) : Prop := ∀ Q : VK, (∀ p H1, H p = none → Same H H1 → H1 p = some o → Q (.ref p) H1) → t σ H Q

section
variable {σ : L2.St} {H : Hp} {t ta tb te : TE} {v x y : V} {o : HO} {b : Bool} {K : PySem.W.Frag}
theorem Vl.g (h : Vl t σ H v) : Gv t σ H v := fun Q q => h Q (q H (Same.refl H))
theorem Nw.g (h : Nw t σ H o) : Gn t σ H o := fun Q q => h Q fun p n => q p _ n (same_new (Same.refl H) n) upd_same
theorem vl_F (f : Fl H) (h : Gv t σ H v) : Vl (tF t) σ H v := fun Q q => h _ fun H1 s => rt_val f s q
theorem nw_F (f : Fl H) (fo : flatO o = true) (h : Gn t σ H o) : Nw (tF t) σ H o := fun Q q => h _ fun p H1 n s e => rt_new f s n fo e (q p n)
theorem vl_var {i : Nat} (h : σ[i]? = some (some v)) : Vl (tVar i) σ H v := fun _ q => ⟨v, h, q⟩
theorem vl_c : Vl (tC v) σ H v := fun _ q => q
theorem vl_is {w : V} (h : Vl t σ H v) (e : v = w) : Vl t σ H w := e ▸ h
theorem nw_is {u : HO} (h : Nw t σ H o) (e : o = u) : Nw t σ H u := e ▸ h
theorem vl_op {r : R2} {z : V} (ha : Vl ta σ H x) (hb : Vl tb σ H y) (hr : ∀ Q : VK, Q z H → r x y H Q) : Vl (tOp r ta tb) σ H z := fun Q q => ha _ (hb _ (hr Q q))
theorem vl_I0 {g : Int → Int → V} {i j : Int} (ha : Vl ta σ H (.int i)) (hb : Vl tb σ H (.int j)) : Vl (tOp (rI0 g) ta tb) σ H (g i j) := vl_op ha hb fun _ q => ⟨i, j, rfl, rfl, q⟩
theorem vl_I {C : Int → Int → Prop} {g : Int → Int → V} {i j : Int} (ha : Vl ta σ H (.int i)) (hb : Vl tb σ H (.int j)) (hc : C i j) : Vl (tOp (rI C g) ta tb) σ H (g i j) := vl_op ha hb fun _ q => ⟨i, j, rfl, rfl, hc, q⟩
theorem vl_eq (ha : Vl ta σ H x) (hb : Vl tb σ H y) (h : scal x y = true) : Vl (tOp rEq ta tb) σ H (.bl (decide (x = y))) := vl_op ha hb fun _ q => ⟨h, q⟩
theorem vl_ne (ha : Vl ta σ H x) (hb : Vl tb σ H y) (h : scal x y = true) : Vl (tOp rNe ta tb) σ H (.bl (!decide (x = y))) := vl_op ha hb fun _ q => ⟨h, q⟩
theorem vl_un {g : Int → V} {i : Int} (ha : Vl ta σ H (.int i)) : Vl (tUn (rU g) ta) σ H (g i) := fun Q q => ha _ ⟨i, rfl, q⟩
theorem vl_ixL {p : Addr} {xs : List V} {i : Int} (ha : Vl ta σ H (.ref p)) (hb : Vl tb σ H (.int i)) (h : SqL K H p xs) (e : atI xs i = some v) : Vl (tOp (rIxL K) ta tb) σ H v := vl_op ha hb fun _ q => ⟨p, xs, i, v, rfl, rfl, h, e, q⟩
theorem vl_ixT {p : Addr} {xs : List V} {i : Int} (ha : Vl ta σ H (.ref p)) (hb : Vl tb σ H (.int i)) (h : SqT K H p xs) (e : atI xs i = some v) : Vl (tOp (rIxT K) ta tb) σ H v := vl_op ha hb fun _ q => ⟨p, xs, i, v, rfl, rfl, h, e, q⟩
theorem vl_ixS {z : Str} {i : Int} {c : Nat} (ha : Vl ta σ H (.str z)) (hb : Vl tb σ H (.int i)) (hz : z.length ≤ sizeLine) (e : atI z.cps.toList i = some c) : Vl (tOp rIxS ta tb) σ H (.str ⟨#[c]⟩) := vl_op ha hb fun _ q => ⟨z, i, c, rfl, rfl, hz, e, q⟩
theorem vl_if {c : TT} (h : As c σ H b) (h1 : b = true → Vl ta σ H v) (h2 : b = false → Vl tb σ H v) : Vl (tIf c ta tb) σ H v := fun Q q => h _ (by
  cases b with
  | true => exact (h1 rfl) Q q
  | false => exact (h2 rfl) Q q)
theorem vl_andV {a c : Bool} (h1 : Vl ta σ H (.bl a)) (h2 : a = true → Vl tb σ H (.bl c)) : Vl (tAndV ta tb) σ H (.bl (a && c)) := fun Q q => h1 _ ⟨a, rfl, by
  cases a with
  | true => exact (h2 rfl) Q q
  | false => exact q⟩
theorem vl_orV {a c : Bool} (h1 : Vl ta σ H (.bl a)) (h2 : a = false → Vl tb σ H (.bl c)) : Vl (tOrV ta tb) σ H (.bl (a || c)) := fun Q q => h1 _ ⟨a, rfl, by
  cases a with
  | true => exact q
  | false => exact (h2 rfl) Q q⟩
theorem vl_notV {a : Bool} (h : Vl ta σ H (.bl a)) : Vl (tNotV ta) σ H (.bl (!a)) := fun Q q => h _ ⟨a, rfl, q⟩
theorem vl_isN : Vl ta σ H x → Vl (tIsN ta) σ H (.bl (decide (x = .non))) := fun h Q q => h _ q
theorem vl_notN : Vl ta σ H x → Vl (tNotN ta) σ H (.bl (!decide (x = .non))) := fun h Q q => h _ q

/-! tests -/
variable {c d : TT}
theorem as_test (h : Vl t σ H (.bl b)) : As (tTest t) σ H b := fun Q q => h _ ⟨b, rfl, q⟩
theorem as_B (h : Vl t σ H (.bl b)) : As (tB t) σ H b := fun Q q => h _ ⟨b, rfl, q⟩
theorem as_and {a e : Bool} (h1 : As c σ H a) (h2 : a = true → As d σ H e) : As (tAnd c d) σ H (a && e) := fun Q q => h1 _ (by
  cases a with
  | true => exact (h2 rfl) Q q
  | false => exact q)
theorem as_or {a e : Bool} (h1 : As c σ H a) (h2 : a = false → As d σ H e) : As (tOr c d) σ H (a || e) := fun Q q => h1 _ (by
  cases a with
  | true => exact q
  | false => exact (h2 rfl) Q q)
theorem as_not {a : Bool} (h : As c σ H a) : As (tNot c) σ H (!a) := fun Q q => h _ q
theorem as_is {a : Bool} (h : As c σ H a) (e : a = b) : As c σ H b := e ▸ h

/-! arguments -/
variable {ra : TA} {vs : List V}
theorem av_nil : Av tNil σ H [] := fun _ q => q
theorem av_cons (h : Vl te σ H x) (hr : Av ra σ H vs) : Av (tCons te ra) σ H (x :: vs) := fun Q q => h _ (hr _ q)
theorem nw_lst (h : Av ra σ H vs) (hl : vs.length ≤ 1000) : Nw (tLst ra) σ H (.lst vs) := fun Q q => h _ ⟨Nat.le_of_lt (small1000 hl), q⟩
theorem nw_tup (h : Av ra σ H vs) (hl : vs.length ≤ 1000) : Nw (tTup ra) σ H (.tup vs) := fun Q q => h _ ⟨Nat.le_of_lt (small1000 hl), q⟩
theorem vl_cb {r : List V → Hp → VK → Prop} (h : Av ra σ H vs) (hr : ∀ Q : VK, Q v H → r vs H Q) : Vl (tCB r ra) σ H v := fun Q q => h _ (hr Q q)
theorem nw_cb {r : List V → Hp → VK → Prop} (h : Av ra σ H vs) (hr : ∀ Q : VK, (∀ p, H p = none → Q (.ref p) (upd H p o)) → r vs H Q) : Nw (tCB r ra) σ H o := fun Q q => h _ (hr Q q)
theorem vl_call {sp : Sp} {E : XK} (h : Av ra σ H vs) (hr : ∀ Q : VK, Q v H → sp vs H Q E) : Vl (tCall sp [] E ra) σ H v := fun Q q => h _ (by
  show sp (vs ++ []) H Q E
  rw [List.append_nil]
  exact hr Q q)
theorem nw_call {sp : Sp} {E : XK} (h : Av ra σ H vs) (hr : ∀ Q : VK, (∀ p, H p = none → Q (.ref p) (upd H p o)) → sp vs H Q E) : Nw (tCall sp [] E ra) σ H o := fun Q q => h _ (by
  show sp (vs ++ []) H Q E
  rw [List.append_nil]
  exact hr Q q)
/-- a call whose answer is left open -/
def Va (t : TE) (σ : L2.St) (H : Hp) (P : V → Prop) : Prop := ∀ Q : VK, (∀ v, P v → Q v H) → t σ H Q
theorem va_call {sp : Sp} {E : XK} {P : V → Prop} (h : Av ra σ H vs) (hr : ∀ Q : VK, (∀ v, P v → Q v H) → sp vs H Q E) : Va (tCall sp [] E ra) σ H P := fun Q q => h _ (by
  show sp (vs ++ []) H Q E
  rw [List.append_nil]
  exact hr Q q)
/-- methods of built-in types -/
theorem vl_bm {T : String} {r : V → List V → Hp → VK → Prop} (ha : Vl ta σ H x) (h : Av ra σ H vs) (ty : tyV K T x H) (hr : ∀ Q : VK, Q v H → r x vs H Q) : Vl (tBM K T r ta ra) σ H v := fun Q q => ha _ ⟨ty, h _ (hr Q q)⟩
theorem vl_bm0 {T : String} {r : V → List V → Hp → VK → Prop} (ha : Vl ta σ H x) (ty : tyV K T x H) (hr : ∀ Q : VK, Q v H → r x [] H Q) : Vl (tBM0 K T r ta) σ H v := fun Q q => ha _ ⟨ty, hr Q q⟩
/-- slices -/
def Pv (t : TO) (σ : L2.St) (H : Hp) (i : Option Int) : Prop := ∀ Q : Option Int → Hp → Prop, Q i H → t σ H Q
variable {tl th : TO} {lo hi : Option Int}
theorem pv_none : Pv tNoPart σ H none := fun _ q => q
theorem pv_some {i : Int} (h : Vl te σ H (.int i)) : Pv (tPart te) σ H (some i) := fun Q q => h _ ⟨i, rfl, q⟩
theorem nw_slL {a : Addr} {xs : List V} (h : Vl te σ H (.ref a)) (h1 : Pv tl σ H lo) (h2 : Pv th σ H hi) (hs : SqL K H a xs) : Nw (tSl (rSlL K) te tl th) σ H (.lst (cutV xs lo hi)) := fun Q q => h _ (h1 _ (h2 _ ⟨a, xs, rfl, hs, q⟩))
theorem vl_slS {z : Str} (h : Vl te σ H (.str z)) (h1 : Pv tl σ H lo) (h2 : Pv th σ H hi) (hz : z.length ≤ sizeLine) : Vl (tSl rSlS te tl th) σ H (.str (cutS z lo hi)) := fun Q q => h _ (h1 _ (h2 _ ⟨z, rfl, hz, q⟩))
end

/-! ## statements -/
section
variable {σ : L2.St} {H : Hp} {t ta tb te : TE} {v x y : V} {o : HO} {b : Bool} {K : PySem.W.Frag} {c : TT} {D : Ends} {tu tw tz : TS} {i : Nat} {P : Prop} [Decidable P]
theorem s_set (h : Vl te σ H v) (k : D.nx (σ.set i (some v)) H) : tAsg te (gName i) D σ H := h _ k
theorem q_set (h : Vl te σ H v) (k : tz D (σ.set i (some v)) H) : tSeq (tAsg te (gName i)) tz D σ H := h _ k
theorem s_new (h : Nw te σ H o) (k : ∀ p, H p = none → D.nx (σ.set i (some (.ref p))) (upd H p o)) : tAsg te (gName i) D σ H := h _ k
theorem q_new (h : Nw te σ H o) (k : ∀ p, H p = none → tz D (σ.set i (some (.ref p))) (upd H p o)) : tSeq (tAsg te (gName i)) tz D σ H := h _ k
theorem s_any {P : V → Prop} (h : Va te σ H P) (k : ∀ v, P v → D.nx (σ.set i (some v)) H) : tAsg te (gName i) D σ H := h _ k
theorem q_any {P : V → Prop} (h : Va te σ H P) (k : ∀ v, P v → tz D (σ.set i (some v)) H) : tSeq (tAsg te (gName i)) tz D σ H := h _ k
theorem s_ret (h : Vl te σ H v) (k : D.rt v H) : tRet te D σ H := h _ k
theorem s_retN (h : Nw te σ H o) (k : ∀ p, H p = none → D.rt (.ref p) (upd H p o)) : tRet te D σ H := h _ k
theorem s_drop (h : Vl te σ H v) (k : D.nx σ H) : tDrop te D σ H := h _ k
theorem q_drop (h : Vl te σ H v) (k : tz D σ H) : tSeq (tDrop te) tz D σ H := h _ k
theorem s_if (h : As c σ H b) (h1 : b = true → tu D σ H) (h2 : b = false → tw D σ H) : tIfS c tu tw D σ H := h _ (by
  cases b with
  | true => exact h1 rfl
  | false => exact h2 rfl)
theorem q_if (h : As c σ H b) (h1 : b = true → tu { D with nx := tz D } σ H) (h2 : b = false → tw { D with nx := tz D } σ H) : tSeq (tIfS c tu tw) tz D σ H := s_if (D := { D with nx := tz D }) h h1 h2
theorem s_ifP (h : As c σ H (decide P)) (h1 : P → tu D σ H) (h2 : ¬ P → tw D σ H) : tIfS c tu tw D σ H := s_if h (fun e => h1 (of_decide_eq_true e)) fun e => h2 (of_decide_eq_false e)
theorem q_ifP (h : As c σ H (decide P)) (h1 : P → tu { D with nx := tz D } σ H) (h2 : ¬ P → tw { D with nx := tz D } σ H) : tSeq (tIfS c tu tw) tz D σ H := s_ifP (D := { D with nx := tz D }) h h1 h2
theorem s_nx (k : D.nx σ H) : tNext D σ H := k
theorem q_nx (k : tz D σ H) : tNext { D with nx := tz D } σ H := k
theorem q_seq (k : tu { D with nx := tz D } σ H) : tSeq tu tz D σ H := k
/-- loops -/
theorem s_for1 {ra : TA} {g : TG} {n : Int} (h : Av ra σ H [.int n]) (hn : n < 2 ^ 62) (h0 : 0 ≤ n) (Pv : Nat → L2.St → Hp → Prop) (p0 : Pv 0 σ H)
    (hs : ∀ (i : Nat) σ' H', (i : Int) < n → Pv i σ' H' → g (.int (i : Int)) σ' H' fun σ2 H2 => tu { D with nx := Pv (i + 1), ct := Pv (i + 1), bk := D.nx } σ2 H2) (hd : ∀ σ' H', Pv n.toNat σ' H' → D.nx σ' H') : tFor (iRng1 ra) g tu D σ H :=
  h _ ⟨n, rfl, by omega, hn, for_range (lo := 0) (n := n.toNat) Pv p0 (fun i σ' H' hi p => by
    rw [Int.zero_add]
    exact hs i σ' H' (by omega) p) hd⟩
theorem q_for1 {ra : TA} {g : TG} {n : Int} (h : Av ra σ H [.int n]) (hn : n < 2 ^ 62) (h0 : 0 ≤ n) (Pv : Nat → L2.St → Hp → Prop) (p0 : Pv 0 σ H)
    (hs : ∀ (i : Nat) σ' H', (i : Int) < n → Pv i σ' H' → g (.int (i : Int)) σ' H' fun σ2 H2 => tu { D with nx := Pv (i + 1), ct := Pv (i + 1), bk := tz D } σ2 H2) (hd : ∀ σ' H', Pv n.toNat σ' H' → tz D σ' H') : tSeq (tFor (iRng1 ra) g tu) tz D σ H :=
  s_for1 (D := { D with nx := tz D }) h hn h0 Pv p0 hs hd
theorem s_for2 {ra : TA} {g : TG} {lo n : Int} (h : Av ra σ H [.int lo, .int n]) (hb : -(2 ^ 62) ≤ lo ∧ lo < 2 ^ 62 ∧ -(2 ^ 62) ≤ n ∧ n < 2 ^ 62) (Pv : Nat → L2.St → Hp → Prop) (p0 : Pv 0 σ H)
    (hs : ∀ (i : Nat) σ' H', lo + (i : Int) < n → Pv i σ' H' → g (.int (lo + (i : Int))) σ' H' fun σ2 H2 => tu { D with nx := Pv (i + 1), ct := Pv (i + 1), bk := D.nx } σ2 H2) (hd : ∀ σ' H', Pv (n - lo).toNat σ' H' → D.nx σ' H') : tFor (iRng2 ra) g tu D σ H :=
  h _ ⟨lo, n, rfl, hb, for_range (lo := lo) (n := (n - lo).toNat) Pv p0 (fun i σ' H' hi p => hs i σ' H' (by omega) p) hd⟩
theorem q_for2 {ra : TA} {g : TG} {lo n : Int} (h : Av ra σ H [.int lo, .int n]) (hb : -(2 ^ 62) ≤ lo ∧ lo < 2 ^ 62 ∧ -(2 ^ 62) ≤ n ∧ n < 2 ^ 62) (Pv : Nat → L2.St → Hp → Prop) (p0 : Pv 0 σ H)
    (hs : ∀ (i : Nat) σ' H', lo + (i : Int) < n → Pv i σ' H' → g (.int (lo + (i : Int))) σ' H' fun σ2 H2 => tu { D with nx := Pv (i + 1), ct := Pv (i + 1), bk := tz D } σ2 H2) (hd : ∀ σ' H', Pv (n - lo).toNat σ' H' → tz D σ' H') : tSeq (tFor (iRng2 ra) g tu) tz D σ H :=
  s_for2 (D := { D with nx := tz D }) h hb Pv p0 hs hd
theorem s_for3 {ra : TA} {g : TG} {a n st : Int} {m : Nat} (h : Av ra σ H [.int a, .int n, .int st]) (hc : RgC a n st m) (Pv : Nat → L2.St → Hp → Prop) (p0 : Pv 0 σ H)
    (hs : ∀ (i : Nat) σ' H', i < m → Pv i σ' H' → g (.int (a + (i : Nat) * st)) σ' H' fun σ2 H2 => tu { D with nx := Pv (i + 1), ct := Pv (i + 1), bk := D.nx } σ2 H2) (hd : ∀ σ' H', Pv m σ' H' → D.nx σ' H') : tFor (iRng3 ra) g tu D σ H :=
  h _ ⟨a, n, st, m, rfl, hc, for_rangeC Pv p0 hs hd⟩
theorem q_for3 {ra : TA} {g : TG} {a n st : Int} {m : Nat} (h : Av ra σ H [.int a, .int n, .int st]) (hc : RgC a n st m) (Pv : Nat → L2.St → Hp → Prop) (p0 : Pv 0 σ H)
    (hs : ∀ (i : Nat) σ' H', i < m → Pv i σ' H' → g (.int (a + (i : Nat) * st)) σ' H' fun σ2 H2 => tu { D with nx := Pv (i + 1), ct := Pv (i + 1), bk := tz D } σ2 H2) (hd : ∀ σ' H', Pv m σ' H' → tz D σ' H') : tSeq (tFor (iRng3 ra) g tu) tz D σ H :=
  s_for3 (D := { D with nx := tz D }) h hc Pv p0 hs hd
theorem s_forL {a : Addr} {xs : List V} {g : TG} (h : Vl te σ H (.ref a)) (hx : SqL K H a xs) (Pv : Nat → L2.St → Hp → Prop) (p0 : Pv 0 σ H) (hl : ∀ i σ' H', i ≤ xs.length → Pv i σ' H' → SqL K H' a xs)
    (hs : ∀ (i : Nat) x σ' H', xs[i]? = some x → Pv i σ' H' → g x σ' H' fun σ2 H2 => tu { D with nx := Pv (i + 1), ct := Pv (i + 1), bk := D.nx } σ2 H2) (hd : ∀ σ' H', Pv xs.length σ' H' → D.nx σ' H') : tFor (iList K te) g tu D σ H :=
  h _ ⟨a, rfl, ⟨xs, hx⟩, for_list Pv p0 hl hs hd⟩
theorem q_forL {a : Addr} {xs : List V} {g : TG} (h : Vl te σ H (.ref a)) (hx : SqL K H a xs) (Pv : Nat → L2.St → Hp → Prop) (p0 : Pv 0 σ H) (hl : ∀ i σ' H', i ≤ xs.length → Pv i σ' H' → SqL K H' a xs)
    (hs : ∀ (i : Nat) x σ' H', xs[i]? = some x → Pv i σ' H' → g x σ' H' fun σ2 H2 => tu { D with nx := Pv (i + 1), ct := Pv (i + 1), bk := tz D } σ2 H2) (hd : ∀ σ' H', Pv xs.length σ' H' → tz D σ' H') : tSeq (tFor (iList K te) g tu) tz D σ H :=
  s_forL (D := { D with nx := tz D }) h hx Pv p0 hl hs hd
theorem s_while (W : Nat → L2.St → Hp → Prop) (m0 : Nat) (h0 : W m0 σ H)
    (hs : ∀ m σ' H', W m σ' H' → ∃ b, As c σ' H' b ∧ (b = true → tu { D with nx := fun σ2 H2 => ∃ m', m' < m ∧ W m' σ2 H2, ct := fun σ2 H2 => ∃ m', m' < m ∧ W m' σ2 H2, bk := D.nx } σ' H') ∧ (b = false → D.nx σ' H')) : tWhile c tu D σ H := by
  refine ⟨W, ⟨m0, h0⟩, fun m σ' H' w => ?_⟩
  obtain ⟨b, hb, h1, h2⟩ := hs m σ' H' w
  refine hb _ ?_
  cases b with
  | true => exact ⟨_, fun σ2 H2 n => n, h1 rfl⟩
  | false => exact h2 rfl
theorem q_while (W : Nat → L2.St → Hp → Prop) (m0 : Nat) (h0 : W m0 σ H)
    (hs : ∀ m σ' H', W m σ' H' → ∃ b, As c σ' H' b ∧ (b = true → tu { D with nx := fun σ2 H2 => ∃ m', m' < m ∧ W m' σ2 H2, ct := fun σ2 H2 => ∃ m', m' < m ∧ W m' σ2 H2, bk := tz D } σ' H') ∧ (b = false → tz D σ' H')) : tSeq (tWhile c tu) tz D σ H :=
  s_while (D := { D with nx := tz D }) W m0 h0 hs
/-- xs.append(e), told by what stands at the list behind it -/
theorem s_app {l : Addr} {xs : List V} (hl : H l = some (.lst xs)) (ha : Vl ta σ H (.ref l)) (h : Vl te σ H v) (hz : xs.length < 100000) (k : D.nx σ (upd H l (.lst (xs ++ [v])))) : tDrop (tBM K "list" rAppend ta (tCons te tNil)) D σ H :=
  ha _ ⟨Or.inl ⟨rfl, xs, SqL.of hl⟩, h _ ⟨l, xs, v, rfl, rfl, hl, Nat.lt_of_lt_of_le hz (by decide), k⟩⟩
theorem q_app {l : Addr} {xs : List V} (hl : H l = some (.lst xs)) (ha : Vl ta σ H (.ref l)) (h : Vl te σ H v) (hz : xs.length < 100000) (k : tz D σ (upd H l (.lst (xs ++ [v])))) : tSeq (tDrop (tBM K "list" rAppend ta (tCons te tNil))) tz D σ H :=
  s_app (D := { D with nx := tz D }) hl ha h hz k
end
end Tw

namespace Tw
open PySem PySem.Spec PyProof.Rows L2

/-! ## a def of the text, as its callers see it -/
structure Own (P : Program) (w : World) (K : PySem.W.Frag) (mg : Str → Option Value) (base : Heap) (j : Nat) (x : Str) (ps : List Str) (sp : Sp) : Prop where
  ex : ∃ (f : Addr) (fd : FuncData), FnOk P w K mg base CX0 j f fd ps sp ∧ mg x = some (.ref f) ∧ PySem.W.keepIn K (.ref f) = true ∧ L2.Binds K fd ps []
theorem pe_own {X : Cx} {j k : Nat} {x : Str} {ps : List Str} {sp : Sp} {e : Expr} {es : List Expr} {t : TA} {p pos : Pos} (h : Own X.prog X.w X.K X.mg X.base j x ps sp) (hr : Room k X.A) (ha : PA X (e :: es) t) (hj : j ≤ k := by decide) (hg : Gl X x := by rfl)
    (hdb : (x == ("__debug__" : Str)) = false := by decide) (he : starEach (e :: es) X.env = (false, eval e X.env) :: starEach es X.env := by rfl) (hpl : (backTo pos (starEach es X.env)).any (·.1) = false := by rfl) :
    PE X (.Call (.Name x p) (e :: es) [] pos) (tCall sp [] E0 t) := by
  obtain ⟨f, fd, F, hm, hk, hb⟩ := h.ex
  exact pe_call F (hr.mono hj) hg hm hk hb .nil pass0 ha hdb he hpl

/-! ## named readings -/
def rLenS (K : PySem.W.Frag) : List V → Hp → VK → Prop := fun xs H Q => ∃ p ys, xs = [.ref p] ∧ (SqL K H p ys ∨ SqT K H p ys) ∧ Q (.int ys.length) H
theorem call_lenL {X : Cx} : CallR X (.builtin "len") (rLenS X.K) := call_len_seq
def rLenT : List V → Hp → VK → Prop := fun xs H Q => ∃ z, xs = [.str z] ∧ z.length ≤ sizeLine ∧ Q (.int z.length) H
theorem call_lenT {X : Cx} : CallR X (.builtin "len") rLenT := call_len_str
def rIntB : List V → Hp → VK → Prop := fun xs H Q => ∃ k, xs = [.bl k] ∧ Q (.int (if k then 1 else 0)) H
theorem call_intB {X : Cx} : CallR X (.type "int") rIntB := fun pins s σ H xs us Q I r h => call_int1 pins s σ H xs us Q I r (.inr h)
def rListL (K : PySem.W.Frag) : List V → Hp → VK → Prop := fun xs H Q => ∃ p ys, xs = [.ref p] ∧ (SqL K H p ys ∨ SqT K H p ys) ∧ ∀ l, H l = none → Q (.ref l) (upd H l (.lst ys))
theorem call_listL {X : Cx} : CallR X (.type "list") (rListL X.K) := call_list_of
def rMax2 : List V → Hp → VK → Prop := fun xs H Q => ∃ i j, xs = [.int i, .int j] ∧ Q (.int (if j > i then j else i)) H
theorem call_max2' {X : Cx} (hc : X.calm = true) : CallR X (.builtin "max") rMax2 := call_max2 hc
def rMin2 : List V → Hp → VK → Prop := fun xs H Q => ∃ i j, xs = [.int i, .int j] ∧ Q (.int (if j < i then j else i)) H
theorem call_min2' {X : Cx} (hc : X.calm = true) : CallR X (.builtin "min") rMin2 := call_min2 hc
def rAddT : R2 := fun x y H Q => ∃ i j, x = .str i ∧ y = .str j ∧ i.length + j.length ≤ sizeLine ∧ Q (.str (i ++ j)) H
theorem op_addT {X : Cx} : OpR X (binaryOp .Add) rAddT := op_add_str
def rJoin (K : PySem.W.Frag) : V → List V → Hp → VK → Prop := fun x xs H Q => ∃ a p, ∃ ys : List Str, x = .str a ∧ xs = [.ref p] ∧ (SqL K H p (ys.map V.str) ∨ SqT K H p (ys.map V.str)) ∧
  (ys.map (·.length)).sum + ys.length * a.length ≤ 16777216 ∧ Q (.str (Txt.join a ys)) H
theorem pe_joinT {X : Cx} {o e : Expr} {to te : TE} {apos pos : Pos} (ho : PE X o to) (he : PE X e te) (hs : starEach [e] X.env = [(false, eval e X.env)] := by rfl) (hbase : attributeBase o "join" X.env (eval o X.env) = eval o X.env := by rfl) (hline : (apos.endLine == pos.line) = true := by rfl) :
    PE X (.Call (.Attribute o "join" apos) [e] [] pos) (tM1 (rJoin X.K) to te) := pe_join ho he hs hbase hline

/-! ## list(reversed(a list)) -/
def tListRev (K : PySem.W.Frag) (te : TE) : TE := fun σ H Q => te σ H fun v H1 => ∃ (a : Addr) (xs : List V), v = .ref a ∧ SqL K H1 a xs ∧ ∀ q, H1 q = none → Q (.ref q) (upd H1 q (.lst xs.reverse))
section
variable {prog : Program} {w : World} {A : Around} {E : Value → Shared → Prop} {s : Shared}
open RT in
theorem list_init_rev {R : Result → Shared → Prop} {it l S : Addr} {items : Array Value} (hh : A.handled = none) (hit : s.heap.IsRevIter it l ((items.size : Int) - 1)) (hl : s.heap.IsList l items) (hne : l ≠ it) (hn : items.size ≤ sizeLine)
    (hSl : S ≠ l) (hSi : S ≠ it) (hS : s.heap.get? S = some { cls := .type "list", data := .seq #[] })
    (hR : ∀ h' tk acc' c', (∀ b o, b ≠ S → b ≠ it → s.heap.get? b = some o → h'.get? b = some o) → h'.get? S = some { cls := .type "list", dict := none, data := .seq acc' c', slots := #[] } →
      ItemsOf (fun i v => items[items.size - 1 - i]? = some v) acc' items.size → R (.ok (.ret .none)) { s with heap := h', toks := tk }) :
    wpAny (model prog w) A.in1 (Builtin.«list.__init__» ⟨[.ref S, .ref it], []⟩)
      (fun fin s' => match fin with | .done f => R (.ok f) s' | .again c' => c'.quiet = true ∧ codeAny (model prog w) A c' R s') (fun e s' => R (.error e) s') s := by
  show wpAny _ _ (do let old ← Builtin.List.listItems (.ref S); Builtin.List.listUpdate (.ref S) (fun _ => #[]); letGo old.toList.reverse; Builtin.List.listExtendWith (.ref S) (.ref it) .none) _ _ s
  refine wpAny_bind ?_
  unfold Builtin.List.listItems
  refine wpAny_bind (wpAny_seqItems hS rfl (wpAny_pure ?_))
  show wpAny _ _ (updateSeq S (fun _ => #[]) >>= fun _ => letGo (#[] : Array Value).toList.reverse >>= fun _ => Builtin.List.listExtendWith (.ref S) (.ref it) .none) _ _ s
  refine wpAny_bind (wpAny_updateSeq hS rfl ?_)
  have hS2 := Heap.get?_update_self (Obj.mapSeq (fun _ => (#[] : Array Value))) hS rfl
  have oth : ∀ b o, b ≠ S → s.heap.get? b = some o → (s.heap.update S (Obj.mapSeq (fun _ => (#[] : Array Value)))).get? b = some o :=
    fun b o hb e => (Heap.get?_update_other _ _ (Ne.symm hb)).trans e
  refine wpAny_bind (wpAny_letGo ?_)
  have W := (Walks.listRev (prog := prog) (w := w) (A := A.in1) hh it l hne items).toS
  have hSf : S ∉ [it, l] := by
    simp only [List.mem_cons, List.not_mem_nil, or_false, not_or]
    exact ⟨hSi, hSl⟩
  have hit1 : (s.heap.update S (Obj.mapSeq (fun _ => (#[] : Array Value)))).IsRevIter it l ((items.size : Int) - 1) := hit.at fun o e => oth it o (Ne.symm hSi) e
  have hl1 : (s.heap.update S (Obj.mapSeq (fun _ => (#[] : Array Value)))).IsList l items := by
    obtain ⟨o, e, r⟩ := hl
    exact ⟨o, oth l o (Ne.symm hSl) e, r⟩
  have hT : ({ s with heap := s.heap.update S (Obj.mapSeq (fun _ => (#[] : Array Value))) } : Shared).TypeIs (.ref it) "list_reverseiterator" := Heap.IsRevIter.typeIs (s := { s with heap := s.heap.update S (Obj.mapSeq (fun _ => (#[] : Array Value))) }) hit1
  have h1 : Builtin.List.listSameRef (.ref S) (.ref it) = false := by simp [Builtin.List.listSameRef, hSi]
  unfold Builtin.List.listExtendWith
  refine wpAny_bind (wpAny_typeOf hT ?_)
  rw [if_neg (by rw [h1]; decide)]
  refine wpAny_bind (wpAny_pyIter_revIter (s := { s with heap := s.heap.update S (Obj.mapSeq (fun _ => (#[] : Array Value))) }) hit1 ?_)
  refine wpAny_bind (wpAny_holding ?_)
  unfold Builtin.List.listLengthHint
  refine wpAny_bind (wpAny_specialOf hT nolen_lri ?_)
  show wpAny _ A.in1 (specialOf (Value.ref it) (Str.ofString "__length_hint__") >>= _) _ _ _
  refine wpAny_bind (wpAny_specialOf hT hint_lri ?_)
  generalize hid : ("list_reverseiterator.__length_hint__" : String) = id0
  wp_delta
  rw [show splitId id0 = some ("list_reverseiterator", "__length_hint__") from by subst hid; decide +kernel]
  subst hid
  refine wpAny_bind (wpAny_isInstance (b := true) hT (by rw [isSubtype_type]; kernel_rfl) ?_)
  refine wpAny_pure ?_
  rw [if_neg (by decide)]
  have e0 : ((items.size : Nat) : Int) - 1 - ((0 : Nat) : Int) = (items.size : Int) - 1 := by omega
  refine wpAny_pure ⟨plainId_quiet F.plain_extend_loop _, codeAny_extend_loopS W hn _ hSf _ items.size 0 _ _ _ rfl (Nat.zero_le _) ⟨Nat.zero_le _, by rw [e0]; exact hit1, hl1⟩ hS2 (ItemsOf.nil _) fun s' acc' c' hm hS' hacc => ?_⟩
  rw [Moved.eq_with hm]
  refine hR s'.heap s'.toks acc' c' (fun b o hb hi e => hm.heap b o (fun hmem => ?_) (oth b o hb e)) hS' hacc
  rcases List.mem_cons.mp hmem with e' | hmem
  · exact hb e'
  · exact hi (List.mem_singleton.mp hmem)
theorem call_list_rev {it l : Addr} {items : Array Value} {Q : Value → Shared → Prop} (hh : A.handled = none) (hit : s.heap.IsRevIter it l ((items.size : Int) - 1)) (hl : s.heap.IsList l items) (hne : l ≠ it) (hn : items.size ≤ sizeLine)
    (hQ : ∀ h' tk acc' c', (∀ b o, b ≠ it → s.heap.get? b = some o → h'.get? b = some o) →
      h'.get? s.heap.objs.size = some { cls := .type "list", dict := none, data := .seq acc' c', slots := #[] } → ItemsOf (fun i v => items[items.size - 1 - i]? = some v) acc' items.size → Q (.ref s.heap.objs.size) { s with heap := h', toks := tk }) :
    wpAny (model prog w) A (call (.type "list") [.ref it]) Q E s := by
  obtain ⟨oi, hoi, _⟩ := id hit
  obtain ⟨ol, hol, _⟩ := id hl
  refine callType_codes (Q₁ := fun obj s₁ => obj = .ref s.heap.objs.size ∧ s₁ = { s with heap := s.heap.push { cls := .type "list", data := .seq #[] } }) F.called_list (F.typeCall_list_1 _) F.entry_list_init
    (code_list_new _ ⟨rfl, rfl⟩) fun obj s₁ h₁ => ?_
  obtain ⟨rfl, rfl⟩ := h₁
  have hS : (s.heap.push { cls := .type "list", data := .seq #[] }).get? s.heap.objs.size = some { cls := .type "list", data := .seq #[] } := Heap.get?_push_size _ rfl
  refine ⟨⟨_, hS, rfl⟩, F.args_list_init_2 _ _, list_init_rev (A := A.in1) (items := items) hh (hit.at fun o e => Heap.get?_push_of_some _ e) (hl.push _) hne hn (Nat.ne_of_gt (Heap.lt_size hol)) (Nat.ne_of_gt (Heap.lt_size hoi)) hS fun h' tk acc' c' hk hS' hacc => ?_⟩
  exact ⟨rfl, hQ h' tk acc' c' (fun b o hi e => hk b o (Nat.ne_of_lt (Heap.lt_size e)) hi (Heap.get?_push_of_some _ e)) hS' hacc⟩
end
theorem pe_listRev {X : Cx} {e : Expr} {te : TE} {p p2 pos pos2 : Pos} (hc : X.calm = true) (hg : Gl X "list") (hm : X.mg "list" = none) (hg2 : Gl X "reversed") (hm2 : X.mg "reversed" = none) (he : PE X e te)
    (hs : starEach [e] X.env = (false, eval e X.env) :: starEach [] X.env := by rfl)
    (hs2 : starEach [.Call (.Name "reversed" p2) [e] [] pos2] X.env = (false, eval (.Call (.Name "reversed" p2) [e] [] pos2) X.env) :: starEach [] X.env := by rfl) :
    PE X (.Call (.Name "list" p) [.Call (.Name "reversed" p2) [e] [] pos2] [] pos) (tListRev X.K te) := by
  refine ⟨fun pins s σ H Q I h => ?_⟩
  refine Call_ (ld_blt I hg hm boot_list (PyProof.Rows.callWith_type1 (args_cons (Call_ (ld_blt I hg2 hm2 PyProof.Rows.boot_reversed (PyProof.Rows.callWith_type1 (args_cons (thn (he.run pins s σ H _ I h) fun u s1 ⟨v, H1, I1, r1, q1⟩ => args_nil ?_) hs) hs rfl))) hs2) hs2 rfl))
  obtain ⟨a, xs, ev, hq, q⟩ := q1
  subst ev
  obtain rfl : u = Value.ref a := r1
  obtain ⟨its, rv, p', hz⟩ := I1.list hq
  refine call_reversed_list p'.isList (args_nil ?_)
  have k0 : ∀ b o, s1.heap.get? b = some o → (s1.heap.push (revObj a ((its.toArray.size : Int) - 1))).get? b = some o := fun b o e => Heap.get?_push_of_some _ e
  have I2 : Inv X pins σ H1 { s1 with heap := s1.heap.push (revObj a ((its.toArray.size : Int) - 1)) } := I1.kept (t' := s1.toks) k0
  obtain ⟨f0, f1, f2, f3, f4, f5⟩ := I1.fpOk (H' := H1) (b := s1.heap.objs.size) (Nat.le_refl _) (I1.hok.fresh (Nat.le_refl _))
  have hl := p'.isList
  obtain ⟨ol, hol, _⟩ := id hl
  have hne : a ≠ s1.heap.objs.size := Nat.ne_of_lt (Heap.lt_size hol)
  have hn : its.toArray.size ≤ sizeLine := by rw [List.size_toArray, ← rv.length]; exact hz
  refine call_list_rev (s := { s1 with heap := s1.heap.push (revObj a ((its.toArray.size : Int) - 1)) }) (I1.ok.hd hc) ⟨_, Heap.get?_push_size _ rfl, rfl, rfl⟩ (hl.push _) hne hn fun h' tk acc c' hk hS hi => ?_
  have I3 : Inv X pins σ H1 { s1 with heap := h', toks := tk } := I2.turned (t' := tk) (fun b o hb e => hk b o hb e) f0 f1 f3 f4 f5
  have hS' : h'.get? (s1.heap.objs.size + 1) = some { cls := .type "list", dict := none, data := .seq acc c', slots := #[] } := by
    rw [Heap.size_push] at hS
    exact hS
  have hfr : H1 (s1.heap.objs.size + 1) = none := I2.hok.fresh (by
    show (s1.heap.push _).objs.size ≤ _
    rw [Heap.size_push]
    exact Nat.le_refl _)
  show EP X pins σ Q (.ref (s1.heap.push (revObj a ((its.toArray.size : Int) - 1))).objs.size) _
  rw [Heap.size_push]
  refine ⟨.ref (s1.heap.objs.size + 1), upd H1 (s1.heap.objs.size + 1) (.lst xs.reverse), ?_, rfl, q _ hfr⟩
  have ob : ObjOk X.prog X.w (upd H1 (s1.heap.objs.size + 1) (.lst xs.reverse)) h' (s1.heap.objs.size + 1) (.lst xs.reverse) :=
    ⟨by rw [List.length_reverse]; exact hz, acc.toList, c', RT.vals_rev rv hi, by rw [Array.toArray_toList]; exact hS'⟩
  have hb : ∀ b o, H1 b = some o → b ≠ s1.heap.objs.size + 1 := fun b o e z => by
    rw [z, hfr] at e
    cases e
  have I4 : Inv X pins σ H1 { s1 with heap := s1.heap.push (revObj a ((its.toArray.size : Int) - 1)) } := I2
  refine ⟨I3.ok, I3.os, I3.bare, ?_, I3.loc, I3.cell, ?_, ?_, ?_, ?_, I3.len⟩
  · have u := I3.base
    have s0lt : ∀ b o, X.s_0.heap.get? b = some o → b ≠ s1.heap.objs.size + 1 := fun b o e =>
      Nat.ne_of_lt (Nat.lt_of_lt_of_le (Heap.lt_size e) (Nat.le_trans I1.sz (Nat.le_succ _)))
    exact ⟨u.keep, u.slot, fun b o e n hx => by rw [upd_ne (s0lt b o e)]; exact u.free b o e n hx, u.there, fun b ys e => by rw [upd_ne (hb _ _ (u.tups b ys e))]; exact u.tups b ys e,
      fun b o y e => by rw [upd_ne (hb _ _ (u.frzs b o y e))]; exact u.frzs b o y e, fun b ps e => by
        obtain ⟨more, q⟩ := u.tbls b ps e
        exact ⟨more, by rw [upd_ne (hb _ _ q)]; exact q⟩⟩
  · have h1 : X.env.locals < s1.heap.objs.size := I1.lt
    rw [upd_ne (Nat.ne_of_lt (Nat.lt_succ_of_lt h1))]
    exact I3.free
  · intro x c e
    obtain ⟨v, z⟩ := I1.cell x c e
    have h1 := z.lt
    rw [upd_ne (Nat.ne_of_lt (Nat.lt_succ_of_lt h1))]
    exact I3.freeC x c e
  · intro p hp
    obtain ⟨e, n, r⟩ := I3.pin p hp
    have h1 := Heap.lt_size (I1.pin p hp).1
    exact ⟨e, by rw [upd_ne (Nat.ne_of_lt (Nat.lt_succ_of_lt h1))]; exact n, r⟩
  · intro b o e
    by_cases hbb : b = s1.heap.objs.size + 1
    · subst hbb
      rw [upd_same] at e
      cases e
      exact ob
    · rw [upd_ne hbb] at e
      exact (I3.hok b o e).stay (fun c u _ q => q) (fun c q => by rw [upd_ne (hb _ _ q)]; exact q) fun c ys q => by rw [upd_ne (hb _ _ q)]; exact q

/-! ## max(a list, default=d) -/
def maxI (d : Int) : List Int → Int
  | [] => d
  | n :: r => r.foldl max n
def tMaxD (K : PySem.W.Frag) (ta td : TE) : TE := fun σ H Q => ta σ H fun x H1 => td σ H1 fun y H2 => ∃ p ns d, x = .ref p ∧ y = .int d ∧ SqL K H2 p (ns.map V.int) ∧ Q (.int (maxI d ns)) H2
theorem dpAll_ints {K : PySem.W.Frag} {H : Hp} : ∀ ns : List Int, DpAll K H (ns.map V.int) (ns.map PyData.int)
  | [] => .nil
  | n :: r => .cons (.int n) (dpAll_ints r)
theorem alike_ints (ns : List Int) : PySem.W.AlikeAll (ns.map PyData.int) := by
  refine ⟨fun x hx y hy => ?_, fun x hx => ?_⟩
  · obtain ⟨i, _, rfl⟩ := List.mem_map.mp hx
    obtain ⟨j, _, rfl⟩ := List.mem_map.mp hy
    rfl
  · obtain ⟨i, _, rfl⟩ := List.mem_map.mp hx
    intro z
    cases z
theorem depth_ints : ∀ ns : List Int, PyData.depthAll (ns.map PyData.int) ≤ 1
  | [] => by decide
  | n :: r => by
    have := depth_ints r
    show max _ _ ≤ 1
    refine Nat.max_le.mpr ⟨?_, this⟩
    simp [PyData.depth]
theorem pe_maxD {X : Cx} {a d : Expr} {ta td : TE} {p pos kp : Pos} {k : Nat} (hr : Room k X.A) (hc : X.calm = true) (hg : Gl X "max") (hm : X.mg "max" = none) (ha : PE X a ta) (hd : PE X d td)
    (hs : starEach [a] X.env = (false, eval a X.env) :: starEach [] X.env := by rfl) : PE X (.Call (.Name "max" p) [a] [⟨some "default", d, kp⟩] pos) (tMaxD X.K ta td) := by
  refine ⟨fun pins s σ H Q I h => ?_⟩
  refine wpAny_Call_Name_kw (ld_blt I hg hm (by decide +kernel : bootBuiltins "max" = some (.builtin "max")) ?_)
  refine callWith_kw ?_ (by rw [hs]; rfl) (by rw [hs]; rfl)
  rw [hs]
  refine Calls.spliced_cons (thn (ha.run pins s σ H _ I h) fun v s1 ⟨x, H1, I1, r1, q1⟩ => Calls.spliced_nil ?_)
  refine kws_cons (thn (hd.run pins s1 σ H1 _ I1 q1) fun u s2 ⟨y, H2, I2, r2, q2⟩ => kws_nil ?_)
  obtain ⟨l, ns, dd, rfl, rfl, hq, q⟩ := q2
  cases r1
  obtain ⟨t, rfl⟩ := r2
  obtain ⟨its, rv, p', hz⟩ := I2.list hq
  obtain ⟨as, hrd⟩ := Dp.readsAll I2 _ _ its (dpAll_ints ns) rv
  have hu : X.A.units + 1 + PyData.depthAll (ns.map PyData.int) < cLine := by
    have h1 := hr.units
    have h2 := depth_ints ns
    omega
  refine PySem.W.max_list_default (xs := ns.map PyData.int) (I2.ok.hd hc) p'.isList hrd (alike_ints ns) hu (fun e h' tk hk => ?_) (fun y ys i v h' tk bs e hv hrv hk => ?_)
  · cases ns with
    | nil => exact ⟨.int dd, H2, I2.kept hk, ⟨_, rfl⟩, q⟩
    | cons n r => cases e
  · cases ns with
    | nil => cases e
    | cons n r =>
      rw [List.map_cons] at e
      injection e with e1 e2
      subst e1 e2
      rw [PySem.W.maxD_ints] at hrv
      generalize hg : PyData.int (r.foldl max n) = z at hrv
      cases hrv with
      | int j t' =>
        injection hg with hg
        exact ⟨.int (r.foldl max n), H2, I2.kept hk, ⟨t', by rw [hg]⟩, q⟩
      | _ => cases hg
/-! the rules, the written part named -/
section
variable {X : Cx} {K : PySem.W.Frag}
theorem ix_listK (h : X.K = K) : IxR X (rIxL K) := h ▸ ix_list
theorem ix_tupK (h : X.K = K) : IxR X (rIxT K) := h ▸ ix_tup
theorem sl_listK (h : X.K = K) : SlR X (rSlL K) := h ▸ sl_list
theorem call_lenLK (h : X.K = K) : CallR X (.builtin "len") (rLenS K) := h ▸ call_lenL
theorem call_listLK (h : X.K = K) : CallR X (.type "list") (rListL K) := h ▸ call_listL
theorem cr_sumK (h : X.K = K) (hc : X.calm = true) : CallR X (.builtin "sum") (rSum K) := h ▸ cr_sum hc
theorem cr_allK (h : X.K = K) (hc : X.calm = true) : CallR X (.builtin "all") (rAll K) := h ▸ cr_all hc
theorem cr_maxK (h : X.K = K) (hc : X.calm = true) : CallR X (.builtin "max") (rMax K) := h ▸ cr_max hc
theorem cr_minK (h : X.K = K) (hc : X.calm = true) : CallR X (.builtin "min") (rMin K) := h ▸ cr_min hc
theorem cr_sortedSK (h : X.K = K) : CallR X (.builtin "sorted") (rSortedS K) := h ▸ cr_sortedS
theorem call_isiK1 (h : X.K = K) : CallR X (.builtin "isinstance") (rIsi K) := h ▸ call_isi
theorem op_in_seqK (h : X.K = K) : OpR X (compareOp .In) (rIn K false) := h ▸ op_in_seq
theorem op_notIn_seqK (h : X.K = K) : OpR X (compareOp .NotIn) (rIn K true) := h ▸ op_notIn_seq
theorem op_eqDK (h : X.K = K) (hu : X.A.units + 64 < cLine) : OpR X (compareOp .Eq) (rEqD K) := h ▸ op_eqD hu
theorem op_neDK (h : X.K = K) (hu : X.A.units + 64 < cLine) : OpR X (compareOp .NotEq) (rNeD K) := h ▸ op_neD hu
theorem pe_joinTK {o e : Expr} {to te : TE} {apos pos : Pos} (h : X.K = K) (ho : PE X o to) (he : PE X e te) (hs : starEach [e] X.env = [(false, eval e X.env)] := by rfl) (hbase : attributeBase o "join" X.env (eval o X.env) = eval o X.env := by rfl) (hline : (apos.endLine == pos.line) = true := by rfl) :
    PE X (.Call (.Attribute o "join" apos) [e] [] pos) (tM1 (rJoin K) to te) := h ▸ pe_joinT ho he hs hbase hline
theorem pi_listK {tg l : Expr} {tl : TE} (h : X.K = K) (hl : PE X l tl) : PI X tg l (iList K tl) := h ▸ pi_list hl
end
end Tw

namespace Tw
open PySem PySem.Spec PyProof.Rows L2

section
variable {σ : L2.St} {H : Hp} {t ta tb te : TE} {v x y : V} {o : HO} {b : Bool} {K : PySem.W.Frag} {ra : TA} {vs : List V}
/-! ## built-in functions -/
theorem vl_len {p : Addr} {xs : List V} (h : Vl ta σ H (.ref p)) (hs : SqL K H p xs) : Vl (tCB (rLenS K) (tCons ta tNil)) σ H (.int xs.length) := vl_cb (av_cons h av_nil) fun _ q => ⟨p, xs, rfl, .inl hs, q⟩
theorem vl_lenU {p : Addr} {xs : List V} (h : Vl ta σ H (.ref p)) (hs : SqT K H p xs) : Vl (tCB (rLenS K) (tCons ta tNil)) σ H (.int xs.length) := vl_cb (av_cons h av_nil) fun _ q => ⟨p, xs, rfl, .inr hs, q⟩
theorem gv_len {xs : List V} (h : Nw ta σ H (.lst xs)) : Gv (tCB (rLenS K) (tCons ta tNil)) σ H (.int xs.length) := fun Q q => h _ fun p n => ⟨p, xs, rfl, .inl (SqL.of upd_same), q _ (same_new (Same.refl H) n)⟩
theorem vl_lenT {z : Str} (h : Vl ta σ H (.str z)) (hz : z.length ≤ sizeLine) : Vl (tCB rLenT (tCons ta tNil)) σ H (.int z.length) := vl_cb (av_cons h av_nil) fun _ q => ⟨z, rfl, hz, q⟩
theorem max_eq (i j : Int) : (if j > i then j else i) = max i j := by
  by_cases h : j > i
  · rw [if_pos h]; omega
  · rw [if_neg h]; omega
theorem min_eq (i j : Int) : (if j < i then j else i) = min i j := by
  by_cases h : j < i
  · rw [if_pos h]; omega
  · rw [if_neg h]; omega
theorem vl_max2 {i j : Int} (h : Vl ta σ H (.int i)) (h2 : Vl tb σ H (.int j)) : Vl (tCB (fun xs H Q => ∃ i j, xs = [.int i, .int j] ∧ Q (.int (if j > i then j else i)) H) (tCons ta (tCons tb tNil))) σ H (.int (max i j)) :=
  vl_cb (av_cons h (av_cons h2 av_nil)) fun _ q => ⟨i, j, rfl, by rw [max_eq]; exact q⟩
theorem vl_min2 {i j : Int} (h : Vl ta σ H (.int i)) (h2 : Vl tb σ H (.int j)) : Vl (tCB (fun xs H Q => ∃ i j, xs = [.int i, .int j] ∧ Q (.int (if j < i then j else i)) H) (tCons ta (tCons tb tNil))) σ H (.int (min i j)) :=
  vl_cb (av_cons h (av_cons h2 av_nil)) fun _ q => ⟨i, j, rfl, by rw [min_eq]; exact q⟩
theorem vl_sum {p : Addr} {ns : List Int} (h : Vl ta σ H (.ref p)) (hs : SqL K H p (ns.map V.int)) : Vl (tCB (rSum K) (tCons ta tNil)) σ H (.int ns.sum) := vl_cb (av_cons h av_nil) fun _ q => ⟨p, ns, rfl, hs, q⟩
theorem gv_sum {xs : List V} {ns : List Int} (h : Nw ta σ H (.lst xs)) (e : xs = ns.map V.int) : Gv (tCB (rSum K) (tCons ta tNil)) σ H (.int ns.sum) := fun Q q => h _ fun p n => ⟨p, ns, rfl, SqL.of (e ▸ upd_same), q _ (same_new (Same.refl H) n)⟩
theorem gv_all {xs : List V} {bs : List Bool} (h : Nw ta σ H (.lst xs)) (e : xs = bs.map V.bl) : Gv (tCB (rAll K) (tCons ta tNil)) σ H (.bl (bs.all id)) := fun Q q => h _ fun p n => ⟨p, bs, rfl, SqL.of (e ▸ upd_same), q _ (same_new (Same.refl H) n)⟩
theorem vl_intB {k : Bool} (h : Vl ta σ H (.bl k)) : Vl (tCB rIntB (tCons ta tNil)) σ H (.int (if k then 1 else 0)) := vl_cb (av_cons h av_nil) fun _ q => ⟨k, rfl, q⟩
theorem nw_list {p : Addr} {xs : List V} (h : Vl ta σ H (.ref p)) (hs : SqL K H p xs) : Nw (tCB (rListL K) (tCons ta tNil)) σ H (.lst xs) := nw_cb (av_cons h av_nil) fun _ q => ⟨p, xs, rfl, .inl hs, q⟩
theorem nw_listRev {p : Addr} {xs : List V} (h : Vl ta σ H (.ref p)) (hs : SqL K H p xs) : Nw (tListRev K ta) σ H (.lst xs.reverse) := fun Q q => h _ ⟨p, xs, rfl, hs, q⟩
theorem vl_maxD {p : Addr} {ns : List Int} {d : Int} (h : Vl ta σ H (.ref p)) (h2 : Vl tb σ H (.int d)) (hs : SqL K H p (ns.map V.int)) : Vl (tMaxD K ta tb) σ H (.int (maxI d ns)) := fun Q q => h _ (h2 _ ⟨p, ns, d, rfl, rfl, hs, q⟩)
theorem vl_isi {T u : String} (h : Vl ta σ H x) (hT : TyX K H x (.type T)) (e : kitB T u = some b) : Vl (tCB (rIsi K) (tCons ta (tCons (tC (.ty u)) tNil))) σ H (.bl b) :=
  vl_cb (av_cons h (av_cons vl_c av_nil)) fun _ q => ⟨x, .ty u, .type T, .type u, b, rfl, .ty u, hT, kit_ty e, q⟩
theorem kit_int_int : kitB "int" "int" = some true := by decide +kernel
theorem kit_int_bool : kitB "int" "bool" = some false := by decide +kernel
theorem kit_bool_bool : kitB "bool" "bool" = some true := by decide +kernel
theorem kit_list_list : kitB "list" "list" = some true := by decide +kernel
theorem kit_none_list : kitB "NoneType" "list" = some false := by decide +kernel
theorem kit_none_tuple : kitB "NoneType" "tuple" = some false := by decide +kernel
theorem kit_none_int : kitB "NoneType" "int" = some false := by decide +kernel
theorem kit_tuple_tuple : kitB "tuple" "tuple" = some true := by decide +kernel
theorem kit_str_str : kitB "str" "str" = some true := by decide +kernel
theorem ty_lst {a : Addr} {xs : List V} (h : SqL K H a xs) : TyX K H (.ref a) (.type "list") := by
  rcases h with (h | ⟨o, h⟩) | ⟨o, its, n, h, c, _⟩
  · exact .base (.lst h)
  · exact .base (.frz h)
  · exact .kList h c
theorem ty_int {i : Int} : TyX K H (.int i) (.type "int") := .base (.int i)
theorem ty_bl {c : Bool} : TyX K H (.bl c) (.type "bool") := .base (.bl c)
theorem ty_str {c : Str} : TyX K H (.str c) (.type "str") := .base (.str c)
theorem ty_tup {a : Addr} {xs : List V} (h : H a = some (.tup xs)) : TyX K H (.ref a) (.type "tuple") := .base (.tup h)
/-! texts -/
theorem vl_addT {i j : Str} (ha : Vl ta σ H (.str i)) (hb : Vl tb σ H (.str j)) (h : i.length + j.length ≤ 100000) : Vl (tOp rAddT ta tb) σ H (.str (i ++ j)) := vl_op ha hb fun _ q => ⟨i, j, rfl, rfl, Nat.le_trans h (by decide), q⟩
theorem vl_join {a : Str} {p : Addr} {ys : List Str} (ha : Vl ta σ H (.str a)) (hb : Vl tb σ H (.ref p)) (hs : SqL K H p (ys.map V.str)) (hz : (ys.map (·.length)).sum + ys.length * a.length ≤ 16777216) : Vl (tM1 (rJoin K) ta tb) σ H (.str (Txt.join a ys)) :=
  fun Q q => ha _ ⟨⟨a, rfl⟩, hb _ ⟨a, p, ys, rfl, rfl, .inl hs, hz, q⟩⟩
theorem gv_join {a : Str} {xs : List V} {ys : List Str} (ha : Vl ta σ H (.str a)) (hb : Nw tb σ H (.lst xs)) (e : xs = ys.map V.str) (hz : (ys.map (·.length)).sum + ys.length * a.length ≤ 16777216) : Gv (tM1 (rJoin K) ta tb) σ H (.str (Txt.join a ys)) :=
  fun Q q => ha _ ⟨⟨a, rfl⟩, hb _ fun p n => ⟨a, p, ys, rfl, rfl, .inl (SqL.of (e ▸ upd_same)), hz, q _ (same_new (Same.refl H) n)⟩⟩
/-! lists -/
theorem nw_cat {p q : Addr} {xs ys : List V} (ha : Vl ta σ H (.ref p)) (hb : Vl tb σ H (.ref q)) (h1 : H p = some (.lst xs)) (h2 : H q = some (.lst ys)) (hz : xs.length + ys.length ≤ 100000) : Nw (tOp rCat ta tb) σ H (.lst (xs ++ ys)) :=
  fun Q k => ha _ (hb _ ⟨p, q, xs, ys, rfl, rfl, h1, h2, Nat.le_trans hz (by decide), k⟩)
theorem gv_ixL {xs : List V} {i : Int} (ha : Nw ta σ H (.lst xs)) (hb : ∀ p, H p = none → Vl tb σ (upd H p (.lst xs)) (.int i)) (e : atI xs i = some v) : Gv (tOp (rIxL K) ta tb) σ H v :=
  fun Q q => ha _ fun p n => hb p n _ ⟨p, xs, i, v, rfl, rfl, SqL.of upd_same, e, q _ (same_new (Same.refl H) n)⟩
theorem inV_ints (i : Int) (ns : List Int) : inV (.int i) (ns.map V.int) = decide (i ∈ ns) := by
  unfold inV
  rw [List.any_map]
  induction ns with
  | nil => rfl
  | cons n r ih =>
    rw [List.any_cons, ih]
    have e : eqV (.int n) (.int i) = decide (i = n) := by
      show decide (n = i) = _
      exact decide_eq_decide.mpr ⟨fun z => z.symm, fun z => z.symm⟩
    show (eqV (.int n) (.int i) || _) = _
    rw [e]
    by_cases h : i = n <;> simp [h]
theorem flat_ints (ns : List Int) : (ns.map V.int).all flatV = true := by
  rw [List.all_map, List.all_eq_true]
  exact fun _ _ => rfl
theorem vl_inI {p : Addr} {i : Int} {ns : List Int} (ha : Vl ta σ H (.int i)) (hb : Vl tb σ H (.ref p)) (hs : SqL K H p (ns.map V.int)) : Vl (tOp (rIn K false) ta tb) σ H (.bl (decide (i ∈ ns))) :=
  vl_op ha hb fun Q q => ⟨p, _, rfl, .inl hs, rfl, flat_ints ns, by rw [inV_ints]; exact q⟩
theorem gv_inI {i : Int} {xs : List V} {ns : List Int} (ha : Vl ta σ H (.int i)) (hb : Nw tb σ H (.lst xs)) (e : xs = ns.map V.int) : Gv (tOp (rIn K false) ta tb) σ H (.bl (decide (i ∈ ns))) :=
  fun Q q => ha _ (hb _ fun p n => ⟨p, _, rfl, .inl (SqL.of (e ▸ upd_same)), rfl, flat_ints ns, by
    rw [inV_ints]
    exact q _ (same_new (Same.refl H) n)⟩)
theorem gv_niI {i : Int} {xs : List V} {ns : List Int} (ha : Vl ta σ H (.int i)) (hb : Nw tb σ H (.lst xs)) (e : xs = ns.map V.int) : Gv (tOp (rIn K true) ta tb) σ H (.bl (!decide (i ∈ ns))) :=
  fun Q q => ha _ (hb _ fun p n => ⟨p, _, rfl, .inl (SqL.of (e ▸ upd_same)), rfl, flat_ints ns, by
    rw [inV_ints]
    exact q _ (same_new (Same.refl H) n)⟩)
/-! calls whose one argument is a new list -/
theorem gv_call1 {sp : Sp} {E : XK} {xs : List V} (h : Nw ta σ H (.lst xs)) (hr : ∀ p, H p = none → ∀ Q : VK, Q v (upd H p (.lst xs)) → sp [.ref p] (upd H p (.lst xs)) Q E) : Gv (tCall sp [] E (tCons ta tNil)) σ H v :=
  fun Q q => h _ fun p n => hr p n Q (q _ (same_new (Same.refl H) n))
theorem gn_call1 {sp : Sp} {E : XK} {xs : List V} (h : Nw ta σ H (.lst xs)) (hr : ∀ p, H p = none → ∀ Q : VK, (∀ q, (upd H p (.lst xs)) q = none → Q (.ref q) (upd (upd H p (.lst xs)) q o)) → sp [.ref p] (upd H p (.lst xs)) Q E) : Gn (tCall sp [] E (tCons ta tNil)) σ H o :=
  fun Q q => h _ fun p n => hr p n Q fun r nr => q r _ ((same_new (Same.refl H) n).free nr) (same_new' (same_new (Same.refl H) n) nr) upd_same
theorem gv_call2 {sp : Sp} {E : XK} {xs : List V} (h : Nw ta σ H (.lst xs)) (h2 : ∀ p, H p = none → Vl tb σ (upd H p (.lst xs)) y) (hr : ∀ p, H p = none → ∀ Q : VK, Q v (upd H p (.lst xs)) → sp [.ref p, y] (upd H p (.lst xs)) Q E) : Gv (tCall sp [] E (tCons ta (tCons tb tNil))) σ H v :=
  fun Q q => h _ fun p n => h2 p n _ (hr p n Q (q _ (same_new (Same.refl H) n)))
/-! a tuple or list compared with a new one -/
theorem gv_eqD {p : Addr} {d e : PyData} {xs : List V} (ha : Vl ta σ H (.ref p)) (hb : Nw tb σ H o) (h1 : ∀ q, H q = none → Dp K (upd H q o) (.ref p) d) (h2 : ∀ q, H q = none → Dp K (upd H q o) (.ref q) e) (s1 : SeqAt.shaped d = true) (s2 : SeqAt.shaped e = true) :
    Gv (tOp (rEqD K) ta tb) σ H (.bl (PyData.eqv d e)) := fun Q q => ha _ (hb _ fun r n => ⟨d, e, h1 r n, h2 r n, s1, s2, q _ (same_new (Same.refl H) n)⟩)
theorem as_F (f : Fl H) (h : Gv t σ H (.bl b)) : As (tFT (tTest t)) σ H b := fun Q q => h _ fun H1 s => ⟨b, rfl, H, Same.refl H, s, f, q⟩
/-! ## comprehensions -/
theorem upd_upd' {p : Addr} {o u : HO} : upd (upd H p o) p u = upd H p u := upd_upd
theorem nw_lc1 {j : Nat} {ws : List Nat} {n : Int} (f : Nat → V) (h : Av ra σ H [.int n]) (h0 : 0 ≤ n) (hn : n ≤ 100000) (hw : ∀ x, wipe ((wipe σ ws).set j (some x)) ws = wipe σ ws)
    (he : ∀ (i : Nat) D acc, (i : Int) < n → H D = none → Vl te ((wipe σ ws).set j (some (.int (i : Int)))) (upd H D (.lst acc)) (f i)) : Nw (tLc (iRng1 ra) (gName j) tYes te ws) σ H (.lst ((List.range n.toNat).map f)) := fun Q q =>
  h _ ⟨n, rfl, by omega, by omega, fun D hD => lc_range (lo := 0) (n := n.toNat) (fun i H' => H' = upd H D (.lst ((List.range i).map f))) rfl (fun i H' hi p => by
    subst p
    have e0 : (0 : Int) + (i : Int) = (i : Int) := Int.zero_add _
    show wipe ((wipe σ ws).set j (some (.int ((0 : Int) + (i : Int))))) ws = wipe σ ws ∧ te ((wipe σ ws).set j (some (.int ((0 : Int) + (i : Int))))) _ _
    rw [e0]
    refine ⟨hw _, he i D _ (by omega) hD _ ⟨_, upd_same, ?_, ?_⟩⟩
    · rw [List.length_map, List.length_range]
      exact Nat.lt_of_lt_of_le (show i < 100000 by omega) (by decide)
    · rw [upd_upd, List.range_succ, List.map_append]
      rfl) (fun H' p => by
    subst p
    exact q D hD)⟩
theorem nw_lc2 {j : Nat} {ws : List Nat} {lo n : Int} (f : Nat → V) (h : Av ra σ H [.int lo, .int n]) (h0 : 0 ≤ lo ∧ lo < 100000) (hn : -100000 ≤ n ∧ n ≤ 100000) (hw : ∀ x, wipe ((wipe σ ws).set j (some x)) ws = wipe σ ws)
    (he : ∀ (i : Nat) D acc, lo + (i : Int) < n → H D = none → Vl te ((wipe σ ws).set j (some (.int (lo + (i : Int))))) (upd H D (.lst acc)) (f i)) : Nw (tLc (iRng2 ra) (gName j) tYes te ws) σ H (.lst ((List.range (n - lo).toNat).map f)) := fun Q q =>
  h _ ⟨lo, n, rfl, by omega, fun D hD => lc_range (lo := lo) (n := (n - lo).toNat) (fun i H' => H' = upd H D (.lst ((List.range i).map f))) rfl (fun i H' hi p => by
    subst p
    refine ⟨hw _, he i D _ (by omega) hD _ ⟨_, upd_same, ?_, ?_⟩⟩
    · rw [List.length_map, List.length_range]
      exact Nat.lt_of_lt_of_le (show i < 1000000 by omega) (by decide)
    · rw [upd_upd, List.range_succ, List.map_append]
      rfl) (fun H' p => by
    subst p
    exact q D hD)⟩
theorem nw_lcL {a : Addr} {xs : List V} {j : Nat} {ws : List Nat} (f : V → V) (h : Vl ta σ H (.ref a)) (hx : SqL K H a xs) (hz : xs.length ≤ 100000) (hw : ∀ x, wipe ((wipe σ ws).set j (some x)) ws = wipe σ ws)
    (he : ∀ x D acc, x ∈ xs → H D = none → Vl te ((wipe σ ws).set j (some x)) (upd H D (.lst acc)) (f x)) : Nw (tLc (iList K ta) (gName j) tYes te ws) σ H (.lst (xs.map f)) := fun Q q =>
  h _ ⟨a, rfl, ⟨xs, hx⟩, fun D hD => lc_list (xs := xs) (fun i H' => H' = upd H D (.lst ((xs.take i).map f))) rfl (fun i H' _ p => by
    subst p
    exact sq_old hx hD) (fun i x H' hi p => by
    subst p
    have hl := (List.getElem?_eq_some_iff.mp hi).1
    refine ⟨hw x, he x D _ (List.mem_of_getElem? hi) hD _ ⟨_, upd_same, ?_, ?_⟩⟩
    · rw [List.length_map, List.length_take]
      exact Nat.lt_of_lt_of_le (show _ < 1000000 by omega) (by decide)
    · rw [upd_upd, List.take_add_one, hi, List.map_append]
      rfl) (fun H' p => by
    subst p
    rw [List.take_length]
    exact q D hD)⟩
/-- with a test -/
theorem nw_lc1F {j : Nat} {ws : List Nat} {n : Int} {tt : TT} (g : Nat → Bool) (f : Nat → V) (h : Av ra σ H [.int n]) (h0 : 0 ≤ n) (hn : n ≤ 100000) (hw : ∀ x, wipe ((wipe σ ws).set j (some x)) ws = wipe σ ws)
    (ht : ∀ (i : Nat) D acc, (i : Int) < n → H D = none → As tt ((wipe σ ws).set j (some (.int (i : Int)))) (upd H D (.lst acc)) (g i))
    (he : ∀ (i : Nat) D acc, (i : Int) < n → H D = none → g i = true → Vl te ((wipe σ ws).set j (some (.int (i : Int)))) (upd H D (.lst acc)) (f i)) : Nw (tLc (iRng1 ra) (gName j) tt te ws) σ H (.lst (((List.range n.toNat).filter g).map f)) := fun Q q =>
  h _ ⟨n, rfl, by omega, by omega, fun D hD => lc_range (lo := 0) (n := n.toNat) (fun i H' => H' = upd H D (.lst (((List.range i).filter g).map f))) rfl (fun i H' hi p => by
    subst p
    have e0 : (0 : Int) + (i : Int) = (i : Int) := Int.zero_add _
    show wipe ((wipe σ ws).set j (some (.int ((0 : Int) + (i : Int))))) ws = wipe σ ws ∧ tt ((wipe σ ws).set j (some (.int ((0 : Int) + (i : Int))))) _ _
    rw [e0]
    refine ⟨hw _, ht i D _ (by omega) hD _ ?_⟩
    cases hg : g i with
    | true =>
      refine he i D _ (by omega) hD hg _ ⟨_, upd_same, ?_, ?_⟩
      · have hl := List.length_filter_le g (List.range i)
        rw [List.length_range] at hl
        rw [List.length_map]
        exact Nat.lt_of_lt_of_le (show _ < 1000000 by omega) (by decide)
      · rw [upd_upd, List.range_succ, List.filter_append, List.map_append, List.filter_cons, if_pos hg]
        rfl
    | false =>
      show _ = _
      rw [List.range_succ, List.filter_append, List.filter_cons, if_neg (by rw [hg]; decide), List.filter_nil, List.append_nil]) (fun H' p => by
    subst p
    exact q D hD)⟩
theorem nw_lc2F {j : Nat} {ws : List Nat} {lo n : Int} {tt : TT} (g : Nat → Bool) (f : Nat → V) (h : Av ra σ H [.int lo, .int n]) (h0 : 0 ≤ lo ∧ lo < 100000) (hn : -100000 ≤ n ∧ n ≤ 100000) (hw : ∀ x, wipe ((wipe σ ws).set j (some x)) ws = wipe σ ws)
    (ht : ∀ (i : Nat) D acc, lo + (i : Int) < n → H D = none → As tt ((wipe σ ws).set j (some (.int (lo + (i : Int))))) (upd H D (.lst acc)) (g i))
    (he : ∀ (i : Nat) D acc, lo + (i : Int) < n → H D = none → g i = true → Vl te ((wipe σ ws).set j (some (.int (lo + (i : Int))))) (upd H D (.lst acc)) (f i)) : Nw (tLc (iRng2 ra) (gName j) tt te ws) σ H (.lst (((List.range (n - lo).toNat).filter g).map f)) := fun Q q =>
  h _ ⟨lo, n, rfl, by omega, fun D hD => lc_range (lo := lo) (n := (n - lo).toNat) (fun i H' => H' = upd H D (.lst (((List.range i).filter g).map f))) rfl (fun i H' hi p => by
    subst p
    refine ⟨hw _, ht i D _ (by omega) hD _ ?_⟩
    cases hg : g i with
    | true =>
      refine he i D _ (by omega) hD hg _ ⟨_, upd_same, ?_, ?_⟩
      · have hl := List.length_filter_le g (List.range i)
        rw [List.length_range] at hl
        rw [List.length_map]
        exact Nat.lt_of_lt_of_le (show _ < 1000000 by omega) (by decide)
      · rw [upd_upd, List.range_succ, List.filter_append, List.map_append, List.filter_cons, if_pos hg]
        rfl
    | false =>
      show _ = _
      rw [List.range_succ, List.filter_append, List.filter_cons, if_neg (by rw [hg]; decide), List.filter_nil, List.append_nil]) (fun H' p => by
    subst p
    exact q D hD)⟩
theorem nw_lcLF {a : Addr} {xs : List V} {j : Nat} {ws : List Nat} {tt : TT} (g : V → Bool) (f : V → V) (h : Vl ta σ H (.ref a)) (hx : SqL K H a xs) (hz : xs.length ≤ 100000) (hw : ∀ x, wipe ((wipe σ ws).set j (some x)) ws = wipe σ ws)
    (ht : ∀ x D acc, x ∈ xs → H D = none → As tt ((wipe σ ws).set j (some x)) (upd H D (.lst acc)) (g x))
    (he : ∀ x D acc, x ∈ xs → H D = none → g x = true → Vl te ((wipe σ ws).set j (some x)) (upd H D (.lst acc)) (f x)) : Nw (tLc (iList K ta) (gName j) tt te ws) σ H (.lst ((xs.filter g).map f)) := fun Q q =>
  h _ ⟨a, rfl, ⟨xs, hx⟩, fun D hD => lc_list (xs := xs) (fun i H' => H' = upd H D (.lst (((xs.take i).filter g).map f))) rfl (fun i H' _ p => by
    subst p
    exact sq_old hx hD) (fun i x H' hi p => by
    subst p
    have hl := (List.getElem?_eq_some_iff.mp hi).1
    refine ⟨hw x, ht x D _ (List.mem_of_getElem? hi) hD _ ?_⟩
    cases hg : g x with
    | true =>
      refine he x D _ (List.mem_of_getElem? hi) hD hg _ ⟨_, upd_same, ?_, ?_⟩
      · have h2 := List.length_filter_le g (xs.take i)
        rw [List.length_take] at h2
        rw [List.length_map]
        exact Nat.lt_of_lt_of_le (show _ < 1000000 by omega) (by decide)
      · rw [upd_upd, List.take_add_one, hi, List.filter_append, List.map_append]
        show _ = upd H D (.lst (_ ++ (List.filter g [x]).map f))
        rw [List.filter_cons, if_pos hg]
        rfl
    | false =>
      show _ = _
      rw [List.take_add_one, hi, List.filter_append]
      show _ = upd H D (.lst ((_ ++ List.filter g [x]).map f))
      rw [List.filter_cons, if_neg (by rw [hg]; decide), List.filter_nil, List.append_nil]) (fun H' p => by
    subst p
    rw [List.take_length]
    exact q D hD)⟩
end

/-! ## statements, further -/
section
variable {σ : L2.St} {H : Hp} {t ta tb te : TE} {v x y : V} {o : HO} {b : Bool} {K : PySem.W.Frag} {c : TT} {D : Ends} {tu tw tz : TS} {i : Nat}
/-- xs[k] = e -/
theorem q_setL {l : Addr} {xs : List V} {j : Nat} (hl : H l = some (.lst xs)) (h : Vl te σ H v) (ho : Vl ta σ H (.ref l)) (hi : Vl tb σ H (.int (j : Int))) (hj : j < xs.length) (k : tz D σ (upd H l (.lst (xs.set j v)))) :
    tSeq (tAsg te (gSub ta tb rSetL)) tz D σ H := h _ (ho _ (hi _ ⟨l, xs, (j : Int), j, rfl, rfl, hl, by
      unfold ixN
      rw [if_pos (by omega), if_pos (by omega)]
      simp, k⟩))
theorem s_setL {l : Addr} {xs : List V} {j : Nat} (hl : H l = some (.lst xs)) (h : Vl te σ H v) (ho : Vl ta σ H (.ref l)) (hi : Vl tb σ H (.int (j : Int))) (hj : j < xs.length) (k : D.nx σ (upd H l (.lst (xs.set j v)))) :
    tAsg te (gSub ta tb rSetL) D σ H := h _ (ho _ (hi _ ⟨l, xs, (j : Int), j, rfl, rfl, hl, by
      unfold ixN
      rw [if_pos (by omega), if_pos (by omega)]
      simp, k⟩))
/-- xs.insert(0, e) -/
def rInsert : V → List V → Hp → VK → Prop := fun x vs H Q => ∃ (l : Addr) (xs : List V) (i : Int) (y : V), x = .ref l ∧ vs = [.int i, y] ∧ H l = some (.lst xs) ∧ xs.length < sizeLine ∧ 0 ≤ i ∧ i < 2 ^ 63 ∧ Q .non (upd H l (.lst (xs.take i.toNat ++ [y] ++ xs.drop i.toNat)))
theorem s_ins0 {l : Addr} {xs : List V} (hl : H l = some (.lst xs)) (ha : Vl ta σ H (.ref l)) (hi : Vl tb σ H (.int 0)) (h : Vl te σ H v) (hz : xs.length < 100000) (k : D.nx σ (upd H l (.lst (v :: xs)))) : tDrop (tBM K "list" (fun x vs H Q => ∃ (l : Addr) (xs : List V) (i : Int) (y : V), x = .ref l ∧ vs = [.int i, y] ∧ H l = some (.lst xs) ∧ xs.length < sizeLine ∧ 0 ≤ i ∧ i < 2 ^ 63 ∧ Q .non (upd H l (.lst (xs.take i.toNat ++ [y] ++ xs.drop i.toNat)))) ta (tCons tb (tCons te tNil))) D σ H :=
  ha _ ⟨Or.inl ⟨rfl, xs, SqL.of hl⟩, hi _ (h _ ⟨l, xs, 0, v, rfl, rfl, hl, Nat.lt_of_lt_of_le hz (by decide), by decide, by decide, k⟩)⟩
/-- a loop over a text -/
theorem s_forS {z : Str} {g : TG} (h : Vl te σ H (.str z)) (Pv : Nat → L2.St → Hp → Prop) (p0 : Pv 0 σ H)
    (hs : ∀ (i : Nat) (cp : Nat) σ' H', z.cps.toList[i]? = some cp → Pv i σ' H' → g (.str ⟨#[cp]⟩) σ' H' fun σ2 H2 => tu { D with nx := Pv (i + 1), ct := Pv (i + 1), bk := D.nx } σ2 H2) (hd : ∀ σ' H', Pv z.cps.toList.length σ' H' → D.nx σ' H') : tFor (iStr te) g tu D σ H := by
  refine h _ ⟨z, rfl, fun i m σ' H' => m = z.cps.toList.length - i ∧ i ≤ z.cps.toList.length ∧ Pv i σ' H', ⟨z.cps.toList.length, by simp, Nat.zero_le _, p0⟩, ?_⟩
  rintro i m σ' H' ⟨rfl, hi, p⟩
  have hsz : z.cps.size = z.cps.toList.length := by simp
  by_cases hlt : i < z.cps.toList.length
  · have e : z.cps.toList[i]? = some z.cps.toList[i] := List.getElem?_eq_getElem hlt
    have e2 : z.cps[i]? = some z.cps.toList[i] := by rw [← Array.getElem?_toList]; exact e
    refine .inr ⟨?_, Pv (i + 1), fun σ' H' p' => ⟨z.cps.toList.length - (i + 1), by omega, rfl, hlt, p'⟩, fun x H2 y => ?_⟩
    · first
        | exact (by rw [hsz]; exact hlt : i < z.cps.size)
        | exact ⟨_, e2⟩
    · obtain ⟨e3, cp, h1, h2⟩ := y
      subst e3
      subst h2
      rw [e2] at h1
      cases h1
      exact hs i _ σ' _ e p
  · have e : i = z.cps.toList.length := by omega
    subst e
    refine .inl ⟨?_, hd σ' H' p⟩
    first
      | exact (by rw [hsz]; exact Nat.le_refl _ : z.cps.size ≤ z.cps.toList.length)
      | exact Nat.le_of_eq hsz
end

/-! ## the law's own promise -/
def spLaw (K : PySem.W.Frag) : Sp := fun vs H Q _ => ∃ (a : Addr) (ns : List Int), vs = [.ref a] ∧ SqL K H a (ns.map V.int) ∧ ns.length ≤ 63 ∧ Fl H ∧ Q (.bl true) H
theorem law_start {K : PySem.W.Frag} {H : Hp} {a : Addr} {ns : List Int} (hl : ns.length ≤ 63) (ho : Only H) (hS : SqL K H a (ns.map V.int)) : spLaw K [.ref a] H (fun v _ => v = .bl true) fun _ _ _ => False :=
  ⟨a, ns, rfl, hS, hl, fun b o e => by
    rcases ho b with z | ⟨ob, xs, z⟩
    · rw [e] at z
      cases z
    · rw [e] at z
      cases z
      rfl, rfl⟩
end Tw

namespace Tw
open PySem PySem.Spec PyProof.Rows L2
/-! ## marks -/
def fb : Nat → Nat
  | 0 => 0
  | 1 => 1
  | n + 2 => fb (n + 1) + fb n
/-- the mark at a place -/
def mk (k : Nat) : Nat := fb (k + 2)
theorem fb_rec (n : Nat) : fb (n + 2) = fb (n + 1) + fb n := rfl
theorem mk_rec (k : Nat) : mk (k + 2) = mk (k + 1) + mk k := rfl
theorem fb_pos : ∀ n, 0 < fb (n + 1)
  | 0 => by decide
  | n + 1 => by
    have := fb_pos n
    rw [fb_rec]
    omega
theorem mk_pos (k : Nat) : 0 < mk k := fb_pos (k + 1)
/-- the first n marks, as they stand in a list -/
def mksI (n : Nat) : List Int := (List.range n).map fun k => (mk k : Int)
theorem mksI_len (n : Nat) : (mksI n).length = n := by
  unfold mksI
  rw [List.length_map, List.length_range]
theorem mksI_get {n k : Nat} (h : k < n) : (mksI n)[k]? = some (mk k : Int) := by
  unfold mksI
  rw [List.getElem?_map, List.getElem?_range h]
  rfl
theorem mksI_succ (n : Nat) : mksI (n + 1) = mksI n ++ [(mk n : Int)] := by
  unfold mksI
  rw [List.range_succ, List.map_append]
  rfl
theorem mksI_take {n k : Nat} (h : k ≤ n) : (mksI n).take k = mksI k := by
  unfold mksI
  rw [← List.map_take, List.take_range, Nat.min_eq_left h]
/-! ## places in lists -/
theorem get_mapI {ns : List Int} {k : Nat} {v : Int} (h : ns[k]? = some v) : (ns.map V.int)[k]? = some (.int v) := by
  rw [List.getElem?_map, h]
  rfl
theorem at_I {ns : List Int} {k : Nat} {v : Int} (h : ns[k]? = some v) : atI (ns.map V.int) (k : Int) = some (.int v) := atI_nat (get_mapI h)
theorem at_neg {α : Type} {xs : List α} {j k : Nat} {v : α} (hj : 0 < j) (hk : k + j = xs.length) (h : xs[k]? = some v) : atI xs (-(j : Int)) = some v := by
  unfold atI ixN
  rw [if_neg (by omega), if_pos (by omega)]
  have e : (-(j : Int) + (xs.length : Int)).toNat = k := by omega
  show xs[_]? = some v
  rw [e]
  exact h
theorem at_negI {ns : List Int} {j k : Nat} {v : Int} (hj : 0 < j) (hk : k + j = ns.length) (h : ns[k]? = some v) : atI (ns.map V.int) (-(j : Int)) = some (.int v) :=
  at_neg hj (by rw [List.length_map]; exact hk) (get_mapI h)
theorem cut_to {xs : List V} {k : Nat} : cutV xs none (some (k : Int)) = xs.take k := by
  unfold cutV
  rw [HT.sIx_nat]
  show (xs.drop 0).take (min k xs.length - 0) = _
  rw [List.drop_zero, Nat.sub_zero]
  by_cases h : k ≤ xs.length
  · rw [Nat.min_eq_left h]
  · rw [Nat.min_eq_right (by omega), List.take_length, List.take_of_length_le (by omega)]
theorem cut_from {xs : List V} {k : Nat} : cutV xs (some (k : Int)) none = xs.drop k := by
  unfold cutV
  rw [HT.sIx_nat, HT.sIx_none]
  by_cases h : k ≤ xs.length
  · rw [Nat.min_eq_left h, List.take_of_length_le (by rw [List.length_drop]; omega)]
  · rw [Nat.min_eq_right (by omega), List.drop_length, List.drop_of_length_le (by omega)]
    simp
/-! ## sums, products, remainders -/
section
variable {σ : L2.St} {H : Hp} {ta tb te : TE} {i j : Int}
theorem vl_add (ha : Vl ta σ H (.int i)) (hb : Vl tb σ H (.int j)) : Vl (tOp (rI0 fun i j => .int (i + j)) ta tb) σ H (.int (i + j)) := vl_I0 ha hb
theorem vl_sub (ha : Vl ta σ H (.int i)) (hb : Vl tb σ H (.int j)) : Vl (tOp (rI0 fun i j => .int (i - j)) ta tb) σ H (.int (i - j)) := vl_I0 ha hb
theorem vl_mul (ha : Vl ta σ H (.int i)) (hb : Vl tb σ H (.int j)) (hc : CMul i j := by first | exact Or.inr (by decide) | exact Or.inl (by decide) | exact Or.inr (by omega) | exact Or.inl (by omega)) : Vl (tOp (rI CMul fun i j => .int (i * j)) ta tb) σ H (.int (i * j)) := vl_I ha hb hc
theorem vl_mod (ha : Vl ta σ H (.int i)) (hb : Vl tb σ H (.int j)) (hc : 0 < j := by first | decide | omega) : Vl (tOp (rI (fun _ j => 0 < j) fun i j => .int (i % j)) ta tb) σ H (.int (i % j)) := vl_I ha hb hc
theorem vl_div (ha : Vl ta σ H (.int i)) (hb : Vl tb σ H (.int j)) (hc : CDiv i j := by exact ⟨by decide, by decide⟩) : Vl (tOp (rI CDiv fun i j => .int (i / j)) ta tb) σ H (.int (i / j)) := vl_I ha hb hc
theorem vl_neg (ha : Vl ta σ H (.int i)) : Vl (tUn (rU fun i => .int (-i)) ta) σ H (.int (-i)) := vl_un ha
theorem as_lt (ha : Vl ta σ H (.int i)) (hb : Vl tb σ H (.int j)) : As (tTest (tOp (rI0 fun i j => .bl (decide (i < j))) ta tb)) σ H (decide (i < j)) := as_test (vl_I0 ha hb)
theorem as_le (ha : Vl ta σ H (.int i)) (hb : Vl tb σ H (.int j)) : As (tTest (tOp (rI0 fun i j => .bl (decide (i ≤ j))) ta tb)) σ H (decide (i ≤ j)) := as_test (vl_I0 ha hb)
theorem as_gt (ha : Vl ta σ H (.int i)) (hb : Vl tb σ H (.int j)) : As (tTest (tOp (rI0 fun i j => .bl (decide (j < i))) ta tb)) σ H (decide (j < i)) := as_test (vl_I0 ha hb)
theorem as_ge (ha : Vl ta σ H (.int i)) (hb : Vl tb σ H (.int j)) : As (tTest (tOp (rI0 fun i j => .bl (decide (j ≤ i))) ta tb)) σ H (decide (j ≤ i)) := as_test (vl_I0 ha hb)
theorem dec_int (i j : Int) : decide (V.int i = V.int j) = decide (i = j) := decide_eq_decide.mpr ⟨fun e => V.int.inj e, fun e => e ▸ rfl⟩
theorem vl_eqI (ha : Vl ta σ H (.int i)) (hb : Vl tb σ H (.int j)) : Vl (tOp rEq ta tb) σ H (.bl (decide (i = j))) := vl_is (vl_eq ha hb rfl) (by rw [dec_int])
theorem vl_neI (ha : Vl ta σ H (.int i)) (hb : Vl tb σ H (.int j)) : Vl (tOp rNe ta tb) σ H (.bl (decide (i ≠ j))) := vl_is (vl_ne ha hb rfl) (by
  rw [dec_int]
  by_cases h : i = j <;> simp [h])
theorem as_eqI (ha : Vl ta σ H (.int i)) (hb : Vl tb σ H (.int j)) : As (tTest (tOp rEq ta tb)) σ H (decide (i = j)) := as_test (vl_eqI ha hb)
theorem as_neI (ha : Vl ta σ H (.int i)) (hb : Vl tb σ H (.int j)) : As (tTest (tOp rNe ta tb)) σ H (decide (i ≠ j)) := as_test (vl_neI ha hb)
end
/-! ## the script's cells -/
def cellV (ns : List Int) (k : Int) : Int :=
  if k < ns.length then ns.getD k.toNat 0 else ((if 0 < ns.length then ns.getD 0 0 else 0) % 65521 * 48271 + k * 30103) % 65521
theorem at_II {ns : List Int} {i : Int} {v : Int} (h0 : 0 ≤ i) (h : ns[i.toNat]? = some v) : atI (ns.map V.int) i = some (.int v) := by
  have e := at_I h
  rw [Int.toNat_of_nonneg h0] at e
  exact e
theorem mks_at {n i : Int} (h0 : 0 ≤ i) (h : i < n) : atI ((mksI n.toNat).map V.int) i = some (.int (mk i.toNat : Int)) := at_II h0 (mksI_get (by omega))
end Tw

namespace Tw
/-! ## twinless rows -/
/-- places from p on, each two and more greater than the one ahead of it -/
def Tl : Nat → List Nat → Prop
  | _, [] => True
  | p, q :: t => p ≤ q ∧ Tl (q + 2) t
/-- what a row comes to, its marks taken from j - 2 places higher -/
def W (j : Nat) : List Nat → Nat
  | [] => 0
  | q :: t => fb (q + j) + W j t
theorem Tl.mono : ∀ {r : List Nat} {p q : Nat}, q ≤ p → Tl p r → Tl q r
  | [], _, _, _, _ => trivial
  | _ :: _, _, _, h, ⟨a, b⟩ => ⟨Nat.le_trans h a, b⟩
theorem W_rec (j : Nat) : ∀ r, W (j + 2) r = W (j + 1) r + W j r
  | [] => rfl
  | q :: t => by
    show fb (q + (j + 2)) + W (j + 2) t = fb (q + (j + 1)) + W (j + 1) t + (fb (q + j) + W j t)
    rw [W_rec j t, show q + (j + 2) = q + j + 2 from rfl, fb_rec, show q + (j + 1) = q + j + 1 from rfl]
    omega
theorem fb_mono : ∀ {a b : Nat}, a ≤ b → fb a ≤ fb b := by
  have step : ∀ n, fb n ≤ fb (n + 1) := fun n => by
    cases n with
    | zero => decide
    | succ n =>
      rw [fb_rec]
      omega
  intro a b h
  induction h with
  | refl => exact Nat.le_refl _
  | step _ ih => exact Nat.le_trans ih (step _)
/-- all places below m: the row comes to less than mark m, and how much less -/
theorem W_lt : ∀ (r : List Nat) (p m : Nat), Tl p r → (∀ x ∈ r, x < m) → p ≤ m + 1 → W 2 r + fb (p + 1) ≤ fb (m + 2)
  | [], p, m, _, _, h => by
    show 0 + fb (p + 1) ≤ _
    rw [Nat.zero_add]
    exact fb_mono (by omega)
  | q :: t, p, m, ⟨h1, h2⟩, hx, h => by
    have hq := hx q List.mem_cons_self
    have ih := W_lt t (q + 2) m h2 (fun x hm => hx x (List.mem_cons_of_mem _ hm)) (by omega)
    show fb (q + 2) + W 2 t + fb (p + 1) ≤ _
    have e : fb (q + 2 + 1) = fb (q + 2) + fb (q + 1) := fb_rec (q + 1)
    have m1 : fb (p + 1) ≤ fb (q + 1) := fb_mono (by omega)
    omega
/-- one mark more at p, the places all above p -/
def addP : Nat → List Nat → List Nat
  | p, [] => [p]
  | p, q :: t => if q = p + 1 then addP (p + 2) t else p :: q :: t
theorem addP_ok : ∀ (r : List Nat) (p : Nat), Tl (p + 1) r → Tl p (addP p r) ∧ ∀ j, W j (addP p r) = W j r + fb (p + j)
  | [], p, _ => ⟨⟨Nat.le_refl _, trivial⟩, fun j => by
    show fb (p + j) + 0 = 0 + fb (p + j)
    omega⟩
  | q :: t, p, ⟨h1, h2⟩ => by
    unfold addP
    by_cases e : q = p + 1
    · rw [if_pos e]
      subst e
      obtain ⟨i1, i2⟩ := addP_ok t (p + 2) h2
      refine ⟨i1.mono (by omega), fun j => ?_⟩
      rw [i2 j]
      show _ = fb (p + 1 + j) + W j t + fb (p + j)
      rw [show p + 2 + j = p + j + 2 by omega, fb_rec, show p + 1 + j = p + j + 1 by omega]
      omega
    · rw [if_neg e]
      refine ⟨⟨Nat.le_refl _, by omega, h2⟩, fun j => ?_⟩
      show fb (p + j) + (fb (q + j) + W j t) = fb (q + j) + W j t + fb (p + j)
      omega
theorem addP_head : ∀ (r : List Nat) (p : Nat), ∃ i t, addP p r = (p + 2 * i) :: t
  | [], p => ⟨0, [], rfl⟩
  | q :: t, p => by
    unfold addP
    by_cases e : q = p + 1
    · rw [if_pos e]
      obtain ⟨i, u, h⟩ := addP_head t (p + 2)
      exact ⟨i + 1, u, by rw [h, show p + 2 + 2 * i = p + 2 * (i + 1) by omega]⟩
    · rw [if_neg e]
      exact ⟨0, _, rfl⟩
def incR : List Nat → List Nat
  | 0 :: t => addP 1 t
  | r => addP 0 r
/-- the twinless row of a number -/
def rowN : Nat → List Nat
  | 0 => []
  | n + 1 => incR (rowN n)
/-- whether place 0 is in the row -/
def sg (n : Nat) : Bool := (rowN n).head? == some 0
theorem incR_b {t : List Nat} : incR (0 :: t) = addP 1 t := rfl
theorem incR_a {r : List Nat} (h : r.head? ≠ some 0) : incR r = addP 0 r := by
  cases r with
  | nil => rfl
  | cons q t =>
    cases q with
    | zero => exact absurd rfl h
    | succ q => rfl
theorem sg_t {n : Nat} (h : sg n = true) : ∃ t, rowN n = 0 :: t := by
  have e : (rowN n).head? = some 0 := eq_of_beq h
  cases q : rowN n with
  | nil =>
    rw [q] at e
    cases e
  | cons x t =>
    rw [q] at e
    cases e
    exact ⟨t, rfl⟩
theorem sg_f {n : Nat} (h : sg n = false) : (rowN n).head? ≠ some 0 := fun e => by
  unfold sg at h
  rw [e] at h
  cases h
theorem Tl.pos {r : List Nat} (h : Tl 0 r) (n : r.head? ≠ some 0) : Tl 1 r := by
  cases r with
  | nil => trivial
  | cons q t =>
    refine ⟨?_, h.2⟩
    cases q with
    | zero => exact absurd rfl n
    | succ q => omega
theorem incR_ok (r : List Nat) (h : Tl 0 r) : Tl 0 (incR r) ∧ ∀ j, (r.head? = some 0 → W j (incR r) + fb j = W j r + fb (j + 1)) ∧ (r.head? ≠ some 0 → W j (incR r) = W j r + fb j) := by
  by_cases e : r.head? = some 0
  · obtain ⟨t, rfl⟩ : ∃ t, r = 0 :: t := by
      cases r with
      | nil => cases e
      | cons x t =>
        cases e
        exact ⟨t, rfl⟩
    rw [incR_b]
    obtain ⟨i1, i2⟩ := addP_ok t 1 h.2
    refine ⟨i1.mono (by omega), fun j => ⟨fun _ => ?_, fun z => absurd e z⟩⟩
    rw [i2 j]
    show _ = fb (0 + j) + W j t + _
    rw [Nat.zero_add, show 1 + j = j + 1 by omega]
    omega
  · rw [incR_a e]
    obtain ⟨i1, i2⟩ := addP_ok r 0 (h.pos e)
    refine ⟨i1, fun j => ⟨fun z => absurd z e, fun _ => ?_⟩⟩
    rw [i2 j, Nat.zero_add]
theorem rowN_ok : ∀ n, Tl 0 (rowN n)
  | 0 => trivial
  | n + 1 => (incR_ok _ (rowN_ok n)).1
/-- what the number's row comes to at j - 2 places higher -/
def AA (j n : Nat) : Nat := W j (rowN n)
theorem AA_t {n : Nat} (h : sg n = true) (j : Nat) : AA j (n + 1) + fb j = AA j n + fb (j + 1) := ((incR_ok _ (rowN_ok n)).2 j).1 (by
  obtain ⟨t, e⟩ := sg_t h
  rw [e]
  rfl)
theorem AA_f {n : Nat} (h : sg n = false) (j : Nat) : AA j (n + 1) = AA j n + fb j := ((incR_ok _ (rowN_ok n)).2 j).2 (sg_f h)
theorem AA_rec (j n : Nat) : AA (j + 2) n = AA (j + 1) n + AA j n := W_rec j _
theorem AA_2 : ∀ n, AA 2 n = n
  | 0 => rfl
  | n + 1 => by
    have ih := AA_2 n
    cases h : sg n with
    | true =>
      have := AA_t h 2
      have e1 : fb 2 = 1 := rfl
      have e2 : fb (2 + 1) = 2 := rfl
      omega
    | false =>
      have := AA_f h 2
      have e1 : fb 2 = 1 := rfl
      omega
theorem W_rowN (n : Nat) : W 2 (rowN n) = n := AA_2 n
/-! ### there is just one -/
/-- a, a + 2, .. , i of them, then t -/
def chn : Nat → Nat → List Nat → List Nat
  | _, 0, t => t
  | a, i + 1, t => a :: chn (a + 2) i t
theorem addP_chn : ∀ (i p : Nat) (t : List Nat), Tl (p + 2 * i + 2) t → addP p (chn (p + 1) i t) = (p + 2 * i) :: t
  | 0, p, [], _ => rfl
  | 0, p, q :: t, h => by
    show (if q = p + 1 then _ else _) = _
    have := h.1
    rw [if_neg (by omega)]
    rfl
  | i + 1, p, t, h => by
    show (if p + 1 = p + 1 then addP (p + 2) (chn (p + 1 + 2) i t) else _) = _
    rw [if_pos rfl, show p + 1 + 2 = p + 2 + 1 by omega, addP_chn i (p + 2) t (h.mono (by omega)), show p + 2 + 2 * i = p + 2 * (i + 1) by omega]
theorem chn_Tl : ∀ (i a : Nat) (t : List Nat), Tl (a + 2 * i) t → Tl a (chn a i t)
  | 0, a, t, h => h
  | i + 1, a, t, h => ⟨Nat.le_refl _, chn_Tl i (a + 2) t (h.mono (by omega))⟩
/-- the row of one less -/
theorem dec_row (q : Nat) (t : List Nat) (h : Tl 0 (q :: t)) : ∃ r, Tl 0 r ∧ incR r = q :: t := by
  obtain ⟨i, e | e⟩ : ∃ i, q = 2 * i ∨ q = 2 * i + 1 := ⟨q / 2, by omega⟩
  · subst e
    refine ⟨chn 1 i t, (chn_Tl i 1 t (h.2.mono (by omega))).mono (by omega), ?_⟩
    have hh : (chn 1 i t).head? ≠ some 0 := by
      cases i with
      | zero =>
        show t.head? ≠ some 0
        cases t with
        | nil => intro z; cases z
        | cons x t =>
          intro z
          cases z
          have := h.2.1
          omega
      | succ i => intro z; cases z
    rw [incR_a hh]
    have := addP_chn i 0 t (h.2.mono (by omega))
    rw [Nat.zero_add] at this
    rw [Nat.zero_add] at this
    exact this
  · subst e
    refine ⟨chn 0 (i + 1) t, chn_Tl (i + 1) 0 t (h.2.mono (by omega)), ?_⟩
    show addP 1 (chn 2 i t) = _
    rw [addP_chn i 1 t (h.2.mono (by omega)), show 1 + 2 * i = 2 * i + 1 by omega]
theorem row_one : ∀ (n : Nat) (r : List Nat), Tl 0 r → W 2 r = n → r = rowN n
  | 0, [], _, _ => rfl
  | 0, q :: t, h, e => by
    have e' : fb (q + 2) + W 2 t = 0 := e
    have : 0 < fb (q + 2) := fb_pos (q + 1)
    omega
  | n + 1, [], _, e => by cases e
  | n + 1, q :: t, h, e => by
    obtain ⟨r, h1, h2⟩ := dec_row q t h
    have k := (incR_ok r h1).2 2
    have e1 : W 2 r = n := by
      rw [h2, e] at k
      have f2 : fb 2 = 1 := rfl
      have f3 : fb (2 + 1) = 2 := rfl
      by_cases z : r.head? = some 0
      · have := k.1 z
        omega
      · have := k.2 z
        omega
    rw [← h2, row_one n r h1 e1]
    rfl
theorem row_is {r : List Nat} (h : Tl 0 r) : rowN (W 2 r) = r := (row_one _ r h rfl).symm
/-! ### shifts -/
theorem Tl_up : ∀ (r : List Nat) (p k : Nat), Tl p r → Tl (p + k) (r.map (· + k))
  | [], _, _, _ => trivial
  | q :: t, p, k, ⟨a, b⟩ => ⟨by show p + k ≤ q + k; omega, by
    have := Tl_up t (q + 2) k b
    show Tl (q + k + 2) _
    rw [show q + k + 2 = q + 2 + k by omega]
    exact this⟩
theorem W_up (j k : Nat) : ∀ r : List Nat, W j (r.map (· + k)) = W (j + k) r
  | [] => rfl
  | q :: t => by
    show fb (q + k + j) + W j (t.map (· + k)) = fb (q + (j + k)) + W (j + k) t
    rw [W_up j k t, show q + k + j = q + (j + k) by omega]
theorem Tl_down : ∀ (r : List Nat) (p k : Nat), Tl (p + k) r → ∃ u, r = u.map (· + k) ∧ Tl p u
  | [], _, _, _ => ⟨[], rfl, trivial⟩
  | q :: t, p, k, ⟨a, b⟩ => by
    obtain ⟨u, e, h⟩ := Tl_down t (q - k + 2) k (b.mono (by omega))
    refine ⟨(q - k) :: u, ?_, by omega, h⟩
    rw [List.map_cons, ← e, show q - k + k = q by omega]
/-- the row of A 3 is the row, each place one more -/
theorem row_up (n : Nat) : rowN (AA 3 n) = (rowN n).map (· + 1) := by
  have h : Tl 0 ((rowN n).map (· + 1)) := (Tl_up _ 0 1 (rowN_ok n)).mono (by omega)
  have e := row_is h
  rw [W_up] at e
  exact e
theorem sg_up (n : Nat) : sg (AA 3 n) = false := by
  unfold sg
  rw [row_up]
  cases rowN n with
  | nil => rfl
  | cons q t => rfl
theorem AA_up (j n : Nat) : AA j (AA 3 n) = AA (j + 1) n := by
  unfold AA
  have := row_up n
  unfold AA at this
  rw [this, W_up]
/-- a row without place 0 is one that was moved up -/
theorem sg_down {n : Nat} (h : sg n = false) : AA 3 (AA 1 n) = n := by
  obtain ⟨u, e, hu⟩ := Tl_down (rowN n) 0 1 ((rowN_ok n).pos (sg_f h))
  have e1 : AA 1 n = W 2 u := by
    unfold AA
    rw [e, W_up]
  rw [e1]
  show W 3 (rowN (W 2 u)) = n
  rw [row_is hu]
  have := W_rowN n
  rw [e, W_up] at this
  exact this
/-- the row of one more than A 4 -/
theorem row_two (m : Nat) : rowN (AA 4 m + 1) = 0 :: (rowN m).map (· + 2) := by
  have h : Tl 0 (0 :: (rowN m).map (· + 2)) := ⟨Nat.le_refl _, Tl_up _ 0 2 (rowN_ok m)⟩
  have e := row_is h
  have e2 : W 2 (0 :: (rowN m).map (· + 2)) = AA 4 m + 1 := by
    show fb (0 + 2) + W 2 ((rowN m).map (· + 2)) = _
    rw [W_up]
    show 1 + W 4 (rowN m) = AA 4 m + 1
    unfold AA
    omega
  rw [e2] at e
  exact e
theorem sg_two (m : Nat) : sg (AA 4 m + 1) = true := by
  unfold sg
  rw [row_two]
  rfl
theorem AA0_two (m : Nat) : AA 0 (AA 4 m + 1) = m := by
  have := W_rowN m
  unfold AA at *
  have r := row_two m
  unfold AA at r
  rw [r]
  show fb 0 + W 0 ((rowN m).map (· + 2)) = m
  rw [W_up]
  show 0 + W 2 (rowN m) = m
  omega
/-- a row with place 0: what stands ahead -/
theorem sg_back {n : Nat} (h : sg n = true) : AA 4 (AA 0 n) + 1 = n := by
  obtain ⟨t, e⟩ := sg_t h
  have k := rowN_ok n
  rw [e] at k
  obtain ⟨u, e2, hu⟩ := Tl_down t 0 2 k.2
  have e1 : AA 0 n = W 2 u := by
    unfold AA
    rw [e, e2]
    show fb 0 + W 0 (u.map (· + 2)) = _
    rw [W_up]
    show 0 + W 2 u = W 2 u
    omega
  rw [e1]
  show W 4 (rowN (W 2 u)) + 1 = n
  rw [row_is hu]
  have := W_rowN n
  rw [e, e2] at this
  have e3 : W 2 (0 :: u.map (· + 2)) = 1 + W 4 u := by
    show fb (0 + 2) + W 2 (u.map (· + 2)) = _
    rw [W_up]
    rfl
  omega
/-- the least place is even just where place 0 is not in the row of one less -/
theorem head_par (n : Nat) : ∃ q t, rowN (n + 1) = q :: t ∧ (q % 2 = 0 ↔ sg n = false) := by
  show ∃ q t, incR (rowN n) = q :: t ∧ _
  cases h : sg n with
  | true =>
    obtain ⟨u, e⟩ := sg_t h
    rw [e, incR_b]
    obtain ⟨i, t, e2⟩ := addP_head u 1
    exact ⟨_, t, e2, by constructor <;> intro z <;> first | cases z | omega⟩
  | false =>
    rw [incR_a (sg_f h)]
    obtain ⟨i, t, e2⟩ := addP_head (rowN n) 0
    exact ⟨_, t, e2, by constructor <;> intro z <;> first | rfl | omega⟩
/-! ### how large -/
theorem mk_ten : ∀ k, 10 ^ k ≤ mk (5 * k)
  | 0 => by decide
  | k + 1 => by
    have ih := mk_ten k
    have e : ∀ a, 10 * mk a ≤ mk (a + 5) := fun a => by
      have h1 : mk (a + 2) = mk (a + 1) + mk a := mk_rec a
      have h2 : mk (a + 3) = mk (a + 2) + mk (a + 1) := mk_rec (a + 1)
      have h3 : mk (a + 4) = mk (a + 3) + mk (a + 2) := mk_rec (a + 2)
      have h4 : mk (a + 5) = mk (a + 4) + mk (a + 3) := mk_rec (a + 3)
      cases a with
      | zero =>
        have : mk 0 = 1 := rfl
        have : mk (0 + 1) = 2 := rfl
        omega
      | succ a =>
        have h5 : mk (a + 1 + 1) = mk (a + 1) + mk a := mk_rec a
        cases a with
        | zero =>
          have : mk (0 + 1) = 2 := rfl
          have : mk 0 = 1 := rfl
          omega
        | succ a =>
          have h6 : mk (a + 1 + 1) = mk (a + 1) + mk a := mk_rec a
          have h7 : mk a ≤ mk (a + 1) := fb_mono (by omega)
          omega
    have := e (5 * k)
    rw [show 5 * (k + 1) = 5 * k + 5 by omega, Nat.pow_succ]
    omega
theorem mk_400 : 10 ^ 80 ≤ mk 400 := mk_ten 80
theorem mk_mono {a b : Nat} (h : a ≤ b) : mk a ≤ mk b := fb_mono (by omega)
theorem mk_lt {a b : Nat} (h : a < b) : mk a < mk b := by
  have h1 : mk (a + 1) ≤ mk b := mk_mono h
  have h2 : mk (a + 1) = fb (a + 2) + fb (a + 1) := fb_rec (a + 1)
  have h3 : mk a = fb (a + 2) := rfl
  have := fb_pos a
  omega
theorem mk_gt (k : Nat) : k < mk k := by
  induction k with
  | zero => decide
  | succ k ih =>
    have : mk k < mk (k + 1) := mk_lt (Nat.lt_succ_self k)
    omega
theorem W_mem : ∀ {r : List Nat} {q : Nat}, q ∈ r → mk q ≤ W 2 r
  | x :: t, q, h => by
    show _ ≤ fb (x + 2) + W 2 t
    rcases List.mem_cons.mp h with rfl | h
    · show fb (q + 2) ≤ _
      omega
    · have := W_mem h
      omega
/-- all places of a number below mark m are below m -/
theorem row_below {n m : Nat} (h : n < mk m) : ∀ q ∈ rowN n, q < m := fun q hq => by
  have h1 := W_mem hq
  rw [W_rowN] at h1
  rcases Nat.lt_or_ge q m with z | z
  · exact z
  · have := mk_mono z
    omega
theorem Tl_ge : ∀ {r : List Nat} {p : Nat}, Tl p r → ∀ q ∈ r, p ≤ q
  | x :: t, p, ⟨a, b⟩, q, hq => by
    rcases List.mem_cons.mp hq with rfl | hq
    · exact a
    · have := Tl_ge b q hq
      omega
theorem Tl_len : ∀ {r : List Nat} {p m : Nat}, Tl p r → (∀ q ∈ r, q < m) → r.length ≤ m - p
  | [], _, _, _, _ => Nat.zero_le _
  | x :: t, p, m, ⟨a, b⟩, h => by
    have h1 := h x List.mem_cons_self
    have h2 := Tl_len b fun q hq => h q (List.mem_cons_of_mem _ hq)
    show t.length + 1 ≤ m - p
    omega
theorem row_len {n m : Nat} (h : n < mk m) : (rowN n).length ≤ m := by
  have := Tl_len (rowN_ok n) (row_below h)
  omega
theorem sg_mem (n : Nat) : sg n = decide (0 ∈ rowN n) := by
  cases h : sg n with
  | true =>
    obtain ⟨t, e⟩ := sg_t h
    rw [e]
    simp
  | false =>
    have k := (rowN_ok n).pos (sg_f h)
    symm
    rw [decide_eq_false_iff_not]
    intro z
    have := Tl_ge k 0 z
    omega
/-! ### the greatest marks first -/
def gre : Nat → Nat → List Nat
  | 0, _ => []
  | k + 1, n => if mk k ≤ n then k :: gre k (n - mk k) else gre k n
theorem gre_lt : ∀ (k n m : Nat), n < mk m → ∀ q ∈ gre k n, q < m ∧ q < k
  | 0, _, _, _, _, h => nomatch h
  | k + 1, n, m, hn, q, h => by
    unfold gre at h
    by_cases e : mk k ≤ n
    · rw [if_pos e] at h
      rcases List.mem_cons.mp h with rfl | h
      · refine ⟨?_, Nat.lt_succ_self _⟩
        rcases Nat.lt_or_ge q m with z | z
        · exact z
        · have := mk_mono z
          omega
      · have := gre_lt k (n - mk k) m (by omega) q h
        exact ⟨this.1, by omega⟩
    · rw [if_neg e] at h
      have := gre_lt k n m hn q h
      exact ⟨this.1, by omega⟩
theorem Tl_snoc : ∀ {r : List Nat} {p k : Nat}, Tl p r → (∀ q ∈ r, q + 2 ≤ k) → p ≤ k → Tl p (r ++ [k])
  | [], p, k, _, _, h => ⟨h, trivial⟩
  | x :: t, p, k, ⟨a, b⟩, h, _ => ⟨a, Tl_snoc b (fun q hq => h q (List.mem_cons_of_mem _ hq)) (h x List.mem_cons_self)⟩
theorem W_app (j : Nat) : ∀ (r s : List Nat), W j (r ++ s) = W j r + W j s
  | [], s => by
    show W j s = 0 + _
    omega
  | x :: t, s => by
    show fb (x + j) + W j (t ++ s) = fb (x + j) + W j t + W j s
    rw [W_app j t s]
    omega
theorem gre_ok : ∀ (k n : Nat), n < mk k → Tl 0 (gre k n).reverse ∧ W 2 (gre k n).reverse = n
  | 0, n, h => by
    have : mk 0 = 1 := rfl
    exact ⟨trivial, by show 0 = n; omega⟩
  | k + 1, n, h => by
    unfold gre
    by_cases e : mk k ≤ n
    · rw [if_pos e, List.reverse_cons]
      cases k with
      | zero =>
        have h0 : mk 0 = 1 := rfl
        have h1 : mk (0 + 1) = 2 := rfl
        exact ⟨⟨Nat.zero_le _, trivial⟩, by show 1 + 0 = n; omega⟩
      | succ k =>
        have hm : mk (k + 1 + 1) = mk (k + 1) + mk k := mk_rec k
        have hk : n - mk (k + 1) < mk k := by omega
        have hk2 : mk k ≤ mk (k + 1) := mk_mono (by omega)
        obtain ⟨i1, i2⟩ := gre_ok (k + 1) (n - mk (k + 1)) (by omega)
        refine ⟨Tl_snoc i1 (fun q hq => ?_) (by omega), ?_⟩
        · have := (gre_lt (k + 1) (n - mk (k + 1)) k hk q (List.mem_reverse.mp hq)).1
          omega
        · rw [W_app, i2]
          show _ + (fb (k + 1 + 2) + 0) = n
          have : fb (k + 1 + 2) = mk (k + 1) := rfl
          omega
    · rw [if_neg e]
      exact gre_ok k n (by omega)
theorem gre_row {k n : Nat} (h : n < mk k) : (gre k n).reverse = rowN n := row_one n _ (gre_ok k n h).1 (gre_ok k n h).2
end Tw

namespace Tw
open PySem PySem.Spec PyProof.Rows L2
/-! ## new objects that are not quite known -/
def Nx (t : TE) (σ : L2.St) (H : Hp) (P : HO → Prop) : Prop := ∀ Q : VK, (∀ o p, P o → H p = none → Q (.ref p) (upd H p o)) → t σ H Q
section
variable {σ : L2.St} {H : Hp} {ta tb te : TE} {D : Ends} {tu tw tz : TS} {i : Nat} {P : HO → Prop} {K : PySem.W.Frag}
theorem q_newx (h : Nx te σ H P) (k : ∀ o p, P o → H p = none → tz D (σ.set i (some (.ref p))) (upd H p o)) : tSeq (tAsg te (gName i)) tz D σ H := h _ k
theorem s_newx (h : Nx te σ H P) (k : ∀ o p, P o → H p = none → D.nx (σ.set i (some (.ref p))) (upd H p o)) : tAsg te (gName i) D σ H := h _ k
end
/-! ## rows as lists of whole numbers -/
def rwI (r : List Nat) : List Int := r.map fun (p : Nat) => (p : Int)
theorem rwI_len (r : List Nat) : (rwI r).length = r.length := List.length_map ..
theorem rwI_get {r : List Nat} {i q : Nat} (h : r[i]? = some q) : (rwI r)[i]? = some (q : Int) := by
  unfold rwI
  rw [List.getElem?_map, h]
  rfl
theorem rwI_app (r s : List Nat) : rwI (r ++ s) = rwI r ++ rwI s := List.map_append ..
theorem rwI_rev (r : List Nat) : rwI r.reverse = (rwI r).reverse := by
  unfold rwI
  rw [List.map_reverse]
theorem mapI_get {ns : List Int} {i : Nat} {x : V} (h : (ns.map V.int)[i]? = some x) : ∃ n, ns[i]? = some n ∧ x = .int n := by
  rw [List.getElem?_map] at h
  cases e : ns[i]? with
  | none =>
    rw [e] at h
    cases h
  | some n =>
    rw [e] at h
    cases h
    exact ⟨n, rfl, rfl⟩
theorem rwI_get' {r : List Nat} {i : Nat} {x : V} (h : ((rwI r).map V.int)[i]? = some x) : ∃ q : Nat, r[i]? = some q ∧ x = .int (q : Int) := by
  obtain ⟨n, h1, rfl⟩ := mapI_get h
  unfold rwI at h1
  rw [List.getElem?_map] at h1
  cases e : r[i]? with
  | none =>
    rw [e] at h1
    cases h1
  | some q =>
    rw [e] at h1
    cases h1
    exact ⟨q, rfl, rfl⟩
theorem Tl_up_lt : ∀ {r : List Nat} {p : Nat}, Tl p r → r.Pairwise (· < ·)
  | [], _, _ => .nil
  | x :: t, p, ⟨a, b⟩ => .cons (fun q hq => by
    have := Tl_ge b q hq
    omega) (Tl_up_lt b)
theorem tw_down (L : Nat) (h : L ≤ 100000) : RgC ((L : Int) - 1) (-1) (-1) L := by
  have h1 := RgC.neg (i := (L : Int) - 1) (j := -1) (by omega) (by omega) (by omega) (by omega)
  rw [show ((L : Int) - 1 - -1).toNat = L by omega] at h1
  exact h1
/-! ## promises -/
section
variable {K : PySem.W.Frag} {σ : L2.St} {H : Hp} {ta tb tc : TE} {E : XK}
/-- marks_to -/
def sp_marks_to : Sp := fun vs H Q _ => ∃ (n : Nat), vs = [.int (n : Int)] ∧ n < mk 400 ∧ Fl H ∧ ∀ L p, L ≤ 400 → n < mk L → H p = none → Q (.ref p) (upd H p (.lst ((mksI L).map V.int)))
theorem nx_marks_to {n : Nat} (ha : Vl ta σ H (.int (n : Int))) (h : n < mk 400 ∧ Fl H) : Nx (tCall sp_marks_to [] E (tCons ta tNil)) σ H (fun o => ∃ L, L ≤ 400 ∧ n < mk L ∧ o = .lst ((mksI L).map V.int)) := fun Q q =>
  (av_cons ha av_nil) _ ⟨n, rfl, h.1, h.2, fun L p h1 h2 np => q _ p ⟨L, h1, h2, rfl⟩ np⟩
/-- row_of, and the law's own -/
def sp_row_of : Sp := fun vs H Q _ => ∃ (n : Int), vs = [.int n] ∧ (0 ≤ n ∧ n < (mk 400 : Int)) ∧ Fl H ∧ ∀ p, H p = none → Q (.ref p) (upd H p (.lst ((rwI (rowN n.toNat)).map V.int)))
theorem nw_row_of {n : Int} (ha : Vl ta σ H (.int n)) (h : (0 ≤ n ∧ n < (mk 400 : Int)) ∧ Fl H) : Nw (tCall sp_row_of [] E (tCons ta tNil)) σ H (.lst ((rwI (rowN n.toNat)).map V.int)) := nw_call (av_cons ha av_nil) fun _ q => ⟨n, rfl, h.1, h.2, q⟩
theorem nw_law_row {n : Int} (ha : Vl ta σ H (.int n)) (h : (0 ≤ n ∧ n < (mk 400 : Int)) ∧ Fl H) : Nw (tCall sp_row_of [] E (tCons ta tNil)) σ H (.lst ((rwI (rowN n.toNat)).map V.int)) := nw_row_of ha h
/-- worth_of -/
def sp_worth_of (K : PySem.W.Frag) : Sp := fun vs H Q _ => ∃ (a : Addr) (r : List Nat), vs = [.ref a] ∧ SqL K H a ((rwI r).map V.int) ∧ r.Pairwise (· < ·) ∧ Fl H ∧ Q (.int (W 2 r : Int)) H
theorem vl_worth_of {a : Addr} {r : List Nat} (ha : Vl ta σ H (.ref a)) (h : SqL K H a ((rwI r).map V.int) ∧ r.Pairwise (· < ·) ∧ Fl H) : Vl (tCall (sp_worth_of K) [] E (tCons ta tNil)) σ H (.int (W 2 r : Int)) := vl_call (av_cons ha av_nil) fun _ q => ⟨a, r, rfl, h.1, h.2.1, h.2.2, q⟩
theorem gv_worth_of {r : List Nat} {xs : List V} (ha : Nw ta σ H (.lst xs)) (h : xs = (rwI r).map V.int ∧ r.Pairwise (· < ·) ∧ Fl H) : Gv (tCall (sp_worth_of K) [] E (tCons ta tNil)) σ H (.int (W 2 r : Int)) :=
  gv_call1 ha fun p np Q q => ⟨p, r, rfl, SqL.of (h.1 ▸ upd_same), h.2.1, h.2.2.upd rfl, q⟩
/-- the law's _law_worth -/
def sp_law_worth (K : PySem.W.Frag) : Sp := fun vs H Q _ => ∃ (a : Addr) (r : List Nat), vs = [.ref a] ∧ SqL K H a ((rwI r).map V.int) ∧ (r.length ≤ 5000 ∧ ∀ x ∈ r, x ≤ 5000) ∧ Fl H ∧ Q (.int (W 2 r : Int)) H
theorem vl_law_worth {a : Addr} {r : List Nat} (ha : Vl ta σ H (.ref a)) (h : SqL K H a ((rwI r).map V.int) ∧ (r.length ≤ 5000 ∧ ∀ x ∈ r, x ≤ 5000) ∧ Fl H) : Vl (tCall (sp_law_worth K) [] E (tCons ta tNil)) σ H (.int (W 2 r : Int)) := vl_call (av_cons ha av_nil) fun _ q => ⟨a, r, rfl, h.1, h.2.1, h.2.2, q⟩
theorem gv_law_worth {r : List Nat} {xs : List V} (ha : Nw ta σ H (.lst xs)) (h : xs = (rwI r).map V.int ∧ (r.length ≤ 5000 ∧ ∀ x ∈ r, x ≤ 5000) ∧ Fl H) : Gv (tCall (sp_law_worth K) [] E (tCons ta tNil)) σ H (.int (W 2 r : Int)) :=
  gv_call1 ha fun p np Q q => ⟨p, r, rfl, SqL.of (h.1 ▸ upd_same), h.2.1, h.2.2.upd rfl, q⟩
/-- the law's _law_number -/
def sp_law_number (K : PySem.W.Frag) : Sp := fun vs H Q _ => ∃ (a : Addr) (ns : List Int) (k b : Int), vs = [.ref a, .int k, .int b] ∧ SqL K H a (ns.map V.int) ∧ (0 ≤ k ∧ k < 90000) ∧ 40 ≤ b ∧ Fl H ∧ ∀ x, 0 ≤ x → x < b → Q (.int x) H
theorem va_law_number {a : Addr} {ns : List Int} {k b : Int} (ha : Vl ta σ H (.ref a)) (hb : Vl tb σ H (.int k)) (hc : Vl tc σ H (.int b)) (h : SqL K H a (ns.map V.int) ∧ (0 ≤ k ∧ k < 90000) ∧ 40 ≤ b ∧ Fl H) :
    Va (tCall (sp_law_number K) [] E (tCons ta (tCons tb (tCons tc tNil)))) σ H (fun v => ∃ x, v = .int x ∧ 0 ≤ x ∧ x < b) := va_call (av_cons ha (av_cons hb (av_cons hc av_nil))) fun _ q => ⟨a, ns, k, b, rfl, h.1, h.2.1, h.2.2.1, h.2.2.2, fun x h1 h2 => q _ ⟨x, rfl, h1, h2⟩⟩
end
/-! ## ten to some power -/
theorem vl_pow {σ : L2.St} {H : Hp} {ta tb : TE} {i j : Int} (ha : Vl ta σ H (.int i)) (hb : Vl tb σ H (.int j)) (hc : CPow i j := by exact ⟨by decide, by decide, by decide⟩) : Vl (tOp (rI CPow fun i j => .int (i ^ j.toNat)) ta tb) σ H (.int (i ^ j.toNat)) := vl_I ha hb hc
theorem vl_mulW {σ : L2.St} {H : Hp} {ta tb : TE} {i j : Int} (ha : Vl ta σ H (.int i)) (hb : Vl tb σ H (.int j)) (hc : CMulW i j) : Vl (tOp (rI CMulW fun i j => .int (i * j)) ta tb) σ H (.int (i * j)) := vl_I ha hb hc
theorem mk_400I : (10 : Int) ^ 80 ≤ (mk 400 : Int) := by
  have := mk_400
  omega
theorem Tl_next : ∀ {r : List Nat} {p i a b : Nat}, Tl p r → r[i]? = some a → r[i + 1]? = some b → a + 2 ≤ b
  | [], _, _, _, _, _, h, _ => by simp at h
  | x :: t, p, 0, a, b, ⟨_, h⟩, h1, h2 => by
    have e : x = a := Option.some.inj h1
    subst e
    cases t with
    | nil => simp at h2
    | cons y u =>
      have e : y = b := Option.some.inj h2
      subst e
      exact h.1
  | x :: t, p, i + 1, a, b, ⟨_, h⟩, h1, h2 => Tl_next h h1 h2
/-- a sum of whole numbers -/
theorem sum_mk : ∀ r : List Nat, (r.map fun p => (mk p : Int)).sum = (W 2 r : Int)
  | [] => rfl
  | x :: t => by
    rw [List.map_cons, List.sum_cons, sum_mk t]
    show (mk x : Int) + _ = ((fb (x + 2) + W 2 t : Nat) : Int)
    unfold mk
    omega
theorem foldl_max_ge : ∀ (ns : List Int) (a : Int), a ≤ ns.foldl max a ∧ (∀ n ∈ ns, n ≤ ns.foldl max a) ∧ (ns.foldl max a = a ∨ ns.foldl max a ∈ ns)
  | [], a => ⟨Int.le_refl _, fun _ h => (nomatch h), .inl rfl⟩
  | x :: t, a => by
    obtain ⟨h1, h2, h3⟩ := foldl_max_ge t (max a x)
    rw [List.foldl_cons]
    refine ⟨by omega, fun n hn => ?_, ?_⟩
    · rcases List.mem_cons.mp hn with rfl | hn
      · omega
      · exact h2 n hn
    · rcases h3 with h | h
      · by_cases z : a ≤ x
        · exact .inr (by rw [h, Int.max_eq_right z]; exact List.mem_cons_self)
        · exact .inl (by rw [h]; omega)
      · exact .inr (List.mem_cons_of_mem _ h)
theorem maxI_spec (d : Int) (ns : List Int) : (∀ n ∈ ns, n ≤ maxI d ns) ∧ (maxI d ns = d ∨ maxI d ns ∈ ns) := by
  cases ns with
  | nil => exact ⟨fun _ h => (nomatch h), .inl rfl⟩
  | cons x t =>
    obtain ⟨h1, h2, h3⟩ := foldl_max_ge t x
    refine ⟨fun n hn => ?_, .inr ?_⟩
    · rcases List.mem_cons.mp hn with rfl | hn
      · exact h1
      · exact h2 n hn
    · show t.foldl max x ∈ x :: t
      rcases h3 with h | h
      · rw [h]
        exact List.mem_cons_self
      · exact List.mem_cons_of_mem _ h
theorem maxI_row {r : List Nat} {B : Nat} (h : ∀ x ∈ r, x ≤ B) : ∃ m : Nat, maxI 0 (rwI r) = (m : Int) ∧ m ≤ B ∧ ∀ x ∈ r, x ≤ m := by
  obtain ⟨h1, h2⟩ := maxI_spec 0 (rwI r)
  have hm : 0 ≤ maxI 0 (rwI r) ∧ maxI 0 (rwI r) ≤ (B : Int) := by
    rcases h2 with e | e
    · rw [e]
      omega
    · obtain ⟨x, hx, e2⟩ := List.mem_map.mp e
      have := h x hx
      rw [← e2]
      omega
  refine ⟨(maxI 0 (rwI r)).toNat, by omega, by omega, fun x hx => ?_⟩
  have := h1 (x : Int) (List.mem_map.mpr ⟨x, hx, rfl⟩)
  omega
/-! ## a written menu at a reckoned place -/
theorem at_menu {ds : List Int} {i : Int} (h0 : 0 ≤ i) (h1 : i < ds.length) : atI (ds.map V.int) i = some (.int (ds.getD i.toNat 0)) := by
  refine at_II h0 ?_
  have hl : i.toNat < ds.length := by omega
  rw [List.getElem?_eq_getElem hl, List.getD_eq_getElem?_getD, List.getElem?_eq_getElem hl]
  rfl
theorem getD_nonneg {ds : List Int} (h : ∀ d ∈ ds, 0 ≤ d) (k : Nat) : 0 ≤ ds.getD k 0 := by
  rw [List.getD_eq_getElem?_getD]
  cases e : ds[k]? with
  | none => exact Int.le_refl 0
  | some d => exact h d (List.mem_of_getElem? e)
/-! ## the law's _law_ints, where both are alike -/
section
variable {K : PySem.W.Frag} {σ : L2.St} {H : Hp} {ta tb tc : TE} {E : XK}
def sp_law_ints (K : PySem.W.Frag) : Sp := fun vs H Q _ => ∃ (a b : Addr) (ns : List Int), vs = [.ref a, .ref b] ∧ SqL K H a (ns.map V.int) ∧ SqL K H b (ns.map V.int) ∧ ns.length ≤ 100000 ∧ Fl H ∧ Q (.bl true) H
theorem vl_law_ints {a b : Addr} {ns : List Int} (ha : Vl ta σ H (.ref a)) (hb : Vl tb σ H (.ref b)) (h : SqL K H a (ns.map V.int) ∧ SqL K H b (ns.map V.int) ∧ ns.length ≤ 100000 ∧ Fl H) :
    Vl (tCall (sp_law_ints K) [] E (tCons ta (tCons tb tNil))) σ H (.bl true) := vl_call (av_cons ha (av_cons hb av_nil)) fun _ q => ⟨a, b, ns, rfl, h.1, h.2.1, h.2.2.1, h.2.2.2, q⟩
/-- the first one new -/
theorem gv_law_ints1 {b : Addr} {ns : List Int} (ha : Nw ta σ H (.lst (ns.map V.int))) (hb : ∀ p, H p = none → Vl tb σ (upd H p (.lst (ns.map V.int))) (.ref b)) (h : SqL K H b (ns.map V.int) ∧ ns.length ≤ 100000 ∧ Fl H) :
    Gv (tCall (sp_law_ints K) [] E (tCons ta (tCons tb tNil))) σ H (.bl true) := gv_call2 ha hb fun p np Q q => ⟨p, b, ns, rfl, SqL.of upd_same, sq_old h.1 np, h.2.1, h.2.2.upd rfl, q⟩
/-- both new -/
theorem gv_law_ints2 {ns : List Int} (ha : Nw ta σ H (.lst (ns.map V.int))) (hb : ∀ p, H p = none → Nw tb σ (upd H p (.lst (ns.map V.int))) (.lst (ns.map V.int))) (h : ns.length ≤ 100000 ∧ Fl H) :
    Gv (tCall (sp_law_ints K) [] E (tCons ta (tCons tb tNil))) σ H (.bl true) := fun Q q => ha _ fun p np => hb p np _ fun r nr => ⟨p, r, ns, rfl, SqL.of (at_old upd_same nr), SqL.of upd_same, h.1, (h.2.upd rfl).upd rfl, q _ (same_new' (same_new (Same.refl H) np) nr)⟩
/-- the second one new -/
theorem gv_law_intsN {a : Addr} {ns : List Int} (ha : Vl ta σ H (.ref a)) (hb : Nw tb σ H (.lst (ns.map V.int))) (h : SqL K H a (ns.map V.int) ∧ ns.length ≤ 100000 ∧ Fl H) :
    Gv (tCall (sp_law_ints K) [] E (tCons ta (tCons tb tNil))) σ H (.bl true) := fun Q q => ha _ (hb _ fun r nr => ⟨a, r, ns, rfl, sq_old h.1 nr, SqL.of upd_same, h.2.1, h.2.2.upd rfl, q _ (same_new (Same.refl H) nr)⟩)
/-- the law's _law_drawn_row -/
def sp_law_drawn_row (K : PySem.W.Frag) : Sp := fun vs H Q _ => ∃ (a : Addr) (ns : List Int) (k m : Int), vs = [.ref a, .int k, .int m] ∧ SqL K H a (ns.map V.int) ∧ (0 ≤ k ∧ k < 90000) ∧ (0 ≤ m ∧ m ≤ 5000) ∧ Fl H ∧
  ∀ (r : List Nat) p, Tl 0 r → (∀ x ∈ r, (x : Int) ≤ m) → r.length ≤ 40 → H p = none → Q (.ref p) (upd H p (.lst ((rwI r).map V.int)))
theorem nx_law_drawn_row {a : Addr} {ns : List Int} {k m : Int} (ha : Vl ta σ H (.ref a)) (hb : Vl tb σ H (.int k)) (hc : Vl tc σ H (.int m)) (h : SqL K H a (ns.map V.int) ∧ (0 ≤ k ∧ k < 90000) ∧ (0 ≤ m ∧ m ≤ 5000) ∧ Fl H) :
    Nx (tCall (sp_law_drawn_row K) [] E (tCons ta (tCons tb (tCons tc tNil)))) σ H (fun o => ∃ r : List Nat, Tl 0 r ∧ (∀ x ∈ r, (x : Int) ≤ m) ∧ r.length ≤ 40 ∧ o = .lst ((rwI r).map V.int)) := fun Q q =>
  (av_cons ha (av_cons hb (av_cons hc av_nil))) _ ⟨a, ns, k, m, rfl, h.1, h.2.1, h.2.2.1, h.2.2.2, fun r p h1 h2 h3 np => q _ p ⟨r, h1, h2, h3, rfl⟩ np⟩
end
/-! ## lists put together, cut -/
theorem gn_cat {σ : L2.St} {H : Hp} {ta tb : TE} {xs ys : List V} (ha : Nw ta σ H (.lst xs)) (hb : ∀ p, H p = none → Nw tb σ (upd H p (.lst xs)) (.lst ys)) (hz : xs.length + ys.length ≤ 100000) : Gn (tOp rCat ta tb) σ H (.lst (xs ++ ys)) := fun Q q =>
  ha _ fun p np => hb p np _ fun r nr => ⟨p, r, xs, ys, rfl, rfl, at_old upd_same nr, upd_same, Nat.le_trans hz (by decide), fun l nl => q l _ ((same_new' (same_new (Same.refl H) np) nr).free nl) (same_new' (same_new' (same_new (Same.refl H) np) nr) nl) upd_same⟩
theorem cut_init {xs : List V} {v : V} : cutV (xs ++ [v]) none (some (-1)) = xs := by
  unfold cutV
  have hl : (xs ++ [v]).length = xs.length + 1 := by simp
  rw [hl]
  have e : HT.sIx (xs.length + 1) (xs.length + 1) (some (-1)) = xs.length := by
    show (if (-1 : Int) < 0 then ((-1 : Int) + ((xs.length + 1 : Nat) : Int)).toNat else min (-1 : Int).toNat (xs.length + 1)) = _
    rw [if_pos (by decide)]
    omega
  rw [e, HT.sIx_none, Nat.sub_zero, List.drop_zero, List.take_append_of_le_length (Nat.le_refl _), List.take_length]
theorem W_row_lt {r : List Nat} {m : Nat} (h : Tl 0 r) (hx : ∀ x ∈ r, x < m) : W 2 r < mk m := by
  have := W_lt r 0 m h hx (by omega)
  have : fb (0 + 1) = 1 := rfl
  show _ < fb (m + 2)
  omega
theorem Tl_last : ∀ {r : List Nat} {p z : Nat}, Tl p (r ++ [z]) → Tl p r ∧ (∀ x ∈ r, x + 2 ≤ z) ∧ p ≤ z
  | [], p, z, ⟨h, _⟩ => ⟨trivial, fun _ h => (nomatch h), h⟩
  | y :: t, p, z, ⟨a, b⟩ => by
    obtain ⟨h1, h2, h3⟩ := Tl_last b
    refine ⟨⟨a, h1⟩, fun x hx => ?_, by omega⟩
    rcases List.mem_cons.mp hx with rfl | hx
    · exact h3
    · exact h2 x hx
/-! ## lists of whole numbers compared -/
theorem shaped_ints (ns : List Int) : SeqAt.shaped (.list (ns.map PyData.int)) = true := by
  have h1 : ∀ ms : List Int, PyData.canLayAll0 (ms.map PyData.int) = true := fun ms => by
    induction ms with
    | nil => rfl
    | cons n r ih =>
      rw [List.map_cons]
      show (true && _) = true
      rw [ih]
      rfl
  have h2 := depth_ints ns
  unfold SeqAt.shaped
  rw [Bool.and_eq_true]
  refine ⟨h1 ns, decide_eq_true ?_⟩
  show PyData.depthAll (ns.map PyData.int) + 1 ≤ 64
  omega
theorem eqv_ints : ∀ ns ms : List Int, PyData.eqvAll (ns.map PyData.int) (ms.map PyData.int) = decide (ns = ms)
  | [], [] => rfl
  | [], _ :: _ => rfl
  | _ :: _, [] => rfl
  | n :: r, m :: u => by
    show ((n == m) && PyData.eqvAll (r.map PyData.int) (u.map PyData.int)) = _
    rw [eqv_ints r u]
    by_cases h : n = m <;> by_cases k : r = u <;> simp [h, k]
section
variable {K : PySem.W.Frag} {σ : L2.St} {H : Hp} {ta tb tc : TE} {E : XK}
theorem vl_eqLI {p q : Addr} {ns ms : List Int} (ha : Vl ta σ H (.ref p)) (hb : Vl tb σ H (.ref q)) (h1 : SqL K H p (ns.map V.int)) (h2 : SqL K H q (ms.map V.int)) : Vl (tOp (rEqD K) ta tb) σ H (.bl (decide (ns = ms))) :=
  vl_op ha hb fun _ k => ⟨_, _, .lst h1 (dpAll_ints ns), .lst h2 (dpAll_ints ms), shaped_ints ns, shaped_ints ms, by
    show _
    rw [← eqv_ints ns ms] at k
    exact k⟩
/-- with a written list -/
theorem gv_eqLI {p : Addr} {ns ms : List Int} (ha : Vl ta σ H (.ref p)) (hb : Nw tb σ H (.lst (ms.map V.int))) (h1 : SqL K H p (ns.map V.int)) : Gv (tOp (rEqD K) ta tb) σ H (.bl (decide (ns = ms))) := fun Q k =>
  ha _ (hb _ fun r nr => ⟨_, _, .lst (sq_old h1 nr) (dpAll_ints ns), .lst (SqL.of upd_same) (dpAll_ints ms), shaped_ints ns, shaped_ints ms, by
    have k2 := k (upd H r (.lst (ms.map V.int))) (same_new (Same.refl H) nr)
    rw [← eqv_ints ns ms] at k2
    exact k2⟩)
/-- list(range(a, b)) -/
theorem nw_listRg {a b : Int} (ha : Vl ta σ H (.int a)) (hb : Vl tb σ H (.int b)) (h : 0 ≤ a ∧ a ≤ 10000 ∧ 0 ≤ b ∧ b ≤ 10000) : Nw (tLstRg (tRg2 ta tb)) σ H (.lst (rgV a b)) := fun Q q =>
  ha _ (hb _ ⟨a, b, rfl, rfl, RgOk.of_le (by omega) (by omega) (by omega) (by omega), q⟩)
theorem rgV_row {a b : Nat} : rgV (a : Int) (b : Int) = (rwI ((List.range (b - a)).map (a + ·))).map V.int := by
  unfold rgV rwI
  rw [List.map_map, List.map_map, show ((b : Int) - (a : Int)).toNat = b - a by omega]
  rfl
/-- a list and a new one -/
theorem gn_catV {p : Addr} {xs ys : List V} (ha : Vl ta σ H (.ref p)) (hb : Nw tb σ H (.lst ys)) (hp : H p = some (.lst xs)) (hz : xs.length + ys.length ≤ 100000) : Gn (tOp rCat ta tb) σ H (.lst (xs ++ ys)) := fun Q q =>
  ha _ (hb _ fun r nr => ⟨p, r, xs, ys, rfl, rfl, at_old hp nr, upd_same, Nat.le_trans hz (by decide), fun l nl => q l _ ((same_new (Same.refl H) nr).free nl) (same_new' (same_new (Same.refl H) nr) nl) upd_same⟩)
/-! ## rising rows -/
/-- the places k (counted from 0) behind which the next one stands -/
def nearL (r : List Nat) : List Nat := (List.range (r.length - 1)).filter fun i => decide (r.getD (i + 1) 0 = r.getD i 0 + 1)
def sp_is_apart (K : PySem.W.Frag) : Sp := fun vs H Q _ => ∃ (a : Addr) (r : List Nat), vs = [.ref a] ∧ SqL K H a ((rwI r).map V.int) ∧ r.length ≤ 100000 ∧ Fl H ∧ Q (.bl (nearL r).isEmpty) H
theorem vl_is_apart {a : Addr} {r : List Nat} (ha : Vl ta σ H (.ref a)) (h : SqL K H a ((rwI r).map V.int) ∧ r.length ≤ 100000 ∧ Fl H) : Vl (tCall (sp_is_apart K) [] E (tCons ta tNil)) σ H (.bl (nearL r).isEmpty) := vl_call (av_cons ha av_nil) fun _ q => ⟨a, r, rfl, h.1, h.2.1, h.2.2, q⟩
def sp_law_right (K : PySem.W.Frag) : Sp := fun vs H Q _ => ∃ (a : Addr) (r : List Nat), vs = [.ref a] ∧ SqL K H a ((rwI r).map V.int) ∧ (r.Pairwise (· < ·) ∧ r.length ≤ 500 ∧ ∀ x ∈ r, x ≤ 5000) ∧ Fl H ∧ Q (.bl true) H
theorem vl_law_right {a : Addr} {r : List Nat} (ha : Vl ta σ H (.ref a)) (h : SqL K H a ((rwI r).map V.int) ∧ (r.Pairwise (· < ·) ∧ r.length ≤ 500 ∧ ∀ x ∈ r, x ≤ 5000) ∧ Fl H) : Vl (tCall (sp_law_right K) [] E (tCons ta tNil)) σ H (.bl true) := vl_call (av_cons ha av_nil) fun _ q => ⟨a, r, rfl, h.1, h.2.1, h.2.2, q⟩
def sp_law_rising (K : PySem.W.Frag) : Sp := fun vs H Q _ => ∃ (a : Addr) (ns : List Int), vs = [.ref a] ∧ SqL K H a (ns.map V.int) ∧ Fl H ∧
  ∀ (r : List Nat) p, r.Pairwise (· < ·) → (∀ x ∈ r, x ≤ 400) → r.length ≤ 60 → H p = none → Q (.ref p) (upd H p (.lst ((rwI r).map V.int)))
theorem nx_law_rising {a : Addr} {ns : List Int} (ha : Vl ta σ H (.ref a)) (h : SqL K H a (ns.map V.int) ∧ Fl H) :
    Nx (tCall (sp_law_rising K) [] E (tCons ta tNil)) σ H (fun o => ∃ r : List Nat, r.Pairwise (· < ·) ∧ (∀ x ∈ r, x ≤ 400) ∧ r.length ≤ 60 ∧ o = .lst ((rwI r).map V.int)) := fun Q q =>
  (av_cons ha av_nil) _ ⟨a, ns, rfl, h.1, h.2, fun r p h1 h2 h3 np => q _ p ⟨r, h1, h2, h3, rfl⟩ np⟩
end
theorem pw_snoc {r : List Nat} {z : Nat} (h : r.Pairwise (· < ·)) (hz : ∀ x ∈ r, x < z) : (r ++ [z]).Pairwise (· < ·) := by
  rw [List.pairwise_append]
  refine ⟨h, List.pairwise_singleton _ _, fun x hx y hy => ?_⟩
  have e : y = z := by simpa using hy
  subst e
  exact hz x hx
theorem as_neTrue {σ : L2.St} {H : Hp} {ta tb : TE} {b c : Bool} (ha : Vl ta σ H (.bl b)) (hb : Vl tb σ H (.bl c)) : Vl (tOp rEq ta tb) σ H (.bl (decide (b = c))) := vl_is (vl_eq ha hb rfl) (by
  have : decide (V.bl b = V.bl c) = decide (b = c) := decide_eq_decide.mpr ⟨fun e => V.bl.inj e, fun e => e ▸ rfl⟩
  rw [this])
end Tw

namespace Tw
open PySem PySem.Spec PyProof.Rows L2
/-! ## rows moved -/
def mvL (d : Int) (r : List Nat) : List Nat := (r.filter fun (p : Nat) => decide (0 ≤ (p : Int) + d)).map fun (p : Nat) => ((p : Int) + d).toNat
def mv (d : Int) (r : List Nat) : Nat := W 2 (mvL d r)
theorem mvL_up (k : Nat) (u : List Nat) : mvL (-(k : Int)) (u.map (· + k)) = u := by
  unfold mvL
  rw [List.filter_eq_self.mpr (fun p hp => by
    obtain ⟨q, _, rfl⟩ := List.mem_map.mp hp
    exact decide_eq_true (by omega)), List.map_map]
  rw [show ((fun (p : Nat) => ((p : Int) + -(k : Int)).toNat) ∘ fun x => x + k) = fun (x : Nat) => x from funext fun x => by
    show (((x + k : Nat) : Int) + -(k : Int)).toNat = x
    omega]
  exact List.map_id' _
theorem mv_one (r : List Nat) : mv 1 r = W 3 r := by
  unfold mv mvL
  rw [List.filter_eq_self.mpr (fun p _ => decide_eq_true (by omega))]
  rw [show (fun (p : Nat) => ((p : Int) + 1).toNat) = fun (x : Nat) => x + 1 from funext fun x => by omega]
  exact W_up 2 1 r
theorem mv_m1 {r : List Nat} (h : Tl 0 r) (hh : r.head? ≠ some 0) : mv (-1) r = W 1 r := by
  obtain ⟨u, rfl, _⟩ := Tl_down r 0 1 (h.pos hh)
  unfold mv
  have e := mvL_up 1 u
  rw [show (-((1 : Nat) : Int)) = -1 from rfl] at e
  rw [e, W_up]
theorem mv_m2 {r : List Nat} (h : Tl 0 r) : mv (-2) r + (if 1 ∈ r then 1 else 0) = W 0 r := by
  have two : ∀ u : List Nat, mvL (-2) (u.map (· + 2)) = u := fun u => mvL_up 2 u
  have skip : ∀ (x : Nat) (u : List Nat), x < 2 → mvL (-2) (x :: u.map (· + 2)) = u := fun x u hx => by
    unfold mvL
    rw [List.filter_cons, if_neg (by
      rw [decide_eq_true_eq]
      omega)]
    exact two u
  have no1 : ∀ u : List Nat, ¬ (1 ∈ u.map (· + 2)) := fun u z => by
    obtain ⟨x, _, e⟩ := List.mem_map.mp z
    omega
  cases r with
  | nil => rfl
  | cons q t =>
    by_cases h2 : q < 2
    · obtain ⟨u, rfl, hu⟩ := Tl_down t 0 2 (h.2.mono (by omega))
      unfold mv
      rw [skip q u h2]
      show _ = fb (q + 0) + W 0 (u.map (· + 2))
      rw [W_up]
      by_cases hq : q = 0
      · subst hq
        rw [if_neg (by
          intro z
          rcases List.mem_cons.mp z with e | e
          · cases e
          · exact no1 u e)]
        show W 2 u + 0 = 0 + W 2 u
        omega
      · have e : q = 1 := by omega
        subst e
        rw [if_pos List.mem_cons_self]
        show W 2 u + 1 = 1 + W 2 u
        omega
    · obtain ⟨u, e, hu⟩ := Tl_down (q :: t) 0 2 ⟨by omega, h.2⟩
      rw [e, if_neg (no1 u)]
      unfold mv
      rw [two, W_up]
      rfl
theorem pw_mvL {r : List Nat} (h : r.Pairwise (· < ·)) (d : Int) : (mvL d r).Pairwise (· < ·) := by
  unfold mvL
  rw [List.pairwise_map]
  refine (List.Pairwise.filter _ h).imp_of_mem fun {a b} ha hb hab => ?_
  have h1 := of_decide_eq_true (List.mem_filter.mp ha).2
  omega
/-! ## low and high -/
/-- the low number of a count, the high one -/
def lowN (c : Nat) : Nat := AA 3 (c - 1) + 1
def highN (c : Nat) : Nat := lowN c + c
def kindC (n : Nat) : Nat := if sg (n - 1) = true then AA 0 n else AA 1 (n - 1) + 1
def kindS (n : Nat) : Str := if sg (n - 1) = true then "high" else "low"
theorem AA3_le (n : Nat) : AA 3 n ≤ 2 * n := by
  have h1 : AA 3 n = AA 2 n + AA 1 n := AA_rec 1 n
  have h2 : AA 2 n = AA 1 n + AA 0 n := AA_rec 0 n
  have h3 := AA_2 n
  omega
theorem AA4 (n : Nat) : AA 4 n = AA 3 n + n := by
  have h1 : AA 4 n = AA 3 n + AA 2 n := AA_rec 2 n
  have h3 := AA_2 n
  omega
/-- a low number: what kind_of tells -/
theorem low_kind {c : Nat} (h : 1 ≤ c) : sg (lowN c - 1) = false ∧ kindC (lowN c) = c := by
  have e : lowN c - 1 = AA 3 (c - 1) := rfl
  have hs : sg (lowN c - 1) = false := by
    rw [e]
    exact sg_up _
  refine ⟨hs, ?_⟩
  unfold kindC
  rw [hs, if_neg (by decide), e, AA_up, AA_2]
  omega
theorem high_kind {c : Nat} (h : 1 ≤ c) : sg (highN c - 1) = true ∧ kindC (highN c) = c := by
  have e : highN c - 1 = AA 4 (c - 1) + 1 := by
    unfold highN lowN
    rw [AA4]
    omega
  have e2 : highN c = AA 4 (c - 1) + 1 + 1 := by
    unfold highN lowN at *
    omega
  have hs : sg (highN c - 1) = true := by
    rw [e]
    exact sg_two _
  refine ⟨hs, ?_⟩
  unfold kindC
  rw [hs, if_pos rfl, e2]
  have k := AA_t (sg_two (c - 1)) 0
  rw [AA0_two] at k
  have f0 : fb 0 = 0 := rfl
  have f1 : fb (0 + 1) = 1 := rfl
  omega
theorem kind_low {n : Nat} (h : 1 ≤ n) (hs : sg (n - 1) = false) : lowN (kindC n) = n := by
  unfold kindC lowN
  rw [hs, if_neg (by decide), Nat.add_sub_cancel, sg_down hs]
  omega
theorem kindC_high {n : Nat} (h : 1 ≤ n) (hs : sg (n - 1) = true) : kindC n = AA 0 (n - 1) + 1 := by
  unfold kindC
  rw [hs, if_pos rfl]
  have k := AA_t hs 0
  rw [show n - 1 + 1 = n by omega] at k
  have f0 : fb 0 = 0 := rfl
  have f1 : fb (0 + 1) = 1 := rfl
  omega
theorem kind_high {n : Nat} (h : 1 ≤ n) (hs : sg (n - 1) = true) : highN (kindC n) = n := by
  have e := kindC_high h hs
  have b := sg_back hs
  rw [AA4] at b
  unfold highN lowN
  rw [e, Nat.add_sub_cancel]
  omega
theorem kindC_pos {n : Nat} (h : 1 ≤ n) : 1 ≤ kindC n := by
  cases hs : sg (n - 1) with
  | true =>
    rw [kindC_high h hs]
    omega
  | false =>
    unfold kindC
    rw [hs, if_neg (by decide)]
    omega
theorem kindC_le {n : Nat} (h : 1 ≤ n) : kindC n ≤ n := by
  cases hs : sg (n - 1) with
  | true =>
    have := kind_high h hs
    unfold highN at this
    omega
  | false =>
    have := kind_low h hs
    unfold lowN at this
    have h1 : AA 3 (kindC n - 1) = AA 2 (kindC n - 1) + AA 1 (kindC n - 1) := AA_rec 1 _
    rw [AA_2] at h1
    omega
/-- the low number of the next count is one or two greater -/
theorem low_step {c : Nat} (h : 1 ≤ c) : lowN (c + 1) = lowN c + 1 ∨ lowN (c + 1) = lowN c + 2 := by
  have e : lowN (c + 1) = AA 3 (c - 1 + 1) + 1 := by
    unfold lowN
    rw [show c + 1 - 1 = c - 1 + 1 by omega]
  have e2 : lowN c = AA 3 (c - 1) + 1 := rfl
  have f3 : fb 3 = 2 := rfl
  have f4 : fb (3 + 1) = 3 := rfl
  cases hs : sg (c - 1) with
  | true =>
    have := AA_t hs 3
    omega
  | false =>
    have := AA_f hs 3
    omega
theorem W10 : ∀ (r : List Nat) (p : Nat), 1 ≤ p → Tl p r → W 1 r ≤ 2 * W 0 r
  | [], _, _, _ => Nat.le_refl _
  | q :: t, p, hp, ⟨a, b⟩ => by
    have ih := W10 t (q + 2) (by omega) b
    show fb (q + 1) + W 1 t ≤ 2 * (fb (q + 0) + W 0 t)
    have e : fb (q + 1) ≤ 2 * fb q := by
      obtain ⟨x, rfl⟩ : ∃ x, q = x + 1 := ⟨q - 1, by omega⟩
      rw [fb_rec]
      have := fb_mono (show x ≤ x + 1 by omega)
      omega
    have e0 : fb (q + 0) = fb q := rfl
    omega
theorem AA10 (n : Nat) : AA 1 n ≤ 2 * AA 0 n + 1 := by
  unfold AA
  have h := rowN_ok n
  cases hs : sg n with
  | false =>
    have := W10 _ 1 (Nat.le_refl _) (h.pos (sg_f hs))
    omega
  | true =>
    obtain ⟨t, e⟩ := sg_t hs
    rw [e] at h ⊢
    have := W10 t 2 (by omega) h.2
    show fb (0 + 1) + W 1 t ≤ 2 * (fb (0 + 0) + W 0 t) + 1
    have f1 : fb (0 + 1) = 1 := rfl
    omega
theorem AA01 (n : Nat) : AA 0 n ≤ AA 1 n := by
  unfold AA
  generalize rowN n = r
  induction r with
  | nil => exact Nat.le_refl _
  | cons q t ih =>
    show fb (q + 0) + W 0 t ≤ fb (q + 1) + W 1 t
    have := fb_mono (show q + 0 ≤ q + 1 by omega)
    omega
theorem AA_sum (n : Nat) : AA 1 n + AA 0 n = n := by
  have h2 : AA 2 n = AA 1 n + AA 0 n := AA_rec 0 n
  rw [AA_2] at h2
  omega
/-! ## promises -/
section
variable {K : PySem.W.Frag} {σ : L2.St} {H : Hp} {ta tb tc te : TE} {E : XK}
def sp_moved (K : PySem.W.Frag) : Sp := fun vs H Q _ => ∃ (a : Addr) (r : List Nat) (d : Int), vs = [.ref a, .int d] ∧ SqL K H a ((rwI r).map V.int) ∧ (r.Pairwise (· < ·) ∧ r.length ≤ 100000) ∧ Fl H ∧ Q (.int (mv d r : Int)) H
theorem vl_moved {a : Addr} {r : List Nat} {d : Int} (ha : Vl ta σ H (.ref a)) (hb : Vl tb σ H (.int d)) (h : SqL K H a ((rwI r).map V.int) ∧ (r.Pairwise (· < ·) ∧ r.length ≤ 100000) ∧ Fl H) : Vl (tCall (sp_moved K) [] E (tCons ta (tCons tb tNil))) σ H (.int (mv d r : Int)) :=
  vl_call (av_cons ha (av_cons hb av_nil)) fun _ q => ⟨a, r, d, rfl, h.1, h.2.1, h.2.2, q⟩
theorem gv_moved {r : List Nat} {d : Int} {xs : List V} (ha : Nw ta σ H (.lst xs)) (hb : ∀ p, H p = none → Vl tb σ (upd H p (.lst xs)) (.int d)) (h : xs = (rwI r).map V.int ∧ (r.Pairwise (· < ·) ∧ r.length ≤ 100000) ∧ Fl H) : Gv (tCall (sp_moved K) [] E (tCons ta (tCons tb tNil))) σ H (.int (mv d r : Int)) :=
  gv_call2 ha hb fun p np Q q => ⟨p, r, d, rfl, SqL.of (h.1 ▸ upd_same), h.2.1, h.2.2.upd rfl, q⟩
def sp_low_of : Sp := fun vs H Q _ => ∃ (c : Nat), vs = [.int (c : Int)] ∧ (1 ≤ c ∧ c < mk 400) ∧ Fl H ∧ Q (.int (lowN c : Int)) H
theorem vl_low_of {c : Nat} (ha : Vl ta σ H (.int (c : Int))) (h : (1 ≤ c ∧ c < mk 400) ∧ Fl H) : Vl (tCall sp_low_of [] E (tCons ta tNil)) σ H (.int (lowN c : Int)) := vl_call (av_cons ha av_nil) fun _ q => ⟨c, rfl, h.1, h.2, q⟩
def sp_high_of : Sp := fun vs H Q _ => ∃ (c : Nat), vs = [.int (c : Int)] ∧ (1 ≤ c ∧ c < mk 400) ∧ Fl H ∧ Q (.int (highN c : Int)) H
theorem vl_high_of {c : Nat} (ha : Vl ta σ H (.int (c : Int))) (h : (1 ≤ c ∧ c < mk 400) ∧ Fl H) : Vl (tCall sp_high_of [] E (tCons ta tNil)) σ H (.int (highN c : Int)) := vl_call (av_cons ha av_nil) fun _ q => ⟨c, rfl, h.1, h.2, q⟩
def kindV (n : Nat) : HO := .tup [.str (kindS n), .int (kindC n : Int)]
def sp_kind_of : Sp := fun vs H Q _ => ∃ (n : Nat), vs = [.int (n : Int)] ∧ (1 ≤ n ∧ n < mk 400) ∧ Fl H ∧ ∀ p, H p = none → Q (.ref p) (upd H p (kindV n))
theorem nw_kind_of {n : Nat} (ha : Vl ta σ H (.int (n : Int))) (h : (1 ≤ n ∧ n < mk 400) ∧ Fl H) : Nw (tCall sp_kind_of [] E (tCons ta tNil)) σ H (kindV n) := nw_call (av_cons ha av_nil) fun _ q => ⟨n, rfl, h.1, h.2, q⟩
/-! ## tuples of a text and a number -/
theorem shaped_si {w : Str} (h : PySem.PyData.strOk w = true) (i : Int) : SeqAt.shaped (.tuple [.str w, .int i]) = true := by
  unfold SeqAt.shaped
  rw [Bool.and_eq_true]
  refine ⟨?_, decide_eq_true ?_⟩
  · show (PySem.PyData.strOk w && (true && true)) = true
    rw [h]
    rfl
  · simp [PyData.depth, PyData.depthAll]
theorem eqv_si (w u : Str) (i j : Int) : PyData.eqv (.tuple [.str w, .int i]) (.tuple [.str u, .int j]) = (w == u && (i == j)) := by
  show (w == u && ((i == j) && true)) = _
  rw [Bool.and_true]
theorem dp_si {p : Addr} {w : Str} {i : Int} (h : H p = some (.tup [.str w, .int i])) : Dp K H (.ref p) (.tuple [.str w, .int i]) := .tup (SqT.of h) (.cons (.str w) (.cons (.int i) .nil))
theorem gv_eqSI {p : Addr} {w u : Str} {i j : Int} (hw : PySem.PyData.strOk w = true) (hu : PySem.PyData.strOk u = true) (ha : Vl ta σ H (.ref p)) (hb : Nw tb σ H (.tup [.str u, .int j])) (h1 : H p = some (.tup [.str w, .int i])) : Gv (tOp (rEqD K) ta tb) σ H (.bl (w == u && (i == j))) := fun Q k =>
  ha _ (hb _ fun r nr => ⟨_, _, dp_si (at_old h1 nr), dp_si upd_same, shaped_si hw i, shaped_si hu j, by
    rw [eqv_si]
    exact k _ (same_new (Same.refl H) nr)⟩)
theorem gv_neSI {w u : Str} {i j : Int} (hw : PySem.PyData.strOk w = true) (hu : PySem.PyData.strOk u = true) (ha : Nw ta σ H (.tup [.str w, .int i])) (hb : ∀ p, H p = none → Nw tb σ (upd H p (.tup [.str w, .int i])) (.tup [.str u, .int j])) : Gv (tOp (rNeD K) ta tb) σ H (.bl (!(w == u && (i == j)))) := fun Q k =>
  ha _ fun p np => hb p np _ fun r nr => ⟨_, _, dp_si (at_old upd_same nr), dp_si upd_same, shaped_si hw i, shaped_si hu j, by
    rw [eqv_si]
    exact k _ (same_new' (same_new (Same.refl H) np) nr)⟩
theorem strOk_kind (n : Nat) : PySem.PyData.strOk (kindS n) = true := by
  unfold kindS
  cases sg (n - 1) with
  | true => decide +kernel
  | false => decide +kernel
/-! ## numbers that are drawn, further -/
theorem va_max2 {P : V → Prop} {i : Int} (ha : Vl ta σ H (.int i)) (hb : Va tb σ H P) (hP : ∀ v, P v → ∃ x, v = .int x) : Va (tCB (fun xs H Q => ∃ i j, xs = [.int i, .int j] ∧ Q (.int (if j > i then j else i)) H) (tCons ta (tCons tb tNil))) σ H (fun v => ∃ x, v = .int (max i x) ∧ P (.int x)) := fun Q q =>
  ha _ (hb _ fun v hv => by
    obtain ⟨x, rfl⟩ := hP v hv
    exact ⟨i, x, rfl, by rw [max_eq]; exact q _ ⟨x, rfl, hv⟩⟩)
theorem vl_eqT {x y : Str} (ha : Vl ta σ H (.str x)) (hb : Vl tb σ H (.str y)) : Vl (tOp rEq ta tb) σ H (.bl (decide (x = y))) := vl_is (vl_eq ha hb rfl) (by
  have : decide (V.str x = V.str y) = decide (x = y) := decide_eq_decide.mpr ⟨fun e => V.str.inj e, fun e => e ▸ rfl⟩
  rw [this])
theorem vl_neT {x y : Str} (ha : Vl ta σ H (.str x)) (hb : Vl tb σ H (.str y)) : Vl (tOp rNe ta tb) σ H (.bl (!decide (x = y))) := vl_is (vl_ne ha hb rfl) (by
  have : decide (V.str x = V.str y) = decide (x = y) := decide_eq_decide.mpr ⟨fun e => V.str.inj e, fun e => e ▸ rfl⟩
  rw [this])
end
end Tw

namespace Tw
open PySem PySem.Spec PyProof.Rows L2
/-! ## texts as lists of signs -/
def tx (l : List Nat) : Str := ⟨l.toArray⟩
theorem tx_tl (l : List Nat) : TL.tl (tx l) = l := TL.tl_mk l
theorem tx_len (l : List Nat) : (tx l).length = l.length := by
  rw [TL.len_tl, tx_tl]
theorem tx_app (l m : List Nat) : tx l ++ tx m = tx (l ++ m) := TL.ext_tl (by rw [TL.tl_append, tx_tl, tx_tl, tx_tl])
theorem tx_of (x : Str) : x = tx (TL.tl x) := (TL.mk_tl x).symm
theorem tx_inj {l m : List Nat} (h : tx l = tx m) : l = m := by
  have e := congrArg TL.tl h
  rw [tx_tl, tx_tl] at e
  exact e
theorem tx_dec (l m : List Nat) : decide (tx l = tx m) = decide (l = m) := decide_eq_decide.mpr ⟨tx_inj, fun e => e ▸ rfl⟩
theorem tx_cps (l : List Nat) : (tx l).cps.toList = l := tx_tl l
theorem str_e : ("" : Str) = tx [] := by decide +kernel
theorem str_a : ("a" : Str) = tx [97] := by decide +kernel
theorem str_b : ("b" : Str) = tx [98] := by decide +kernel
theorem str_ab : ("ab" : Str) = tx [97, 98] := by decide +kernel
theorem str_0 : ("0" : Str) = tx [48] := by decide +kernel
theorem str_1 : ("1" : Str) = tx [49] := by decide +kernel
theorem joinL_e : ∀ ls : List (List Nat), TL.joinL [] ls = ls.flatten
  | [] => rfl
  | [l] => by
    show l = l ++ []
    rw [List.append_nil]
  | l :: m :: r => by
    show l ++ ([] ++ TL.joinL [] (m :: r)) = l ++ (m :: r).flatten
    rw [joinL_e (m :: r)]
    rfl
theorem join_tx (ls : List (List Nat)) : Txt.join (tx []) (ls.map tx) = tx ls.flatten := TL.ext_tl (by
  rw [TL.join_eq, TL.tl_join, tx_tl, tx_tl, List.map_map, ← joinL_e, show TL.tl ∘ tx = fun l => l from funext fun l => tx_tl l, List.map_id'])
section
variable {K : PySem.W.Frag} {σ : L2.St} {H : Hp} {ta tb tc te : TE} {E : XK}
theorem join_sum (ls : List (List Nat)) : ((ls.map tx).map (·.length)).sum = (ls.map List.length).sum := by
  rw [List.map_map]
  exact congrArg List.sum (List.map_congr_left fun l _ => tx_len l)
theorem gv_joinX {ls : List (List Nat)} {xs : List V} (hb : Nw tb σ H (.lst xs)) (e : xs = ls.map fun l => V.str (tx l)) (hz : (ls.map List.length).sum ≤ 1000000) : Gv (tM1 (rJoin K) (tC (.str "")) tb) σ H (.str (tx ls.flatten)) := by
  have h := gv_join (K := K) (ta := tC (.str "")) (a := "") (ys := ls.map tx) vl_c hb (by rw [e, List.map_map]; rfl) (by
    rw [join_sum, str_e, tx_len]
    show _ + _ * 0 ≤ _
    omega)
  rw [show Txt.join ("" : Str) (ls.map tx) = tx ls.flatten by rw [str_e, join_tx]] at h
  exact h
theorem flat_one (l : List Nat) : (l.map fun c => [c]).flatten = l := by
  induction l with
  | nil => rfl
  | cons c r ih =>
    rw [List.map_cons, List.flatten_cons, ih]
    rfl
theorem sum_one (l : List Nat) : ((l.map fun c => [c]).map List.length).sum = l.length := by
  induction l with
  | nil => rfl
  | cons c r ih =>
    rw [List.map_cons, List.map_cons, List.sum_cons, ih]
    show 1 + _ = _ + 1
    omega
/-- signs put together -/
theorem gv_join1 {l : List Nat} {xs : List V} (hb : Nw tb σ H (.lst xs)) (e : xs = l.map fun c => V.str (tx [c])) (hz : l.length ≤ 1000000) : Gv (tM1 (rJoin K) (tC (.str "")) tb) σ H (.str (tx l)) := by
  have h := gv_joinX (K := K) (ls := l.map fun c => [c]) hb (by rw [e, List.map_map]; rfl) (by rw [sum_one]; exact hz)
  rw [flat_one] at h
  exact h
theorem vl_join1 {l : List Nat} {p : Addr} (hb : Vl tb σ H (.ref p)) (hs : SqL K H p (l.map fun c => V.str (tx [c]))) (hz : l.length ≤ 1000000) : Vl (tM1 (rJoin K) (tC (.str "")) tb) σ H (.str (tx l)) := by
  have h := vl_join (K := K) (ta := tC (.str "")) (σ := σ) (H := H) (a := "") (ys := (l.map fun c => [c]).map tx) vl_c hb (by rw [List.map_map, List.map_map]; exact hs) (by
    rw [join_sum, sum_one, str_e, tx_len]
    show _ + _ * 0 ≤ _
    omega)
  rw [str_e, join_tx, flat_one] at h
  rw [str_e]
  exact h
/-! ## the word -/
def wc (n : Nat) : Nat := if sg n = true then 98 else 97
def wordL (k n : Nat) : List Nat := (List.range n).map fun j => wc (k + j)
theorem wordL_len (k n : Nat) : (wordL k n).length = n := by
  unfold wordL
  rw [List.length_map, List.length_range]
def sp_sign_at : Sp := fun vs H Q _ => ∃ (n : Nat), vs = [.int (n : Int)] ∧ n < mk 400 ∧ Fl H ∧ Q (.str (tx [wc n])) H
theorem vl_sign_at {n : Nat} (ha : Vl ta σ H (.int (n : Int))) (h : n < mk 400 ∧ Fl H) : Vl (tCall sp_sign_at [] E (tCons ta tNil)) σ H (.str (tx [wc n])) := vl_call (av_cons ha av_nil) fun _ q => ⟨n, rfl, h.1, h.2, q⟩
def sp_piece_at : Sp := fun vs H Q _ => ∃ (k n : Nat), vs = [.int (k : Int), .int (n : Int)] ∧ (n ≤ 2000 ∧ k + n ≤ mk 400) ∧ Fl H ∧ Q (.str (tx (wordL k n))) H
theorem vl_piece_at {k n : Nat} (ha : Vl ta σ H (.int (k : Int))) (hb : Vl tb σ H (.int (n : Int))) (h : (n ≤ 2000 ∧ k + n ≤ mk 400) ∧ Fl H) : Vl (tCall sp_piece_at [] E (tCons ta (tCons tb tNil))) σ H (.str (tx (wordL k n))) := vl_call (av_cons ha (av_cons hb av_nil)) fun _ q => ⟨k, n, rfl, h.1, h.2, q⟩
def countsV (n : Nat) : HO := .tup [.int (AA 1 n : Int), .int (AA 0 n : Int)]
def sp_counts_ahead : Sp := fun vs H Q _ => ∃ (n : Nat), vs = [.int (n : Int)] ∧ n < mk 400 ∧ Fl H ∧ ∀ p, H p = none → Q (.ref p) (upd H p (countsV n))
theorem nw_counts_ahead {n : Nat} (ha : Vl ta σ H (.int (n : Int))) (h : n < mk 400 ∧ Fl H) : Nw (tCall sp_counts_ahead [] E (tCons ta tNil)) σ H (countsV n) := nw_call (av_cons ha av_nil) fun _ q => ⟨n, rfl, h.1, h.2, q⟩
theorem mem0_row (n : Nat) : decide ((0 : Int) ∈ rwI (rowN n)) = sg n := by
  rw [sg_mem]
  refine decide_eq_decide.mpr ⟨fun h => ?_, fun h => List.mem_map.mpr ⟨0, h, rfl⟩⟩
  obtain ⟨x, hx, e⟩ := List.mem_map.mp h
  have : x = 0 := by omega
  subst this
  exact hx
theorem mem1_row (r : List Nat) : decide ((1 : Int) ∈ rwI r) = decide (1 ∈ r) := by
  refine decide_eq_decide.mpr ⟨fun h => ?_, fun h => List.mem_map.mpr ⟨1, h, rfl⟩⟩
  obtain ⟨x, hx, e⟩ := List.mem_map.mp h
  have : x = 1 := by omega
  subst this
  exact hx
/-- "ab" at a place 0 or 1 -/
theorem at_ab (b : Bool) : atI ("ab" : Str).cps.toList (if b = true then 1 else 0) = some (if b = true then 98 else 97) := by
  rw [str_ab, tx_cps]
  cases b <;> rfl
theorem len_ab : ("ab" : Str).length ≤ sizeLine := by
  rw [str_ab, tx_len]
  decide
/-! ## pairs of whole numbers -/
theorem shaped_ii (i j : Int) : SeqAt.shaped (.tuple [.int i, .int j]) = true := by
  unfold SeqAt.shaped
  rw [Bool.and_eq_true]
  refine ⟨rfl, decide_eq_true ?_⟩
  simp [PyData.depth, PyData.depthAll]
theorem dp_ii {p : Addr} {i j : Int} (h : H p = some (.tup [.int i, .int j])) : Dp K H (.ref p) (.tuple [.int i, .int j]) := .tup (SqT.of h) (.cons (.int i) (.cons (.int j) .nil))
theorem gv_eqII {p : Addr} {i j m n : Int} (ha : Vl ta σ H (.ref p)) (hb : Nw tb σ H (.tup [.int m, .int n])) (h1 : H p = some (.tup [.int i, .int j])) : Gv (tOp (rEqD K) ta tb) σ H (.bl (decide (i = m) && decide (j = n))) := fun Q k =>
  ha _ (hb _ fun r nr => ⟨_, _, dp_ii (at_old h1 nr), dp_ii upd_same, shaped_ii i j, shaped_ii m n, by
    have k2 := k (upd H r (.tup [.int m, .int n])) (same_new (Same.refl H) nr)
    have e : PyData.eqv (.tuple [.int i, .int j]) (.tuple [.int m, .int n]) = (decide (i = m) && decide (j = n)) := by
      show ((i == m) && ((j == n) && true)) = _
      rw [Bool.and_true]
      rfl
    rw [e]
    exact k2⟩)
theorem gv_ixT {xs : List V} {i : Int} {v : V} (ha : Nw ta σ H (.tup xs)) (hb : ∀ p, H p = none → Vl tb σ (upd H p (.tup xs)) (.int i)) (e : atI xs i = some v) : Gv (tOp (rIxT K) ta tb) σ H v :=
  fun Q q => ha _ fun p n => hb p n _ ⟨p, xs, i, v, rfl, rfl, SqT.of upd_same, e, q _ (same_new (Same.refl H) n)⟩
end
/-! ## reversed(range(n)) -/
theorem q_forRev {σ : L2.St} {H : Hp} {ta : TE} {D : Ends} {tu tz : TS} {g : TG} {n : Nat} (h : Vl ta σ H (.int (n : Int))) (hn : n ≤ 100000) (Pv : Nat → L2.St → Hp → Prop) (p0 : Pv 0 σ H)
    (hs : ∀ (i : Nat) σ' H', i < n → Pv i σ' H' → g (.int ((n - 1 - i : Nat) : Int)) σ' H' fun σ2 H2 => tu { D with nx := Pv (i + 1), ct := Pv (i + 1), bk := tz D } σ2 H2) (hd : ∀ σ' H', Pv n σ' H' → tz D σ' H') : tSeq (tFor (iRevR (tRg1 ta)) g tu) tz D σ H := by
  refine h _ ⟨(n : Int), rfl, by omega, by omega, by omega, by omega, ?_⟩
  have e : ((n : Int) - 0).toNat = n := by omega
  rw [e]
  refine for_rangeC (D := { D with nx := tz D }) Pv p0 (fun i σ' H' hi p => ?_) hd
  rw [show (0 + (n : Int) - 1 + (i : Nat) * -1) = ((n - 1 - i : Nat) : Int) by omega]
  exact hs i σ' H' hi p
theorem wordL_take {k n m : Nat} (h : m ≤ n) : (wordL k n).take m = wordL k m := by
  unfold wordL
  rw [← List.map_take, List.take_range, Nat.min_eq_left h]
theorem wordL_at {k n i : Nat} (h : i < n) : (wordL k n)[i]? = some (wc (k + i)) := by
  unfold wordL
  rw [List.getElem?_map, List.getElem?_range h]
  rfl
theorem wc_if (n : Nat) {i : Int} (h : i.toNat = n) : (V.str ⟨#[if decide ((0 : Int) ∈ rwI (rowN i.toNat)) = true then 98 else 97]⟩) = V.str (tx [wc n]) := by
  rw [h, mem0_row]
  rfl
end Tw

namespace Tw
open PySem PySem.Spec PyProof.Rows L2
/-! ## the word grows to itself -/
def gr1 (c : Nat) : List Nat := if c = 97 then [97, 98] else [97]
def grow (l : List Nat) : List Nat := (l.map gr1).flatten
theorem grow_app (l m : List Nat) : grow (l ++ m) = grow l ++ grow m := by
  unfold grow
  rw [List.map_append, List.flatten_append]
theorem grow_one (c : Nat) : grow [c] = gr1 c := by
  unfold grow
  simp
theorem gr1_len (c : Nat) : (gr1 c).length ≤ 2 := by
  unfold gr1
  split <;> decide
theorem grow_len : ∀ l : List Nat, (grow l).length ≤ 2 * l.length
  | [] => Nat.le_refl _
  | c :: t => by
    have := grow_len t
    have h := gr1_len c
    show (gr1 c ++ grow t).length ≤ 2 * (t.length + 1)
    rw [List.length_append]
    omega
theorem wordL_succ (k n : Nat) : wordL k (n + 1) = wordL k n ++ [wc (k + n)] := by
  unfold wordL
  rw [List.range_succ, List.map_append]
  rfl
theorem AA3_eq (n : Nat) : AA 3 n = n + AA 1 n := by
  have := AA_rec 1 n
  rw [AA_2] at this
  exact this
theorem sg_after {n : Nat} (h : sg n = false) : sg (AA 3 n + 1) = true := by
  have e : AA 4 (AA 1 n) = AA 3 n := by
    rw [AA4, sg_down h, AA3_eq]
  rw [← e]
  exact sg_two _
theorem grow_word : ∀ n, grow (wordL 0 n) = wordL 0 (AA 3 n)
  | 0 => rfl
  | n + 1 => by
    rw [wordL_succ, grow_app, grow_word n, grow_one, Nat.zero_add]
    have u : wc (AA 3 n) = 97 := by
      unfold wc
      rw [sg_up]
      rfl
    cases h : sg n with
    | false =>
      have e := AA_f h 3
      have f : fb 3 = 2 := rfl
      rw [f] at e
      rw [e, show AA 3 n + 2 = AA 3 n + 1 + 1 from rfl, wordL_succ, wordL_succ, List.append_assoc, Nat.zero_add, Nat.zero_add, u]
      have u2 : wc (AA 3 n + 1) = 98 := by
        unfold wc
        rw [sg_after h]
        rfl
      have u3 : wc n = 97 := by
        unfold wc
        rw [h]
        rfl
      rw [u2, u3]
      rfl
    | true =>
      have e := AA_t h 3
      have f : fb 3 = 2 := rfl
      have f4 : fb (3 + 1) = 3 := rfl
      rw [f, f4] at e
      rw [show AA 3 (n + 1) = AA 3 n + 1 by omega, wordL_succ, Nat.zero_add, u]
      have u3 : wc n = 98 := by
        unfold wc
        rw [h]
        rfl
      rw [u3]
      rfl
theorem wc_ab (n : Nat) : wc n = 97 ∨ wc n = 98 := by
  unfold wc
  split
  · exact .inr rfl
  · exact .inl rfl
theorem wordL_ab {k n : Nat} : ∀ c ∈ wordL k n, c = 97 ∨ c = 98 := fun c h => by
  unfold wordL at h
  obtain ⟨j, _, rfl⟩ := List.mem_map.mp h
  exact wc_ab _
theorem take_succ {l : List Nat} {i c : Nat} (h : l[i]? = some c) : l.take (i + 1) = l.take i ++ [c] := by
  rw [List.take_add_one, h]
  rfl
theorem grow_take {l : List Nat} {i c : Nat} (h : l[i]? = some c) : grow (l.take (i + 1)) = grow (l.take i) ++ gr1 c := by
  rw [take_succ h, grow_app, grow_one]
def sp_grown : Sp := fun vs H Q _ => ∃ (l : List Nat), vs = [.str (tx l)] ∧ l.length ≤ 2000 ∧ Fl H ∧ Q (.str (tx (grow l))) H
section
variable {K : PySem.W.Frag} {σ : L2.St} {H : Hp} {ta tb tc te : TE} {E : XK}
theorem vl_grown {l : List Nat} (ha : Vl ta σ H (.str (tx l))) (h : l.length ≤ 2000 ∧ Fl H) : Vl (tCall sp_grown [] E (tCons ta tNil)) σ H (.str (tx (grow l))) := vl_call (av_cons ha av_nil) fun _ q => ⟨l, rfl, h.1, h.2, q⟩
/-- a test of one sign -/
theorem tx_one (c : Nat) : (⟨#[c]⟩ : Str) = tx [c] := rfl
theorem sign_a (c : Nat) : decide (tx [c] = ("a" : Str)) = decide (c = 97) := by
  rw [str_a, tx_dec]
  simp
theorem sign_b (c : Nat) : decide (tx [c] = ("b" : Str)) = decide (c = 98) := by
  rw [str_b, tx_dec]
  simp
theorem q_forS {te : TE} {z : Str} {g : TG} {D : Ends} {tu tz : TS} (h : Vl te σ H (.str z)) (Pv : Nat → L2.St → Hp → Prop) (p0 : Pv 0 σ H)
    (hs : ∀ (i : Nat) (cp : Nat) σ' H', z.cps.toList[i]? = some cp → Pv i σ' H' → g (.str ⟨#[cp]⟩) σ' H' fun σ2 H2 => tu { D with nx := Pv (i + 1), ct := Pv (i + 1), bk := tz D } σ2 H2) (hd : ∀ σ' H', Pv z.cps.toList.length σ' H' → tz D σ' H') : tSeq (tFor (iStr te) g tu) tz D σ H :=
  s_forS (D := { D with nx := tz D }) h Pv p0 hs hd
end
end Tw

namespace Tw
open PySem PySem.Spec PyProof.Rows L2
/-! ## one heap of sticks: the least mark of the row -/
def hd (n : Nat) : Nat := (rowN n).headD 0
def hm (n : Nat) : Nat := mk (hd n)
theorem row_hd {n : Nat} (h : 1 ≤ n) : ∃ t, rowN n = hd n :: t := by
  obtain ⟨q, t, e, _⟩ := head_par (n - 1)
  rw [show n - 1 + 1 = n by omega] at e
  refine ⟨t, ?_⟩
  unfold hd
  rw [e]
  rfl
theorem hm_le {n : Nat} (h : 1 ≤ n) : hm n ≤ n := by
  obtain ⟨t, e⟩ := row_hd h
  have := W_rowN n
  rw [e] at this
  have h2 : fb (hd n + 2) + W 2 t = n := this
  show fb (hd n + 2) ≤ n
  omega
theorem fb_one (n : Nat) : 1 ≤ fb (n + 1) := by
  have h : fb 1 ≤ fb (n + 1) := fb_mono (by omega)
  exact h
theorem hm_pos (n : Nat) : 1 ≤ hm n := fb_one _
theorem hd_lt {n : Nat} (h1 : 1 ≤ n) (h : n < mk 400) : hd n < 400 := by
  obtain ⟨t, e⟩ := row_hd h1
  exact row_below h _ (by rw [e]; exact List.mem_cons_self)
theorem Tl_appd : ∀ {r t : List Nat} {p q : Nat}, Tl p r → (∀ x ∈ r, x < q) → Tl (q + 1) t → p ≤ q + 1 → Tl p (r ++ t)
  | [], t, p, q, _, _, h, hp => h.mono hp
  | x :: r, t, p, q, ⟨a, b⟩, hx, h, hp => ⟨a, Tl_appd b (fun y hy => hx y (List.mem_cons_of_mem _ hy)) h (by
    have := hx x List.mem_cons_self
    omega)⟩
/-- less than the least mark taken: the other can win -/
theorem take_less {n t : Nat} (h : 1 ≤ n) (h1 : 1 ≤ t) (ht : t < hm n) : 1 ≤ n - t ∧ hm (n - t) ≤ 2 * t := by
  obtain ⟨tl, e⟩ := row_hd h
  have hl := hm_le h
  have hT : Tl 0 (hd n :: tl) := e ▸ rowN_ok n
  have hs : fb (hd n + 2) + W 2 tl = n := by
    have := W_rowN n
    rw [e] at this
    exact this
  have hq : hm n = fb (hd n + 2) := rfl
  refine ⟨by omega, ?_⟩
  obtain ⟨y, hy⟩ : ∃ y, y + t = hm n := ⟨hm n - t, by omega⟩
  have hy1 : 1 ≤ y := by omega
  have hyq : y < mk (hd n) := by
    show y < hm n
    omega
  have hb := row_below hyq
  have ht2 : Tl 0 (rowN y ++ tl) := Tl_appd (q := hd n) (rowN_ok y) hb (hT.2.mono (by omega)) (by omega)
  have hw : W 2 (rowN y ++ tl) = n - t := by
    rw [W_app, W_rowN]
    omega
  have er : rowN (n - t) = rowN y ++ tl := by
    rw [← hw, row_is ht2]
  obtain ⟨u, ey⟩ := row_hd hy1
  have eh : hd (n - t) = hd y := by
    unfold hd
    rw [er, ey]
    rfl
  have hTy : Tl (hd y) (rowN y) := by
    have := rowN_ok y
    rw [ey] at this ⊢
    exact ⟨Nat.le_refl _, this.2⟩
  have hbq : hd y < hd n := hb _ (by rw [ey]; exact List.mem_cons_self)
  have hW := W_lt (rowN y) (hd y) (hd n) hTy hb (by omega)
  rw [W_rowN] at hW
  have m1 : fb (hd y) ≤ fb (hd y + 1) := fb_mono (by omega)
  have e2 : fb (hd y + 2) = fb (hd y + 1) + fb (hd y) := fb_rec _
  show fb (hd (n - t) + 2) ≤ 2 * t
  rw [eh]
  omega
/-- the least mark taken: the other can not -/
theorem take_mark {n : Nat} (h : 1 ≤ n) : n - hm n = 0 ∨ 1 ≤ n - hm n ∧ 2 * hm n < hm (n - hm n) := by
  obtain ⟨tl, e⟩ := row_hd h
  have hT : Tl 0 (hd n :: tl) := e ▸ rowN_ok n
  have hs : fb (hd n + 2) + W 2 tl = n := by
    have := W_rowN n
    rw [e] at this
    exact this
  have hq : hm n = fb (hd n + 2) := rfl
  by_cases z : n - hm n = 0
  · exact .inl z
  · refine .inr ⟨by omega, ?_⟩
    have er : rowN (n - hm n) = tl := by
      rw [show n - hm n = W 2 tl by omega, row_is (hT.2.mono (by omega))]
    obtain ⟨u, ey⟩ := row_hd (n := n - hm n) (by omega)
    have h3 := hT.2
    rw [← er, ey] at h3
    have h4 : fb (hd n + 2 + 2) ≤ fb (hd (n - hm n) + 2) := fb_mono (by have := h3.1; omega)
    have e1 : fb (hd n + 2 + 2) = fb (hd n + 2 + 1) + fb (hd n + 2) := fb_rec _
    have e2 : fb (hd n + 1 + 2) = fb (hd n + 1 + 1) + fb (hd n + 1) := fb_rec _
    have e3 : fb (hd n + 2 + 1) = fb (hd n + 1 + 2) := rfl
    have e4 : fb (hd n + 1 + 1) = fb (hd n + 2) := rfl
    have := fb_one (hd n)
    show 2 * fb (hd n + 2) < fb (hd (n - hm n) + 2)
    omega
/-- whether the one to move can win -/
def wn (k m : Nat) : Bool := decide (1 ≤ k ∧ hm k ≤ m)
/-- what a take of so many does -/
theorem wn_take {n t w : Nat} (h : 1 ≤ n) (h1 : 1 ≤ t) (hn : t ≤ n) (hw : n ≤ w) (ht : t ≤ hm n) : wn (n - t) (min (2 * t) w) = !decide (t = hm n) := by
  unfold wn
  rcases Nat.lt_or_ge t (hm n) with z | z
  · have ⟨a, b⟩ := take_less h h1 z
    have c := hm_le a
    rw [decide_eq_true (⟨a, by omega⟩ : 1 ≤ n - t ∧ hm (n - t) ≤ min (2 * t) w), decide_eq_false (show ¬ t = hm n by omega)]
    rfl
  · have e : t = hm n := by omega
    rw [decide_eq_true e]
    refine decide_eq_false fun c => ?_
    rw [e] at c
    rcases take_mark h with q | q <;> omega
theorem wn_step {n m w : Nat} (h : 1 ≤ n) (hw : n ≤ w) : wn n (m + 1) = (wn n m || (decide (m + 1 ≤ n) && !wn (n - (m + 1)) (min (2 * (m + 1)) w))) := by
  have hl := hm_le h
  rcases Nat.lt_or_ge (hm n) (m + 1) with z | z
  · have a : wn n (m + 1) = true := decide_eq_true ⟨h, by omega⟩
    have b : wn n m = true := decide_eq_true ⟨h, by omega⟩
    rw [a, b]
    rfl
  · have b : wn n m = false := decide_eq_false (by omega)
    rw [b, Bool.false_or, decide_eq_true (show m + 1 ≤ n by omega), Bool.true_and, wn_take h (by omega) (by omega) hw z, Bool.not_not]
    unfold wn
    refine decide_eq_decide.mpr ⟨fun ⟨_, q⟩ => by omega, fun q => ⟨h, by omega⟩⟩
/-- the table's row -/
def wnR (w k j : Nat) : List V := (List.range j).map fun m => V.bl (wn k m)
theorem wnR_at {w k j m : Nat} (h : m < j) : (wnR w k j)[m]? = some (.bl (wn k m)) := by
  unfold wnR
  rw [List.getElem?_map, List.getElem?_range h]
  rfl
theorem wnR_succ (w k j : Nat) : wnR w k (j + 1) = wnR w k j ++ [.bl (wn k j)] := by
  unfold wnR
  rw [List.range_succ, List.map_append]
  rfl
theorem wnR_len (w k j : Nat) : (wnR w k j).length = j := by
  unfold wnR
  rw [List.length_map, List.length_range]
/-! ## take -/
def takeV (n : Nat) (m : Int) : V := if (hm n : Int) ≤ m then .int (hm n : Int) else .non
def sp_take : Sp := fun vs H Q _ => ∃ (n : Nat) (m : Int), vs = [.int (n : Int), .int m] ∧ (1 ≤ n ∧ n < mk 400) ∧ Fl H ∧ Q (takeV n m) H
/-! ## tables: a list of lists -/
def Tb (H : Hp) (p : Addr) (ps : List Addr) (rows : List (List V)) : Prop := H p = some (.lst (ps.map V.ref)) ∧ ps.length = rows.length ∧ ∀ (k : Nat) (q : Addr) (r : List V), ps[k]? = some q → rows[k]? = some r → q ≠ p ∧ H q = some (.lst r)
theorem Tb.new {H : Hp} {p r : Addr} {ps : List Addr} {rows : List (List V)} {o : HO} (h : Tb H p ps rows) (n : H r = none) : Tb (L2.upd H r o) p ps rows :=
  ⟨at_old h.1 n, h.2.1, fun k q x h1 h2 => ⟨(h.2.2 k q x h1 h2).1, at_old (h.2.2 k q x h1 h2).2 n⟩⟩
theorem Tb.app {H : Hp} {p r : Addr} {ps : List Addr} {rows : List (List V)} {x : List V} (h : Tb H p ps rows) (hr : H r = some (.lst x)) (ne : r ≠ p) : Tb (L2.upd H p (.lst ((ps ++ [r]).map V.ref))) p (ps ++ [r]) (rows ++ [x]) := by
  refine ⟨upd_same, by rw [List.length_append, List.length_append, h.2.1]; rfl, fun k q y h1 h2 => ?_⟩
  rcases Nat.lt_or_ge k ps.length with hk | hk
  · rw [List.getElem?_append_left hk] at h1
    rw [List.getElem?_append_left (by rw [← h.2.1]; exact hk)] at h2
    have := h.2.2 k q y h1 h2
    exact ⟨this.1, at_oth this.2 this.1⟩
  · rw [List.getElem?_append_right hk] at h1
    rw [List.getElem?_append_right (by rw [← h.2.1]; exact hk), ← h.2.1] at h2
    have e : k - ps.length = 0 := by
      cases z : k - ps.length with
      | zero => rfl
      | succ m =>
        rw [z] at h1
        cases h1
    rw [e] at h1 h2
    cases h1
    cases h2
    exact ⟨ne, at_oth hr ne⟩
section
variable {K : PySem.W.Frag} {σ : L2.St} {H : Hp} {ta tb tc te : TE} {E : XK} {D : Ends} {tz : TS} {i : Nat}
theorem vl_take {n : Nat} {m : Int} (ha : Vl ta σ H (.int (n : Int))) (hb : Vl tb σ H (.int m)) (h : (1 ≤ n ∧ n < mk 400) ∧ Fl H) : Vl (tCall sp_take [] E (tCons ta (tCons tb tNil))) σ H (takeV n m) := vl_call (av_cons ha (av_cons hb av_nil)) fun _ q => ⟨n, m, rfl, h.1, h.2, q⟩
theorem Tb.row {p : Addr} {ps : List Addr} {rows : List (List V)} (h : Tb H p ps rows) {k : Nat} {r : List V} (hr : rows[k]? = some r) : ∃ q, (ps.map V.ref)[k]? = some (.ref q) ∧ H q = some (.lst r) := by
  have hk : k < ps.length := by
    rw [h.2.1]
    exact (List.getElem?_eq_some_iff.mp hr).1
  refine ⟨ps[k], by rw [List.getElem?_map, List.getElem?_eq_getElem hk]; rfl, (h.2.2 k _ r (List.getElem?_eq_getElem hk) hr).2⟩
/-- table[k][j] -/
theorem vl_tb {p : Addr} {ps : List Addr} {rows : List (List V)} {k j : Nat} {x y : Int} {r : List V} {v : V} (ha : Vl ta σ H (.ref p)) (hb : Vl tb σ H (.int x)) (hc : Vl tc σ H (.int y)) (ex : x = (k : Int)) (ey : y = (j : Int)) (h : Tb H p ps rows) (hr : rows[k]? = some r) (hv : r[j]? = some v) : Vl (tOp (rIxL K) (tOp (rIxL K) ta tb) tc) σ H v := by
  subst ex
  subst ey
  obtain ⟨q, h1, h2⟩ := h.row hr
  exact vl_ixL (vl_ixL ha hb (SqL.of h.1) (atI_nat h1)) hc (SqL.of h2) (atI_nat hv)
/-- [[..]] : a list of one new list -/
theorem q_lst1 {o : HO} (h : Nw te σ H o) (k : ∀ r p, H r = none → upd H r o p = none → tz D (σ.set i (some (.ref p))) (upd (upd H r o) p (.lst [.ref r]))) : tSeq (tAsg (tLst (tCons te tNil)) (gName i)) tz D σ H :=
  h _ fun r nr => ⟨Nat.le_of_lt (small1000 (show 1 ≤ 1000 by decide)), fun p np => k r p nr np⟩
end
/-- down from k to 1 -/
theorem tw_down1 (L : Nat) (h : L ≤ 100000) : RgC (L : Int) 0 (-1) L := by
  have h1 := RgC.neg (i := (L : Int)) (j := 0) (by omega) (by omega) (by omega) (by omega)
  rw [show ((L : Int) - 0).toNat = L by omega] at h1
  exact h1
/-! ## the script's bits -/
def CMulX (i j : Int) : Prop := Builtin.Int.intBits i ≤ 2000000 ∧ Builtin.Int.intBits j ≤ 2000000
theorem op_mulX {X : Cx} : OpR X (binaryOp .Mult) (rI CMulX fun i j => .int (i * j)) := opI fun _ _ _ _ _ _ _ hc q => mul_int q (IntMulOk.of_le hc.1 hc.2 (by decide))
def spLawB (K : PySem.W.Frag) : Sp := fun vs H Q _ => ∃ (a : Addr) (ns : List Int), vs = [.ref a] ∧ SqL K H a (ns.map V.int) ∧ (ns.length ≤ 63 ∧ ∀ z ∈ ns, Builtin.Int.intBits z ≤ 1048576) ∧ Fl H ∧ Q (.bl true) H
theorem law_startB {K : PySem.W.Frag} {H : Hp} {a : Addr} {ns : List Int} (hl : ns.length ≤ 63) (hb : ∀ z ∈ ns, Builtin.Int.intBits z ≤ 1048576) (ho : Only H) (hS : SqL K H a (ns.map V.int)) : spLawB K [.ref a] H (fun v _ => v = .bl true) fun _ _ _ => False := by
  obtain ⟨b, ms, e, h1, h2, h3, h4⟩ := law_start hl ho hS
  exact ⟨a, ns, rfl, hS, ⟨hl, hb⟩, h3, rfl⟩
theorem cell_bits {ns : List Int} (hb : ∀ z ∈ ns, Builtin.Int.intBits z ≤ 1048576) (k : Int) : Builtin.Int.intBits (cellV ns k) ≤ 1048576 := by
  have small : ∀ x : Int, 0 ≤ x → x < 65521 → Builtin.Int.intBits x ≤ 1048576 := fun x h0 h1 => intBits_le_of_natAbs (y := 65521) (by omega) (by decide +kernel)
  unfold cellV
  split
  · rcases Nat.lt_or_ge k.toNat ns.length with h | h
    · rw [List.getD_eq_getElem?_getD, List.getElem?_eq_getElem h]
      exact hb _ (List.getElem_mem h)
    · rw [List.getD_eq_getElem?_getD, List.getElem?_eq_none h]
      exact small 0 (by decide) (by decide)
  · exact small _ (Int.emod_nonneg _ (by decide)) (Int.emod_lt_of_pos _ (by decide))
theorem bits_div3 {x : Int} (h : Builtin.Int.intBits x ≤ 1048576) : Builtin.Int.intBits (x / 3) ≤ 2000000 := Nat.le_trans (intBits_le_of_natAbs (x := x / 3) (y := x) (by omega) h) (by decide)
end Tw
namespace Tw
open PySem PySem.Spec PyProof.Rows L2
theorem Tb.one {H : Hp} {p r : Addr} {x : List V} (hr : H r = some (.lst x)) (ne : r ≠ p) : Tb (L2.upd H p (.lst [.ref r])) p [r] [x] := by
  refine ⟨upd_same, rfl, fun k q y h1 h2 => ?_⟩
  cases k with
  | zero =>
    cases h1
    cases h2
    exact ⟨ne, at_oth hr ne⟩
  | succ k => cases h1
def rowsT (w i : Nat) : List (List V) := (List.range i).map fun k => wnR w k (w + 1)
theorem rowsT_at {w i k : Nat} (h : k < i) : (rowsT w i)[k]? = some (wnR w k (w + 1)) := by
  unfold rowsT
  rw [List.getElem?_map, List.getElem?_range h]
  rfl
theorem rowsT_succ (w i : Nat) : rowsT w (i + 1) = rowsT w i ++ [wnR w i (w + 1)] := by
  unfold rowsT
  rw [List.range_succ, List.map_append]
  rfl
theorem at_is {xs : List V} {i : Int} {k : Nat} {v : V} (e : i = (k : Int)) (h : xs[k]? = some v) : atI xs i = some v := e ▸ atI_nat h
def sp_law_wins : Sp := fun vs H Q _ => ∃ (n : Nat), vs = [.int (n : Int)] ∧ (1 ≤ n ∧ n ≤ 1000) ∧ Fl H ∧ ∀ p ps H1, Same H H1 → H p = none → Fl H1 → Tb H1 p ps (rowsT (2 * n + 1) (n + 1)) → Q (.ref p) H1
theorem q_law_wins {σ : L2.St} {H : Hp} {ta : TE} {E : XK} {D : Ends} {tz : TS} {i n : Nat} (ha : Vl ta σ H (.int (n : Int))) (h : (1 ≤ n ∧ n ≤ 1000) ∧ Fl H)
    (k : ∀ p ps H1, Same H H1 → H p = none → Fl H1 → Tb H1 p ps (rowsT (2 * n + 1) (n + 1)) → tz D (σ.set i (some (.ref p))) H1) : tSeq (tAsg (tCall sp_law_wins [] E (tCons ta tNil)) (gName i)) tz D σ H :=
  have g : ∀ Q : VK, (∀ p ps H1, Same H H1 → H p = none → Fl H1 → Tb H1 p ps (rowsT (2 * n + 1) (n + 1)) → Q (.ref p) H1) → tCall sp_law_wins [] E (tCons ta tNil) σ H Q := fun Q q => (av_cons ha av_nil) _ ⟨n, rfl, h.1, h.2, q⟩
  g _ k
end Tw
namespace Tw
open PySem PySem.Spec PyProof.Rows L2
section
variable {σ : L2.St} {H : Hp} {ta : TE} {x : V}
theorem vl_isN2 (ha : Vl ta σ H x) : Vl (tOp (fun x y H Q => y = V.non ∧ Q (V.bl (decide (x = V.non))) H) ta (tC .non)) σ H (.bl (decide (x = .non))) := vl_op ha vl_c fun _ q => ⟨rfl, q⟩
theorem vl_notN2 (ha : Vl ta σ H x) : Vl (tOp (fun x y H Q => y = V.non ∧ Q (V.bl (!decide (x = V.non))) H) ta (tC .non)) σ H (.bl (!decide (x = .non))) := vl_op ha vl_c fun _ q => ⟨rfl, q⟩
end
end Tw

namespace Tw
open PySem PySem.Spec PyProof.Rows L2
/-! ## replies that are drawn -/
section
variable {K : PySem.W.Frag} {σ : L2.St} {H : Hp} {ta tb tc te : TE} {E : XK} {i j : Int}
theorem vl_mulX (ha : Vl ta σ H (.int i)) (hb : Vl tb σ H (.int j)) (hc : CMulX i j) : Vl (tOp (rI CMulX fun i j => .int (i * j)) ta tb) σ H (.int (i * j)) := vl_I ha hb hc
theorem bits_13 : Builtin.Int.intBits ((48271 : Int) ^ (13 : Int).toNat) ≤ 2000000 := by decide +kernel
/-- the least mark, as take tells it -/
theorem takeV_le {n : Nat} {m : Int} (h : (hm n : Int) ≤ m) : takeV n m = .int (hm n : Int) := if_pos h
theorem takeV_gt {n : Nat} {m : Int} (h : ¬ (hm n : Int) ≤ m) : takeV n m = .non := if_neg h
end
theorem mk_296 : 10 ^ 59 < mk 296 := Nat.lt_of_le_of_lt (mk_ten 59) (mk_lt (by decide))
theorem hd_lt296 {n : Nat} (h1 : 1 ≤ n) (h : n < mk 296) : hd n < 296 := by
  obtain ⟨t, e⟩ := row_hd h1
  exact row_below h _ (by rw [e]; exact List.mem_cons_self)
/-- what the least mark leaves, and any reply to it -/
theorem game_step {n r : Nat} (h : 1 ≤ n) (hz : n - hm n ≠ 0) (h1 : 1 ≤ r) (h3 : r ≤ 2 * hm n) : 1 ≤ n - hm n - r ∧ hm (n - hm n - r) ≤ 2 * r := by
  rcases take_mark h with e | ⟨a, b⟩
  · exact absurd e hz
  · exact take_less a h1 (by omega)
end Tw

namespace Tw
open PySem PySem.Spec PyProof.Rows L2
/-! ## two heaps -/
/-- the heap beside which a heap is lost -/
def lostW (n : Nat) : Nat := if n = 0 then 0 else if sg (n - 1) = true then lowN (kindC n) else highN (kindC n)
/-- the lesser heap of the lost pair so far apart -/
def lessL (d : Nat) : Nat := if d = 0 then 0 else lowN d
theorem lost_0 : lostW 0 = 0 := rfl
theorem lost_low {c : Nat} (h : 1 ≤ c) : lostW (lowN c) = highN c := by
  obtain ⟨h1, h2⟩ := low_kind h
  unfold lostW
  rw [if_neg (by unfold lowN; omega), h1, h2]
  rfl
theorem lost_high {c : Nat} (h : 1 ≤ c) : lostW (highN c) = lowN c := by
  obtain ⟨h1, h2⟩ := high_kind h
  unfold lostW
  rw [if_neg (by unfold highN lowN; omega), if_pos h1, h2]
theorem low_or_high {n : Nat} (h : 1 ≤ n) : ∃ c, 1 ≤ c ∧ c ≤ n ∧ (n = lowN c ∨ n = highN c) := by
  refine ⟨kindC n, kindC_pos h, kindC_le h, ?_⟩
  cases hs : sg (n - 1) with
  | true => exact .inr (kind_high h hs).symm
  | false => exact .inl (kind_low h hs).symm
theorem lost_lost (n : Nat) : lostW (lostW n) = n := by
  by_cases h : n = 0
  · subst h
    rfl
  · obtain ⟨c, hc, _, e | e⟩ := low_or_high (n := n) (by omega)
    · rw [e, lost_low hc, lost_high hc]
    · rw [e, lost_high hc, lost_low hc]
theorem lost_sym {x y : Nat} (h : lostW x = y) : lostW y = x := by
  rw [← h, lost_lost]
theorem low_lt {c d : Nat} (h : 1 ≤ c) (hd : c < d) : lowN c < lowN d := by
  induction d with
  | zero => omega
  | succ d ih =>
    by_cases e : c = d
    · subst e
      rcases low_step h with z | z <;> omega
    · have := ih (by omega)
      rcases low_step (c := d) (by omega) with z | z <;> omega
theorem low_ge (c : Nat) (h : 1 ≤ c) : c ≤ lowN c := by
  unfold lowN
  have h1 : AA 3 (c - 1) = AA 2 (c - 1) + AA 1 (c - 1) := AA_rec 1 _
  rw [AA_2] at h1
  omega
/-- a lost pair is told by how far it is apart -/
theorem lost_apart {x y : Nat} (h : lostW x = y) (hl : x ≤ y) : x = lessL (y - x) := by
  by_cases h0 : x = 0
  · subst h0
    rw [lost_0] at h
    subst h
    rfl
  · obtain ⟨c, hc, _, e | e⟩ := low_or_high (n := x) (by omega)
    · rw [e, lost_low hc] at h
      have e2 : y - x = c := by
        rw [e, ← h]
        unfold highN
        omega
      rw [e2]
      unfold lessL
      rw [if_neg (by omega)]
      exact e
    · rw [e, lost_high hc] at h
      have : y < x := by
        rw [← h, e]
        unfold highN
        omega
      omega
theorem lessL_lost (d : Nat) : lostW (lessL d) = lessL d + d := by
  unfold lessL
  by_cases h : d = 0
  · rw [if_pos h, h]
    rfl
  · rw [if_neg h, lost_low (by omega)]
    rfl
/-- a take that is allowed -/
def Mv (x y a b : Nat) : Prop := a ≤ x ∧ b ≤ y ∧ (a ≠ 0 ∨ b ≠ 0) ∧ (a = b ∨ a = 0 ∨ b = 0)
theorem lost_move {x y a b : Nat} (h : lostW x = y) (m : Mv x y a b) : lostW (x - a) ≠ y - b := by
  obtain ⟨h1, h2, h3, h4⟩ := m
  intro h5
  rcases h4 with e | e | e
  · subst e
    have k1 := lost_sym h
    have k2 := lost_sym h5
    rcases Nat.le_total x y with l | l
    · have a1 := lost_apart h l
      have a2 := lost_apart h5 (by omega)
      rw [show y - a - (x - a) = y - x by omega] at a2
      omega
    · have a1 := lost_apart k1 l
      have a2 := lost_apart k2 (by omega)
      rw [show x - a - (y - a) = x - y by omega] at a2
      omega
  · subst e
    rw [Nat.sub_zero, h] at h5
    omega
  · subst e
    rw [Nat.sub_zero] at h5
    have k1 := lost_sym h
    have k2 := lost_sym h5
    omega
/-- the take that is told -/
def twoV (x y : Nat) : Option (Nat × Nat) :=
  if lostW (min x y) = max x y then none
  else if lostW (min x y) < max x y then (if x ≤ y then some (0, max x y - lostW (min x y)) else some (max x y - lostW (min x y), 0))
  else some (min x y - lessL (max x y - min x y), min x y - lessL (max x y - min x y))
theorem two_none {x y : Nat} : twoV x y = none ↔ lostW x = y := by
  unfold twoV
  constructor
  · intro h
    split at h
    · rename_i e
      rcases Nat.le_total x y with l | l
      · rw [Nat.min_eq_left l, Nat.max_eq_right l] at e
        exact e
      · rw [Nat.min_eq_right l, Nat.max_eq_left l] at e
        exact lost_sym e
    · split at h
      · split at h <;> cases h
      · cases h
  · intro h
    rw [if_pos]
    rcases Nat.le_total x y with l | l
    · rw [Nat.min_eq_left l, Nat.max_eq_right l]
      exact h
    · rw [Nat.min_eq_right l, Nat.max_eq_left l]
      exact lost_sym h
theorem big_apart {x y : Nat} (hl : x ≤ y) (h : y < lostW x) : 1 ≤ x ∧ lessL (y - x) < x := by
  by_cases h0 : x = 0
  · subst h0
    rw [lost_0] at h
    omega
  refine ⟨by omega, ?_⟩
  obtain ⟨c, hc, _, e | e⟩ := low_or_high (n := x) (by omega)
  · rw [e, lost_low hc] at h
    have hd : y - x < c := by
      unfold highN at h
      omega
    unfold lessL
    by_cases z : y - x = 0
    · rw [if_pos z]
      omega
    · rw [if_neg z]
      have := low_lt (c := y - x) (d := c) (by omega) hd
      omega
  · rw [e, lost_high hc] at h
    have : lowN c < highN c := by
      unfold highN
      omega
    omega
theorem two_some {x y a b : Nat} (h : twoV x y = some (a, b)) : Mv x y a b ∧ lostW (x - a) = y - b := by
  unfold twoV at h
  split at h
  · cases h
  rename_i n1
  split at h
  · rename_i n2
    split at h
    · rename_i l
      rw [Nat.min_eq_left l, Nat.max_eq_right l] at *
      cases h
      refine ⟨⟨by omega, by omega, by omega, by omega⟩, ?_⟩
      rw [Nat.sub_zero]
      omega
    · rename_i l
      have l : y ≤ x := by omega
      rw [Nat.min_eq_right l, Nat.max_eq_left l] at *
      cases h
      refine ⟨⟨by omega, by omega, by omega, by omega⟩, ?_⟩
      apply lost_sym
      rw [Nat.sub_zero]
      omega
  · rename_i n2
    cases h
    rcases Nat.le_total x y with l | l
    · rw [Nat.min_eq_left l, Nat.max_eq_right l] at *
      obtain ⟨b1, b2⟩ := big_apart (x := x) (y := y) l (by omega)
      refine ⟨⟨by omega, by omega, by omega, by omega⟩, ?_⟩
      rw [show x - (x - lessL (y - x)) = lessL (y - x) by omega, lessL_lost]
      omega
    · rw [Nat.min_eq_right l, Nat.max_eq_left l] at *
      obtain ⟨b1, b2⟩ := big_apart (x := y) (y := x) l (by omega)
      refine ⟨⟨by omega, by omega, by omega, by omega⟩, ?_⟩
      apply lost_sym
      rw [show y - (y - lessL (x - y)) = lessL (x - y) by omega, lessL_lost]
      omega
theorem lost_or {x y : Nat} (h : lostW x ≠ y) : ∃ a b, twoV x y = some (a, b) ∧ Mv x y a b ∧ lostW (x - a) = y - b := by
  cases e : twoV x y with
  | none => exact absurd (two_none.mp e) h
  | some p =>
    obtain ⟨a, b⟩ := p
    exact ⟨a, b, rfl, two_some e⟩
theorem lostW_le (n : Nat) : lostW n ≤ 3 * n + 1 := by
  unfold lostW
  split
  · omega
  · rename_i h
    have h1 := kindC_le (n := n) (by omega)
    have h2 := kindC_pos (n := n) (by omega)
    have h3 := AA3_le (kindC n - 1)
    split
    · unfold lowN
      omega
    · unfold highN lowN
      omega
theorem lessL_le (d : Nat) : lessL d ≤ 2 * d := by
  unfold lessL
  split
  · omega
  · have := AA3_le (d - 1)
    unfold lowN
    omega
/-! ## promises -/
section
variable {K : PySem.W.Frag} {σ : L2.St} {H : Hp} {ta tb tc te : TE} {E : XK} {D : Ends} {tz : TS} {i : Nat} {o : HO}
def sp_lost_with : Sp := fun vs H Q _ => ∃ (n : Nat), vs = [.int (n : Int)] ∧ n < mk 400 ∧ Fl H ∧ Q (.int (lostW n : Int)) H
theorem vl_lost_with {n : Nat} (ha : Vl ta σ H (.int (n : Int))) (h : n < mk 400 ∧ Fl H) : Vl (tCall sp_lost_with [] E (tCons ta tNil)) σ H (.int (lostW n : Int)) := vl_call (av_cons ha av_nil) fun _ q => ⟨n, rfl, h.1, h.2, q⟩
def sp_lesser_lost : Sp := fun vs H Q _ => ∃ (n : Nat), vs = [.int (n : Int)] ∧ n < mk 400 ∧ Fl H ∧ Q (.int (lessL n : Int)) H
theorem vl_lesser_lost {n : Nat} (ha : Vl ta σ H (.int (n : Int))) (h : n < mk 400 ∧ Fl H) : Vl (tCall sp_lesser_lost [] E (tCons ta tNil)) σ H (.int (lessL n : Int)) := vl_call (av_cons ha av_nil) fun _ q => ⟨n, rfl, h.1, h.2, q⟩
def pairV (a b : Nat) : HO := .tup [.int (a : Int), .int (b : Int)]
def sp_take_two : Sp := fun vs H Q _ => ∃ (x y : Nat), vs = [.int (x : Int), .int (y : Int)] ∧ (x < mk 400 ∧ y < mk 400) ∧ Fl H ∧ (twoV x y = none → Q .non H) ∧ (∀ a b, twoV x y = some (a, b) → ∀ p, H p = none → Q (.ref p) (upd H p (pairV a b)))
theorem vl_take_two0 {x y : Nat} (ha : Vl ta σ H (.int (x : Int))) (hb : Vl tb σ H (.int (y : Int))) (h : (x < mk 400 ∧ y < mk 400) ∧ Fl H) (e : lostW x = y) : Vl (tCall sp_take_two [] E (tCons ta (tCons tb tNil))) σ H .non :=
  vl_call (av_cons ha (av_cons hb av_nil)) fun _ q => ⟨x, y, rfl, h.1, h.2, fun _ => q, fun a b z => by
    rw [two_none.mpr e] at z
    cases z⟩
theorem nw_take_two {x y a b : Nat} (ha : Vl ta σ H (.int (x : Int))) (hb : Vl tb σ H (.int (y : Int))) (h : (x < mk 400 ∧ y < mk 400) ∧ Fl H) (e : twoV x y = some (a, b)) : Nw (tCall sp_take_two [] E (tCons ta (tCons tb tNil))) σ H (pairV a b) :=
  nw_call (av_cons ha (av_cons hb av_nil)) fun _ q => ⟨x, y, rfl, h.1, h.2, fun z => (by
    rw [e] at z
    cases z), fun a' b' z p np => by
    rw [e] at z
    cases z
    exact q p np⟩
theorem gv_isN0 (ha : Nw ta σ H o) : Gv (tOp (fun x y H Q => y = V.non ∧ Q (V.bl (decide (x = V.non))) H) ta (tC .non)) σ H (.bl false) := fun Q q => ha _ fun p np => ⟨rfl, q _ (same_new (Same.refl H) np)⟩
theorem gv_notN1 (ha : Nw ta σ H o) : Gv (tOp (fun x y H Q => y = V.non ∧ Q (V.bl (!decide (x = V.non))) H) ta (tC .non)) σ H (.bl true) := fun Q q => ha _ fun p np => ⟨rfl, q _ (same_new (Same.refl H) np)⟩
theorem gv_isN1 (ha : Vl ta σ H .non) : Gv (tOp (fun x y H Q => y = V.non ∧ Q (V.bl (decide (x = V.non))) H) ta (tC .non)) σ H (.bl true) := fun Q q => ha _ ⟨rfl, q _ (Same.refl H)⟩
theorem gv_notN0 (ha : Vl ta σ H .non) : Gv (tOp (fun x y H Q => y = V.non ∧ Q (V.bl (!decide (x = V.non))) H) ta (tC .non)) σ H (.bl false) := fun Q q => ha _ ⟨rfl, q _ (Same.refl H)⟩
/-! ## a table of lists, made at once -/
theorem q_tbl {j : Nat} {ws : List Nat} {n : Nat} {ra : TA} {x : List V} (h : Av ra σ H [.int (n : Int)]) (hn : n ≤ 1000) (fl : Fl H) (hw : ∀ x, wipe ((wipe σ ws).set j (some x)) ws = wipe σ ws)
    (he : ∀ (v : V) (H' : Hp), Nw te ((wipe σ ws).set j (some v)) H' (.lst x))
    (k : ∀ p ps H1, Same H H1 → H p = none → Fl H1 → ps.Nodup → (∀ q ∈ ps, H q = none) → Tb H1 p ps (List.replicate n x) → tz D (σ.set i (some (.ref p))) H1) : tSeq (tAsg (tLc (iRng1 ra) (gName j) tYes te ws) (gName i)) tz D σ H :=
  h _ ⟨n, rfl, by omega, by omega, fun p np => lc_range (lo := 0) (n := (n : Int).toNat) (fun i H' => ∃ ps, Same H H' ∧ Fl H' ∧ ps.Nodup ∧ (∀ q ∈ ps, H q = none) ∧ Tb H' p ps (List.replicate i x)) ⟨[], same_new (Same.refl H) np, fl.upd rfl, List.nodup_nil, (fun _ h => nomatch h), upd_same, rfl, fun k q r h1 _ => by cases h1⟩ (fun i H' hi w => by
    obtain ⟨ps, sH, fH, nd, fr, tb⟩ := w
    refine ⟨hw _, ?_⟩
    refine he _ H' _ fun r nr => ?_
    have nrp : r ≠ p := fun e => by
      rw [e, tb.1] at nr
      cases nr
    have tb2 := tb.new (o := .lst x) nr
    refine ⟨_, tb2.1, ?_, ps ++ [r], ?_, (fH.upd rfl).upd rfl, ?_, fun q hq => ?_, ?_⟩
    · rw [List.length_map, tb2.2.1, List.length_replicate]
      exact Nat.lt_of_lt_of_le (show i < 1000000 by omega) (by decide)
    · exact same_new (same_new' sH nr) np
    · refine List.nodup_append.mpr ⟨nd, by simp, fun a ha b hb e => ?_⟩
      have hb : b = r := by simpa using hb
      rw [e, hb] at ha
      obtain ⟨k, hk⟩ := List.mem_iff_getElem?.mp ha
      have hkl := (List.getElem?_eq_some_iff.mp hk).1
      have := (tb.2.2 k r _ hk (List.getElem?_eq_getElem (by rw [← tb.2.1]; exact hkl))).2
      rw [nr] at this
      cases this
    · rcases List.mem_append.mp hq with hq | hq
      · exact fr q hq
      · have hq : q = r := by simpa using hq
        rw [hq]
        exact sH.free nr
    · rw [List.replicate_succ', show ps.map V.ref ++ [V.ref r] = (ps ++ [r]).map V.ref by rw [List.map_append]; rfl]
      exact tb2.app upd_same nrp) (fun H' w => by
    obtain ⟨ps, sH, fH, nd, fr, tb⟩ := w
    rw [Int.toNat_natCast] at tb
    exact k p ps H' sH np fH nd fr tb)⟩
/-- one place of a table stored -/
theorem Tb.set {p q : Addr} {ps : List Addr} {rows : List (List V)} {k : Nat} {r : List V} (h : Tb H p ps rows) (nd : ps.Nodup) (hk : ps[k]? = some q) : Tb (L2.upd H q (.lst r)) p ps (rows.set k r) := by
  have hkl := (List.getElem?_eq_some_iff.mp hk).1
  obtain ⟨r0, hr0⟩ : ∃ r0, rows[k]? = some r0 := ⟨_, List.getElem?_eq_getElem (by rw [← h.2.1]; exact hkl)⟩
  have hq := h.2.2 k q r0 hk hr0
  refine ⟨at_oth h.1 (Ne.symm hq.1), by rw [List.length_set]; exact h.2.1, fun m z y h1 h2 => ?_⟩
  by_cases e : m = k
  · subst e
    rw [hk] at h1
    cases h1
    rw [List.getElem?_set_self (by rw [← h.2.1]; exact hkl)] at h2
    cases h2
    exact ⟨hq.1, upd_same⟩
  · rw [List.getElem?_set_ne (Ne.symm e)] at h2
    have h3 := h.2.2 m z y h1 h2
    refine ⟨h3.1, at_oth h3.2 fun e2 => ?_⟩
    subst e2
    have i1 := (List.getElem?_eq_some_iff.mp h1)
    have i2 := (List.getElem?_eq_some_iff.mp hk)
    exact e ((List.getElem_inj nd).mp (i1.2.trans i2.2.symm))
/-- the scope of a list comprehension that is stored -/
def lcScope : Expr → Scope
  | .ListComp _ _ sc _ => sc
  | _ => default
def asgE : Stmt → Expr
  | .Assign _ e _ => e
  | _ => default
/-! ## tables of truth values -/
def rowB (m : Nat) (f : Nat → Bool) : List V := (List.range m).map fun b => V.bl (f b)
def tabB (n m : Nat) (T : Nat → Nat → Bool) : List (List V) := (List.range n).map fun a => rowB m (T a)
def putB (T : Nat → Nat → Bool) (j k : Nat) (v : Bool) : Nat → Nat → Bool := fun a b => if a = j ∧ b = k then v else T a b
theorem rowB_at {m k : Nat} {f : Nat → Bool} (h : k < m) : (rowB m f)[k]? = some (.bl (f k)) := by
  unfold rowB
  rw [List.getElem?_map, List.getElem?_range h]
  rfl
theorem tabB_at {n m j : Nat} {T : Nat → Nat → Bool} (h : j < n) : (tabB n m T)[j]? = some (rowB m (T j)) := by
  unfold tabB
  rw [List.getElem?_map, List.getElem?_range h]
  rfl
theorem rowB_len (m : Nat) (f : Nat → Bool) : (rowB m f).length = m := by
  unfold rowB
  rw [List.length_map, List.length_range]
theorem tabB_set {n m j k : Nat} {T : Nat → Nat → Bool} {v : Bool} (hj : j < n) (hk : k < m) : (tabB n m T).set j ((rowB m (T j)).set k (.bl v)) = tabB n m (putB T j k v) := by
  refine List.ext_getElem? fun a => ?_
  rcases Nat.lt_or_ge a n with ha | ha
  · rw [tabB_at ha, List.getElem?_set]
    by_cases e : j = a
    · subst e
      rw [if_pos rfl, if_pos (by unfold tabB; rw [List.length_map, List.length_range]; exact hj)]
      refine congrArg some (List.ext_getElem? fun b => ?_)
      rcases Nat.lt_or_ge b m with hb | hb
      · rw [rowB_at hb, List.getElem?_set, rowB_at hb]
        by_cases e2 : k = b
        · subst e2
          rw [if_pos rfl, if_pos (by rw [rowB_len]; exact hk)]
          unfold putB
          rw [if_pos ⟨rfl, rfl⟩]
        · rw [if_neg e2]
          unfold putB
          rw [if_neg (fun z => e2 z.2.symm)]
      · rw [List.getElem?_eq_none (by rw [List.length_set, rowB_len]; exact hb), List.getElem?_eq_none (by rw [rowB_len]; exact hb)]
    · rw [if_neg e, tabB_at ha]
      refine congrArg some (List.map_congr_left fun b _ => ?_)
      unfold putB
      rw [if_neg (fun z => e z.1.symm)]
  · have l1 : (tabB n m T).length = n := by
      unfold tabB
      rw [List.length_map, List.length_range]
    have l2 : (tabB n m (putB T j k v)).length = n := by
      unfold tabB
      rw [List.length_map, List.length_range]
    rw [List.getElem?_eq_none (by rw [List.length_set, l1]; exact ha), List.getElem?_eq_none (by rw [l2]; exact ha)]
theorem tabB_rep (n m : Nat) : List.replicate n (rowB m fun _ => false) = tabB n m fun _ _ => false := by
  refine List.ext_getElem? fun a => ?_
  rcases Nat.lt_or_ge a n with ha | ha
  · rw [tabB_at ha, List.getElem?_replicate, if_pos ha]
  · rw [List.getElem?_eq_none (by rw [List.length_replicate]; exact ha), List.getElem?_eq_none (by unfold tabB; rw [List.length_map, List.length_range]; exact ha)]
/-- the table as far as it is told -/
def TbOk (T : Nat → Nat → Bool) (m x y : Nat) : Prop := ∀ a b, b < m → a < x ∨ a = x ∧ b < y → T a b = decide (lostW a = b)
theorem TbOk.put {T : Nat → Nat → Bool} {m x y : Nat} (h : TbOk T m x y) : TbOk (putB T x y (decide (lostW x = y))) m x (y + 1) := fun a b hb z => by
  unfold putB
  by_cases e : a = x ∧ b = y
  · rw [if_pos e, e.1, e.2]
  · rw [if_neg e]
    exact h a b hb (by omega)
theorem TbOk.next {T : Nat → Nat → Bool} {m x : Nat} (h : TbOk T m x m) : TbOk T m (x + 1) 0 := fun a b hb z => h a b hb (by omega)
end
end Tw

namespace Tw
open PySem PySem.Spec PyProof.Rows L2
/-! ## a game of two heaps -/
def heapV (x y : Nat) : HO := .lst [.int (x : Int), .int (y : Int)]
section
variable {K : PySem.W.Frag} {σ : L2.St} {H : Hp} {ta tb tc te : TE} {E : XK} {D : Ends} {tz : TS} {i : Nat} {o : HO} {P P2 : V → Prop} {PO : HO → Prop}
theorem s_retx (h : Nx te σ H PO) (k : ∀ o p, PO o → H p = none → D.rt (.ref p) (upd H p o)) : tRet te D σ H := h _ k
theorem nx_tupA {y : V} (ha : Va ta σ H P) (hb : Vl tb σ H y) : Nx (tTup (tCons ta (tCons tb tNil))) σ H (fun o => ∃ v, P v ∧ o = .tup [v, y]) := fun Q q => ha _ fun v hv => hb _ ⟨Nat.le_of_lt (small1000 (show 2 ≤ 1000 by decide)), fun p np => q _ p ⟨v, hv, rfl⟩ np⟩
theorem nx_tupB {x : V} (ha : Vl ta σ H x) (hb : Va tb σ H P) : Nx (tTup (tCons ta (tCons tb tNil))) σ H (fun o => ∃ v, P v ∧ o = .tup [x, v]) := fun Q q => ha _ (hb _ fun v hv => ⟨Nat.le_of_lt (small1000 (show 2 ≤ 1000 by decide)), fun p np => q _ p ⟨v, hv, rfl⟩ np⟩)
theorem nx_lst2 (ha : Va ta σ H P) (hb : Va tb σ H P2) : Nx (tLst (tCons ta (tCons tb tNil))) σ H (fun o => ∃ v w, P v ∧ P2 w ∧ o = .lst [v, w]) := fun Q q => ha _ fun v hv => hb _ fun w hw => ⟨Nat.le_of_lt (small1000 (show 2 ≤ 1000 by decide)), fun p np => q _ p ⟨v, w, hv, hw, rfl⟩ np⟩
theorem gn_lcN {xs : List V} {j : Nat} {ws : List Nat} (f : V → V) (h : Nw ta σ H (.lst xs)) (hz : xs.length ≤ 100000) (hw : ∀ x, wipe ((wipe σ ws).set j (some x)) ws = wipe σ ws)
    (he : ∀ x H', x ∈ xs → Vl te ((wipe σ ws).set j (some x)) H' (f x)) : Gn (tLc (iList K ta) (gName j) tYes te ws) σ H (.lst (xs.map f)) := fun Q q =>
  h _ fun p np => (nw_lcL (K := K) (ta := tC (.ref p)) (σ := σ) (H := upd H p (.lst xs)) (j := j) (ws := ws) f vl_c (SqL.of upd_same) hz hw fun x D acc hx _ => he x _ hx) _ fun D hD => q D _ ((same_new (Same.refl H) np).free hD) (same_new' (same_new (Same.refl H) np) hD) upd_same
theorem vl_max1 {p : Addr} {x y : Int} (h : Vl ta σ H (.ref p)) (hs : SqL K H p [.int x, .int y]) : Vl (tCB (rMax K) (tCons ta tNil)) σ H (.int (max x y)) := vl_cb (av_cons h av_nil) fun Q q => ⟨p, [x, y], rfl, hs, Nat.succ_pos _, fun m h1 h2 => by
  have a := h2 x (by simp)
  have b := h2 y (by simp)
  have e : m = max x y := by
    have : m = x ∨ m = y := by simpa using h1
    omega
  rw [e]
  exact q⟩
def sp_law_behind (K : PySem.W.Frag) : Sp := fun vs H Q _ => ∃ (h p : Addr) (x y a b : Nat), vs = [.ref h, .ref p] ∧ (SqL K H h [.int (x : Int), .int (y : Int)] ∧ SqT K H p [.int (a : Int), .int (b : Int)]) ∧ (a ≤ x ∧ b ≤ y) ∧ Fl H ∧ ∀ q, H q = none → Q (.ref q) (upd H q (heapV (x - a) (y - b)))
theorem nw_law_behind {h p : Addr} {x y a b : Nat} (ha : Vl ta σ H (.ref h)) (hb : Vl tb σ H (.ref p)) (c : (SqL K H h [.int (x : Int), .int (y : Int)] ∧ SqT K H p [.int (a : Int), .int (b : Int)]) ∧ (a ≤ x ∧ b ≤ y) ∧ Fl H) : Nw (tCall (sp_law_behind K) [] E (tCons ta (tCons tb tNil))) σ H (heapV (x - a) (y - b)) :=
  nw_call (av_cons ha (av_cons hb av_nil)) fun _ q => ⟨h, p, x, y, a, b, rfl, c.1, c.2.1, c.2.2, q⟩
theorem nx_behind {h : Addr} {x y : Nat} (fl : Fl H) (ha : Vl ta σ H (.ref h)) (hs : SqL K H h [.int (x : Int), .int (y : Int)]) (hb : Nx tb σ H (fun o => ∃ a b, Mv x y a b ∧ o = pairV a b)) : Nx (tF (tCall (sp_law_behind K) [] E (tCons ta (tCons tb tNil)))) σ H (fun o => ∃ a b, Mv x y a b ∧ o = heapV (x - a) (y - b)) := fun Q q =>
  ha _ (hb _ fun o p ⟨a, b, mv, e⟩ np => by
    subst e
    refine ⟨h, p, x, y, a, b, rfl, ⟨sq_old hs np, SqT.of upd_same⟩, ⟨mv.1, mv.2.1⟩, fl.upd rfl, fun r nr => ?_⟩
    exact rt_new fl (same_new' (same_new (Same.refl H) np) nr) ((same_new (Same.refl H) np).free nr) rfl upd_same (q _ r ⟨a, b, mv, rfl⟩ ((same_new (Same.refl H) np).free nr)))
def sp_law_allowed (K : PySem.W.Frag) : Sp := fun vs H Q _ => ∃ (p h : Addr) (x y a b : Nat), vs = [.ref p, .ref h] ∧ (SqL K H h [.int (x : Int), .int (y : Int)] ∧ H p = some (pairV a b)) ∧ Mv x y a b ∧ Fl H ∧ Q (.bl true) H
theorem vl_law_allowed {p h : Addr} {x y a b : Nat} (ha : Vl ta σ H (.ref p)) (hb : Vl tb σ H (.ref h)) (c : (SqL K H h [.int (x : Int), .int (y : Int)] ∧ H p = some (pairV a b)) ∧ Mv x y a b ∧ Fl H) : Vl (tCall (sp_law_allowed K) [] E (tCons ta (tCons tb tNil))) σ H (.bl true) :=
  vl_call (av_cons ha (av_cons hb av_nil)) fun _ q => ⟨p, h, x, y, a, b, rfl, c.1, c.2.1, c.2.2, q⟩
def sp_law_amount : Sp := fun vs H Q _ => ∃ (t c : Int), vs = [.int t, .int c] ∧ (1 ≤ t ∧ Builtin.Int.intBits c ≤ 1048576) ∧ Fl H ∧ ∀ r : Int, 1 ≤ r → r ≤ t → Q (.int r) H
theorem va_law_amount {t c : Int} (ha : Vl ta σ H (.int t)) (hb : Vl tb σ H (.int c)) (h : (1 ≤ t ∧ Builtin.Int.intBits c ≤ 1048576) ∧ Fl H) : Va (tCall sp_law_amount [] E (tCons ta (tCons tb tNil))) σ H (fun v => ∃ r : Nat, v = .int (r : Int) ∧ 1 ≤ r ∧ (r : Int) ≤ t) :=
  va_call (av_cons ha (av_cons hb av_nil)) fun _ q => ⟨t, c, rfl, h.1, h.2, fun r h1 h2 => by
    obtain ⟨m, rfl⟩ : ∃ m : Nat, r = (m : Int) := ⟨r.toNat, by omega⟩
    exact q _ ⟨m, rfl, by omega, h2⟩⟩
def sp_law_reply2 (K : PySem.W.Frag) : Sp := fun vs H Q _ => ∃ (h : Addr) (x y : Nat) (c : Int), vs = [.ref h, .int c] ∧ SqL K H h [.int (x : Int), .int (y : Int)] ∧ (x ≠ 0 ∨ y ≠ 0) ∧ Builtin.Int.intBits c ≤ 1048576 ∧ Fl H ∧ ∀ a b, Mv x y a b → ∀ p, H p = none → Q (.ref p) (upd H p (pairV a b))
theorem nx_law_reply {h : Addr} {x y : Nat} {c : Int} (ha : Vl ta σ H (.ref h)) (hb : Vl tb σ H (.int c)) (hs : SqL K H h [.int (x : Int), .int (y : Int)]) (h2 : (x ≠ 0 ∨ y ≠ 0) ∧ Builtin.Int.intBits c ≤ 1048576 ∧ Fl H) : Nx (tCall (sp_law_reply2 K) [] E (tCons ta (tCons tb tNil))) σ H (fun o => ∃ a b, Mv x y a b ∧ o = pairV a b) := fun Q q =>
  (av_cons ha (av_cons hb av_nil)) _ ⟨h, x, y, c, rfl, hs, h2.1, h2.2.1, h2.2.2, fun a b mv p np => q _ p ⟨a, b, mv, rfl⟩ np⟩
theorem bits_3 {x : Int} (h : Builtin.Int.intBits x ≤ 1048576) : Builtin.Int.intBits (x / 3) ≤ 1048576 := intBits_le_of_natAbs (x := x / 3) (y := x) (by omega) h
theorem eq00 {x y : Nat} : decide ([(x : Int), (y : Int)] = [0, 0]) = decide (x = 0 ∧ y = 0) := decide_eq_decide.mpr ⟨fun h => by
  injection h with h1 h2
  injection h2 with h2 _
  omega, fun h => by rw [h.1, h.2]; rfl⟩
end
end Tw

namespace Tw
/-! ## numbers as signs -/
def lastP (n : Nat) : Nat := (rowN n).getLastD 0
def bitC (r : List Nat) (p : Nat) : Nat := if p ∈ r then 49 else 48
def sgnL (n : Nat) : List Nat := (List.range (lastP n + 1)).map (bitC (rowN n))
def codeL (n : Nat) : List Nat := sgnL n ++ [49]
/-- a row's signs from place p on, and one 1 more -/
def encR : Nat → List Nat → List Nat
  | _, [] => [49]
  | p, q :: t => List.replicate (q - p) 48 ++ 49 :: encR (q + 1) t
theorem row_ne {n : Nat} (h : 1 ≤ n) : rowN n ≠ [] := by
  obtain ⟨t, e⟩ := row_hd h
  rw [e]
  exact List.cons_ne_nil _ _
theorem row_last {n : Nat} (h : 1 ≤ n) : (rowN n).getLast? = some (lastP n) := by
  unfold lastP
  cases e : rowN n with
  | nil => exact absurd e (row_ne h)
  | cons x t =>
    rw [List.getLastD_eq_getLast?, List.getLast?_cons]
    rfl
theorem lastP_lt {n m : Nat} (h1 : 1 ≤ n) (h : n < mk m) : lastP n < m := row_below h _ (List.mem_of_getLast? (row_last h1))
theorem range'_bits : ∀ (r : List Nat) (p : Nat), Tl p r → r ≠ [] → (List.range' p (r.getLastD 0 + 1 - p)).map (bitC r) ++ [49] = encR p r
  | [], _, _, h => absurd rfl h
  | [q], p, ⟨h, _⟩, _ => by
    show (List.range' p (q + 1 - p)).map (bitC [q]) ++ [49] = List.replicate (q - p) 48 ++ 49 :: [49]
    have e : List.range' p (q + 1 - p) = List.range' p (q - p) ++ [q] := by
      rw [show q + 1 - p = (q - p) + 1 by omega, List.range'_concat]
      congr 2
      omega
    rw [e, List.map_append]
    have e2 : (List.range' p (q - p)).map (bitC [q]) = List.replicate (q - p) 48 := by
      rw [List.eq_replicate_iff]
      refine ⟨by simp, fun b hb => ?_⟩
      obtain ⟨x, hx, rfl⟩ := List.mem_map.mp hb
      have := List.mem_range'_1.mp hx
      unfold bitC
      rw [if_neg (by simp; omega)]
    rw [e2]
    have : bitC [q] q = 49 := by
      unfold bitC
      rw [if_pos (by simp)]
    simp [this]
  | q :: x :: t, p, ⟨h, h2⟩, _ => by
    have hT : Tl (q + 1) (x :: t) := h2.mono (by omega)
    have ih := range'_bits (x :: t) (q + 1) hT (List.cons_ne_nil _ _)
    show (List.range' p ((q :: x :: t).getLastD 0 + 1 - p)).map (bitC (q :: x :: t)) ++ [49] = List.replicate (q - p) 48 ++ 49 :: encR (q + 1) (x :: t)
    have hl : (q :: x :: t).getLastD 0 = (x :: t).getLastD 0 := by
      rw [List.getLastD_eq_getLast?, List.getLastD_eq_getLast?, List.getLast?_cons_cons]
    generalize hL : (x :: t).getLastD 0 = L at ih hl
    have hLq : q + 2 ≤ L := by
      have : L ∈ x :: t := by
        rw [← hL, List.getLastD_eq_getLast?]
        have e : (x :: t).getLast? = some ((x :: t).getLast (List.cons_ne_nil _ _)) := List.getLast?_eq_some_getLast _
        rw [e]
        exact List.getLast_mem _
      exact Tl_ge h2 L this
    rw [hl, ← ih]
    have e : List.range' p (L + 1 - p) = List.range' p (q - p) ++ q :: List.range' (q + 1) (L + 1 - (q + 1)) := by
      have a1 : List.range' p (L + 1 - p) = List.range' p (q - p) ++ List.range' (p + (q - p)) (L + 1 - q) := by
        rw [List.range'_append_1]
        congr 1
        omega
      rw [a1, show p + (q - p) = q by omega, show L + 1 - q = (L + 1 - (q + 1)) + 1 by omega, List.range'_succ]
      
    rw [e, List.map_append, List.map_cons]
    have e2 : (List.range' p (q - p)).map (bitC (q :: x :: t)) = List.replicate (q - p) 48 := by
      rw [List.eq_replicate_iff]
      refine ⟨by simp, fun b hb => ?_⟩
      obtain ⟨y, hy, rfl⟩ := List.mem_map.mp hb
      have := List.mem_range'_1.mp hy
      unfold bitC
      rw [if_neg]
      intro hm
      rcases List.mem_cons.mp hm with rfl | hm
      · omega
      · have := Tl_ge h2 y hm
        omega
    have e3 : bitC (q :: x :: t) q = 49 := by
      unfold bitC
      rw [if_pos List.mem_cons_self]
    have e4 : (List.range' (q + 1) (L + 1 - (q + 1))).map (bitC (q :: x :: t)) = (List.range' (q + 1) (L + 1 - (q + 1))).map (bitC (x :: t)) := by
      refine List.map_congr_left fun y hy => ?_
      have := List.mem_range'_1.mp hy
      unfold bitC
      by_cases hm : y ∈ x :: t
      · rw [if_pos hm, if_pos (List.mem_cons_of_mem _ hm)]
      · rw [if_neg hm, if_neg]
        intro z
        rcases List.mem_cons.mp z with rfl | z
        · omega
        · exact hm z
    rw [e2, e3, e4]
    simp
theorem code_enc {n : Nat} (h : 1 ≤ n) : codeL n = encR 0 (rowN n) := by
  rw [← range'_bits _ 0 (rowN_ok n) (row_ne h)]
  unfold codeL sgnL lastP
  rw [List.range_eq_range', Nat.sub_zero]
/-! ## reading -/
structure Rd where
  fo : List Nat
  tot : Nat
  k : Nat
  bf : Nat
/-- one sign read -/
def rdS (s : Rd) (c : Nat) : Option Rd :=
  if c = 48 ∨ c = 49 then
    if c = 49 ∧ s.bf = 49 then some ⟨s.fo ++ [s.tot], 0, 0, 0⟩
    else some ⟨s.fo, if c = 49 then s.tot + mk s.k else s.tot, s.k + 1, c⟩
  else none
def rdF : Rd → List Nat → Option Rd
  | s, [] => some s
  | s, c :: r => (rdS s c).bind fun s' => rdF s' r
def rd0 (fo : List Nat) : Rd := ⟨fo, 0, 0, 0⟩
/-- what a text tells -/
def rdT (l : List Nat) : Option (List Nat) := (rdF (rd0 []) l).bind fun s => if s.bf = 0 then some s.fo else none
theorem rdF_app : ∀ (u v : List Nat) (s : Rd), rdF s (u ++ v) = (rdF s u).bind fun s' => rdF s' v
  | [], _, _ => rfl
  | c :: r, v, s => by
    show (rdS s c).bind (fun s' => rdF s' (r ++ v)) = ((rdS s c).bind fun s' => rdF s' r).bind _
    cases rdS s c with
    | none => rfl
    | some s' => exact rdF_app r v s'
theorem rdF_snoc (u : List Nat) (c : Nat) (s : Rd) : rdF s (u ++ [c]) = (rdF s u).bind fun s' => rdS s' c := by
  rw [rdF_app]
  congr 1
  funext s'
  show (rdS s' c).bind (fun x => some x) = _
  cases rdS s' c <;> rfl
theorem rd_zero (s : Rd) : rdS s 48 = some ⟨s.fo, s.tot, s.k + 1, 48⟩ := by
  unfold rdS
  rw [if_pos (.inl rfl), if_neg (fun h => by cases h.1), if_neg (fun h => by cases h)]
theorem rd_zeros : ∀ (n : Nat) (s : Rd), rdF s (List.replicate n 48) = some (if n = 0 then s else ⟨s.fo, s.tot, s.k + n, 48⟩)
  | 0, s => rfl
  | n + 1, s => by
    rw [List.replicate_succ]
    show (rdS s 48).bind _ = _
    rw [rd_zero]
    show rdF _ _ = _
    rw [rd_zeros n _, if_neg (show ¬ n + 1 = 0 by omega)]
    by_cases h : n = 0
    · subst h
      rfl
    · rw [if_neg h]
      show some (⟨s.fo, s.tot, s.k + 1 + n, 48⟩ : Rd) = _
      rw [show s.k + 1 + n = s.k + (n + 1) by omega]
/-- a row's signs, read from its place on; the sign ahead no 1, or the row beginning later -/
theorem rd_enc : ∀ (r : List Nat) (p : Nat) (s : Rd), s.k = p → (∀ q ∈ r.head?, s.bf = 49 → p < q) → Tl p r → (r = [] → s.bf = 49) → rdF s (encR p r) = some (rd0 (s.fo ++ [s.tot + W 2 r]))
  | [], p, s, hk, _, _, h => by
    show (rdS s 49).bind (fun x => some x) = _
    unfold rdS
    rw [if_pos (.inr rfl), if_pos ⟨rfl, h rfl⟩]
    rfl
  | q :: t, p, s, hk, hb, ⟨h1, h2⟩, _ => by
    show rdF s (List.replicate (q - p) 48 ++ 49 :: encR (q + 1) t) = _
    rw [rdF_app, rd_zeros _ _]
    show rdF _ (49 :: encR (q + 1) t) = _
    have e : rdS (if q - p = 0 then s else ⟨s.fo, s.tot, s.k + (q - p), 48⟩) 49 = some ⟨s.fo, s.tot + mk q, q + 1, 49⟩ := by
      unfold rdS
      rw [if_pos (.inr rfl)]
      by_cases z : q - p = 0
      · rw [if_pos z, if_neg (by
          intro w
          have := hb q rfl w.2
          omega)]
        rw [if_pos rfl, show s.k = q by omega]
      · rw [if_neg z, if_neg (by simp)]
        show some (⟨s.fo, s.tot + mk (s.k + (q - p)), s.k + (q - p) + 1, 49⟩ : Rd) = _
        rw [show s.k + (q - p) = q by omega]
    show (rdS _ 49).bind _ = _
    rw [e]
    show rdF ⟨s.fo, s.tot + mk q, q + 1, 49⟩ (encR (q + 1) t) = _
    rw [rd_enc t (q + 1) _ rfl (fun x hx _ => by
      cases t with
      | nil => cases hx
      | cons y u =>
        cases hx
        have := h2.1
        omega) (h2.mono (by omega)) (fun _ => rfl)]
    show some (rd0 (s.fo ++ [s.tot + mk q + W 2 t])) = some (rd0 (s.fo ++ [s.tot + (fb (q + 2) + W 2 t)]))
    rw [show s.tot + mk q + W 2 t = s.tot + (fb (q + 2) + W 2 t) by unfold mk; omega]
theorem rd_code {n : Nat} (h : 1 ≤ n) (fo : List Nat) : rdF (rd0 fo) (codeL n) = some (rd0 (fo ++ [n])) := by
  rw [code_enc h, rd_enc (rowN n) 0 _ rfl (fun q _ e => by cases e) (rowN_ok n) (fun e => absurd e (row_ne h))]
  rw [W_rowN]
  show some (rd0 (fo ++ [0 + n])) = _
  rw [Nat.zero_add]
/-- all of a list's -/
def textL (ns : List Nat) : List Nat := (ns.map codeL).flatten
theorem rd_text : ∀ (ns : List Nat) (fo : List Nat), (∀ n ∈ ns, 1 ≤ n) → rdF (rd0 fo) (textL ns) = some (rd0 (fo ++ ns))
  | [], fo, _ => by
    rw [List.append_nil]
    rfl
  | n :: r, fo, h => by
    show rdF (rd0 fo) (codeL n ++ textL r) = _
    rw [rdF_app, rd_code (h n List.mem_cons_self)]
    show rdF (rd0 (fo ++ [n])) (textL r) = _
    rw [rd_text r _ (fun m hm => h m (List.mem_cons_of_mem _ hm)), List.append_assoc]
    rfl
theorem rdT_text {ns : List Nat} (h : ∀ n ∈ ns, 1 ≤ n) : rdT (textL ns) = some ns := by
  unfold rdT
  rw [rd_text ns [] h]
  rfl
/-! ### what stands in the way of a number's end -/
/-- the numbers found grow; at a number's end one more was found -/
theorem rd_grow : ∀ (v : List Nat) (s s' : Rd), rdF s v = some s' → (∃ m, s'.fo = s.fo ++ m ∧ (s'.bf = 0 → v ≠ [] → m ≠ []))
  | [], s, s', h => by
    cases h
    exact ⟨[], by rw [List.append_nil], fun _ z => absurd rfl z⟩
  | c :: r, s, s', h => by
    have h : (rdS s c).bind (fun x => rdF x r) = some s' := h
    cases e : rdS s c with
    | none =>
      rw [e] at h
      cases h
    | some s1 =>
      rw [e] at h
      have h : rdF s1 r = some s' := h
      obtain ⟨m, h1, h2⟩ := rd_grow r s1 s' h
      unfold rdS at e
      split at e
      · split at e
        · cases e
          exact ⟨s.tot :: m, by rw [h1]; simp, fun _ _ => List.cons_ne_nil _ _⟩
        · rename_i hc _
          cases e
          refine ⟨m, h1, fun z _ => ?_⟩
          cases r with
          | nil =>
            have h : some _ = some s' := h
            cases h
            have z : c = 0 := z
            omega
          | cons x t => exact h2 z (List.cons_ne_nil _ _)
      · cases e
/-- a number's text that goes on, or that ends too early -/
theorem code_part {n : Nat} {u v : List Nat} (h : 1 ≤ n) (e : codeL n = u ++ v) (hu : u ≠ []) (hv : v ≠ []) (fo : List Nat) : ∃ s, rdF (rd0 fo) u = some s ∧ s.bf ≠ 0 := by
  have h1 := rd_code h fo
  rw [e, rdF_app] at h1
  cases h2 : rdF (rd0 fo) u with
  | none =>
    rw [h2] at h1
    cases h1
  | some s =>
    rw [h2] at h1
    have h1 : rdF s v = some (rd0 (fo ++ [n])) := h1
    refine ⟨s, rfl, fun z => ?_⟩
    obtain ⟨m, g1, g2⟩ := rd_grow u _ _ h2
    obtain ⟨m2, g3, g4⟩ := rd_grow v _ _ h1
    have a := g2 z hu
    have b := g4 rfl hv
    rw [g1] at g3
    have g3 : fo ++ [n] = fo ++ m ++ m2 := g3
    have := congrArg List.length g3
    rw [List.length_append, List.length_append, List.length_append] at this
    have a1 := List.length_pos_iff.mpr a
    have b1 := List.length_pos_iff.mpr b
    have : [n].length = 1 := rfl
    omega
theorem code_prefix {n m : Nat} {v : List Nat} (h : 1 ≤ n) (hm : 1 ≤ m) (e : codeL n = codeL m ++ v) : n = m := by
  have h1 := rd_code h []
  rw [e, rdF_app, rd_code hm] at h1
  have h1 : rdF (rd0 [m]) v = some (rd0 [n]) := h1
  obtain ⟨w, g, _⟩ := rd_grow v _ _ h1
  have g : [n] = m :: w := g
  cases g
  rfl
theorem code_len {n : Nat} : (codeL n).length = lastP n + 2 := by
  unfold codeL sgnL
  rw [List.length_append, List.length_map, List.length_range]
  rfl
theorem code_bits {n : Nat} : ∀ c ∈ codeL n, c = 48 ∨ c = 49 := fun c hc => by
  unfold codeL sgnL at hc
  rcases List.mem_append.mp hc with hc | hc
  · obtain ⟨p, _, rfl⟩ := List.mem_map.mp hc
    unfold bitC
    split
    · exact .inr rfl
    · exact .inl rfl
  · exact .inr (by simpa using hc)
/-! ## texts cut -/
end Tw
namespace Tw
open PySem PySem.Spec PyProof.Rows L2
theorem size_line : sizeLine = 16777216 := by decide +kernel
theorem cutS_to {l : List Nat} {k : Nat} : cutS (tx l) none (some (k : Int)) = tx (l.take k) := by
  unfold cutS
  rw [tx_cps, HT.sIx_nat, tx_len]
  show tx ((l.drop 0).take (min k l.length - 0)) = _
  rw [List.drop_zero, Nat.sub_zero]
  by_cases h : k ≤ l.length
  · rw [Nat.min_eq_left h]
  · rw [Nat.min_eq_right (by omega), List.take_length, List.take_of_length_le (by omega)]
theorem cutS_from {l : List Nat} {k : Nat} : cutS (tx l) (some (k : Int)) none = tx (l.drop k) := by
  unfold cutS
  rw [tx_cps, HT.sIx_nat, HT.sIx_none, tx_len]
  show tx ((l.drop (min k l.length)).take (l.length - min k l.length)) = _
  by_cases h : k ≤ l.length
  · rw [Nat.min_eq_left h, List.take_of_length_le (by rw [List.length_drop]; omega)]
  · rw [Nat.min_eq_right (by omega), List.drop_length, List.drop_of_length_le (by omega)]
    simp
theorem cutS_mid {l : List Nat} {i j : Nat} (h : i ≤ j) : cutS (tx l) (some (i : Int)) (some (j : Int)) = tx ((l.drop i).take (j - i)) := by
  unfold cutS
  rw [tx_cps, HT.sIx_nat, HT.sIx_nat, tx_len]
  show tx ((l.drop (min i l.length)).take (min j l.length - min i l.length)) = _
  by_cases h1 : i ≤ l.length
  · rw [Nat.min_eq_left h1]
    by_cases h2 : j ≤ l.length
    · rw [Nat.min_eq_left h2]
    · rw [Nat.min_eq_right (by omega), List.take_of_length_le (by rw [List.length_drop]; omega), List.take_of_length_le (by rw [List.length_drop]; omega)]
  · rw [List.drop_of_length_le (show l.length ≤ min i l.length by omega), List.drop_of_length_le (show l.length ≤ i by omega)]
    simp
theorem mem_rwI (i : Nat) (r : List Nat) : decide ((i : Int) ∈ rwI r) = decide (i ∈ r) := by
  refine decide_eq_decide.mpr ⟨fun h => ?_, fun h => List.mem_map.mpr ⟨i, h, rfl⟩⟩
  obtain ⟨x, hx, e⟩ := List.mem_map.mp h
  have : x = i := by omega
  subst this
  exact hx
theorem row_at_last {n : Nat} (h : 1 ≤ n) : atI ((rwI (rowN n)).map V.int) (-1) = some (.int (lastP n : Int)) := by
  have e := row_last h
  have hl : 0 < (rowN n).length := List.length_pos_iff.mpr (row_ne h)
  rw [List.getLast?_eq_getElem?] at e
  exact at_negI (j := 1) (k := (rowN n).length - 1) (by decide) (by rw [rwI_len]; omega) (rwI_get e)
theorem text_len : ∀ {ns : List Nat}, (∀ n ∈ ns, lastP n < 400) → (textL ns).length ≤ ns.length * 402
  | [], _ => Nat.le_refl _
  | n :: r, h => by
    have ih := text_len (ns := r) fun m hm => h m (List.mem_cons_of_mem _ hm)
    have h1 := h n List.mem_cons_self
    show (codeL n ++ textL r).length ≤ (r.length + 1) * 402
    rw [List.length_append, code_len]
    omega
/-! ## promises -/
section
variable {K : PySem.W.Frag} {σ : L2.St} {H : Hp} {ta tb tc te : TE} {E : XK} {D : Ends} {tz : TS} {i : Nat} {o : HO} {P : V → Prop}
theorem s_appA {l : Addr} {xs : List V} (hl : H l = some (.lst xs)) (ha : Vl ta σ H (.ref l)) (h : Va te σ H P) (hz : xs.length < 100000) (k : ∀ v, P v → D.nx σ (upd H l (.lst (xs ++ [v])))) : tDrop (tBM K "list" rAppend ta (tCons te tNil)) D σ H :=
  ha _ ⟨Or.inl ⟨rfl, xs, SqL.of hl⟩, h _ fun v hv => ⟨l, xs, v, rfl, rfl, hl, Nat.lt_of_lt_of_le hz (by decide), k v hv⟩⟩
def sp_code : Sp := fun vs H Q _ => ∃ (n : Nat), vs = [.int (n : Int)] ∧ (1 ≤ n ∧ n < mk 400) ∧ Fl H ∧ Q (.str (tx (codeL n))) H
theorem vl_code_of {n : Nat} (ha : Vl ta σ H (.int (n : Int))) (h : (1 ≤ n ∧ n < mk 400) ∧ Fl H) : Vl (tCall sp_code [] E (tCons ta tNil)) σ H (.str (tx (codeL n))) := vl_call (av_cons ha av_nil) fun _ q => ⟨n, rfl, h.1, h.2, q⟩
def sp_written (K : PySem.W.Frag) : Sp := fun vs H Q _ => ∃ (a : Addr) (ns : List Nat), vs = [.ref a] ∧ SqL K H a ((rwI ns).map V.int) ∧ ((∀ n ∈ ns, 1 ≤ n ∧ n < mk 400) ∧ ns.length ≤ 60) ∧ Fl H ∧ Q (.str (tx (textL ns))) H
theorem vl_written {a : Addr} {ns : List Nat} (ha : Vl ta σ H (.ref a)) (h : SqL K H a ((rwI ns).map V.int) ∧ ((∀ n ∈ ns, 1 ≤ n ∧ n < mk 400) ∧ ns.length ≤ 60) ∧ Fl H) : Vl (tCall (sp_written K) [] E (tCons ta tNil)) σ H (.str (tx (textL ns))) := vl_call (av_cons ha av_nil) fun _ q => ⟨a, ns, rfl, h.1, h.2.1, h.2.2, q⟩
def sp_law_numbers (K : PySem.W.Frag) : Sp := fun vs H Q _ => ∃ (a : Addr) (ns : List Int), vs = [.ref a] ∧ SqL K H a (ns.map V.int) ∧ Fl H ∧ ∀ (ms : List Nat) p, (∀ n ∈ ms, 1 ≤ n ∧ n < mk 200) → ms.length ≤ 50 → H p = none → Q (.ref p) (upd H p (.lst ((rwI ms).map V.int)))
theorem nx_law_numbers {a : Addr} {ns : List Int} (ha : Vl ta σ H (.ref a)) (h : SqL K H a (ns.map V.int) ∧ Fl H) :
    Nx (tCall (sp_law_numbers K) [] E (tCons ta tNil)) σ H (fun o => ∃ ms : List Nat, (∀ n ∈ ms, 1 ≤ n ∧ n < mk 200) ∧ ms.length ≤ 50 ∧ o = .lst ((rwI ms).map V.int)) := fun Q q =>
  (av_cons ha av_nil) _ ⟨a, ns, rfl, h.1, h.2, fun ms p h1 h2 np => q _ p ⟨ms, h1, h2, rfl⟩ np⟩
theorem mk_200 : 10 ^ 40 ≤ mk 200 := mk_ten 40
/-- "".join([code(number) for number in numbers]) -/
theorem gv_codes {ns : List Nat} {j : Nat} {ws : List Nat} {ra : TE} {a : Addr} (ha : Vl ra σ H (.ref a)) (hS : SqL K H a ((rwI ns).map V.int)) (hn : (∀ n ∈ ns, 1 ≤ n ∧ n < mk 400) ∧ ns.length ≤ 60) (hw : ∀ x, wipe ((wipe σ ws).set j (some x)) ws = wipe σ ws)
    (he : ∀ (n : Nat) D acc, n ∈ ns → H D = none → Vl te ((wipe σ ws).set j (some (.int (n : Int)))) (upd H D (.lst acc)) (.str (tx (codeL n)))) : Gv (tM1 (rJoin K) (tC (.str "")) (tLc (iList K ra) (gName j) tYes te ws)) σ H (.str (tx (textL ns))) := by
  have hl : (textL ns).length ≤ ns.length * 402 := text_len fun n hm => lastP_lt (hn.1 n hm).1 (hn.1 n hm).2
  refine gv_joinX (ls := ns.map codeL) (nw_lcL (fun v => match v with | .int i => .str (tx (codeL i.toNat)) | w => w) ha hS (by rw [List.length_map, rwI_len]; omega) hw fun v D acc hv hD => ?_) ?_ ?_
  · obtain ⟨i, hi⟩ := List.mem_iff_getElem?.mp hv
    obtain ⟨x, hx, rfl⟩ := rwI_get' hi
    have e := he x D acc (List.mem_of_getElem? hx) hD
    exact e
  · unfold rwI
    rw [List.map_map, List.map_map, List.map_map]
    rfl
  · rw [← List.length_flatten]
    have : (textL ns).length ≤ 60 * 402 := Nat.le_trans hl (Nat.mul_le_mul_right _ hn.2)
    show (textL ns).length ≤ _
    omega
/-- the written row, its marks told one by one -/
theorem bits_set {r : List Nat} {L q : Nat} (hq : q < L) : (((List.range L).map (bitC r)).map fun c => V.str (tx [c])).set q (.str (tx [49])) = ((List.range L).map (bitC (r ++ [q]))).map fun c => V.str (tx [c]) := by
  rw [List.map_map, List.map_map]
  refine List.ext_getElem? fun a => ?_
  rw [List.getElem?_set, List.length_map, List.length_range, List.getElem?_map, List.getElem?_map]
  rcases Nat.lt_or_ge a L with h | h
  · rw [List.getElem?_range h]
    by_cases e : q = a
    · subst e
      rw [if_pos rfl, if_pos hq]
      show _ = some (V.str (tx [bitC (r ++ [q]) q]))
      unfold bitC
      rw [if_pos (by simp)]
    · rw [if_neg e]
      show some (V.str (tx [bitC r a])) = some (V.str (tx [bitC (r ++ [q]) a]))
      unfold bitC
      by_cases z : a ∈ r
      · rw [if_pos z, if_pos (List.mem_append_left _ z)]
      · rw [if_neg z, if_neg (by
          intro w
          rcases List.mem_append.mp w with w | w
          · exact z w
          · have : a = q := by simpa using w
            omega)]
  · rw [if_neg (by omega), List.getElem?_eq_none (by rw [List.length_range]; exact h)]
    rfl
end
end Tw

namespace Tw
/-! ## the word's beginnings -/
theorem AA3_ge (n : Nat) : n ≤ AA 3 n := by
  rw [AA3_eq]
  omega
/-- a sign far on is as the sign ahead -/
theorem row_far {i j : Nat} (h : i < mk j) : rowN (mk (j + 1) + i) = rowN i ++ [j + 1] := by
  have hb := row_below h
  have hT : Tl 0 (rowN i ++ [j + 1]) := Tl_snoc (rowN_ok i) (fun q hq => by have := hb q hq; omega) (by omega)
  have hw : W 2 (rowN i ++ [j + 1]) = mk (j + 1) + i := by
    rw [W_app, W_rowN]
    show i + (fb (j + 1 + 2) + 0) = fb (j + 1 + 2) + i
    omega
  rw [← hw, row_is hT]
theorem sg_far {i j : Nat} (h : i < mk j) : sg (mk (j + 1) + i) = sg i := by
  rw [sg_mem, sg_mem, row_far h]
  refine decide_eq_decide.mpr ?_
  simp
theorem wordL_add (k m n : Nat) : wordL k (m + n) = wordL k m ++ wordL (k + m) n := by
  unfold wordL
  rw [List.range_add, List.map_append, List.map_map]
  congr 1
  refine List.map_congr_left fun j _ => ?_
  show wc (k + (m + j)) = wc (k + m + j)
  rw [Nat.add_assoc]
theorem word_far (j : Nat) : wordL (mk (j + 1)) (mk j) = wordL 0 (mk j) := by
  unfold wordL
  refine List.map_congr_left fun i hi => ?_
  have hi := List.mem_range.mp hi
  unfold wc
  rw [sg_far hi, Nat.zero_add]
theorem word_step (j : Nat) : wordL 0 (mk (j + 2)) = wordL 0 (mk (j + 1)) ++ wordL 0 (mk j) := by
  rw [mk_rec, wordL_add, Nat.zero_add, word_far]
/-! ## texts of a and b as numbers -/
def numS (a c : Nat) : Nat := 2 * a + (c - 97)
def num (l : List Nat) : Nat := l.foldl numS 0
theorem num_from : ∀ (l : List Nat) (a : Nat), l.foldl numS a = a * 2 ^ l.length + num l
  | [], a => by
    show a = a * 1 + 0
    omega
  | c :: r, a => by
    show r.foldl numS (numS a c) = a * 2 ^ (r.length + 1) + r.foldl numS (numS 0 c)
    rw [num_from r, num_from r (numS 0 c), Nat.pow_succ]
    unfold numS
    rw [Nat.add_mul, Nat.add_mul]
    have : 2 * a * 2 ^ r.length = a * (2 ^ r.length * 2) := by
      rw [Nat.mul_comm 2 a, Nat.mul_assoc, Nat.mul_comm 2]
    omega
theorem num_app (l m : List Nat) : num (l ++ m) = num l * 2 ^ m.length + num m := by
  unfold num
  rw [List.foldl_append]
  exact num_from m _
theorem num_cons (c : Nat) (l : List Nat) : num (c :: l) = (c - 97) * 2 ^ l.length + num l := by
  have := num_app [c] l
  rw [List.singleton_append] at this
  rw [this]
  show (2 * 0 + (c - 97)) * _ + _ = _
  rw [Nat.mul_zero, Nat.zero_add]
/-- signs a and b alone -/
def Ab (l : List Nat) : Prop := ∀ c ∈ l, c = 97 ∨ c = 98
theorem Ab.tail {c : Nat} {l : List Nat} (h : Ab (c :: l)) : Ab l := fun x hx => h x (List.mem_cons_of_mem _ hx)
theorem num_lt : ∀ {l : List Nat}, Ab l → num l < 2 ^ l.length
  | [], _ => by decide
  | c :: r, h => by
    have ih := num_lt h.tail
    rw [num_cons, List.length_cons, Nat.pow_succ]
    rcases h c List.mem_cons_self with rfl | rfl
    · show 0 * _ + _ < _
      omega
    · show 1 * _ + _ < _
      omega
theorem num_inj : ∀ {l m : List Nat}, Ab l → Ab m → l.length = m.length → num l = num m → l = m
  | [], [], _, _, _, _ => rfl
  | [], _ :: _, _, _, h, _ => by cases h
  | _ :: _, [], _, _, h, _ => by cases h
  | c :: l, d :: m, hl, hm, h, e => by
    have h : l.length = m.length := by simpa using h
    rw [num_cons, num_cons, h] at e
    have a := num_lt hl.tail
    have b := num_lt hm.tail
    rw [h] at a
    have hc := hl c List.mem_cons_self
    have hd := hm d List.mem_cons_self
    have k : c = d ∧ num l = num m := by
      rcases hc with rfl | rfl <;> rcases hd with rfl | rfl <;> (simp at e ⊢; omega)
    rw [k.1, num_inj hl.tail hm.tail h k.2]
theorem num_mono : ∀ {l m : List Nat}, Ab l → Ab m → l.length = m.length → l < m → num l < num m
  | [], [], _, _, _, h => absurd h (List.lt_irrefl _)
  | [], _ :: _, _, _, h, _ => by cases h
  | _ :: _, [], _, _, h, _ => by cases h
  | c :: l, d :: m, hl, hm, h, e => by
    have h : l.length = m.length := by simpa using h
    rw [num_cons, num_cons, h]
    have a := num_lt hl.tail
    have b := num_lt hm.tail
    rw [h] at a
    have hc := hl c List.mem_cons_self
    have hd := hm d List.mem_cons_self
    rcases List.cons_lt_cons_iff.mp e with z | ⟨z, w⟩
    · have h1 : c = 97 ∧ d = 98 := by omega
      rw [h1.1, h1.2]
      show 0 * _ + _ < 1 * _ + _
      omega
    · have := num_mono hl.tail hm.tail h w
      rw [z]
      omega
/-- a piece of a number's signs -/
theorem num_mid {u v w : List Nat} (hv : Ab v) (hw : Ab w) : num (u ++ v ++ w) / 2 ^ w.length % 2 ^ v.length = num v := by
  rw [num_app, num_app, Nat.mul_comm (num u * 2 ^ v.length + num v), Nat.mul_add_div (Nat.two_pow_pos _), Nat.div_eq_of_lt (num_lt hw), Nat.add_zero, Nat.add_comm, Nat.add_mul_mod_self_right, Nat.mod_eq_of_lt (num_lt hv)]
theorem Ab_word (k n : Nat) : Ab (wordL k n) := fun c h => wordL_ab c h
/-- the first 610 signs -/
def BB : Nat := 1233075335047919973104089929284093659234000607014424358368672628940369809963709097652295036982041543217266854302933043554221810342346269309243418357305653995221255408444898828796643657
def nfP : Nat → Nat × Nat
  | 0 => (0, 1)
  | j + 1 => ((nfP j).2, (nfP j).2 * 2 ^ mk j + (nfP j).1)
theorem nfP_ok : ∀ j, nfP j = (num (wordL 0 (mk j)), num (wordL 0 (mk (j + 1))))
  | 0 => by decide +kernel
  | j + 1 => by
    show ((nfP j).2, (nfP j).2 * 2 ^ mk j + (nfP j).1) = _
    rw [nfP_ok j, word_step j, num_app, wordL_len]
theorem BB_ok : num (wordL 0 610) = BB := by
  have h : (nfP 13).1 = BB := by decide +kernel
  have e : mk 13 = 610 := by decide +kernel
  rw [nfP_ok, e] at h
  exact h
/-- the piece of n signs from k on, as a number -/
def pN (k n : Nat) : Nat := BB / 2 ^ (610 - k - n) % 2 ^ n
theorem pN_ok {k n : Nat} (h : k + n ≤ 610) : pN k n = num (wordL k n) := by
  have e : wordL 0 610 = wordL 0 k ++ wordL k n ++ wordL (k + n) (610 - k - n) := by
    have h1 := wordL_add 0 (k + n) (610 - k - n)
    rw [show k + n + (610 - k - n) = 610 by omega, wordL_add 0 k n, Nat.zero_add, Nat.zero_add] at h1
    exact h1
  have := num_mid (u := wordL 0 k) (Ab_word k n) (Ab_word (k + n) (610 - k - n))
  rw [← e, BB_ok, wordL_len, wordL_len] at this
  exact this
theorem piece_eq {k j n : Nat} (h1 : k + n ≤ 610) (h2 : j + n ≤ 610) (e : pN k n = pN j n) : wordL k n = wordL j n := by
  rw [pN_ok h1, pN_ok h2] at e
  exact num_inj (Ab_word _ _) (Ab_word _ _) (by rw [wordL_len, wordL_len]) e
/-! ## every piece stands near the beginning -/
def nearOk (L B : Nat) : Bool := (List.range (2 * B + 2)).all fun p => (List.range (B + 1)).any fun q => Nat.beq (pN p L) (pN q L)
theorem near_all : nearOk 2 15 && nearOk 3 20 && nearOk 5 25 && nearOk 8 35 && nearOk 13 50 && nearOk 21 75 && nearOk 34 115 && nearOk 55 180 = true := by decide +kernel
theorem near_use {L B : Nat} (h : nearOk L B = true) (hz : 2 * B + 1 + L ≤ 610) {p : Nat} (hp : p ≤ 2 * B + 1) : ∃ q, q ≤ B ∧ wordL q L = wordL p L := by
  unfold nearOk at h
  have h1 := List.all_eq_true.mp h p (List.mem_range.mpr (by omega))
  obtain ⟨q, hq, e⟩ := List.any_eq_true.mp h1
  have hq := List.mem_range.mp hq
  exact ⟨q, by omega, (piece_eq (by omega) (by omega) (Nat.eq_of_beq_eq_true e)).symm⟩
theorem sg_next {n : Nat} (h : sg n = true) : sg (n + 1) = false := by
  cases e : sg (n + 1) with
  | false => rfl
  | true =>
    obtain ⟨t, h1⟩ := sg_t h
    obtain ⟨i, u, h2⟩ := addP_head t 1
    obtain ⟨v, h3⟩ := sg_t e
    have h4 : rowN (n + 1) = addP 1 t := by
      show incR (rowN n) = _
      rw [h1]
      rfl
    rw [h4, h2] at h3
    injection h3 with h5 _
    omega
theorem AA3_step (n : Nat) : AA 3 n + 1 ≤ AA 3 (n + 1) := by
  have f3 : fb 3 = 2 := rfl
  have f4 : fb (3 + 1) = 3 := rfl
  cases h : sg n with
  | true =>
    have := AA_t h 3
    omega
  | false =>
    have := AA_f h 3
    omega
theorem AA3_steps (k : Nat) : ∀ n, AA 3 k + n ≤ AA 3 (k + n)
  | 0 => Nat.le_refl _
  | n + 1 => by
    have := AA3_steps k n
    have := AA3_step (k + n)
    rw [show k + (n + 1) = k + n + 1 by omega]
    omega
theorem AA3_two (k : Nat) : AA 3 k + 3 ≤ AA 3 (k + 2) := by
  have f3 : fb 3 = 2 := rfl
  have f4 : fb (3 + 1) = 3 := rfl
  have h0 := AA3_step k
  have h1 := AA3_step (k + 1)
  cases h : sg k with
  | false =>
    have := AA_f h 3
    rw [show k + 2 = k + 1 + 1 from rfl]
    omega
  | true =>
    have := AA_t h 3
    have h2 := AA_f (sg_next h) 3
    rw [show k + 2 = k + 1 + 1 from rfl]
    omega
theorem AA3_long {k n : Nat} (h : 2 ≤ n) : AA 3 k + n + 1 ≤ AA 3 (k + n) := by
  have h1 := AA3_two k
  have h2 := AA3_steps (k + 2) (n - 2)
  rw [show k + 2 + (n - 2) = k + n by omega] at h2
  omega
theorem grow_piece (k n : Nat) : grow (wordL k n) = wordL (AA 3 k) (AA 3 (k + n) - AA 3 k) := by
  have h1 := grow_word (k + n)
  have h2 := grow_word k
  have h3 := AA3_steps k n
  rw [wordL_add, grow_app, h2, Nat.zero_add, show AA 3 (k + n) = AA 3 k + (AA 3 (k + n) - AA 3 k) by omega, wordL_add, Nat.zero_add] at h1
  exact List.append_cancel_left h1
theorem word_drop (k m d : Nat) : (wordL k m).drop d = wordL (k + d) (m - d) := by
  rcases Nat.lt_or_ge m d with h | h
  · rw [List.drop_of_length_le (by rw [wordL_len]; omega), show m - d = 0 by omega]
    rfl
  · have := wordL_add k d (m - d)
    rw [show d + (m - d) = m by omega] at this
    rw [this, List.drop_append, List.drop_of_length_le (by rw [wordL_len]; omega), wordL_len, Nat.sub_self, List.drop_zero, List.nil_append]
/-- every place stands at a sign's growing -/
theorem grown_at (p : Nat) (h : 2 ≤ p) : ∃ k d, k < p ∧ d ≤ 1 ∧ p = AA 3 k + d := by
  cases hs : sg p with
  | false =>
    have e := sg_down hs
    refine ⟨AA 1 p, 0, ?_, by decide, e.symm⟩
    have h1 := AA3_eq (AA 1 p)
    have h2 := AA_sum (AA 1 p)
    have h3 := AA01 (AA 1 p)
    have h4 := AA_sum p
    have h5 := AA01 p
    omega
  | true =>
    have e := sg_back hs
    have e2 : AA 3 (AA 3 (AA 0 p)) = AA 4 (AA 0 p) := AA_up 3 _
    refine ⟨AA 3 (AA 0 p), 1, ?_, by decide, by omega⟩
    have := AA3_ge (AA 3 (AA 0 p))
    omega
theorem near_of {L B : Nat} (hL : 2 ≤ L) (h : nearOk L B = true) (hz : 2 * B + 1 + L ≤ 610) (hB : 1 ≤ B) : ∀ p, ∃ q, q ≤ B ∧ wordL q L = wordL p L := by
  intro p
  induction p using Nat.strongRecOn with
  | ind p ih =>
    by_cases hp : p ≤ 2 * B + 1
    · exact near_use h hz hp
    · obtain ⟨k, d, hk, hd, e⟩ := grown_at p (by omega)
      obtain ⟨q, hq, eq⟩ := ih k hk
      have g1 := grow_piece k L
      have g2 := grow_piece q L
      rw [eq, g1] at g2
      have l1 := congrArg List.length g2
      rw [wordL_len, wordL_len] at l1
      have a1 := AA3_long (k := k) hL
      have a2 := AA3_long (k := q) hL
      have h2 := congrArg (fun l => (List.drop d l).take L) g2
      simp only [word_drop] at h2
      rw [wordL_take (by omega), wordL_take (by omega)] at h2
      have b1 := AA3_le q
      obtain ⟨r, hr, er⟩ := near_use h hz (p := AA 3 q + d) (by omega)
      exact ⟨r, hr, by rw [er, ← h2, e]⟩
theorem piece_sub {q p n L : Nat} (h : n ≤ L) (e : wordL q L = wordL p L) : wordL q n = wordL p n := by
  rw [← wordL_take (k := q) h, e, wordL_take h]
theorem piece_near {n : Nat} (h : n ≤ 41) (p : Nat) : ∃ q, q ≤ 5 * n + 5 ∧ wordL q n = wordL p n := by
  have hA := near_all
  simp only [Bool.and_eq_true] at hA
  obtain ⟨⟨⟨⟨⟨⟨⟨a2, a3⟩, a5⟩, a8⟩, a13⟩, a21⟩, a34⟩, a55⟩ := hA
  have go : ∀ (L B : Nat), nearOk L B = true → 2 ≤ L → 2 * B + 1 + L ≤ 610 → 1 ≤ B → n ≤ L → B ≤ 5 * n + 5 → ∃ q, q ≤ 5 * n + 5 ∧ wordL q n = wordL p n := fun L B hk h1 h2 h3 h4 h5 => by
    obtain ⟨q, hq, e⟩ := near_of h1 hk h2 h3 p
    exact ⟨q, by omega, piece_sub h4 e⟩
  by_cases h0 : n = 0
  · subst h0
    exact ⟨0, by omega, rfl⟩
  by_cases h1 : n = 1
  · subst h1
    have e : ∀ k, wordL k 1 = [wc k] := fun k => rfl
    rw [e]
    have w0 : wc 0 = 97 := by decide +kernel
    have w1 : wc 1 = 98 := by decide +kernel
    rcases wc_ab p with z | z
    · exact ⟨0, by omega, by rw [e, z, w0]⟩
    · exact ⟨1, by omega, by rw [e, z, w1]⟩
  by_cases h2 : n ≤ 2
  · exact go 2 15 a2 (by decide) (by decide) (by decide) h2 (by omega)
  by_cases h3 : n ≤ 3
  · exact go 3 20 a3 (by decide) (by decide) (by decide) h3 (by omega)
  by_cases h5 : n ≤ 5
  · exact go 5 25 a5 (by decide) (by decide) (by decide) h5 (by omega)
  by_cases h8 : n ≤ 8
  · exact go 8 35 a8 (by decide) (by decide) (by decide) h8 (by omega)
  by_cases h13 : n ≤ 13
  · exact go 13 50 a13 (by decide) (by decide) (by decide) h13 (by omega)
  by_cases h21 : n ≤ 21
  · exact go 21 75 a21 (by decide) (by decide) (by decide) h21 (by omega)
  by_cases h34 : n ≤ 34
  · exact go 34 115 a34 (by decide) (by decide) (by decide) h34 (by omega)
  · exact go 55 180 a55 (by decide) (by decide) (by decide) (by omega) (by omega)
end Tw
namespace Tw
open PySem PySem.Spec PyProof.Rows L2
/-! ## texts sought in texts -/
theorem at_tx {l m : List Nat} {i : Nat} : StrLaws.At (tx l) (tx m) (tx l).length i ↔ i + m.length ≤ l.length ∧ (l.drop i).take m.length = m := by
  unfold StrLaws.At
  rw [StrLaws.subAt_eq, tx_len, tx_len, tx_cps, tx_cps]
  constructor
  · rintro ⟨h1, h2⟩
    exact ⟨h1, eq_of_beq h2⟩
  · rintro ⟨h1, h2⟩
    exact ⟨h1, by rw [h2]; exact beq_self_eq_true _⟩
theorem find_tx (l m : List Nat) : (Txt.find (tx l) (tx m) = -1 ∧ ∀ i, i + m.length ≤ l.length → (l.drop i).take m.length ≠ m) ∨
    ∃ i : Nat, Txt.find (tx l) (tx m) = (i : Int) ∧ (i + m.length ≤ l.length ∧ (l.drop i).take m.length = m) ∧ ∀ k, k < i → (l.drop k).take m.length ≠ m := by
  rcases find_whole (tx l) (tx m) with ⟨h1, h2⟩ | ⟨i, h1, h2, h3⟩
  · exact .inl ⟨h1, fun i hi e => h2 i (at_tx.mpr ⟨hi, e⟩)⟩
  · have h2 := at_tx.mp h2
    refine .inr ⟨i, h1, h2, fun k hk e => h3 k hk (at_tx.mpr ⟨by omega, e⟩)⟩
theorem word_mid {L i n : Nat} (h : i + n ≤ L) : ((wordL 0 L).drop i).take n = wordL i n := by
  rw [word_drop, Nat.zero_add, wordL_take (by omega)]
/-- where a text stands first in a beginning of the word -/
theorem find_word {l : List Nat} {L : Nat} (hl : l.length ≤ 41) (hL : 6 * l.length + 5 ≤ L) :
    (Txt.find (tx (wordL 0 L)) (tx l) = -1 ∧ ∀ k, wordL k l.length ≠ l) ∨
    ∃ i : Nat, Txt.find (tx (wordL 0 L)) (tx l) = (i : Int) ∧ (i < mk 400 ∧ wordL i l.length = l) ∧ ∀ k, k < i → wordL k l.length ≠ l := by
  rcases find_tx (wordL 0 L) l with ⟨h1, h2⟩ | ⟨i, h1, ⟨h2, h3⟩, h4⟩
  · refine .inl ⟨h1, fun k e => ?_⟩
    obtain ⟨q, hq, e2⟩ := piece_near hl k
    rw [wordL_len] at h2
    exact h2 q (by omega) (by rw [word_mid (by omega), e2, e])
  · rw [wordL_len] at h2
    rw [word_mid h2] at h3
    have h5 : ∀ k, k < i → wordL k l.length ≠ l := fun k hk e => h4 k hk (by rw [word_mid (by omega), e])
    refine .inr ⟨i, h1, ⟨?_, h3⟩, h5⟩
    obtain ⟨q, hq, e2⟩ := piece_near hl i
    have h6 : i ≤ q := by
      rcases Nat.lt_or_ge q i with z | z
      · exact absurd (by rw [e2, h3]) (h5 q z)
      · exact z
    have := mk_gt 400
    omega
section
variable {K : PySem.W.Frag} {σ : L2.St} {H : Hp} {ta tb tc te : TE} {E : XK} {D : Ends} {tz : TS} {i : Nat} {o : HO} {P : V → Prop}
theorem vl_find {a b : Str} (ha : Vl ta σ H (.str a)) (hb : Vl tb σ H (.str b)) : Vl (tM1 (fun x xs H Q => ∃ a b, x = .str a ∧ xs = [.str b] ∧ Q (.int (Txt.find a b)) H) ta tb) σ H (.int (Txt.find a b)) := fun Q q => ha _ ⟨⟨a, rfl⟩, hb _ ⟨a, b, rfl, rfl, q⟩⟩
theorem va_find {b : Str} (ha : Va ta σ H P) (hP : ∀ v, P v → ∃ a, v = .str a) (hb : Vl tb σ H (.str b)) : Va (tM1 (fun x xs H Q => ∃ a b, x = .str a ∧ xs = [.str b] ∧ Q (.int (Txt.find a b)) H) ta tb) σ H (fun v => ∃ a, P (.str a) ∧ v = .int (Txt.find a b)) := fun Q q => ha _ fun v hv => by
  obtain ⟨a, rfl⟩ := hP v hv
  exact ⟨⟨a, rfl⟩, hb _ ⟨a, b, rfl, rfl, q _ ⟨a, hv, rfl⟩⟩⟩
/-- a beginning of the word, at least so many signs -/
def sp_beginning : Sp := fun vs H Q _ => ∃ (z : Nat), vs = [.int (z : Int)] ∧ z ≤ 10000 ∧ Fl H ∧ ∀ L, z ≤ L → L ≤ 2 * z + 1 → Q (.str (tx (wordL 0 L))) H
theorem va_beginning {z : Nat} (ha : Vl ta σ H (.int (z : Int))) (h : z ≤ 10000 ∧ Fl H) : Va (tCall sp_beginning [] E (tCons ta tNil)) σ H (fun v => ∃ L, v = .str (tx (wordL 0 L)) ∧ z ≤ L ∧ L ≤ 2 * z + 1) := va_call (av_cons ha av_nil) fun _ q => ⟨z, rfl, h.1, h.2, fun L h1 h2 => q _ ⟨L, rfl, h1, h2⟩⟩
def sp_first_at : Sp := fun vs H Q _ => ∃ (l : List Nat), vs = [.str (tx l)] ∧ l.length ≤ 41 ∧ Fl H ∧ (∀ k : Nat, wordL k l.length = l → (∀ j, j < k → wordL j l.length ≠ l) → Q (.int (k : Int)) H) ∧ ((∀ k, wordL k l.length ≠ l) → Q .non H)
theorem vl_first_at {l : List Nat} {k : Nat} (ha : Vl ta σ H (.str (tx l))) (h : l.length ≤ 41 ∧ Fl H) (h1 : wordL k l.length = l) (h2 : ∀ j, j < k → wordL j l.length ≠ l) : Vl (tCall sp_first_at [] E (tCons ta tNil)) σ H (.int (k : Int)) :=
  vl_call (av_cons ha av_nil) fun _ q => ⟨l, rfl, h.1, h.2, fun j g1 g2 => by
    have e : j = k := by
      rcases Nat.lt_trichotomy j k with z | z | z
      · exact absurd g1 (h2 j z)
      · exact z
      · exact absurd h1 (g2 k z)
    rw [e]
    exact q, fun g => absurd h1 (g k)⟩
theorem vl_first_at0 {l : List Nat} (ha : Vl ta σ H (.str (tx l))) (h : l.length ≤ 41 ∧ Fl H) (h1 : ∀ k, wordL k l.length ≠ l) : Vl (tCall sp_first_at [] E (tCons ta tNil)) σ H .non :=
  vl_call (av_cons ha av_nil) fun _ q => ⟨l, rfl, h.1, h.2, fun j g1 _ => absurd g1 (h1 j), fun _ => q⟩
theorem str_append_len (x y : Str) : (x ++ y).length = x.length + y.length := by
  rw [TL.len_tl, TL.tl_append, List.length_append, ← TL.len_tl, ← TL.len_tl]
theorem mk_dbl (j : Nat) : mk (j + 1) ≤ 2 * mk j := by
  cases j with
  | zero => decide
  | succ j =>
    have h1 : mk (j + 1 + 1) = mk (j + 1) + mk j := mk_rec j
    have h2 : mk j ≤ mk (j + 1) := mk_mono (by omega)
    omega
end
end Tw

namespace Tw
/-! ## the pieces of one length, as numbers, rising -/
def insN (x : Nat) : List Nat → List Nat
  | [] => [x]
  | y :: t => if Nat.blt x y then x :: y :: t else if Nat.beq x y then y :: t else y :: insN x t
def PNf (n : Nat) : Nat → List Nat
  | 0 => []
  | k + 1 => insN (pN k n) (PNf n k)
def PN (n : Nat) : List Nat := PNf n (5 * n + 6)
theorem blt_iff {a b : Nat} : Nat.blt a b = true ↔ a < b := by
  unfold Nat.blt
  rw [Nat.ble_eq]
  exact Iff.rfl
theorem insN_mem {x y : Nat} : ∀ {l : List Nat}, y ∈ insN x l ↔ y = x ∨ y ∈ l
  | [] => by simp [insN]
  | z :: t => by
    unfold insN
    split
    · simp
    · split
      · rename_i h
        have e := Nat.eq_of_beq_eq_true h
        subst e
        simp
      · rw [List.mem_cons, insN_mem (l := t), List.mem_cons]
        constructor
        · rintro (h | h | h)
          · exact .inr (.inl h)
          · exact .inl h
          · exact .inr (.inr h)
        · rintro (h | h | h)
          · exact .inr (.inl h)
          · exact .inl h
          · exact .inr (.inr h)
theorem insN_up {x : Nat} : ∀ {l : List Nat}, l.Pairwise (· < ·) → (insN x l).Pairwise (· < ·)
  | [], _ => by simp [insN]
  | z :: t, h => by
    have h1 := List.pairwise_cons.mp h
    unfold insN
    split
    · rename_i hb
      have hb := blt_iff.mp hb
      refine List.pairwise_cons.mpr ⟨fun y hy => ?_, h⟩
      rcases List.mem_cons.mp hy with rfl | hy
      · exact hb
      · have := h1.1 y hy
        omega
    · rename_i hb
      split
      · exact h
      · rename_i he
        have hne : x ≠ z := fun e => by
          subst e
          exact he (Nat.beq_refl x)
        have hge : ¬ x < z := fun e => hb (blt_iff.mpr e)
        refine List.pairwise_cons.mpr ⟨fun y hy => ?_, insN_up h1.2⟩
        rcases insN_mem.mp hy with rfl | hy
        · omega
        · exact h1.1 y hy
theorem PNf_mem {n y : Nat} : ∀ {m : Nat}, y ∈ PNf n m ↔ ∃ k, k < m ∧ y = pN k n
  | 0 => by simp [PNf]
  | m + 1 => by
    show y ∈ insN (pN m n) (PNf n m) ↔ _
    rw [insN_mem, PNf_mem (m := m)]
    constructor
    · rintro (h | ⟨k, h1, h2⟩)
      · exact ⟨m, Nat.lt_succ_self _, h⟩
      · exact ⟨k, by omega, h2⟩
    · rintro ⟨k, h1, h2⟩
      by_cases e : k = m
      · subst e
        exact .inl h2
      · exact .inr ⟨k, by omega, h2⟩
theorem PNf_up (n : Nat) : ∀ m, (PNf n m).Pairwise (· < ·)
  | 0 => .nil
  | m + 1 => insN_up (PNf_up n m)
/-- two rising lists with the same members are one -/
theorem up_one : ∀ {l m : List Nat}, l.Pairwise (· < ·) → m.Pairwise (· < ·) → (∀ x, x ∈ l ↔ x ∈ m) → l = m
  | [], [], _, _, _ => rfl
  | [], y :: t, _, _, h => absurd ((h y).mpr List.mem_cons_self) List.not_mem_nil
  | x :: t, [], _, _, h => absurd ((h x).mp List.mem_cons_self) List.not_mem_nil
  | x :: t, y :: u, hl, hm, h => by
    have h1 := List.pairwise_cons.mp hl
    have h2 := List.pairwise_cons.mp hm
    have e : x = y := by
      have a : x ∈ y :: u := (h x).mp List.mem_cons_self
      have b : y ∈ x :: t := (h y).mpr List.mem_cons_self
      rcases List.mem_cons.mp a with a | a
      · exact a
      · rcases List.mem_cons.mp b with b | b
        · exact b.symm
        · have := h1.1 y b
          have := h2.1 x a
          omega
    subst e
    refine congrArg (x :: ·) (up_one h1.2 h2.2 fun z => ?_)
    constructor
    · intro hz
      have := (h z).mp (List.mem_cons_of_mem _ hz)
      rcases List.mem_cons.mp this with e | e
      · subst e
        have := h1.1 z hz
        omega
      · exact e
    · intro hz
      have := (h z).mpr (List.mem_cons_of_mem _ hz)
      rcases List.mem_cons.mp this with e | e
      · subst e
        have := h2.1 z hz
        omega
      · exact e
/-- all pieces of n signs, rising -/
structure Pcs (n : Nat) (ls : List (List Nat)) : Prop where
  up : (ls.map num).Pairwise (· < ·)
  mem : ∀ l, l ∈ ls ↔ ∃ k, k < 5 * n + 6 ∧ l = wordL k n
theorem Pcs.ab {n : Nat} {ls : List (List Nat)} (h : Pcs n ls) {l : List Nat} (hl : l ∈ ls) : Ab l ∧ l.length = n := by
  obtain ⟨k, _, rfl⟩ := (h.mem l).mp hl
  exact ⟨Ab_word _ _, wordL_len _ _⟩
theorem lt_num : ∀ {l m : List Nat}, Ab l → Ab m → l.length = m.length → num l < num m → l < m
  | [], [], _, _, _, h => absurd h (Nat.lt_irrefl _)
  | [], _ :: _, _, _, h, _ => by cases h
  | _ :: _, [], _, _, h, _ => by cases h
  | c :: l, d :: m, hl, hm, h, e => by
    have h2 : l.length = m.length := by simpa using h
    rw [num_cons, num_cons, h2] at e
    have a := num_lt hl.tail
    have b := num_lt hm.tail
    rw [h2] at a
    have hc := hl c List.mem_cons_self
    have hd := hm d List.mem_cons_self
    rw [List.cons_lt_cons_iff]
    rcases hc with rfl | rfl <;> rcases hd with rfl | rfl
    · exact .inr ⟨rfl, lt_num hl.tail hm.tail h2 (by simpa using e)⟩
    · exact .inl (by decide)
    · exfalso
      simp at e
      omega
    · exact .inr ⟨rfl, lt_num hl.tail hm.tail h2 (by simpa using e)⟩
theorem Pcs.nums {n : Nat} {ls : List (List Nat)} (h : Pcs n ls) (hn : n ≤ 41) : ls.map num = PN n := by
  refine up_one h.up (PNf_up n _) fun x => ?_
  · rw [List.mem_map]
    unfold PN
    rw [PNf_mem]
    constructor
    · rintro ⟨l, hl, rfl⟩
      obtain ⟨k, hk, rfl⟩ := (h.mem l).mp hl
      exact ⟨k, hk, (pN_ok (by omega)).symm⟩
    · rintro ⟨k, hk, rfl⟩
      exact ⟨wordL k n, (h.mem _).mpr ⟨k, hk, rfl⟩, (pN_ok (by omega)).symm⟩
theorem Pcs.any {n : Nat} {ls : List (List Nat)} (h : Pcs n ls) (hn : n ≤ 41) (p : Nat) : wordL p n ∈ ls := by
  obtain ⟨q, hq, e⟩ := piece_near hn p
  exact (h.mem _).mpr ⟨q, by omega, e.symm⟩
theorem Pcs.in_num {n : Nat} {ls : List (List Nat)} (h : Pcs n ls) (hn : n ≤ 41) {l : List Nat} (hl : Ab l) (e : l.length = n) : l ∈ ls ↔ num l ∈ PN n := by
  rw [← h.nums hn, List.mem_map]
  constructor
  · intro z
    exact ⟨l, z, rfl⟩
  · rintro ⟨m, hm, e2⟩
    have := h.ab hm
    rw [← num_inj this.1 hl (by rw [this.2, e]) e2]
    exact hm
/-- two lists of all pieces of n signs are one -/
theorem Pcs.one {n : Nat} {ls ms : List (List Nat)} (h : Pcs n ls) (g : Pcs n ms) (hn : n ≤ 41) : ls = ms := by
  have e : ls.map num = ms.map num := by rw [h.nums hn, g.nums hn]
  have go : ∀ (l m : List (List Nat)), (∀ x ∈ l, Ab x ∧ x.length = n) → (∀ x ∈ m, Ab x ∧ x.length = n) → l.map num = m.map num → l = m := by
    intro l
    induction l with
    | nil =>
      intro m _ _ e
      cases m with
      | nil => rfl
      | cons y u => cases e
    | cons x t ih =>
      intro m h1 h2 e
      cases m with
      | nil => cases e
      | cons y u =>
        rw [List.map_cons, List.map_cons] at e
        injection e with e1 e2
        have a := h1 x List.mem_cons_self
        have b := h2 y List.mem_cons_self
        rw [num_inj a.1 b.1 (by rw [a.2, b.2]) e1, ih u (fun z hz => h1 z (List.mem_cons_of_mem _ hz)) (fun z hz => h2 z (List.mem_cons_of_mem _ hz)) e2]
  exact go ls ms (fun x hx => h.ab hx) (fun x hx => g.ab hx) e
/-! ### what was reckoned -/
def cb : Nat → Nat → Nat
  | 0, _ => 0
  | n + 1, x => x % 2 + cb n (x / 2)
def rv : Nat → Nat → Nat → Nat
  | 0, _, a => a
  | n + 1, x, a => rv n (x / 2) (2 * a + x % 2)
def memN (x : Nat) (l : List Nat) : Bool := l.any (Nat.beq x)
def okLen (n : Nat) : Bool := Nat.beq (PN n).length (n + 1)
def okBal (n : Nat) : Bool := (PN n).all fun x => let c := cb n x; let m := cb n (pN 0 n); Nat.ble m c && Nat.ble c (m + 1) || Nat.ble c m && Nat.ble m (c + 1)
def balL (n m : Nat) : Bool := (PN n).all fun x => Nat.ble m (cb n x) && Nat.ble (cb n x) (m + 1)
def okFork (n : Nat) : Bool :=
  (PN n).all (fun x => memN (2 * x) (PN (n + 1)) || memN (2 * x + 1) (PN (n + 1))) &&
  (PN n).all (fun x => memN (rv n x 0) (PN n)) &&
  ((PN n).filter fun x => memN (2 * x) (PN (n + 1)) && memN (2 * x + 1) (PN (n + 1))) == [rv n (pN 0 n) 0]
theorem len_all : (List.range 42).all okLen = true := by decide +kernel
theorem bal_all : (List.range 41).all (fun n => balL n (cb n (pN 0 n)) || balL n (cb n (pN 0 n) - 1)) = true := by decide +kernel
theorem fork_all : (List.range 40).all okFork = true := by decide +kernel
theorem num_snoc (l : List Nat) (c : Nat) : num (l ++ [c]) = 2 * num l + (c - 97) := by
  unfold num
  rw [List.foldl_append]
  rfl
theorem snoc_ind {P : List Nat → Prop} (h0 : P []) (h1 : ∀ l c, P l → P (l ++ [c])) : ∀ l, P l := by
  have go : ∀ n l, l.length = n → P l := by
    intro n
    induction n with
    | zero =>
      intro l h
      rw [List.length_eq_zero_iff.mp h]
      exact h0
    | succ n ih =>
      intro l h
      have hne : l ≠ [] := fun e => by
        rw [e] at h
        cases h
      rw [← List.dropLast_concat_getLast hne]
      exact h1 _ _ (ih _ (by rw [List.length_dropLast]; omega))
  exact fun l => go l.length l rfl
theorem Ab.init {l : List Nat} {c : Nat} (h : Ab (l ++ [c])) : Ab l ∧ (c = 97 ∨ c = 98) := ⟨fun x hx => h x (List.mem_append_left _ hx), h c (by simp)⟩
theorem cb_num : ∀ l : List Nat, Ab l → cb l.length (num l) = l.count 98 := by
  refine snoc_ind (fun _ => rfl) fun l c ih h => ?_
  obtain ⟨h1, h2⟩ := h.init
  rw [List.length_append, num_snoc, List.count_append]
  show (2 * num l + (c - 97)) % 2 + cb l.length ((2 * num l + (c - 97)) / 2) = _
  rcases h2 with rfl | rfl
  · rw [show (2 * num l + (97 - 97)) / 2 = num l by omega, ih h1, show (2 * num l + (97 - 97)) % 2 = 0 by omega]
    simp
  · rw [show (2 * num l + (98 - 97)) / 2 = num l by omega, ih h1, show (2 * num l + (98 - 97)) % 2 = 1 by omega]
    simp
    omega
theorem rv_num : ∀ l : List Nat, Ab l → ∀ a, rv l.length (num l) a = l.reverse.foldl numS a := by
  refine snoc_ind (fun _ _ => rfl) fun l c ih h a => ?_
  obtain ⟨h1, h2⟩ := h.init
  rw [List.length_append, num_snoc, List.reverse_append]
  show rv l.length ((2 * num l + (c - 97)) / 2) (2 * a + (2 * num l + (c - 97)) % 2) = l.reverse.foldl numS (numS a c)
  have e : (2 * num l + (c - 97)) / 2 = num l ∧ 2 * a + (2 * num l + (c - 97)) % 2 = numS a c := by
    unfold numS
    rcases h2 with rfl | rfl <;> omega
  rw [e.1, e.2, ih h1]
theorem count_ab : ∀ {l : List Nat}, Ab l → l.count 97 + l.count 98 = l.length
  | [], _ => rfl
  | c :: r, h => by
    have ih := count_ab h.tail
    rw [List.count_cons, List.count_cons, List.length_cons]
    rcases h c List.mem_cons_self with rfl | rfl
    · simp
      omega
    · simp
      omega
theorem memN_iff {x : Nat} {l : List Nat} : memN x l = true ↔ x ∈ l := by
  unfold memN
  rw [List.any_eq_true]
  constructor
  · rintro ⟨y, hy, e⟩
    rw [Nat.eq_of_beq_eq_true e]
    exact hy
  · intro h
    exact ⟨x, h, Nat.beq_refl x⟩
theorem Pcs.len {n : Nat} {ls : List (List Nat)} (h : Pcs n ls) (hn : n ≤ 41) : ls.length = n + 1 := by
  have a := List.all_eq_true.mp len_all n (List.mem_range.mpr (by omega))
  have b := Nat.eq_of_beq_eq_true a
  rw [← h.nums hn, List.length_map] at b
  exact b
theorem Pcs.bal {n : Nat} {ls : List (List Nat)} (h : Pcs n ls) (hn : n ≤ 40) : ∃ c, ∀ l ∈ ls, c ≤ l.count 98 ∧ l.count 98 ≤ c + 1 := by
  have a := List.all_eq_true.mp bal_all n (List.mem_range.mpr (by omega))
  have go : ∀ c, balL n c = true → ∀ l ∈ ls, c ≤ l.count 98 ∧ l.count 98 ≤ c + 1 := fun c hc l hl => by
    unfold balL at hc
    rw [← h.nums (by omega)] at hc
    have z := List.all_eq_true.mp hc (Tw.num l) (List.mem_map.mpr ⟨l, hl, rfl⟩)
    have hab := h.ab hl
    have e := cb_num l hab.1
    rw [hab.2] at e
    rw [e, Bool.and_eq_true, Nat.ble_eq, Nat.ble_eq] at z
    exact z
  rcases Bool.or_eq_true _ _ |>.mp a with a | a
  · exact ⟨_, go _ a⟩
  · exact ⟨_, go _ a⟩
theorem Pcs.bal_a {n : Nat} {ls : List (List Nat)} (h : Pcs n ls) (hn : n ≤ 40) {l m : List Nat} (hl : l ∈ ls) (hm : m ∈ ls) : l.count 97 ≤ m.count 97 + 1 := by
  obtain ⟨c, hc⟩ := h.bal hn
  have a := hc l hl
  have b := hc m hm
  have a2 := count_ab (h.ab hl).1
  have b2 := count_ab (h.ab hm).1
  have a3 := (h.ab hl).2
  have b3 := (h.ab hm).2
  omega
theorem fork_use {n : Nat} (hn : n ≤ 39) : okFork n = true := List.all_eq_true.mp fork_all n (List.mem_range.mpr (by omega))
theorem Ab.snoc {l : List Nat} {c : Nat} (h : Ab l) (hc : c = 97 ∨ c = 98) : Ab (l ++ [c]) := fun x hx => by
  rcases List.mem_append.mp hx with hx | hx
  · exact h x hx
  · have : x = c := by simpa using hx
    rw [this]
    exact hc
section
variable {n : Nat} {ls ms : List (List Nat)}
theorem Pcs.snoc (g : Pcs (n + 1) ms) (hn : n ≤ 39) {l : List Nat} (hl : Ab l) (e : l.length = n) : (l ++ [97] ∈ ms ↔ memN (2 * num l) (PN (n + 1)) = true) ∧ (l ++ [98] ∈ ms ↔ memN (2 * num l + 1) (PN (n + 1)) = true) := by
  constructor
  · rw [g.in_num (by omega) (hl.snoc (.inl rfl)) (by rw [List.length_append, e]; rfl), memN_iff, num_snoc]
    rfl
  · rw [g.in_num (by omega) (hl.snoc (.inr rfl)) (by rw [List.length_append, e]; rfl), memN_iff, num_snoc]
theorem Pcs.next (h : Pcs n ls) (g : Pcs (n + 1) ms) (hn : n ≤ 39) {l : List Nat} (hl : l ∈ ls) : l ++ [97] ∈ ms ∨ l ++ [98] ∈ ms := by
  have a := fork_use hn
  unfold okFork at a
  rw [Bool.and_eq_true, Bool.and_eq_true] at a
  have hab := h.ab hl
  have z := List.all_eq_true.mp a.1.1 (num l) ((h.in_num (by omega) hab.1 hab.2).mp hl)
  rw [Bool.or_eq_true] at z
  have s := g.snoc hn hab.1 hab.2
  rcases z with z | z
  · exact .inl (s.1.mpr z)
  · exact .inr (s.2.mpr z)
theorem Ab.rev {l : List Nat} (h : Ab l) : Ab l.reverse := fun x hx => h x (List.mem_reverse.mp hx)
theorem Pcs.back (h : Pcs n ls) (hn : n ≤ 39) {l : List Nat} (hl : l ∈ ls) : l.reverse ∈ ls := by
  have a := fork_use hn
  unfold okFork at a
  rw [Bool.and_eq_true, Bool.and_eq_true] at a
  have hab := h.ab hl
  have z := List.all_eq_true.mp a.1.2 (num l) ((h.in_num (by omega) hab.1 hab.2).mp hl)
  have e := rv_num l hab.1 0
  rw [hab.2] at e
  rw [e] at z
  exact (h.in_num (by omega) hab.1.rev (by rw [List.length_reverse, hab.2])).mpr (memN_iff.mp z)
theorem Pcs.fork (h : Pcs n ls) (g : Pcs (n + 1) ms) (hn : n ≤ 39) (f : List Nat → Bool) (hf : ∀ l ∈ ls, f l = true ↔ l ++ [97] ∈ ms ∧ l ++ [98] ∈ ms) : ls.filter f = [(wordL 0 n).reverse] := by
  have a := fork_use hn
  unfold okFork at a
  rw [Bool.and_eq_true, Bool.and_eq_true] at a
  have z := eq_of_beq a.2
  have e0 : rv n (pN 0 n) 0 = num (wordL 0 n).reverse := by
    have := rv_num (wordL 0 n) (Ab_word 0 n) 0
    rw [wordL_len, ← pN_ok (by omega)] at this
    exact this
  rw [← h.nums (by omega), List.filter_map, e0] at z
  have e1 : ls.filter ((fun x => memN (2 * x) (PN (n + 1)) && memN (2 * x + 1) (PN (n + 1))) ∘ Tw.num) = ls.filter f := by
    refine List.filter_congr fun l hl => ?_
    have hab := h.ab hl
    have s := g.snoc hn hab.1 hab.2
    rw [Bool.eq_iff_iff, hf l hl]
    show (memN (2 * Tw.num l) (PN (n + 1)) && memN (2 * Tw.num l + 1) (PN (n + 1))) = true ↔ _
    rw [Bool.and_eq_true, s.1, s.2]
  rw [e1] at z
  have hm : ∀ l ∈ ls.filter f, Ab l ∧ l.length = n := fun l hl => h.ab (List.mem_filter.mp hl).1
  cases e : ls.filter f with
  | nil =>
    rw [e] at z
    cases z
  | cons x t =>
    rw [e] at z hm
    cases t with
    | cons y u =>
      have := congrArg List.length z
      simp at this
    | nil =>
      have k := hm x List.mem_cons_self
      injection z with z1 z2
      rw [num_inj k.1 (Ab_word 0 n).rev (by rw [k.2, List.length_reverse, wordL_len]) z1]
end
/-! ### the pieces as they are met, put in order -/
structure Met (n i : Nat) (ks : List (List Nat)) : Prop where
  nd : ks.Nodup
  mem : ∀ l, l ∈ ks ↔ ∃ k, k < i ∧ l = wordL k n
theorem Met.zero (n : Nat) : Met n 0 [] := ⟨List.nodup_nil, fun l => by simp⟩
theorem Met.next {n i : Nat} {ks : List (List Nat)} (h : Met n i ks) : Met n (i + 1) (if wordL i n ∈ ks then ks else ks ++ [wordL i n]) := by
  by_cases e : wordL i n ∈ ks
  · rw [if_pos e]
    refine ⟨h.nd, fun l => ?_⟩
    rw [h.mem]
    constructor
    · rintro ⟨k, h1, h2⟩
      exact ⟨k, by omega, h2⟩
    · rintro ⟨k, h1, h2⟩
      by_cases z : k = i
      · subst z
        rw [h2]
        exact (h.mem _).mp e
      · exact ⟨k, by omega, h2⟩
  · rw [if_neg e]
    refine ⟨List.nodup_append.mpr ⟨h.nd, by simp, fun a ha b hb z => ?_⟩, fun l => ?_⟩
    · have hb : b = wordL i n := by simpa using hb
      rw [z, hb] at ha
      exact e ha
    · rw [List.mem_append, h.mem]
      constructor
      · rintro (⟨k, h1, h2⟩ | h1)
        · exact ⟨k, by omega, h2⟩
        · exact ⟨i, by omega, by simpa using h1⟩
      · rintro ⟨k, h1, h2⟩
        by_cases z : k = i
        · subst z
          exact .inr (by rw [h2]; simp)
        · exact .inl ⟨k, by omega, h2⟩
theorem Met.le {n i : Nat} {ks : List (List Nat)} (h : Met n i ks) (hi : i ≤ 5 * n + 6) (hn : n ≤ 41) : ks.length ≤ 42 := by
  have hab : ∀ l ∈ ks, Ab l ∧ l.length = n := fun l hl => by
    obtain ⟨k, _, rfl⟩ := (h.mem l).mp hl
    exact ⟨Ab_word _ _, wordL_len _ _⟩
  have nd : (ks.map num).Nodup := by
    have go : ∀ ls : List (List Nat), ls.Nodup → (∀ l ∈ ls, Ab l ∧ l.length = n) → (ls.map num).Nodup := by
      intro ls
      induction ls with
      | nil => intro _ _; exact List.nodup_nil
      | cons x t ih =>
        intro h1 h2
        have h3 := List.nodup_cons.mp h1
        rw [List.map_cons, List.nodup_cons]
        refine ⟨fun z => ?_, ih h3.2 fun l hl => h2 l (List.mem_cons_of_mem _ hl)⟩
        obtain ⟨y, hy, e⟩ := List.mem_map.mp z
        have a := h2 x List.mem_cons_self
        have b := h2 y (List.mem_cons_of_mem _ hy)
        have := num_inj b.1 a.1 (by rw [a.2, b.2]) e
        rw [this] at hy
        exact h3.1 hy
    exact go ks h.nd hab
  have sub : ∀ x ∈ ks.map num, x ∈ PN n := fun x hx => by
    obtain ⟨l, hl, rfl⟩ := List.mem_map.mp hx
    obtain ⟨k, hk, rfl⟩ := (h.mem l).mp hl
    unfold PN
    rw [PNf_mem]
    exact ⟨k, by omega, (pN_ok (by omega)).symm⟩
  have lenP : (PN n).length = n + 1 := Nat.eq_of_beq_eq_true (List.all_eq_true.mp len_all n (List.mem_range.mpr (by omega)))
  have go2 : ∀ (l m : List Nat), l.Nodup → (∀ x ∈ l, x ∈ m) → l.length ≤ m.length := by
    intro l
    induction l with
    | nil => intro m _ _; exact Nat.zero_le _
    | cons x t ih =>
      intro m h1 h2
      have h3 := List.nodup_cons.mp h1
      have hx := h2 x List.mem_cons_self
      have := ih (m.erase x) h3.2 fun y hy => (List.mem_erase_of_ne (fun e => h3.1 (by rw [← e]; exact hy))).mpr (h2 y (List.mem_cons_of_mem _ hy))
      rw [List.length_erase_of_mem hx] at this
      have hp : 0 < m.length := List.length_pos_of_mem hx
      rw [List.length_cons]
      omega
  have := go2 _ _ nd sub
  rw [List.length_map, lenP] at this
  omega
/-- no sign falls, and none twice: the numbers rise -/
def upL : List Nat → List (List Nat) → Prop
  | _, [] => True
  | p, x :: r => ¬ x < p ∧ upL x r
def sortL : List (List Nat) → Prop
  | [] => True
  | x :: r => upL x r
theorem upL_num {n : Nat} : ∀ {r : List (List Nat)} {p : List Nat}, (∀ l ∈ p :: r, Ab l ∧ l.length = n) → (p :: r).Nodup → upL p r → (∀ x ∈ r, num p < num x) ∧ (r.map num).Pairwise (· < ·)
  | [], _, _, _, _ => ⟨fun _ h => (nomatch h), .nil⟩
  | x :: t, p, hab, nd, ⟨h1, h2⟩ => by
    have a := hab p List.mem_cons_self
    have b := hab x (List.mem_cons_of_mem _ List.mem_cons_self)
    have nd2 := List.nodup_cons.mp nd
    obtain ⟨g1, g2⟩ := upL_num (r := t) (p := x) (fun l hl => hab l (List.mem_cons_of_mem _ hl)) nd2.2 h2
    have hpx : num p < num x := by
      rcases Nat.lt_trichotomy (num p) (num x) with z | z | z
      · exact z
      · have := num_inj a.1 b.1 (by rw [a.2, b.2]) z
        rw [this] at nd2
        exact absurd List.mem_cons_self nd2.1
      · exact absurd (lt_num b.1 a.1 (by rw [a.2, b.2]) z) h1
    refine ⟨fun y hy => ?_, ?_⟩
    · rcases List.mem_cons.mp hy with rfl | hy
      · exact hpx
      · have := g1 y hy
        omega
    · rw [List.map_cons]
      refine List.pairwise_cons.mpr ⟨fun y hy => ?_, g2⟩
      obtain ⟨z, hz, rfl⟩ := List.mem_map.mp hy
      exact g1 z hz
theorem Met.pcs {n : Nat} {ks ls : List (List Nat)} (h : Met n (5 * n + 6) ks) (hp : ls.Perm ks) (hs : sortL ls) : Pcs n ls := by
  refine ⟨?_, fun l => by rw [hp.mem_iff, h.mem]⟩
  have hab : ∀ l ∈ ls, Ab l ∧ l.length = n := fun l hl => by
    obtain ⟨k, _, rfl⟩ := (h.mem l).mp (hp.mem_iff.mp hl)
    exact ⟨Ab_word _ _, wordL_len _ _⟩
  have nd : ls.Nodup := hp.nodup_iff.mpr h.nd
  cases ls with
  | nil => exact .nil
  | cons x r =>
    obtain ⟨g1, g2⟩ := upL_num hab nd hs
    show (num x :: r.map num).Pairwise (· < ·)
    refine List.pairwise_cons.mpr ⟨fun y hy => ?_, g2⟩
    obtain ⟨z, hz, rfl⟩ := List.mem_map.mp hy
    exact g1 z hz
end Tw

namespace Tw
open PySem PySem.Spec PyProof.Rows L2
/-! ## lists of texts, dicts of texts -/
def strsV (ls : List (List Nat)) : List V := ls.map fun l => V.str (tx l)
theorem strsV_len (ls : List (List Nat)) : (strsV ls).length = ls.length := List.length_map ..
theorem strsV_get {ls : List (List Nat)} {i : Nat} {l : List Nat} (h : ls[i]? = some l) : (strsV ls)[i]? = some (.str (tx l)) := by
  unfold strsV
  rw [List.getElem?_map, h]
  rfl
def dk (ks : List (List Nat)) : List (Key × V) := ks.map fun l => ((Sum.inr (tx l) : Key), V.bl true)
theorem dk_any (l : List Nat) (ks : List (List Nat)) : ((dk ks).any fun kv => decide (kv.1 = (Sum.inr (tx l) : Key))) = decide (l ∈ ks) := by
  unfold dk
  rw [List.any_map, Bool.eq_iff_iff, List.any_eq_true, decide_eq_true_eq]
  constructor
  · rintro ⟨x, hx, e⟩
    have e := of_decide_eq_true e
    have e2 : tx x = tx l := Sum.inr.inj e
    rw [← tx_inj e2]
    exact hx
  · intro h
    exact ⟨l, h, decide_eq_true rfl⟩
theorem dk_put (l : List Nat) (ks : List (List Nat)) : putK (dk ks) (Sum.inr (tx l) : Key) (.bl true) = dk (if l ∈ ks then ks else ks ++ [l]) := by
  unfold putK
  rw [dk_any]
  by_cases h : l ∈ ks
  · rw [if_pos (decide_eq_true h), if_pos h]
    unfold dk
    rw [List.map_map]
    refine List.map_congr_left fun x _ => ?_
    show (if (Sum.inr (tx x) : Key) = _ then _ else _) = _
    split <;> rfl
  · rw [if_neg (by rw [decide_eq_false h]; decide), if_neg h]
    unfold dk
    rw [List.map_append]
    rfl
theorem dk_in (l : List Nat) (ks : List (List Nat)) : (valV (dk ks) (Sum.inr (tx l) : Key)).isSome = decide (l ∈ ks) := by
  rw [← valV_any, dk_any]
theorem dk_len (ks : List (List Nat)) : (dk ks).length = ks.length := List.length_map ..
theorem inV_strs (l : List Nat) (ls : List (List Nat)) : inV (.str (tx l)) (strsV ls) = decide (l ∈ ls) := by
  unfold inV strsV
  rw [List.any_map]
  induction ls with
  | nil => rfl
  | cons x r ih =>
    rw [List.any_cons, ih]
    have e : eqV (.str (tx x)) (.str (tx l)) = decide (l = x) := by
      show decide (tx x = tx l) = _
      rw [tx_dec]
      exact decide_eq_decide.mpr ⟨fun z => z.symm, fun z => z.symm⟩
    show (eqV (.str (tx x)) (.str (tx l)) || _) = _
    rw [e]
    by_cases h : l = x <;> simp [h]
theorem flat_strs (ls : List (List Nat)) : (strsV ls).all flatV = true := by
  unfold strsV
  rw [List.all_map, List.all_eq_true]
  exact fun _ _ => rfl
theorem sortS_L : ∀ (ls : List (List Nat)), sortedS (ls.map tx) = true → sortL ls
  | [], _ => trivial
  | x :: r, h => by
    have go : ∀ (r : List (List Nat)) (p : List Nat), risingS (tx p) (r.map tx) = true → upL p r := by
      intro r
      induction r with
      | nil => exact fun _ _ => trivial
      | cons y t ih =>
        intro p h
        have h : (!ltCps (tx y).cps.toList (tx p).cps.toList && risingS (tx y) (t.map tx)) = true := h
        rw [Bool.and_eq_true, ltCps_eq, tx_cps, tx_cps] at h
        refine ⟨?_, ih y h.2⟩
        have := h.1
        rw [Bool.not_eq_true', decide_eq_false_iff_not] at this
        exact this
    exact go r x h
theorem dpAll_strs {K : PySem.W.Frag} {H : Hp} : ∀ ls : List (List Nat), DpAll K H (strsV ls) (ls.map fun l => PyData.str (tx l))
  | [] => .nil
  | l :: r => .cons (.str (tx l)) (dpAll_strs r)
theorem strOk_ab {l : List Nat} (h : Ab l) : PySem.PyData.strOk (tx l) = true := by
  unfold PySem.PyData.strOk
  simp only [tx, Array.all_eq_true', decide_eq_true_eq]
  first
    | (intro c hc
       have hc : c ∈ l := by simpa using hc
       rcases h c hc with rfl | rfl <;> decide)
    | skip
theorem shaped_strs {ls : List (List Nat)} (h : ∀ l ∈ ls, Ab l) : SeqAt.shaped (.list (ls.map fun l => PyData.str (tx l))) = true := by
  have h1 : ∀ ms : List (List Nat), (∀ l ∈ ms, Ab l) → PyData.canLayAll0 (ms.map fun l => PyData.str (tx l)) = true := fun ms => by
    induction ms with
    | nil => intro _; rfl
    | cons l r ih =>
      intro h
      rw [List.map_cons]
      show (PySem.PyData.strOk (tx l) && PyData.canLayAll0 _) = true
      rw [ih fun x hx => h x (List.mem_cons_of_mem _ hx), strOk_ab (h l List.mem_cons_self)]
      rfl
  have h2 : ∀ ms : List (List Nat), PyData.depthAll (ms.map fun l => PyData.str (tx l)) ≤ 1 := fun ms => by
    induction ms with
    | nil => decide
    | cons l r ih =>
      show max _ _ ≤ 1
      refine Nat.max_le.mpr ⟨?_, ih⟩
      simp [PyData.depth]
  have h2 := h2 ls
  unfold SeqAt.shaped
  rw [Bool.and_eq_true]
  refine ⟨h1 ls h, decide_eq_true ?_⟩
  show PyData.depthAll _ + 1 ≤ 64
  omega
theorem eqv_strs : ∀ ls : List (List Nat), PyData.eqvAll (ls.map fun l => PyData.str (tx l)) (ls.map fun l => PyData.str (tx l)) = true
  | [] => rfl
  | l :: r => by
    show ((tx l == tx l) && PyData.eqvAll _ _) = true
    rw [eqv_strs r]
    simp
section
variable {K : PySem.W.Frag} {σ : L2.St} {H : Hp} {ta tb tc te : TE} {E : XK} {D : Ends} {tz tu : TS} {i : Nat} {o : HO} {P : V → Prop} {PO : HO → Prop}
theorem gx_eqLS {b : Addr} {ls : List (List Nat)} (ha : Nx ta σ H PO) (hP : ∀ o, PO o → o = .lst (strsV ls)) (hb : ∀ p o, H p = none → Vl tb σ (upd H p o) (.ref b)) (hs : H b = some (.lst (strsV ls))) (hab : ∀ l ∈ ls, Ab l) : Gv (tOp (rEqD K) ta tb) σ H (.bl true) := fun Q q =>
  ha _ fun o p ho np => by
    have e := hP o ho
    subst e
    exact hb p _ np _ ⟨_, _, .lst (SqL.of upd_same) (dpAll_strs ls), .lst (SqL.of (at_old hs np)) (dpAll_strs ls), shaped_strs hab, shaped_strs hab, by
      have e2 : PyData.eqv (.list (ls.map fun l => PyData.str (tx l))) (.list (ls.map fun l => PyData.str (tx l))) = true := eqv_strs ls
      rw [e2]
      exact q _ (same_new (Same.refl H) np)⟩
theorem vl_inS {p : Addr} {l : List Nat} {ls : List (List Nat)} (ha : Vl ta σ H (.str (tx l))) (hb : Vl tb σ H (.ref p)) (hs : SqL K H p (strsV ls)) : Vl (tOp (rIn K false) ta tb) σ H (.bl (decide (l ∈ ls))) :=
  vl_op ha hb fun Q q => ⟨p, _, rfl, .inl hs, rfl, flat_strs ls, by rw [inV_strs]; exact q⟩
theorem vl_niS {p : Addr} {l : List Nat} {ls : List (List Nat)} (ha : Vl ta σ H (.str (tx l))) (hb : Vl tb σ H (.ref p)) (hs : SqL K H p (strsV ls)) : Vl (tOp (rIn K true) ta tb) σ H (.bl (!decide (l ∈ ls))) :=
  vl_op ha hb fun Q q => ⟨p, _, rfl, .inl hs, rfl, flat_strs ls, by rw [inV_strs]; exact q⟩
theorem gx_niS {l : List Nat} (ha : Vl ta σ H (.str (tx l))) (hb : Nx tb σ H PO) (hP : ∀ o, PO o → ∃ ls, o = .lst (strsV ls) ∧ l ∈ ls) : Gv (tOp (rIn K true) ta tb) σ H (.bl false) := fun Q q =>
  ha _ (hb _ fun o p ho np => by
    obtain ⟨ls, rfl, hl⟩ := hP o ho
    exact ⟨p, _, rfl, .inl (SqL.of upd_same), rfl, flat_strs ls, by
      rw [inV_strs, decide_eq_true hl]
      exact q _ (same_new (Same.refl H) np)⟩)
theorem nw_dict : Nw tDNewK σ H (.dK (dk [])) := fun _ q => q
/-- d[text] = True -/
theorem s_dput {p : Addr} {ks : List (List Nat)} {l : List Nat} (hp : H p = some (.dK (dk ks))) (hd : Vl ta σ H (.ref p)) (hy : Vl tb σ H (.str (tx l))) (hv : Vl te σ H (.bl true)) (hz : ks.length ≤ 100000) (k : D.nx σ (upd H p (.dK (dk (if l ∈ ks then ks else ks ++ [l]))))) : sDPut ta tb te D σ H :=
  hv _ (hd _ (hy _ ⟨p, upd H p (.dK (putK (dk ks) (Sum.inr (tx l) : Key) (.bl true))), rfl, DPut.k (k := Sum.inr (tx l)) hp (by rw [dk_len]; exact Nat.lt_of_le_of_lt hz (by decide)), by rw [dk_put]; exact k⟩))
theorem vl_din {p : Addr} {ks : List (List Nat)} {l : List Nat} (hy : Vl ta σ H (.str (tx l))) (hd : Vl tb σ H (.ref p)) (hp : H p = some (.dK (dk ks))) : Vl (tDIn ta tb) σ H (.bl (decide (l ∈ ks))) := fun Q q =>
  hy _ (hd _ ⟨p, _, rfl, DGet.k (k := Sum.inr (tx l)) hp, by rw [dk_in]; exact q⟩)
/-- list(d) -/
theorem nw_listD {p : Addr} {ks : List (List Nat)} (hd : Vl ta σ H (.ref p)) (hp : H p = some (.dK (dk ks))) : Nw (tCB (fun xs H Q => ∃ (a : Addr) (kvs : List (Key × V)), xs = [.ref a] ∧ L2.Rd H a (.dK kvs) ∧ ∀ p, H p = none → Q (.ref p) (upd H p (.lst (kvs.map fun kv => kV kv.1)))) (tCons ta tNil)) σ H (.lst (strsV ks)) :=
  nw_cb (av_cons hd av_nil) fun Q q => ⟨p, _, rfl, .inl hp, fun r nr => by
    have e : ((dk ks).map fun kv => kV kv.1) = strsV ks := by
      unfold dk strsV
      rw [List.map_map]
      rfl
    rw [e]
    exact q r nr⟩
/-- sorted(a list of texts), new -/
theorem nx_sorted {n : Nat} {ks : List (List Nat)} (fl : Fl H) (h : Nw ta σ H (.lst (strsV ks))) (hm : Met n (5 * n + 6) ks) (hn : n ≤ 41) : Nx (tF (tCB (rSortedS K) (tCons ta tNil))) σ H (fun o => ∃ ls, Pcs n ls ∧ o = .lst (strsV ls)) := fun Q q =>
  h _ fun p np => ⟨p, ks.map tx, rfl, SqL.of (by rw [upd_same]; unfold strsV; rw [List.map_map]; rfl), by rw [List.length_map]; have := hm.le (Nat.le_refl _) hn; omega, fun ys r hp hs nr => by
    have e : ys = (ys.map TL.tl).map tx := by
      rw [List.map_map, show tx ∘ TL.tl = fun x => x from funext fun x => (tx_of x).symm, List.map_id']
    have hp2 : (ys.map TL.tl).Perm ks := by
      have := hp.map TL.tl
      rw [List.map_map, show TL.tl ∘ tx = fun l => l from funext fun l => tx_tl l, List.map_id'] at this
      exact this
    have e3 : ys.map V.str = strsV (ys.map TL.tl) := by
      unfold strsV
      rw [List.map_map]
      refine List.map_congr_left fun x _ => ?_
      show V.str x = V.str (tx (TL.tl x))
      rw [← tx_of]
    rw [e3]
    exact rt_new fl (same_new' (same_new (Same.refl H) np) nr) ((same_new (Same.refl H) np).free nr) rfl upd_same (q _ r ⟨_, hm.pcs hp2 (sortS_L _ (by rw [← e]; exact hs)), rfl⟩ ((same_new (Same.refl H) np).free nr))⟩
def sp_pieces_of : Sp := fun vs H Q _ => ∃ (n : Nat), vs = [.int (n : Int)] ∧ n ≤ 41 ∧ Fl H ∧ ∀ ls p, Pcs n ls → H p = none → Q (.ref p) (upd H p (.lst (strsV ls)))
theorem nx_pieces_of {n : Nat} (ha : Vl ta σ H (.int (n : Int))) (h : n ≤ 41 ∧ Fl H) : Nx (tCall sp_pieces_of [] E (tCons ta tNil)) σ H (fun o => ∃ ls, Pcs n ls ∧ o = .lst (strsV ls)) := fun Q q => (av_cons ha av_nil) _ ⟨n, rfl, h.1, h.2, fun ls p h1 np => q _ p ⟨ls, h1, rfl⟩ np⟩
theorem vl_count {l : List Nat} {c : Nat} {b : Str} (ha : Vl ta σ H (.str (tx l))) (hb : Vl tb σ H (.str b)) (e : b = tx [c]) : Vl (tM1 (fun x xs H Q => ∃ a b, x = .str a ∧ xs = [.str b] ∧ Q (.int (Txt.count a b)) H) ta tb) σ H (.int ((l.count c : Nat) : Int)) := fun Q q => ha _ ⟨⟨_, rfl⟩, hb _ ⟨_, _, rfl, rfl, by
  subst e
  have e2 : Txt.count (tx l) (tx [c]) = ((l.count c : Nat) : Int) := by
    have h : Txt.count (tx l) ⟨#[c]⟩ = cnt c (tx l).cps.toList := count_is (tx l) c
    rw [tx_cps] at h
    have g : ∀ l : List Nat, cnt c l = ((l.count c : Nat) : Int) := by
      intro l
      induction l with
      | nil => rfl
      | cons x r ih =>
        rw [cnt_cons, ih, List.count_cons]
        by_cases z : x = c
        · rw [if_pos z, if_pos (by simpa using z)]
          omega
        · rw [if_neg z, if_neg (by simpa using z)]
          omega
    rw [g] at h
    exact h
  rw [e2]
  exact q⟩⟩
theorem vl_geT {l m : List Nat} (ha : Vl ta σ H (.str (tx l))) (hb : Vl tb σ H (.str (tx m))) : Vl (tOp (fun x y H Q => ∃ i j, x = .str i ∧ y = .str j ∧ Q (.bl (!decide (i.cps.toList < j.cps.toList))) H) ta tb) σ H (.bl (!decide (l < m))) := vl_op ha hb fun Q q => ⟨_, _, rfl, rfl, by
  rw [tx_cps, tx_cps]
  exact q⟩
theorem vl_spread {p : Addr} {ns : List Int} (h : Vl ta σ H (.ref p)) (h2 : Vl tb σ H (.ref p)) (hs : SqL K H p (ns.map V.int)) (hne : 0 < ns.length) (hb : ∀ a ∈ ns, ∀ b ∈ ns, a ≤ b + 1) :
    Vl (tOp (rI0 fun i j => .bl (decide (i ≤ j))) (tOp (rI0 fun i j => .int (i - j)) (tCB (rMax K) (tCons ta tNil)) (tCB (rMin K) (tCons tb tNil))) (tC (.int 1))) σ H (.bl true) := fun Q q =>
  h _ ⟨p, ns, rfl, hs, hne, fun m hm _ => h2 _ ⟨p, ns, rfl, hs, hne, fun k hk _ => ⟨m, k, rfl, rfl, ⟨m - k, 1, rfl, rfl, by
    have := hb m hm k hk
    show Q (V.bl (decide (m - k ≤ 1))) H
    rw [decide_eq_true (by omega)]
    exact q⟩⟩⟩⟩
/-- a piece from an open place on -/
theorem va_piece_at {n : Nat} {B : Int} (ha : Va ta σ H (fun v => ∃ x, v = .int x ∧ 0 ≤ x ∧ x < B)) (hb : Vl tb σ H (.int (n : Int))) (h : (n ≤ 2000 ∧ B + n ≤ (mk 400 : Int)) ∧ Fl H) : Va (tCall sp_piece_at [] E (tCons ta (tCons tb tNil))) σ H (fun v => ∃ k : Nat, v = .str (tx (wordL k n))) := fun Q q =>
  ha _ fun v hv => by
    obtain ⟨x, rfl, h0, h1⟩ := hv
    refine hb _ ⟨x.toNat, n, ?_, ⟨h.1.1, by omega⟩, h.2, q _ ⟨x.toNat, rfl⟩⟩
    rw [show ((x.toNat : Nat) : Int) = x by omega]
    rfl
theorem q_forN {g : TG} (h : Nx te σ H PO) (k : ∀ o p, PO o → H p = none → tSeq (tFor (iList K (tC (.ref p))) g tu) tz D σ (upd H p o)) : tSeq (tFor (iList K te) g tu) tz D σ H := h _ k
theorem q_clear {l : Addr} {xs : List V} (hl : H l = some (.lst xs)) (ha : Vl ta σ H (.ref l)) (k : tz D σ (upd H l (.lst []))) : tSeq (tDrop (tBM0 K "list" rClear ta)) tz D σ H :=
  ha _ ⟨Or.inl ⟨rfl, xs, SqL.of hl⟩, ⟨l, xs, rfl, rfl, hl, k⟩⟩
/-- where a piece stands first -/
theorem first_of {k n : Nat} (hn : n ≤ 41) : ∃ i, i < mk 400 ∧ wordL i n = wordL k n ∧ ∀ j, j < i → wordL j n ≠ wordL k n := by
  rcases find_word (l := wordL k n) (L := 6 * n + 5) (by rw [wordL_len]; exact hn) (by rw [wordL_len]; exact Nat.le_refl _) with ⟨_, h2⟩ | ⟨i, _, ⟨h1, h2⟩, h3⟩
  · rw [wordL_len] at h2
    exact absurd rfl (h2 k)
  · rw [wordL_len] at h2 h3
    exact ⟨i, h1, h2, h3⟩
theorem first_le {i n : Nat} (hn : n ≤ 41) {l : List Nat} (h : wordL i n = l) (h3 : ∀ j, j < i → wordL j n ≠ l) : i ≤ 5 * n + 5 := by
  obtain ⟨q, hq, e⟩ := piece_near hn i
  rcases Nat.lt_or_ge q i with z | z
  · exact absurd (by rw [e, h]) (h3 q z)
  · omega
end
end Tw

namespace Tw.RX
open PySem PySem.Spec PyProof.Rows
/-! ## list(reversed(a text)) -/
theorem norev_str : typeLookup (.type "str") "__reversed__" = pure none := by rw [typeLookup_type, builtinLookup_eq_fast]; kernel_rfl
theorem nolen_rt : typeLookup (.type "reversed") "__len__" = pure none := by rw [typeLookup_type, builtinLookup_eq_fast]; kernel_rfl
theorem slot_rt_hint : Slot "reversed" "__length_hint__" "reversed.__length_hint__" :=
  .of (owner := "reversed") (n := "__length_hint__") (by rw [typeLookup_type, builtinLookup_eq_fast]; kernel_rfl) (by decide +kernel) (by decide +kernel) (by decide +kernel)
    (by first | exact .inl (by decide +kernel) | exact .inr (by decide +kernel)) (by rw [isSubtype_type]; kernel_rfl)
theorem entry_rt_hint : entryFor table "reversed.__length_hint__" = some Builtin.«reversed.__length_hint__» := entryFor_of_tree (by kernel_rfl)
theorem args_rt_hint (a : Value) : argsOk "reversed.__length_hint__" ⟨[a], []⟩ := by
  unfold argsOk; rw [signature?_of (id := "reversed.__length_hint__") (n := ['_', '_', 't', 'n', 'i', 'h', '_', 'h', 't', 'g', 'n', 'e', 'l', '_', '_']) (o := ['d', 'e', 's', 'r', 'e', 'v', 'e', 'r']) (by kernel_rfl) RT.owner_rt]; kernel_rfl
def rxObj (z : Str) (t : Tok) (i : Int) : Obj := { cls := .type "reversed", data := .fields #[.str z t, rawInt i] }
/-- reversed(z), the next place i -/
def IsRx (h : Heap) (a : Addr) (z : Str) (t : Tok) (i : Int) : Prop := ∃ o, h.get? a = some o ∧ o.cls = .type "reversed" ∧ o.data = .fields #[.str z t, rawInt i]
theorem IsRx.at {h h' : Heap} {a : Addr} {z : Str} {t : Tok} {i : Int} (x : IsRx h a z t i) (e : ∀ o, h.get? a = some o → h'.get? a = some o) : IsRx h' a z t i := let ⟨o, ho, r⟩ := x; ⟨o, e _ ho, r⟩
section
variable {prog : Program} {w : World} {A : Around} {E : Value → Shared → Prop} {s : Shared} {z : Str} {t : Tok}
theorem IsRx.typeIs {a : Addr} {i : Int} (x : IsRx s.heap a z t i) : s.TypeIs (.ref a) "reversed" := let ⟨o, ho, hc, _⟩ := x; ⟨o, ho, hc⟩
theorem z63 (hn : z.length ≤ sizeLine) : ¬ (z.length : Int) ≥ 2 ^ 63 := by
  have h : sizeLine = 16777216 := by decide +kernel
  omega
theorem code_reversed_str {Q₁ : Value → Shared → Prop} (hn : z.length ≤ sizeLine)
    (h : Q₁ (.ref s.heap.objs.size) { s with heap := s.heap.push (rxObj z t ((z.length : Int) - 1)), toks := s.toks + 1 + 1 }) :
    codeAny (model prog w) A (.call (.builtin "reversed.__new__") ⟨[.type "reversed", .str z t], []⟩) (wants Q₁ E) s := by
  have hT : s.TypeIs (.str z t) "str" := typeIs_str s z t
  refine codeAny_of_tree ?_
  show wpAny _ A.in1 (do checkBuiltinCall "reversed.__new__" ⟨[.type "reversed", .str z t], []⟩; again (.builtin "reversed.__new__" ⟨[.type "reversed", .str z t], []⟩)) _ _ s
  refine wpAny_bind (wpAny_of_eq (F.newCall_reversed_1 _) (wpAny_pure ⟨plainId_quiet F.plain_reversed_new _, codeAny_builtin F.entry_reversed_new ?_⟩))
  rw [Around.under_plainId F.plain_reversed_new _]
  unfold Builtin.«reversed.__new__»
  refine wpAny_bind (wpAny_of_eq (newClass_reversed _) ?_)
  try dsimp only
  refine wpAny_bind (wpAny_of_eq (a := ()) (by first | rfl | kernel_rfl) ?_)
  try dsimp only
  refine wpAny_bind (wpAny_of_eq (a := ()) (by first | rfl | kernel_rfl) ?_)
  try dsimp only
  refine wpAny_bind (wpAny_specialOf hT norev_str ?_)
  try dsimp only
  refine wpAny_bind ?_
  wp_delta
  refine wpAny_bind (wpAny_isInstance (T := "str") (U := "dict") (b := false) hT (by rw [isSubtype_type]; kernel_rfl) ?_)
  try dsimp only
  try rw [if_neg Bool.false_ne_true]
  try dsimp only
  refine wpAny_bind (wpAny_specialOf hT slot_str_getitem.lookup ?_)
  try dsimp only
  try rw [if_pos (by decide +kernel)]
  refine wpAny_pure ?_
  try dsimp only
  try rw [if_neg (by decide)]
  try dsimp only
  refine wpAny_bind (PyProof.Rows.len_str (z63 hn) ?_)
  refine wpAny_bind (wpAny_of_eq (a := some ((z.length : Nat) : Int)) rfl ?_)
  try dsimp only
  refine wpAny_bind ?_
  show wpAny _ _ (newObj (.type "reversed") (.fields #[.str z t, rawInt ((z.length : Int) - 1)])) _ _ _
  refine wpAny_newObj_type ?_
  exact wpAny_pure h
theorem call_reversed_str {Q : Value → Shared → Prop} (hn : z.length ≤ sizeLine)
    (h : Q (.ref s.heap.objs.size) { s with heap := s.heap.push (rxObj z t ((z.length : Int) - 1)), toks := s.toks + 1 + 1 }) : wpAny (model prog w) A (call (.type "reversed") [.str z t]) Q E s := by
  refine callType_codes (Q₁ := fun obj s₁ => s₁.TypeIs obj "reversed" ∧ Q obj s₁) RT.called_rt (F.typeCall_reversed_1 _) F.entry_object_init
    (code_reversed_str (A := A.in1) hn ⟨⟨_, Heap.get?_push_size _ rfl, rfl⟩, h⟩) fun obj s₁ h₁ => ?_
  exact ⟨h₁.1, F.args_object_init_2 obj _, object_init_meets RT.called_rt.init.lookup RT.called_rt.made (by decide) prog w A.in1 _ s₁ ⟨h₁.1, rfl, h₁.2⟩⟩
theorem next_rx_item {it : Addr} {i c : Nat} {Q : Option Value → Shared → Prop} (hit : IsRx s.heap it z t (i : Int)) (hx : z.cps[i]? = some c) (hsz : z.length ≤ sizeLine)
    (hQ : ∀ h' tk, IsRx h' it z t ((i : Int) - 1) → Heap.SameBut it s.heap h' → Q (some (.str ⟨#[c]⟩ tk)) { s with heap := h', toks := s.toks + 1 + 1 }) : wpAny (model prog w) A (pyNext (.ref it)) Q E s := by
  obtain ⟨o, ho, hc, hd⟩ := id hit
  have hi : i < z.length := (Array.getElem?_eq_some_iff.mp hx).1
  have h63 := z63 hsz
  unfold pyNext
  refine wpAny_bind (wpAny_attempt (wpAny_callSpecial?_slot (name := Str.ofString "__next__") hit.typeIs RT.slot_rt_next
    (wpAny_call_entry RT.slot_rt_next hit.typeIs RT.entry_rt_next ?_ (RT.args_rt_next _))))
  unfold Builtin.«reversed.__next__»
  refine wpAny_bind (wpAny_of_eq (a := (Value.ref it, [])) rfl ?_)
  try dsimp only
  refine wpAny_bind (wpAny_field ho hd (x := .str z t) rfl ?_)
  try dsimp only
  refine wpAny_bind (wpAny_field ho hd (x := rawInt (i : Int)) rfl ?_)
  show wpAny _ _ (if (i : Int) < 0 then _ else _) _ _ s
  rw [if_neg (by omega)]
  try dsimp only
  refine wpAny_bind (wpAny_specialOf (typeIs_str s z t) slot_str_getitem.lookup ?_)
  try dsimp only
  try rw [if_neg (by decide)]
  try dsimp only
  refine wpAny_bind (wpAny_mkInt ?_)
  refine wpAny_bind (wpAny_attempt ?_)
  have fin : seqIndex? (i : Int) z.length = some i := seqIndex_of (by omega) (by omega)
  refine PyProof.Rows.getItem_str (s := { s with toks := s.toks + 1 }) (c := c) (by
    have e1 : decide ((i : Int) < -(2 ^ 63 : Int)) = false := decide_eq_false (by omega)
    have e2 : decide ((i : Int) ≥ 2 ^ 63) = false := decide_eq_false (by omega)
    rw [e1, e2, Bool.or_false]) (by rw [fin]; exact hx) ?_
  try dsimp only
  refine wpAny_bind (wpAny_field (s := { s with toks := s.toks + 1 + 1 }) ho hd (x := rawInt (i : Int)) rfl ?_)
  try dsimp only
  refine wpAny_bind (wpAny_setField (s := { s with toks := s.toks + 1 + 1 }) ho hd (by simp) ?_)
  first
  | refine wpAny_pure ⟨_, rfl, wpAny_pure (hQ _ _ ?_ (Heap.SameBut.update ..))⟩
  | refine wpAny_bind (wpAny_pure (wpAny_pure ⟨_, rfl, wpAny_pure (hQ _ _ ?_ (Heap.SameBut.update ..))⟩))
  exact ⟨_, Heap.get?_update_self _ ho (Obj.isFreed_of_fields (Obj.data_mapFields hd _)), (Obj.cls_mapFields ..).trans hc, by
    rw [Obj.data_mapFields hd]; simp⟩
theorem next_rx_end {it : Addr} {Q : Option Value → Shared → Prop} (hh : A.handled = none) (hit : IsRx s.heap it z t (-1))
    (hQ : ∀ h', Heap.ExtBut it s.heap h' → Q none { s with heap := h' }) : wpAny (model prog w) A (pyNext (.ref it)) Q E s := by
  obtain ⟨o, ho, hc, hd⟩ := id hit
  unfold pyNext
  refine wpAny_bind (wpAny_attempt (wpAny_callSpecial?_slot (name := Str.ofString "__next__") hit.typeIs RT.slot_rt_next
    (wpAny_call_entry RT.slot_rt_next hit.typeIs RT.entry_rt_next ?_ (RT.args_rt_next _))))
  unfold Builtin.«reversed.__next__»
  refine wpAny_bind (wpAny_of_eq (a := (Value.ref it, [])) rfl ?_)
  try dsimp only
  refine wpAny_bind (wpAny_field ho hd (x := .str z t) rfl ?_)
  try dsimp only
  refine wpAny_bind (wpAny_field ho hd (x := rawInt (-1)) rfl ?_)
  show wpAny _ _ (if (-1 : Int) < 0 then _ else _) _ _ s
  rw [if_pos (by decide)]
  try dsimp only
  refine wpAny_bind (wpAny_rule ?_)
  refine wpAny_bind ?_
  wp_delta
  refine wpAny_bind (wpAny_setField ho hd (by simp) ?_)
  have ho2 := Heap.get?_update_self (Obj.mapFields (·.setIfInBounds 1 (rawInt (-1)))) ho (Obj.isFreed_of_fields (Obj.data_mapFields hd _))
  refine wpAny_setField (s := { s with heap := s.heap.update it (Obj.mapFields (·.setIfInBounds 1 (rawInt (-1)))) }) ho2 (Obj.data_mapFields hd _) (by simp) ?_
  try dsimp only
  first
  | show wpAny _ _ (newExc (.type "StopIteration") [] >>= _) _ _ _
  | (refine wpAny_bind ?_; show wpAny _ _ (newExc (.type "StopIteration") [] >>= _) _ _ _)
  | (refine wpAny_bind ?_; wp_delta; show wpAny _ _ (newExc (.type "StopIteration") [] >>= _) _ _ _)
  refine wpAny_bind ?_
  simp only [newExc, newTuple]
  refine wpAny_bind (wpAny_newObj_type ?_ (by size_fits))
  refine wpAny_bind (m := firstArgMember _ _) (wpAny_of_eq (a := Value.none) (by first | rfl | (simp only [firstArgMember]; rfl)) ?_)
  refine wpAny_newObj_type ?_ (by size_fits)
  simp only [raiseNew]
  refine wpAny_bind (wpAny_handled ?_)
  first | rw [show A.in1.handled = none from hh] | rw [hh]
  refine wpAny_bind (wpAny_pure (wpAny_throw ?_))
  refine wpAny_bind (wpAny_isInstance (T := "StopIteration") (b := true) ⟨_, Heap.get?_push_size _ rfl, rfl⟩ isSubtype_stop ?_)
  refine wpAny_pure (hQ _ ?_)
  refine ((?_ : Heap.ExtBut it s.heap _).push _).push _
  exact fun b ob hb e => (Heap.get?_update_other _ _ (Ne.symm hb)).trans ((Heap.get?_update_other _ _ (Ne.symm hb)).trans e)
theorem iter_rx {it : Addr} {i : Int} {Q : Value → Shared → Prop} (hit : IsRx s.heap it z t i) (h : Q (.ref it) s) : wpAny (model prog w) A (pyIter (.ref it)) Q E s := by
  refine wpAny_pyIter_slot hit.typeIs RT.slot_rt_iter (wpAny_call_entry RT.slot_rt_iter hit.typeIs RT.entry_rt_iter ?_ (RT.args_rt_iter _))
  show wpAny _ _ (ret (.ref it)) _ _ s
  exact wpAny_pure ⟨_, rfl, "reversed", _, hit.typeIs, RT.slot_rt_next.lookup, h⟩
/-- its own hint of its length -/
theorem hint_rx {it : Addr} {Q : Value → Shared → Prop} (hit : IsRx s.heap it z t ((z.length : Int) - 1)) (hsz : z.length ≤ sizeLine)
    (hQ : ∀ tk u, Q (.int z.length u) { s with toks := tk }) : wpAny (model prog w) A (call (.builtin "reversed.__length_hint__") [.ref it]) Q E s := by
  obtain ⟨o, ho, hc, hd⟩ := id hit
  refine wpAny_call_entry slot_rt_hint hit.typeIs entry_rt_hint ?_ (args_rt_hint _)
  unfold Builtin.«reversed.__length_hint__»
  refine wpAny_bind (wpAny_of_eq (a := Value.ref it) rfl ?_)
  try dsimp only
  refine wpAny_bind (wpAny_field ho hd (x := .str z t) rfl ?_)
  try dsimp only
  rw [if_neg (show ¬ ((Value.str z t == Value.none) = true) from by first | exact Bool.false_ne_true | simp)]
  try dsimp only
  refine wpAny_bind (PyProof.Rows.len_str (z63 hsz) ?_)
  refine wpAny_bind (wpAny_of_eq (a := some ((z.length : Nat) : Int)) rfl ?_)
  try dsimp only
  refine wpAny_bind (wpAny_field (s := { s with toks := s.toks + 1 + 1 }) ho hd (x := rawInt ((z.length : Int) - 1)) rfl ?_)
  show wpAny _ _ (if (z.length : Int) < (z.length : Int) - 1 + 1 then _ else _) _ _ _
  rw [if_neg (by omega)]
  show wpAny _ _ (retInt ((z.length : Int) - 1 + 1)) _ _ _
  rw [show (z.length : Int) - 1 + 1 = (z.length : Int) by omega]
  exact wpAny_bind (wpAny_mkInt (wpAny_pure ⟨_, rfl, hQ _ _⟩))
end
theorem walks_rx {prog : Program} {w : World} {A : Around} (hh : A.handled = none) (I : Addr) (z : Str) (t : Tok) (hz : z.length ≤ sizeLine) :
    Walks prog w A I [I] [I] z.length (fun i v => ∃ c tk, z.cps[z.length - 1 - i]? = some c ∧ v = .str ⟨#[c]⟩ tk) (fun i h => i ≤ z.length ∧ IsRx h I z t ((z.length : Int) - 1 - (i : Int))) where
  sub := fun b hb => hb
  frame := fun _ _ _ x hk => ⟨x.1, x.2.at fun o e => hk I (by simp) o e⟩
  item := fun i s Q E hi x hQ => by
    have e : (z.length : Int) - 1 - (i : Int) = ((z.length - 1 - i : Nat) : Int) := by omega
    have hit := x.2
    rw [e] at hit
    have hlt : z.length - 1 - i < z.cps.size := by
      show z.length - 1 - i < z.length
      omega
    have hx : z.cps[z.length - 1 - i]? = some (z.cps[z.length - 1 - i]) := Array.getElem?_eq_getElem hlt
    refine next_rx_item hit hx hz fun h' tk hit' hs' => ?_
    have e2 : ((z.length - 1 - i : Nat) : Int) - 1 = (z.length : Int) - 1 - ((i + 1 : Nat) : Int) := by omega
    rw [e2] at hit'
    exact hQ _ h' _ ⟨_, _, hx, rfl⟩ ⟨hi, hit'⟩ fun b o hb eo => hs'.extBut b o (fun h => hb (by simp [h])) eo
  done := fun s Q E x hQ => by
    have e : (z.length : Int) - 1 - (z.length : Int) = -1 := by omega
    have hit := x.2
    rw [e] at hit
    exact next_rx_end hh hit fun h' he' => hQ h' s.toks fun b o hb eo => he' b o (fun h => hb (by simp [h])) eo
  self := fun _ _ _ _ x hQ => iter_rx x.2 hQ
section
variable {prog : Program} {w : World} {A : Around} {E : Value → Shared → Prop} {s : Shared} {z : Str} {t : Tok}
theorem list_init_rx {R : Result → Shared → Prop} {it S : Addr} (hh : A.handled = none) (hit : IsRx s.heap it z t ((z.length : Int) - 1)) (hn : z.length ≤ sizeLine)
    (hSi : S ≠ it) (hS : s.heap.get? S = some { cls := .type "list", data := .seq #[] })
    (hR : ∀ h' tk acc' c', (∀ b o, b ≠ S → b ≠ it → s.heap.get? b = some o → h'.get? b = some o) → h'.get? S = some { cls := .type "list", dict := none, data := .seq acc' c', slots := #[] } →
      ItemsOf (fun i v => ∃ c tk, z.cps[z.length - 1 - i]? = some c ∧ v = .str ⟨#[c]⟩ tk) acc' z.length → R (.ok (.ret .none)) { s with heap := h', toks := tk }) :
    wpAny (model prog w) A.in1 (Builtin.«list.__init__» ⟨[.ref S, .ref it], []⟩)
      (fun fin s' => match fin with | .done f => R (.ok f) s' | .again c' => c'.quiet = true ∧ codeAny (model prog w) A c' R s') (fun e s' => R (.error e) s') s := by
  show wpAny _ _ (do let old ← Builtin.List.listItems (.ref S); Builtin.List.listUpdate (.ref S) (fun _ => #[]); letGo old.toList.reverse; Builtin.List.listExtendWith (.ref S) (.ref it) .none) _ _ s
  refine wpAny_bind ?_
  unfold Builtin.List.listItems
  refine wpAny_bind (wpAny_seqItems hS rfl (wpAny_pure ?_))
  show wpAny _ _ (updateSeq S (fun _ => #[]) >>= fun _ => letGo (#[] : Array Value).toList.reverse >>= fun _ => Builtin.List.listExtendWith (.ref S) (.ref it) .none) _ _ s
  refine wpAny_bind (wpAny_updateSeq hS rfl ?_)
  have hS2 := Heap.get?_update_self (Obj.mapSeq (fun _ => (#[] : Array Value))) hS rfl
  have oth : ∀ b o, b ≠ S → s.heap.get? b = some o → (s.heap.update S (Obj.mapSeq (fun _ => (#[] : Array Value)))).get? b = some o :=
    fun b o hb e => (Heap.get?_update_other _ _ (Ne.symm hb)).trans e
  refine wpAny_bind (wpAny_letGo ?_)
  have W := (walks_rx (prog := prog) (w := w) (A := A.in1) hh it z t hn).toS
  have hSf : S ∉ [it] := by
    simp only [List.mem_cons, List.not_mem_nil, or_false]
    exact hSi
  have hit1 : IsRx (s.heap.update S (Obj.mapSeq (fun _ => (#[] : Array Value)))) it z t ((z.length : Int) - 1) := hit.at fun o e => oth it o (Ne.symm hSi) e
  have hT : ({ s with heap := s.heap.update S (Obj.mapSeq (fun _ => (#[] : Array Value))) } : Shared).TypeIs (.ref it) "reversed" := IsRx.typeIs (s := { s with heap := s.heap.update S (Obj.mapSeq (fun _ => (#[] : Array Value))) }) hit1
  have h1 : Builtin.List.listSameRef (.ref S) (.ref it) = false := by simp [Builtin.List.listSameRef, hSi]
  unfold Builtin.List.listExtendWith
  refine wpAny_bind (wpAny_typeOf hT ?_)
  rw [if_neg (by rw [h1]; decide)]
  refine wpAny_bind (iter_rx (s := { s with heap := s.heap.update S (Obj.mapSeq (fun _ => (#[] : Array Value))) }) hit1 ?_)
  refine wpAny_bind (wpAny_holding ?_)
  unfold Builtin.List.listLengthHint
  refine wpAny_bind (wpAny_specialOf hT nolen_rt ?_)
  show wpAny _ A.in1 (specialOf (Value.ref it) (Str.ofString "__length_hint__") >>= _) _ _ _
  refine wpAny_bind (wpAny_specialOf hT slot_rt_hint.lookup ?_)
  generalize hid : ("reversed.__length_hint__" : String) = id0
  wp_delta
  rw [show splitId id0 = some ("reversed", "__length_hint__") from by subst hid; decide +kernel]
  subst hid
  refine wpAny_bind (wpAny_isInstance (b := true) hT (by rw [isSubtype_type]; kernel_rfl) ?_)
  rw [if_neg (by decide)]
  try dsimp only
  rw [if_neg (by decide +kernel)]
  refine wpAny_bind (wpAny_rule ?_)
  refine wpAny_bind (wpAny_of_eq (slot_rt_hint.bind _) ?_)
  try dsimp only
  refine wpAny_bind (wpAny_attempt (hint_rx (s := { s with heap := s.heap.update S (Obj.mapSeq (fun _ => (#[] : Array Value))) }) hit1 hn fun tk u => ?_))
  have hsl : sizeLine = 16777216 := by decide +kernel
  obtain ⟨n, hzn⟩ : ∃ n : Int, n = ((z.length : Nat) : Int) := ⟨_, rfl⟩
  rw [← hzn]
  have l1 : Builtin.List.listFitsIndex n = true := by
    unfold Builtin.List.listFitsIndex
    rw [Bool.and_eq_true, decide_eq_true_eq, decide_eq_true_eq]
    omega
  have l2 : Builtin.List.listTooLong n.toNat = false := by
    unfold Builtin.List.listTooLong
    exact decide_eq_false (by omega)
  have l3 : ¬ n < 0 := by omega
  clear hzn
  show wpAny _ _ (asInt? (Value.int n u) >>= _) _ _ _
  refine wpAny_bind (wpAny_of_eq (a := some n) rfl ?_)
  try dsimp only
  rw [if_neg (by rw [l1]; decide), if_neg l3, if_neg (by rw [l2]; decide)]
  refine wpAny_pure ?_
  have e0 : ((z.length : Nat) : Int) - 1 - ((0 : Nat) : Int) = (z.length : Int) - 1 := by omega
  have fin : ∀ (h2 : Heap) (k : Nat) (c : Nat), (∀ b o, b ≠ S → s.heap.get? b = some o → h2.get? b = some o) → h2.get? S = some { cls := .type "list", dict := none, data := .seq #[] c, slots := #[] } →
      wpAny (model prog w) A.in1 (again (.builtin "list.extend.loop" ⟨[.ref S, .ref it, .none], []⟩)) (fun fin s' => match fin with | .done f => R (.ok f) s' | .again c' => c'.quiet = true ∧ codeAny (model prog w) A c' R s') (fun e s' => R (.error e) s') { s with heap := h2, toks := k } := fun h2 k c ho hs2 => by
    refine wpAny_pure ⟨plainId_quiet F.plain_extend_loop _, codeAny_extend_loopS W hn _ hSf _ z.length 0 _ _ _ rfl (Nat.zero_le _) ⟨Nat.zero_le _, by rw [e0]; exact hit.at fun o e => ho it o (Ne.symm hSi) e⟩ hs2 (ItemsOf.nil _) fun s' acc' c' hm hS' hacc => ?_⟩
    rw [Moved.eq_with hm]
    refine hR s'.heap s'.toks acc' c' (fun b o hb hi e => hm.heap b o (fun hmem => ?_) (ho b o hb e)) hS' hacc
    rcases List.mem_cons.mp hmem with e' | hmem
    · exact hb e'
    · exact hi (List.mem_singleton.mp hmem)
  split
  · refine wpAny_bind (wpAny_rule ?_)
    refine wpAny_bind ?_
    show wpAny _ A.in1 (updateSeq S (·.push .none) >>= fun _ => updateSeq S (·.pop)) _ _ _
    refine wpAny_bind (wpAny_updateSeq hS2 rfl ?_)
    have hS3 := Heap.get?_update_self (Obj.mapSeq (·.push Value.none)) hS2 rfl
    refine wpAny_updateSeq hS3 rfl ?_
    have hS4 := Heap.get?_update_self (Obj.mapSeq (·.pop)) hS3 rfl
    exact fin _ _ _ (fun b o hb e => (Heap.get?_update_other _ _ (Ne.symm hb)).trans ((Heap.get?_update_other _ _ (Ne.symm hb)).trans (oth b o hb e))) hS4
  · exact fin _ _ _ (fun b o hb e => oth b o hb e) hS2
theorem call_list_rx {it : Addr} {Q : Value → Shared → Prop} (hh : A.handled = none) (hit : IsRx s.heap it z t ((z.length : Int) - 1)) (hn : z.length ≤ sizeLine)
    (hQ : ∀ h' tk acc' c', (∀ b o, b ≠ it → s.heap.get? b = some o → h'.get? b = some o) →
      h'.get? s.heap.objs.size = some { cls := .type "list", dict := none, data := .seq acc' c', slots := #[] } → ItemsOf (fun i v => ∃ c tk, z.cps[z.length - 1 - i]? = some c ∧ v = .str ⟨#[c]⟩ tk) acc' z.length → Q (.ref s.heap.objs.size) { s with heap := h', toks := tk }) :
    wpAny (model prog w) A (call (.type "list") [.ref it]) Q E s := by
  obtain ⟨oi, hoi, _⟩ := id hit
  refine callType_codes (Q₁ := fun obj s₁ => obj = .ref s.heap.objs.size ∧ s₁ = { s with heap := s.heap.push { cls := .type "list", data := .seq #[] } }) F.called_list (F.typeCall_list_1 _) F.entry_list_init
    (code_list_new _ ⟨rfl, rfl⟩) fun obj s₁ h₁ => ?_
  obtain ⟨rfl, rfl⟩ := h₁
  have hS : (s.heap.push { cls := .type "list", data := .seq #[] }).get? s.heap.objs.size = some { cls := .type "list", data := .seq #[] } := Heap.get?_push_size _ rfl
  refine ⟨⟨_, hS, rfl⟩, F.args_list_init_2 _ _, list_init_rx (A := A.in1) hh (hit.at fun o e => Heap.get?_push_of_some _ e) hn (Nat.ne_of_gt (Heap.lt_size hoi)) hS fun h' tk acc' c' hk hS' hacc => ?_⟩
  exact ⟨rfl, hQ h' tk acc' c' (fun b o hi e => hk b o (Nat.ne_of_lt (Heap.lt_size e)) hi (Heap.get?_push_of_some _ e)) hS' hacc⟩
end
end Tw.RX
namespace Tw
open PySem PySem.Spec PyProof.Rows L2
def tListRevT (te : TE) : TE := fun σ H Q => te σ H fun v H1 => ∃ (z : Str), v = .str z ∧ z.length ≤ sizeLine ∧ ∀ q, H1 q = none → Q (.ref q) (upd H1 q (.lst (z.cps.toList.reverse.map fun c => V.str ⟨#[c]⟩)))
theorem vals_rx {z : Str} {acc : Array Value} (h : ItemsOf (fun i v => ∃ c tk, z.cps[z.length - 1 - i]? = some c ∧ v = .str ⟨#[c]⟩ tk) acc z.length) : Vals (z.cps.toList.reverse.map fun c => V.str ⟨#[c]⟩) acc.toList := by
  have go : ∀ (l : List Nat) (us : List Value), us.length = l.length → (∀ (j : Nat) (c : Nat), l[j]? = some c → ∃ tk, us[j]? = some (Value.str ⟨#[c]⟩ tk)) → Vals (l.map fun c => V.str ⟨#[c]⟩) us := by
    intro l
    induction l with
    | nil =>
      intro us h _
      cases us with
      | nil => exact .nil
      | cons u r => cases h
    | cons c l ih =>
      intro us h g
      cases us with
      | nil => cases h
      | cons u r =>
        obtain ⟨tk, e⟩ := g 0 c rfl
        cases e
        exact .cons ⟨tk, rfl⟩ (ih r (by simpa using h) fun j d hd => g (j + 1) d hd)
  have hz : z.cps.toList.length = z.length := (TL.len_tl z).symm
  refine go _ _ (by rw [Array.length_toList, h.1, List.length_reverse, hz]) fun j c hc => ?_
  have hj : j < z.cps.toList.length := by
    have := (List.getElem?_eq_some_iff.mp hc).1
    rw [List.length_reverse] at this
    exact this
  rw [List.getElem?_reverse hj] at hc
  have hja : j < acc.size := by
    rw [h.1, ← hz]
    exact hj
  have e1 : acc[j]? = some acc[j] := Array.getElem?_eq_getElem hja
  obtain ⟨d, tk, h1, h2⟩ := h.2 j _ e1
  have h3 : z.cps.toList[z.cps.toList.length - 1 - j]? = some d := by
    rw [hz, Array.getElem?_toList]
    exact h1
  rw [hc] at h3
  cases h3
  refine ⟨tk, ?_⟩
  rw [Array.getElem?_toList, e1, h2]
theorem pe_listRevT {X : Cx} {e : Expr} {te : TE} {p p2 pos pos2 : Pos} (hc : X.calm = true) (hg : Gl X "list") (hm : X.mg "list" = none) (hg2 : Gl X "reversed") (hm2 : X.mg "reversed" = none) (he : PE X e te)
    (hs : starEach [e] X.env = (false, eval e X.env) :: starEach [] X.env := by rfl)
    (hs2 : starEach [.Call (.Name "reversed" p2) [e] [] pos2] X.env = (false, eval (.Call (.Name "reversed" p2) [e] [] pos2) X.env) :: starEach [] X.env := by rfl) :
    PE X (.Call (.Name "list" p) [.Call (.Name "reversed" p2) [e] [] pos2] [] pos) (tListRevT te) := by
  refine ⟨fun pins s σ H Q I h => ?_⟩
  refine Call_ (ld_blt I hg hm boot_list (PyProof.Rows.callWith_type1 (args_cons (Call_ (ld_blt I hg2 hm2 PyProof.Rows.boot_reversed (PyProof.Rows.callWith_type1 (args_cons (thn (he.run pins s σ H _ I h) fun u s1 ⟨v, H1, I1, r1, q1⟩ => args_nil ?_) hs) hs rfl))) hs2) hs2 rfl))
  obtain ⟨z, ev, hz, q⟩ := q1
  subst ev
  obtain ⟨t, rfl⟩ := r1
  refine RX.call_reversed_str hz (args_nil ?_)
  have k0 : ∀ b o, s1.heap.get? b = some o → (s1.heap.push (RX.rxObj z t ((z.length : Int) - 1))).get? b = some o := fun b o e => Heap.get?_push_of_some _ e
  have I2 : Inv X pins σ H1 { s1 with heap := s1.heap.push (RX.rxObj z t ((z.length : Int) - 1)), toks := s1.toks + 1 + 1 } := I1.kept (t' := s1.toks + 1 + 1) k0
  obtain ⟨f0, f1, f2, f3, f4, f5⟩ := I1.fpOk (H' := H1) (b := s1.heap.objs.size) (Nat.le_refl _) (I1.hok.fresh (Nat.le_refl _))
  refine RX.call_list_rx (s := { s1 with heap := s1.heap.push (RX.rxObj z t ((z.length : Int) - 1)), toks := s1.toks + 1 + 1 }) (I1.ok.hd hc) ⟨_, Heap.get?_push_size _ rfl, rfl, rfl⟩ hz fun h' tk acc c' hk hS hi => ?_
  have I3 : Inv X pins σ H1 { s1 with heap := h', toks := tk } := I2.turned (t' := tk) (fun b o hb e => hk b o hb e) f0 f1 f3 f4 f5
  have hS' : h'.get? (s1.heap.objs.size + 1) = some { cls := .type "list", dict := none, data := .seq acc c', slots := #[] } := by
    rw [Heap.size_push] at hS
    exact hS
  have hfr : H1 (s1.heap.objs.size + 1) = none := I2.hok.fresh (by
    show (s1.heap.push _).objs.size ≤ _
    rw [Heap.size_push]
    exact Nat.le_refl _)
  show EP X pins σ Q (.ref (s1.heap.push (RX.rxObj z t ((z.length : Int) - 1))).objs.size) _
  rw [Heap.size_push]
  refine ⟨.ref (s1.heap.objs.size + 1), upd H1 (s1.heap.objs.size + 1) (.lst (z.cps.toList.reverse.map fun c => V.str ⟨#[c]⟩)), ?_, rfl, q _ hfr⟩
  have hlz : (z.cps.toList.reverse.map fun c => V.str ⟨#[c]⟩).length ≤ sizeLine := by
    rw [List.length_map, List.length_reverse]
    exact hz
  have ob : ObjOk X.prog X.w (upd H1 (s1.heap.objs.size + 1) (.lst (z.cps.toList.reverse.map fun c => V.str ⟨#[c]⟩))) h' (s1.heap.objs.size + 1) (.lst (z.cps.toList.reverse.map fun c => V.str ⟨#[c]⟩)) :=
    ⟨hlz, acc.toList, c', vals_rx hi, by rw [Array.toArray_toList]; exact hS'⟩
  have hb : ∀ b o, H1 b = some o → b ≠ s1.heap.objs.size + 1 := fun b o e z => by
    rw [z, hfr] at e
    cases e
  refine ⟨I3.ok, I3.os, I3.bare, ?_, I3.loc, I3.cell, ?_, ?_, ?_, ?_, I3.len⟩
  · have u := I3.base
    have s0lt : ∀ b o, X.s_0.heap.get? b = some o → b ≠ s1.heap.objs.size + 1 := fun b o e =>
      Nat.ne_of_lt (Nat.lt_of_lt_of_le (Heap.lt_size e) (Nat.le_trans I1.sz (Nat.le_succ _)))
    exact ⟨u.keep, u.slot, fun b o e n hx => by rw [upd_ne (s0lt b o e)]; exact u.free b o e n hx, u.there, fun b ys e => by rw [upd_ne (hb _ _ (u.tups b ys e))]; exact u.tups b ys e,
      fun b o y e => by rw [upd_ne (hb _ _ (u.frzs b o y e))]; exact u.frzs b o y e, fun b ps e => by
        obtain ⟨more, q⟩ := u.tbls b ps e
        exact ⟨more, by rw [upd_ne (hb _ _ q)]; exact q⟩⟩
  · have h1 : X.env.locals < s1.heap.objs.size := I1.lt
    rw [upd_ne (Nat.ne_of_lt (Nat.lt_succ_of_lt h1))]
    exact I3.free
  · intro x c e
    obtain ⟨v, z⟩ := I1.cell x c e
    have h1 := z.lt
    rw [upd_ne (Nat.ne_of_lt (Nat.lt_succ_of_lt h1))]
    exact I3.freeC x c e
  · intro p hp
    obtain ⟨e, n, r⟩ := I3.pin p hp
    have h1 := Heap.lt_size (I1.pin p hp).1
    exact ⟨e, by rw [upd_ne (Nat.ne_of_lt (Nat.lt_succ_of_lt h1))]; exact n, r⟩
  · intro b o e
    by_cases hbb : b = s1.heap.objs.size + 1
    · subst hbb
      rw [upd_same] at e
      cases e
      exact ob
    · rw [upd_ne hbb] at e
      exact (I3.hok b o e).stay (fun c u _ q => q) (fun c q => by rw [upd_ne (hb _ _ q)]; exact q) fun c ys q => by rw [upd_ne (hb _ _ q)]; exact q
section
variable {K : PySem.W.Frag} {σ : L2.St} {H : Hp} {ta tb tc te : TE} {E : XK} {D : Ends} {tz tu : TS} {P : V → Prop}
theorem nw_listRevT {l : List Nat} (h : Vl ta σ H (.str (tx l))) (hz : l.length ≤ 100000) : Nw (tListRevT ta) σ H (.lst (l.reverse.map fun c => V.str (tx [c]))) := fun Q q => h _ ⟨tx l, rfl, by rw [tx_len, size_line]; omega, by
  rw [tx_cps]
  exact q⟩
theorem vl_begin {z n : Nat} (ha : Va ta σ H (fun v => ∃ L, v = .str (tx (wordL 0 L)) ∧ z ≤ L ∧ L ≤ 2 * z + 1)) (hb : Vl tb σ H (.int (n : Int))) (hn : n ≤ z ∧ z ≤ 10000) : Vl (tSl rSlS ta tNoPart (tPart tb)) σ H (.str (tx (wordL 0 n))) := fun Q q =>
  ha _ fun v hv => by
    obtain ⟨L, rfl, h1, h2⟩ := hv
    refine hb _ ⟨(n : Int), rfl, tx (wordL 0 L), rfl, by rw [tx_len, wordL_len, size_line]; omega, ?_⟩
    rw [cutS_to, wordL_take (by omega)]
    exact q
def sp_fork_of : Sp := fun vs H Q _ => ∃ (n : Nat), vs = [.int (n : Int)] ∧ n ≤ 41 ∧ Fl H ∧ Q (.str (tx (wordL 0 n).reverse)) H
theorem vl_fork_of {n : Nat} (ha : Vl ta σ H (.int (n : Int))) (h : n ≤ 41 ∧ Fl H) : Vl (tCall sp_fork_of [] E (tCons ta tNil)) σ H (.str (tx (wordL 0 n).reverse)) := vl_call (av_cons ha av_nil) fun _ q => ⟨n, rfl, h.1, h.2, q⟩
def sp_law_backward : Sp := fun vs H Q _ => ∃ (l : List Nat), vs = [.str (tx l)] ∧ l.length ≤ 1000 ∧ Fl H ∧ Q (.str (tx l.reverse)) H
theorem vl_law_backward {l : List Nat} (ha : Vl ta σ H (.str (tx l))) (h : l.length ≤ 1000 ∧ Fl H) : Vl (tCall sp_law_backward [] E (tCons ta tNil)) σ H (.str (tx l.reverse)) := vl_call (av_cons ha av_nil) fun _ q => ⟨l, rfl, h.1, h.2, q⟩
end
theorem upd_id {H : Hp} {d : Addr} {o : HO} (h : H d = some o) : upd H d o = H := by
  funext x
  by_cases e : x = d
  · rw [e, upd_same, h]
  · rw [upd_ne e]
/-- the pieces met so far -/
structure Seen (ms ks : List (List Nat)) (i : Nat) : Prop where
  mem : ∀ l, l ∈ ks ↔ l ∈ ms.take i
  len : ks.length ≤ i
theorem Seen.next {ms ks : List (List Nat)} {i : Nat} {l : List Nat} (h : Seen ms ks i) (hl : ms[i]? = some l) : Seen ms (if l ∈ ks then ks else ks ++ [l]) (i + 1) := by
  have e : ms.take (i + 1) = ms.take i ++ [l] := by
    rw [List.take_add_one, hl]
    rfl
  by_cases z : l ∈ ks
  · rw [if_pos z]
    refine ⟨fun m => ?_, Nat.le_succ_of_le h.len⟩
    rw [e, List.mem_append, h.mem]
    constructor
    · exact .inl
    · rintro (w | w)
      · exact w
      · have : m = l := by simpa using w
        rw [this]
        exact (h.mem l).mp z
  · rw [if_neg z]
    refine ⟨fun m => ?_, ?_⟩
    · rw [e, List.mem_append, List.mem_append, h.mem]
    · rw [List.length_append]
      have := h.len
      show _ + 1 ≤ _
      omega
end Tw

namespace TwL
open PySem PySem.Spec PyProof.Rows L2 Tw
def topS (i : Nat) : Stmt := PySem.Challenge.pw_twinless_k21_whole_forks.main.body.getD i (.Pass ⟨0, 0, 0, 0⟩)
abbrev s_beginning : Stmt := topS 1
theorem sc_beginning : FnScope ["size", "one", "other", "longer"] ["size"] (defScope s_beginning) := ⟨rfl, rfl, rfl, by decide +kernel, rfl, by decide +kernel, by decide +kernel⟩
section
variable {P : Program} {w : World} {K : PySem.W.Frag} {mg : Str → Option Value} {base : Heap}
theorem ok_beginning {f : Addr} {fd : FuncData} (F : Fun K "beginning" "beginning" s_beginning f fd)  (z_len : mg "len" = none) : FnOk P w K mg base CX0 1 f fd ["size"] (sp_beginning) := by
  refine okP F sc_beginning (fun vs H Q E h => ?_) (fun cdv A outer s H vs Q E hr h => ?_)
  · obtain ⟨z, rfl, _⟩ := h
    rfl
  · obtain ⟨z, rfl, hz, fl, q⟩ := h
    refine ⟨_, (pss_cons (ps_set (i := 1) sc_beginning.nd rfl (Or.inl rfl) pe_str)
      (pss_cons (ps_set (i := 2) sc_beginning.nd rfl (Or.inl rfl) pe_str)
      (pss_cons (ps_while PassesOwn.never (pt_cmpR op_lt (pe_callB call_lenT (by rfl) z_len (by decide +kernel) (pa_cons (pv 1) pa_nil)) (pv 0) (nomark _))
        (pss_cons (ps_set (i := 3) sc_beginning.nd rfl (Or.inl rfl) (pe_op op_addT (pv 2) (pv 1)))
        (pss_cons (ps_set (i := 1) sc_beginning.nd rfl (Or.inl rfl) (pv 2))
        (pss_one (ps_set (i := 2) sc_beginning.nd rfl (Or.inl rfl) (pv 3))))))
      (pss_one (ps_ret (pv 1)))))), ?_⟩
    refine q_set vl_c (q_set vl_c ?_)
    have e0 : ("a" : Str) = tx (wordL 0 (mk 0)) := by
      have : wordL 0 (mk 0) = [97] := by decide +kernel
      rw [this, str_a]
    have e1 : ("ab" : Str) = tx (wordL 0 (mk 1)) := by
      have : wordL 0 (mk 1) = [97, 98] := by decide +kernel
      rw [this, str_ab]
    have hsl := size_line
    refine q_while (fun m σ' H' => ∃ (j : Nat) (y3 : Option V), σ' = [some (.int (z : Int)), some (.str (tx (wordL 0 (mk j)))), some (.str (tx (wordL 0 (mk (j + 1))))), y3] ∧ mk j ≤ 2 * z + 1 ∧ m = z - mk j ∧ H = H') (z - mk 0) ⟨0, none, by rw [e0, e1]; rfl, by show 1 ≤ _; omega, rfl, rfl⟩ fun m σ' H' w => ?_
    obtain ⟨j, y3, rfl, hj, rfl, rfl⟩ := w
    have hlen : ∀ k, (tx (wordL 0 (mk k))).length = mk k := fun k => by rw [tx_len, wordL_len]
    refine ⟨_, (as_lt (vl_lenT (vl_var rfl) (by rw [hlen]; omega)) (vl_var rfl)), fun hb => ?_, fun hb => ?_⟩
    · have hb := of_decide_eq_true hb
      rw [hlen] at hb
      have hd := mk_dbl j
      have hr := mk_rec j
      have hlt := mk_lt (show j < j + 1 by omega)
      refine q_set (vl_addT (vl_var rfl) (vl_var rfl) (by rw [hlen, hlen]; omega)) (q_set (vl_var rfl) (s_set (vl_var rfl) ⟨z - mk (j + 1), by omega, j + 1, some (.str (tx (wordL 0 (mk (j + 1))) ++ tx (wordL 0 (mk j)))), ?_, by omega, rfl, rfl⟩))
      rw [tx_app, ← word_step]
      rfl
    · have hb := of_decide_eq_false hb
      rw [hlen] at hb
      exact s_ret (vl_var rfl) (rt_val fl (Same.refl _) (q (mk j) (by omega) hj))
end
abbrev s_pieces_of : Stmt := topS 2
theorem sc_pieces_of : FnScope ["n", "text", "found", "k"] ["n"] (defScope s_pieces_of) := ⟨rfl, rfl, rfl, by decide +kernel, rfl, by decide +kernel, by decide +kernel⟩
section
variable {P : Program} {w : World} {K : PySem.W.Frag} {mg : Str → Option Value} {base : Heap}
theorem ok_pieces_of {f : Addr} {fd : FuncData} (F : Fun K "pieces_of" "pieces_of" s_pieces_of f fd)  (o_beginning : Own P w K mg base 1 "beginning" ["size"] (sp_beginning)) (z_range : mg "range" = none) (z_sorted : mg "sorted" = none) (z_list : mg "list" = none) : FnOk P w K mg base CX0 2 f fd ["n"] (sp_pieces_of) := by
  refine okP F sc_pieces_of (fun vs H Q E h => ?_) (fun cdv A outer s H vs Q E hr h => ?_)
  · obtain ⟨n, rfl, _⟩ := h
    rfl
  · obtain ⟨n, rfl, hn, fl, q⟩ := h
    have hu := Nat.lt_of_le_of_lt (Nat.add_le_add_left (show 1 ≤ 64 by decide) _) hr.units
    refine ⟨_, (pss_cons (ps_set (i := 1) sc_pieces_of.nd rfl (Or.inl rfl) (pe_own o_beginning hr (pa_cons (pe_op op_add (pe_op op_mul pe_int (pv 0)) pe_int) pa_nil)))
      (pss_cons (ps_set (i := 2) sc_pieces_of.nd rfl (Or.inl rfl) pe_dnewK)
      (pss_cons (ps_for PassesOwn.never rfl (pi_range1 (by rfl) z_range (pa_cons (pe_op op_add (pe_op op_mul pe_int (pv 0)) pe_int) pa_nil)) (pg_name (i := 3) sc_pieces_of.nd rfl (Or.inl rfl))
        (pss_one (ps_dput hu (pv 2) (pe_slice sl_str (pv 1) (po_some (pv 3)) (po_some (pe_op op_add (pv 3) (pv 0)))) pe_bl rfl)))
      (pss_one (ps_ret (pe_F (pe_callB (cr_sortedSK (K := K) rfl) (by rfl) z_sorted (by decide +kernel) (pa_cons (pe_callTy (call_listD rfl) (by rfl) z_list (by decide +kernel) (pa_cons (pv 2) pa_nil)) pa_nil)))))))), ?_⟩
    have hsl := size_line
    refine q_any (va_beginning (z := 6 * n + 6) (vl_is (vl_add (vl_mul vl_c (vl_var rfl)) vl_c) (congrArg V.int (by omega))) ⟨by omega, fl⟩) fun v hv => ?_
    obtain ⟨L, rfl, h1, h2⟩ := hv
    refine q_new nw_dict fun p np => ?_
    refine q_for1 (n := ((5 * n + 6 : Nat) : Int)) (av_cons (vl_is (vl_add (vl_mul vl_c (vl_var rfl)) vl_c) (congrArg V.int (by omega))) av_nil) (by omega) (by omega) (fun i σ' H' => ∃ (ks : List (List Nat)) (y3 : Option V), σ' = [some (.int (n : Int)), some (.str (tx (wordL 0 L))), some (.ref p), y3] ∧ Met n i ks ∧ H' = upd H p (.dK (dk ks))) ⟨[], none, rfl, .zero n, rfl⟩ (fun i σ' H' hi w => ?_) (fun σ' H' w => ?_)
    · obtain ⟨ks, y3, rfl, hm, rfl⟩ := w
      have hk := hm.le (by omega) hn
      refine s_dput upd_same (vl_var rfl) (l := wordL i n) (vl_is (vl_slS (vl_var rfl) (pv_some (vl_var rfl)) (pv_some (i := ((i + n : Nat) : Int)) (vl_is (vl_add (vl_var rfl) (vl_var rfl)) (congrArg V.int (by omega)))) (by rw [tx_len, wordL_len]; omega)) ?_) vl_c (by omega) ⟨_, _, rfl, hm.next, by rw [upd_upd]⟩
      rw [cutS_mid (by omega), show i + n - i = n by omega, word_mid (by omega)]
    · obtain ⟨ks, y3, rfl, hm, rfl⟩ := w
      rw [Int.toNat_natCast] at hm
      have fl1 : Fl (upd H p (.dK (dk ks))) := fl.upd rfl
      refine s_retx (nx_sorted fl1 (nw_listD (vl_var rfl) upd_same) hm hn) fun o r ho nr => ?_
      obtain ⟨ls, hls, rfl⟩ := ho
      exact rt_new fl (same_new' (same_new (Same.refl H) np) nr) ((same_new (Same.refl H) np).free nr) rfl upd_same (q ls r hls ((same_new (Same.refl H) np).free nr))
end
abbrev s_fork_of : Stmt := topS 3
theorem sc_fork_of : FnScope ["n"] ["n"] (defScope s_fork_of) := ⟨rfl, rfl, rfl, by decide +kernel, rfl, by decide +kernel, by decide +kernel⟩
section
variable {P : Program} {w : World} {K : PySem.W.Frag} {mg : Str → Option Value} {base : Heap}
theorem ok_fork_of {f : Addr} {fd : FuncData} (F : Fun K "fork_of" "fork_of" s_fork_of f fd)  (o_beginning : Own P w K mg base 1 "beginning" ["size"] (sp_beginning)) (z_list : mg "list" = none) (z_reversed : mg "reversed" = none) : FnOk P w K mg base CX0 2 f fd ["n"] (sp_fork_of) := by
  refine okP F sc_fork_of (fun vs H Q E h => ?_) (fun cdv A outer s H vs Q E hr h => ?_)
  · obtain ⟨n, rfl, _⟩ := h
    rfl
  · obtain ⟨n, rfl, hn, fl, q⟩ := h
    refine ⟨_, (pss_one (ps_ret (pe_F (pe_joinTK (K := K) rfl pe_str (pe_listRevT rfl (by rfl) z_list (by rfl) z_reversed (pe_slice sl_str (pe_own o_beginning hr (pa_cons (pv 0) pa_nil)) po_none (po_some (pv 0)))))))), ?_⟩
    have hl : (wordL 0 n).reverse.length = n := by rw [List.length_reverse, wordL_len]
    exact s_ret (vl_F fl (gv_join1 (l := (wordL 0 n).reverse) (nw_listRevT (l := wordL 0 n) (vl_begin (z := n) (va_beginning (vl_var rfl) ⟨by omega, fl⟩) (vl_var rfl) (by omega)) (by rw [wordL_len]; omega)) rfl (by omega))) (rt_val fl (Same.refl _) q)
end
abbrev s_law_cell : Stmt := topS 11
theorem sc_law_cell : FnScope ["script", "k", "base"] ["script", "k"] (defScope s_law_cell) := ⟨rfl, rfl, rfl, by decide +kernel, rfl, by decide +kernel, by decide +kernel⟩
/-- the script's k-th number, or a drawn one -/
def sp_law_cell (K : PySem.W.Frag) : Sp := fun vs H Q _ => ∃ (a : Addr) (ns : List Int) (k : Int), vs = [.ref a, .int k] ∧ SqL K H a (ns.map V.int) ∧ (0 ≤ k ∧ k < 100000) ∧ Fl H ∧ Q (.int (cellV ns k)) H
theorem vl_law_cell {K : PySem.W.Frag} {σ : L2.St} {H : Hp} {ta tb : TE} {E : XK} {a : Addr} {ns : List Int} {k : Int} (ha : Vl ta σ H (.ref a)) (hb : Vl tb σ H (.int k)) (h : SqL K H a (ns.map V.int) ∧ (0 ≤ k ∧ k < 100000) ∧ Fl H) :
    Vl (tCall (sp_law_cell K) [] E (tCons ta (tCons tb tNil))) σ H (.int (cellV ns k)) := vl_call (av_cons ha (av_cons hb av_nil)) fun _ q => ⟨a, ns, k, rfl, h.1, h.2.1, h.2.2, q⟩
section
variable {P : Program} {w : World} {K : PySem.W.Frag} {mg : Str → Option Value} {base : Heap}
theorem ok_law_cell {f : Addr} {fd : FuncData} (F : Fun K "_law_cell" "_law_cell" s_law_cell f fd)  (z_len : mg "len" = none) : FnOk P w K mg base CX0 1 f fd ["script", "k"] (sp_law_cell K) := by
  refine okP F sc_law_cell (fun vs H Q E h => ?_) (fun cdv A outer s H vs Q E hr h => ?_)
  · obtain ⟨a, ns, k, rfl, _⟩ := h
    rfl
  · obtain ⟨a, ns, k, rfl, hS, hk, fl, q⟩ := h
    refine ⟨_, (pss_cons (ps_if (pt_cmpR op_lt (pv 1) (pe_callB (call_lenLK (K := K) rfl) (by rfl) z_len (by decide +kernel) (pa_cons (pv 0) pa_nil)) (nomark _))
        (pss_one (ps_ret (pe_ix (ix_listK (K := K) rfl) (pv 0) (pv 1) (fun _ _ => rfl))))
        pss_nil)
      (pss_cons (ps_set (i := 2) sc_law_cell.nd rfl (Or.inl rfl) pe_int)
      (pss_cons (ps_if (pt_cmpR op_gt (pe_callB (call_lenLK (K := K) rfl) (by rfl) z_len (by decide +kernel) (pa_cons (pv 0) pa_nil)) pe_int (nomark _))
        (pss_one (ps_set (i := 2) sc_law_cell.nd rfl (Or.inl rfl) (pe_ix (ix_listK (K := K) rfl) (pv 0) pe_int (fun _ _ => rfl))))
        pss_nil)
      (pss_one (ps_ret (pe_op op_mod (pe_op op_add (pe_op op_mul (pe_op op_mod (pv 2) pe_int) pe_int) (pe_op op_mul (pv 1) pe_int)) pe_int)))))), ?_⟩
    have hlen : (ns.map V.int).length = ns.length := List.length_map ..
    refine q_ifP (as_lt (vl_var rfl) (vl_len (vl_var rfl) hS)) (fun h1 => ?_) (fun h1 => ?_)
    · have hlt : k.toNat < ns.length := by omega
      refine s_ret (vl_ixL (vl_var rfl) (vl_var rfl) hS (at_II hk.1 (List.getElem?_eq_getElem hlt))) (rt_val fl (Same.refl _) ?_)
      have e : cellV ns k = ns[k.toNat] := by
        unfold cellV
        rw [if_pos (show k < (ns.length : Int) by omega), List.getD_eq_getElem?_getD, List.getElem?_eq_getElem hlt]
        rfl
      rw [← e]
      exact q
    · have hge : ¬ k < (ns.length : Int) := by omega
      refine q_nx ?_
      refine q_set vl_c ?_
      refine q_ifP (as_gt (vl_len (vl_var rfl) hS) vl_c) (fun h2 => ?_) (fun h2 => ?_)
      · have h0 : 0 < ns.length := by omega
        refine s_set (vl_ixL (vl_var rfl) vl_c hS (at_I (k := 0) (List.getElem?_eq_getElem h0))) ?_
        refine s_ret (vl_mod (vl_add (vl_mul (vl_mod (vl_var rfl) vl_c) vl_c) (vl_mul (vl_var rfl) vl_c)) vl_c) (rt_val fl (Same.refl _) ?_)
        have e : cellV ns k = (ns[0] % 65521 * 48271 + k * 30103) % 65521 := by
          unfold cellV
          rw [if_neg hge, if_pos h0, List.getD_eq_getElem?_getD, List.getElem?_eq_getElem h0]
          rfl
        rw [← e]
        exact q
      · have h0 : ¬ 0 < ns.length := by omega
        refine s_nx ?_
        refine s_ret (vl_mod (vl_add (vl_mul (vl_mod (vl_var rfl) vl_c) vl_c) (vl_mul (vl_var rfl) vl_c)) vl_c) (rt_val fl (Same.refl _) ?_)
        have e : cellV ns k = ((0 : Int) % 65521 * 48271 + k * 30103) % 65521 := by
          unfold cellV
          rw [if_neg hge, if_neg h0]
        rw [← e]
        exact q
end
abbrev s_law_backward : Stmt := topS 12
theorem sc_law_backward : FnScope ["text", "found", "letter"] ["text"] (defScope s_law_backward) := ⟨rfl, rfl, rfl, by decide +kernel, rfl, by decide +kernel, by decide +kernel⟩
section
variable {P : Program} {w : World} {K : PySem.W.Frag} {mg : Str → Option Value} {base : Heap}
theorem ok_law_backward {f : Addr} {fd : FuncData} (F : Fun K "_law_backward" "_law_backward" s_law_backward f fd)  : FnOk P w K mg base CX0 1 f fd ["text"] (sp_law_backward) := by
  refine okP F sc_law_backward (fun vs H Q E h => ?_) (fun cdv A outer s H vs Q E hr h => ?_)
  · obtain ⟨l, rfl, _⟩ := h
    rfl
  · obtain ⟨l, rfl, hl, fl, q⟩ := h
    refine ⟨_, (pss_cons (ps_set (i := 1) sc_law_backward.nd rfl (Or.inl rfl) pe_str)
      (pss_cons (ps_for PassesOwn.never rfl (pi_str (pv 0)) (pg_name (i := 2) sc_law_backward.nd rfl (Or.inl rfl))
        (pss_one (ps_set (i := 1) sc_law_backward.nd rfl (Or.inl rfl) (pe_op op_addT (pv 2) (pv 1)))))
      (pss_one (ps_ret (pv 1))))), ?_⟩
    refine q_set (v := .str (tx [])) (vl_is vl_c (by rw [str_e])) ?_
    refine q_forS (vl_var rfl) (fun i σ' H' => ∃ y2, σ' = [some (.str (tx l)), some (.str (tx (l.take i).reverse)), y2] ∧ H = H') ⟨none, rfl, rfl⟩ (fun i c σ' H' hc w => ?_) (fun σ' H' w => ?_)
    · obtain ⟨y2, rfl, rfl⟩ := w
      rw [tx_cps] at hc
      refine s_set (v := .str (tx (l.take (i + 1)).reverse)) (vl_is (vl_addT (vl_var rfl) (vl_var rfl) (by rw [tx_one, tx_len, tx_len, List.length_reverse, List.length_take]; show 1 + _ ≤ _; omega)) ?_) ⟨_, rfl, rfl⟩
      rw [tx_one, tx_app, take_succ hc, List.reverse_append]
      rfl
    · obtain ⟨y2, rfl, rfl⟩ := w
      rw [tx_cps, List.take_length]
      exact s_ret (vl_var rfl) (rt_val fl (Same.refl _) q)
end
abbrev s_marks_to : Stmt := topS 5
theorem sc_marks_to : FnScope ["number", "found", "one", "other", "after"] ["number"] (defScope s_marks_to) := ⟨rfl, rfl, rfl, by decide +kernel, rfl, by decide +kernel, by decide +kernel⟩
section
variable {P : Program} {w : World} {K : PySem.W.Frag} {mg : Str → Option Value} {base : Heap}
theorem ok_marks_to {f : Addr} {fd : FuncData} (F : Fun K "marks_to" "marks_to" s_marks_to f fd)  : FnOk P w K mg base CX0 1 f fd ["number"] (sp_marks_to) := by
  refine okP F sc_marks_to (fun vs H Q E h => ?_) (fun cdv A outer s H vs Q E hr h => ?_)
  · obtain ⟨n, rfl, _⟩ := h
    rfl
  · obtain ⟨n, rfl, hn, fl, q⟩ := h
    refine ⟨_, (pss_cons (ps_set (i := 1) sc_marks_to.nd rfl (Or.inl rfl) (pe_lst pa_nil))
      (pss_cons (ps_set (i := 2) sc_marks_to.nd rfl (Or.inl rfl) pe_int)
      (pss_cons (ps_set (i := 3) sc_marks_to.nd rfl (Or.inl rfl) pe_int)
      (pss_cons (ps_while PassesOwn.never (pt_cmpR op_le (pv 2) (pv 0) (nomark _))
        (pss_cons (ps_expr (pe_bm PySem.F.plainAttrs_list PySem.F.slot_list_append PySem.F.type_list_append mt_append (pv 1) (pa_cons (pv 2) pa_nil)))
        (pss_cons (ps_set (i := 4) sc_marks_to.nd rfl (Or.inl rfl) (pe_op op_add (pv 2) (pv 3)))
        (pss_cons (ps_set (i := 2) sc_marks_to.nd rfl (Or.inl rfl) (pv 3))
        (pss_one (ps_set (i := 3) sc_marks_to.nd rfl (Or.inl rfl) (pv 4)))))))
      (pss_one (ps_ret (pv 1))))))), ?_⟩
    refine q_new (nw_lst av_nil (Nat.le_of_ble_eq_true rfl)) fun p np => ?_
    refine q_set vl_c (q_set vl_c ?_)
    refine q_while (fun m σ' H' => ∃ (j : Nat) (x1 x2 : Int) (y4 : Option V), σ' = [some (.int (n : Int)), some (.ref p), some (.int x1), some (.int x2), y4] ∧ x1 = (mk j : Int) ∧ x2 = (mk (j + 1) : Int) ∧ H' = upd H p (.lst ((mksI j).map V.int)) ∧ j ≤ 400 ∧ m = 400 - j) 400 ⟨0, _, _, none, rfl, rfl, rfl, rfl, by omega, rfl⟩ fun m σ' H' w => ?_
    obtain ⟨j, x1, x2, y4, rfl, e1, e2, rfl, hj, rfl⟩ := w
    have hl : ((mksI j).map V.int).length = j := by rw [List.length_map, mksI_len]
    refine ⟨_, (as_le (vl_var rfl) (vl_var rfl)), fun hb => ?_, fun hb => ?_⟩
    · have hle := of_decide_eq_true hb
      have hlt : j < 400 := by
        rcases Nat.lt_or_ge j 400 with z | z
        · exact z
        · have := mk_mono z
          omega
      refine q_app upd_same (vl_var rfl) (vl_var rfl) (by omega) ?_
      refine q_set (vl_add (vl_var rfl) (vl_var rfl)) (q_set (vl_var rfl) (s_set (vl_var rfl) ⟨400 - (j + 1), by omega, j + 1, _, _, _, rfl, e2, ?_, ?_, by omega, rfl⟩))
      · rw [e1, e2, show j + 1 + 1 = j + 2 from rfl, mk_rec]
        omega
      · rw [upd_upd, e1, mksI_succ, List.map_append]
        rfl
    · have hgt := of_decide_eq_false hb
      exact s_ret (vl_var rfl) (rt_new fl (same_new (Same.refl H) np) np rfl upd_same (q j p hj (by omega) np))
end
abbrev s_row_of : Stmt := topS 6
theorem sc_row_of : FnScope ["number", "marks", "found", "k"] ["number"] (defScope s_row_of) := ⟨rfl, rfl, rfl, by decide +kernel, rfl, by decide +kernel, by decide +kernel⟩
section
variable {P : Program} {w : World} {K : PySem.W.Frag} {mg : Str → Option Value} {base : Heap}
theorem ok_row_of {f : Addr} {fd : FuncData} (F : Fun K "row_of" "row_of" s_row_of f fd)  (o_marks_to : Own P w K mg base 1 "marks_to" ["number"] (sp_marks_to)) (z_range : mg "range" = none) (z_list : mg "list" = none) (z_reversed : mg "reversed" = none) (z_len : mg "len" = none) : FnOk P w K mg base CX0 2 f fd ["number"] (sp_row_of) := by
  refine okP F sc_row_of (fun vs H Q E h => ?_) (fun cdv A outer s H vs Q E hr h => ?_)
  · obtain ⟨n, rfl, _⟩ := h
    rfl
  · obtain ⟨ni, rfl, hn, fl, q⟩ := h
    obtain ⟨n, rfl⟩ : ∃ n : Nat, ni = (n : Int) := ⟨ni.toNat, by omega⟩
    rw [Int.toNat_natCast] at q
    refine ⟨_, (pss_cons (ps_set (i := 1) sc_row_of.nd rfl (Or.inl rfl) (pe_own o_marks_to hr (pa_cons (pv 0) pa_nil)))
      (pss_cons (ps_set (i := 2) sc_row_of.nd rfl (Or.inl rfl) (pe_lst pa_nil))
      (pss_cons (ps_for PassesOwn.never rfl (pi_range3 (by rfl) z_range (pa_cons (pe_op op_sub (pe_callB (call_lenLK (K := K) rfl) (by rfl) z_len (by decide +kernel) (pa_cons (pv 1) pa_nil)) pe_int) (pa_cons (pe_un un_neg pe_int) (pa_cons (pe_un un_neg pe_int) pa_nil)))) (pg_name (i := 3) sc_row_of.nd rfl (Or.inl rfl))
        (pss_one (ps_if (pt_cmpR op_le (pe_ix (ix_listK (K := K) rfl) (pv 1) (pv 3) (fun _ _ => rfl)) (pv 0) (nomark _))
          (pss_cons (ps_set (i := 0) sc_row_of.nd rfl (Or.inl rfl) (pe_op op_sub (pv 0) (pe_ix (ix_listK (K := K) rfl) (pv 1) (pv 3) (fun _ _ => rfl))))
          (pss_one (ps_expr (pe_bm PySem.F.plainAttrs_list PySem.F.slot_list_append PySem.F.type_list_append mt_append (pv 2) (pa_cons (pv 3) pa_nil)))))
          pss_nil)))
      (pss_one (ps_ret (pe_listRev rfl (by rfl) z_list (by rfl) z_reversed (pv 2))))))), ?_⟩
    refine q_newx (nx_marks_to (vl_var rfl) ⟨by omega, fl⟩) fun o p ho np => ?_
    obtain ⟨L, hL, hm, rfl⟩ := ho
    have hl : ((mksI L).map V.int).length = L := by rw [List.length_map, mksI_len]
    refine q_new (nw_lst av_nil (Nat.le_of_ble_eq_true rfl)) fun p2 np2 => ?_
    have n21 : p ≠ p2 := ne_of_none upd_same np2
    have a1 : ∀ o, (upd (upd H p (.lst ((mksI L).map V.int))) p2 o) p = some (.lst ((mksI L).map V.int)) := fun o => at_oth upd_same n21
    have n2 : H p2 = none := by
      rw [upd_ne (Ne.symm n21)] at np2
      exact np2
    have sm : ∀ o, Same H (upd (upd H p (.lst ((mksI L).map V.int))) p2 o) := fun o => same_new (same_new (Same.refl H) np) n2
    refine q_for3 (av_cons (vl_sub (vl_len (vl_var rfl) (SqL.of (a1 _))) vl_c) (av_cons (vl_neg vl_c) (av_cons (vl_neg vl_c) av_nil))) (m := L) ?_ (fun i σ' H' => ∃ (nn : Nat) (fo : List Nat) (x0 : Int) (y3 : Option V), σ' = [some (.int x0), some (.ref p), some (.ref p2), y3] ∧ x0 = (nn : Int) ∧ gre L n = fo ++ gre (L - i) nn ∧ fo.length ≤ i ∧ H' = upd (upd H p (.lst ((mksI L).map V.int))) p2 (.lst ((rwI fo).map V.int))) ⟨n, [], _, none, rfl, rfl, rfl, by decide, rfl⟩ (fun i σ' H' hi w => ?_) (fun σ' H' w => ?_)
    · rw [hl]
      exact tw_down L (by omega)
    · obtain ⟨nn, fo, x0, y3, rfl, e0, hg, hfo, rfl⟩ := w
      have hk : ((((mksI L).map V.int).length : Int) - 1 + (i : Nat) * -1) = ((L - 1 - i : Nat) : Int) := by
        rw [hl]
        omega
      show tIfS _ _ _ _ _ _
      rw [hk]
      have hu : gre (L - i) nn = if mk (L - 1 - i) ≤ nn then (L - 1 - i) :: gre (L - 1 - i) (nn - mk (L - 1 - i)) else gre (L - 1 - i) nn := by
        rw [show L - i = (L - 1 - i) + 1 by omega]
        rfl
      have hat : atI ((mksI L).map V.int) ((L - 1 - i : Nat) : Int) = some (.int (mk (L - 1 - i) : Int)) := at_I (mksI_get (by omega))
      refine s_ifP (as_le (vl_ixL (vl_var rfl) (vl_var rfl) (SqL.of (a1 _)) hat) (vl_var rfl)) (fun hle => ?_) (fun hgt => ?_)
      · have hle' : mk (L - 1 - i) ≤ nn := by omega
        refine q_set (vl_sub (vl_var rfl) (vl_ixL (vl_var rfl) (vl_var rfl) (SqL.of (a1 _)) hat)) ?_
        refine s_app upd_same (vl_var rfl) (vl_var rfl) (by rw [List.length_map, rwI_len]; omega) ⟨nn - mk (L - 1 - i), fo ++ [L - 1 - i], _, _, rfl, by omega, ?_, ?_, ?_⟩
        · rw [hg, hu, if_pos hle', List.append_assoc, show L - (i + 1) = L - 1 - i by omega]
          rfl
        · rw [List.length_append]
          show fo.length + 1 ≤ i + 1
          omega
        · rw [upd_upd, rwI_app, List.map_append]
          rfl
      · refine s_nx ⟨nn, fo, _, _, rfl, e0, ?_, by omega, rfl⟩
        rw [hg, hu, if_neg (by omega), show L - (i + 1) = L - 1 - i by omega]
    · obtain ⟨nn, fo, x0, y3, rfl, e0, hg, hfo, rfl⟩ := w
      have e : fo.reverse = rowN n := by
        rw [← gre_row hm, hg, Nat.sub_self]
        show fo.reverse = (fo ++ []).reverse
        rw [List.append_nil]
      refine s_retN (nw_listRev (vl_var rfl) (SqL.of upd_same)) fun r nr => rt_new fl (same_new' (sm _) nr) ((sm _).free nr) rfl upd_same ?_
      rw [← List.map_reverse, ← rwI_rev, e]
      exact q r ((sm _).free nr)
end
abbrev s_sign_at : Stmt := topS 8
theorem sc_sign_at : FnScope ["k"] ["k"] (defScope s_sign_at) := ⟨rfl, rfl, rfl, by decide +kernel, rfl, by decide +kernel, by decide +kernel⟩
section
variable {P : Program} {w : World} {K : PySem.W.Frag} {mg : Str → Option Value} {base : Heap}
theorem ok_sign_at {f : Addr} {fd : FuncData} (F : Fun K "sign_at" "sign_at" s_sign_at f fd)  (o_row_of : Own P w K mg base 2 "row_of" ["number"] (sp_row_of)) : FnOk P w K mg base CX0 3 f fd ["k"] (sp_sign_at) := by
  refine okP F sc_sign_at (fun vs H Q E h => ?_) (fun cdv A outer s H vs Q E hr h => ?_)
  · obtain ⟨n, rfl, _⟩ := h
    rfl
  · obtain ⟨n, rfl, hn, fl, q⟩ := h
    refine ⟨_, (pss_cons (ps_if (pt_F (pt_cmpR (op_in_seqK (K := K) rfl) pe_int (pe_own o_row_of hr (pa_cons (pv 0) pa_nil)) rfl))
        (pss_one (ps_ret pe_str))
        pss_nil)
      (pss_one (ps_ret pe_str))), ?_⟩
    refine q_if (as_is (b := sg n) (as_F (by first | assumption | exact Fl.upd (by assumption) rfl) (gv_inI vl_c (nw_row_of (vl_var rfl) ⟨by omega, fl⟩) rfl)) (by rw [Int.toNat_natCast]; exact mem0_row n)) (fun e => ?_) (fun e => q_nx ?_)
    · refine s_ret vl_c (rt_val fl (Same.refl _) ?_)
      rw [str_b]
      unfold wc at q
      rw [if_pos e] at q
      exact q
    · refine s_ret vl_c (rt_val fl (Same.refl _) ?_)
      rw [str_a]
      unfold wc at q
      rw [e, if_neg (by decide)] at q
      exact q
end
abbrev s_piece_at : Stmt := topS 9
theorem sc_piece_at : FnScope ["k", "n", "j"] ["k", "n"] (defScope s_piece_at) := ⟨rfl, rfl, rfl, by decide +kernel, rfl, by decide +kernel, by decide +kernel⟩
section
variable {P : Program} {w : World} {K : PySem.W.Frag} {mg : Str → Option Value} {base : Heap}
theorem ok_piece_at {f : Addr} {fd : FuncData} (F : Fun K "piece_at" "piece_at" s_piece_at f fd)  (o_sign_at : Own P w K mg base 3 "sign_at" ["k"] (sp_sign_at)) (z_range : mg "range" = none) : FnOk P w K mg base CX0 4 f fd ["k", "n"] (sp_piece_at) := by
  refine okP F sc_piece_at (fun vs H Q E h => ?_) (fun cdv A outer s H vs Q E hr h => ?_)
  · obtain ⟨k, n, rfl, _⟩ := h
    rfl
  · obtain ⟨k, n, rfl, hn, fl, q⟩ := h
    refine ⟨_, (pss_one (ps_ret (pe_F (pe_joinTK (K := K) rfl pe_str (pe_lc (hc := rfl) (own := [("j", 2)]) (hN := sc_piece_at.nd) (hi := (pi_range1 (by rfl) z_range (pa_cons (pv 1) pa_nil))) (ok := blkOk_by (N := ["k", "n", "j"]) (sc := defScope s_piece_at) (by decide +kernel)) (hg := fun _ _ _ _ _ => pg_name (i := 2) sc_piece_at.nd rfl (Or.inl rfl)) (ht := fun _ _ _ _ _ => pts_nil) (he := fun _ _ _ _ _ => (pe_own o_sign_at hr (pa_cons (pe_op op_add (pv 0) (pv 2)) pa_nil)))))))), ?_⟩
    refine s_ret (vl_F fl (gv_join1 (l := wordL k n) (nw_lc1 (fun j => .str (tx [wc (k + j)])) (av_cons (vl_var rfl) av_nil) (by omega) (by omega) (fun _ => rfl) (fun j D acc hj hD => ?_)) ?_ (by rw [wordL_len]; omega))) (rt_val fl (Same.refl _) q)
    · exact vl_sign_at (n := k + j) (vl_is (vl_add (vl_var rfl) (vl_var rfl)) (by rw [Int.natCast_add])) ⟨by omega, fl.upd rfl⟩
    · unfold wordL
      rw [List.map_map, Int.toNat_natCast]
      rfl
end
abbrev s_law : Stmt := topS 13
theorem sc_law : FnScope ["script", "count", "found", "longer", "text", "both", "many", "told"] ["script"] (defScope s_law) := ⟨rfl, rfl, rfl, by decide +kernel, rfl, by decide +kernel, by decide +kernel⟩
section
variable {P : Program} {w : World} {K : PySem.W.Frag} {mg : Str → Option Value} {base : Heap}
theorem ok_law {f : Addr} {fd : FuncData} (F : Fun K "law" "law" s_law f fd)  (o_pieces_of : Own P w K mg base 2 "pieces_of" ["n"] (sp_pieces_of)) (o_fork_of : Own P w K mg base 2 "fork_of" ["n"] (sp_fork_of)) (o_law_cell : Own P w K mg base 1 "_law_cell" ["script", "k"] (sp_law_cell K)) (o_law_backward : Own P w K mg base 1 "_law_backward" ["text"] (sp_law_backward)) (o_piece_at : Own P w K mg base 4 "piece_at" ["k", "n"] (sp_piece_at)) (z_len : mg "len" = none) (z_int : mg "int" = none) (z_isinstance : mg "isinstance" = none) (z_str : mg "str" = none) : FnOk P w K mg base CX0 5 f fd ["script"] (spLaw K) := by
  refine okP F sc_law (fun vs H Q E h => ?_) (fun cdv A outer s H vs Q E hr h => ?_)
  · obtain ⟨a, ns, rfl, _⟩ := h
    rfl
  · obtain ⟨a, ns, rfl, hS, hlen, fl, q⟩ := h
    have hu := Nat.lt_of_le_of_lt (Nat.add_le_add_left (show 1 ≤ 64 by decide) _) hr.units
    refine ⟨_, (pss_cons (ps_set (i := 1) sc_law.nd rfl (Or.inl rfl) (pe_op op_mod (pe_own o_law_cell hr (pa_cons (pv 0) (pa_cons pe_int pa_nil))) pe_int))
      (Evl.pss_cut (ps_if (pt_cmpR op_eq (pe_op op_mod (pe_own o_law_cell hr (pa_cons (pv 0) (pa_cons pe_int pa_nil))) pe_int) pe_int (nomark _))
        (pss_one (ps_set (i := 1) sc_law.nd rfl (Or.inl rfl) (pe_op op_mod (pe_own o_law_cell hr (pa_cons (pv 0) (pa_cons pe_int pa_nil))) pe_int)))
        pss_nil)
      (pss_cons (ps_set (i := 2) sc_law.nd rfl (Or.inl rfl) (pe_own o_pieces_of hr (pa_cons (pv 1) pa_nil)))
      (pss_cons (ps_set (i := 3) sc_law.nd rfl (Or.inl rfl) pe_dnewK)
      (pss_cons (ps_for PassesOwn.never rfl (pi_listK (K := K) rfl (pe_own o_pieces_of hr (pa_cons (pe_op op_add (pv 1) pe_int) pa_nil))) (pg_name (i := 4) sc_law.nd rfl (Or.inl rfl))
        (pss_one (ps_dput hu (pv 3) (pv 4) pe_bl rfl)))
      (pss_cons (ps_set (i := 5) sc_law.nd rfl (Or.inl rfl) (pe_lst pa_nil))
      (pss_cons (ps_for PassesOwn.never rfl (pi_listK (K := K) rfl (pv 2)) (pg_name (i := 4) sc_law.nd rfl (Or.inl rfl))
        (pss_cons (ps_set (i := 6) sc_law.nd rfl (Or.inl rfl) (pe_op op_add (pe_callTy call_intB (by rfl) z_int (by decide +kernel) (pa_cons (pe_cmp (pc_din hu (pe_op op_addT (pv 4) pe_str) (pv 3))) pa_nil)) (pe_callTy call_intB (by rfl) z_int (by decide +kernel) (pa_cons (pe_cmp (pc_din hu (pe_op op_addT (pv 4) pe_str) (pv 3))) pa_nil))))
        (Evl.pss_cut (ps_if (pt_cmpR op_eq (pv 6) pe_int (nomark _))
          (pss_one (ps_expr (pe_bm PySem.F.plainAttrs_list PySem.F.slot_list_append PySem.F.type_list_append mt_append (pv 5) (pa_cons (pv 4) pa_nil))))
          pss_nil)
        (pss_one (ps_if (PW.pt (pw_or (pt_cmpR op_eq (pv 6) pe_int (nomark _)) (pw_or1 (pt_cmpR (op_notIn_seqK (K := K) rfl) (pe_own o_law_backward hr (pa_cons (pv 4) pa_nil)) (pv 2) rfl))))
          (pss_one (ps_ret pe_bl))
          pss_nil)))))
      (pss_cons (ps_if (pt_cmpR op_ne (pe_callB (call_lenLK (K := K) rfl) (by rfl) z_len (by decide +kernel) (pa_cons (pv 5) pa_nil)) pe_int (nomark _))
        (pss_one (ps_ret pe_bl))
        pss_nil)
      (pss_cons (ps_set (i := 7) sc_law.nd rfl (Or.inl rfl) (pe_own o_fork_of hr (pa_cons (pv 1) pa_nil)))
      (pss_cons (ps_if (PW.pt (pw_or (pt_not (pt_val (pe_callB (call_isiK1 (K := K) rfl) (by rfl) z_isinstance (by decide +kernel) (pa_cons (pv 7) (pa_cons (pe_bltn (v := .ty "str") (by rfl) z_str (by decide +kernel) rfl) pa_nil))))) (pw_or1 (pt_cmpR op_ne (pv 7) (pe_ix (ix_listK (K := K) rfl) (pv 5) pe_int (fun _ _ => rfl)) (nomark _)))))
        (pss_one (ps_ret pe_bl))
        pss_nil)
      (pss_cons (ps_if (pt_cmpR op_ne (pe_own o_law_backward hr (pa_cons (pe_own o_fork_of hr (pa_cons pe_int pa_nil)) pa_nil)) (pe_own o_piece_at hr (pa_cons pe_int (pa_cons pe_int pa_nil))) (nomark _))
        (pss_one (ps_ret pe_bl))
        pss_nil)
      (pss_one (ps_ret (pe_cmpR op_eq (pe_own o_law_backward hr (pa_cons (pv 7) pa_nil)) (pe_own o_piece_at hr (pa_cons pe_int (pa_cons (pv 1) pa_nil))) (nomark _))))))))))))))), ?_⟩
    have h400 := mk_gt 400
    obtain ⟨n, en, hn⟩ : ∃ n : Nat, cellV ns 0 % 25 = (n : Int) ∧ n ≤ 24 := ⟨(cellV ns 0 % 25).toNat, by omega, by omega⟩
    refine q_set (v := .int (n : Int)) (vl_is (vl_mod (vl_law_cell (vl_var rfl) vl_c ⟨hS, by decide, fl⟩) vl_c) (by rw [en])) ?_
    refine Evl.q_cut (M := fun σ' H' => ∃ (n : Nat), σ' = [some (.ref a), some (.int (n : Int)), none, none, none, none, none, none] ∧ n ≤ 39 ∧ H = H') (s_ifP (as_eqI (vl_mod (vl_law_cell (vl_var rfl) vl_c ⟨hS, by decide, fl⟩) vl_c) vl_c) (fun _ => ?_) (fun _ => s_nx ⟨n, rfl, by omega, rfl⟩)) (fun σ' H' w => ?_)
    · obtain ⟨n, en, hn⟩ : ∃ n : Nat, cellV ns 0 % 40 = (n : Int) ∧ n ≤ 39 := ⟨(cellV ns 0 % 40).toNat, by omega, by omega⟩
      exact s_set (v := .int (n : Int)) (vl_is (vl_mod (vl_law_cell (vl_var rfl) vl_c ⟨hS, by decide, fl⟩) vl_c) (by rw [en])) ⟨n, rfl, hn, rfl⟩
    clear en hn n
    obtain ⟨n, rfl, hn, rfl⟩ := w
    refine q_newx (nx_pieces_of (vl_var rfl) ⟨by omega, fl⟩) fun o p ho np => ?_
    obtain ⟨ls, hP, rfl⟩ := ho
    refine q_new nw_dict fun d nd => ?_
    have s1 : Same H (upd (upd H p (.lst (strsV ls))) d (.dK (dk []))) := same_new' (same_new (Same.refl H) np) nd
    have f1 : Fl (upd (upd H p (.lst (strsV ls))) d (.dK (dk []))) := (fl.upd rfl).upd rfl
    have hp1 : upd (upd H p (.lst (strsV ls))) d (.dK (dk [])) p = some (.lst (strsV ls)) := at_old upd_same nd
    have hd1 : upd (upd H p (.lst (strsV ls))) d (.dK (dk [])) d = some (.dK (dk [])) := upd_same
    have hnd : H d = none := (same_new (Same.refl H) np).free nd
    have npd : p ≠ d := fun e => by
      rw [← e, upd_same] at nd
      cases nd
    generalize upd (upd H p (.lst (strsV ls))) d (.dK (dk [])) = H1 at s1 f1 hp1 hd1 ⊢
    refine q_forN (nx_pieces_of (n := n + 1) (vl_is (vl_add (vl_var rfl) vl_c) (congrArg V.int (by omega))) ⟨by omega, f1⟩) fun o r ho nr => ?_
    obtain ⟨ms, hM, rfl⟩ := ho
    have s2 : Same H (upd H1 r (.lst (strsV ms))) := same_new' s1 nr
    have f2 : Fl (upd H1 r (.lst (strsV ms))) := f1.upd rfl
    have hp2 := at_old (o := .lst (strsV ms)) hp1 nr
    have hd2 := at_old (o := .lst (strsV ms)) hd1 nr
    have hr2 : upd H1 r (.lst (strsV ms)) r = some (.lst (strsV ms)) := upd_same
    have nrd : r ≠ d := fun e => by
      rw [e, hd1] at nr
      cases nr
    generalize upd H1 r (.lst (strsV ms)) = H2 at s2 f2 hp2 hd2 hr2 ⊢
    have hml := hM.len (by omega)
    refine q_forL (a := r) (xs := strsV ms) vl_c (SqL.of hr2) (fun i σ' H' => ∃ (ks : List (List Nat)) (y4 : Option V), σ' = [some (.ref a), some (.int (n : Int)), some (.ref p), some (.ref d), y4, none, none, none] ∧ Seen ms ks i ∧ H' = upd H2 d (.dK (dk ks))) ⟨[], none, rfl, ⟨fun l => by simp, Nat.le_refl _⟩, (upd_id hd2).symm⟩ (fun i σ' H' _ w => ?_) (fun i x σ' H' hx w => ?_) (fun σ' H' w => ?_)
    · obtain ⟨ks, y4, rfl, hs, rfl⟩ := w
      exact SqL.of (at_oth hr2 nrd)
    · obtain ⟨ks, y4, rfl, hs, rfl⟩ := w
      obtain ⟨l, hl, rfl⟩ : ∃ l, ms[i]? = some l ∧ x = .str (tx l) := by
        unfold strsV at hx
        rw [List.getElem?_map] at hx
        cases e : ms[i]? with
        | none =>
          rw [e] at hx
          cases hx
        | some l =>
          rw [e] at hx
          cases hx
          exact ⟨l, rfl, rfl⟩
      have hi := (List.getElem?_eq_some_iff.mp hl).1
      have := hs.len
      exact s_dput upd_same (vl_var rfl) (vl_var rfl) vl_c (by omega) ⟨_, _, rfl, hs.next hl, by rw [upd_upd]⟩
    obtain ⟨ks, y4, rfl, hs, rfl⟩ := w
    rw [strsV_len] at hs
    have hks : ∀ l, l ∈ ks ↔ l ∈ ms := fun l => by
      have := hs.mem l
      rw [List.take_length] at this
      exact this
    have s3 : Same H (upd H2 d (.dK (dk ks))) := same_new s2 hnd
    have f3 : Fl (upd H2 d (.dK (dk ks))) := f2.upd rfl
    have hp3 := at_oth (o := .dK (dk ks)) hp2 npd
    have hd3 : upd H2 d (.dK (dk ks)) d = some (.dK (dk ks)) := upd_same
    generalize upd H2 d (.dK (dk ks)) = H3 at s3 f3 hp3 hd3 ⊢
    refine q_new (nw_lst av_nil (Nat.le_of_ble_eq_true rfl)) fun b nb => ?_
    have hpL : ∀ o, SqL K (upd H3 b o) p (strsV ls) := fun o => SqL.of (at_old hp3 nb)
    obtain ⟨f, hf⟩ : ∃ f : List Nat → Bool, ∀ l, f l = (decide (l ++ [97] ∈ ks) && decide (l ++ [98] ∈ ks)) := ⟨fun l => decide (l ++ [97] ∈ ks) && decide (l ++ [98] ∈ ks), fun _ => rfl⟩
    have hfork : ls.filter f = [(wordL 0 n).reverse] := hP.fork hM hn f fun l _ => by
      rw [hf, Bool.and_eq_true, decide_eq_true_eq, decide_eq_true_eq, hks, hks]
    have hll := hP.len (by omega)
    refine q_forL (a := p) (xs := strsV ls) (vl_var rfl) (hpL _) (fun i σ' H' => ∃ (y4 y6 : Option V), σ' = [some (.ref a), some (.int (n : Int)), some (.ref p), some (.ref d), y4, some (.ref b), y6, none] ∧ H' = upd H3 b (.lst (strsV ((ls.take i).filter f)))) ⟨y4, none, rfl, rfl⟩ (fun i σ' H' _ w => ?_) (fun i x σ' H' hx w => ?_) (fun σ' H' w => ?_)
    · obtain ⟨y4, y6, rfl, rfl⟩ := w
      exact hpL _
    · obtain ⟨y4, y6, rfl, rfl⟩ := w
      obtain ⟨l, hl, rfl⟩ : ∃ l, ls[i]? = some l ∧ x = .str (tx l) := by
        unfold strsV at hx
        rw [List.getElem?_map] at hx
        cases e : ls[i]? with
        | none =>
          rw [e] at hx
          cases hx
        | some l =>
          rw [e] at hx
          cases hx
          exact ⟨l, rfl, rfl⟩
      have hmem : l ∈ ls := List.mem_of_getElem? hl
      obtain ⟨hab, hlen1⟩ := hP.ab hmem
      have hi := (List.getElem?_eq_some_iff.mp hl).1
      have hz1 : (tx l).length = n := by rw [tx_len, hlen1]
      have ha1 : ("a" : Str).length = 1 := by decide +kernel
      have hb1 : ("b" : Str).length = 1 := by decide +kernel
      have hd4 : ∀ o, upd H3 b o d = some (.dK (dk ks)) := fun o => at_old hd3 nb
      refine q_set (v := .int ((if decide (l ++ [97] ∈ ks) then 1 else 0) + (if decide (l ++ [98] ∈ ks) then 1 else 0))) (vl_add (vl_intB (vl_din (vl_is (vl_addT (vl_var rfl) vl_c (by rw [hz1, ha1]; omega)) (by rw [str_a, tx_app])) (vl_var rfl) (hd4 _))) (vl_intB (vl_din (vl_is (vl_addT (vl_var rfl) vl_c (by rw [hz1, hb1]; omega)) (by rw [str_b, tx_app])) (vl_var rfl) (hd4 _)))) ?_
      have hnext := hP.next hM hn hmem
      rw [← hks, ← hks] at hnext
      have hback := hP.back hn hmem
      have tk : (ls.take (i + 1)).filter f = (ls.take i).filter f ++ (if f l then [l] else []) := by
        rw [List.take_add_one, hl, List.filter_append]
        show _ ++ List.filter f [l] = _
        rw [List.filter_cons]
        rfl
      have hfl : ((ls.take i).filter f).length ≤ 40 := by
        have := List.length_filter_le f (ls.take i)
        rw [List.length_take] at this
        omega
      refine Evl.q_cut (M := fun σ' H' => ∃ (v : Int), σ' = [some (.ref a), some (.int (n : Int)), some (.ref p), some (.ref d), some (.str (tx l)), some (.ref b), some (.int v), none] ∧ v ≠ 0 ∧ H' = upd H3 b (.lst (strsV ((ls.take (i + 1)).filter f)))) ?_ (fun σ' H' w => ?_)
      · by_cases h1 : l ++ [97] ∈ ks
        · by_cases h2 : l ++ [98] ∈ ks
          · rw [decide_eq_true h1, decide_eq_true h2]
            refine s_if (as_is (b := true) (as_eqI (vl_var rfl) vl_c) rfl) (fun _ => ?_) (fun z => nomatch z)
            refine s_app upd_same (vl_var rfl) (vl_var rfl) (by rw [strsV_len]; omega) ⟨_, rfl, by decide, ?_⟩
            rw [upd_upd, tk, hf, decide_eq_true h1, decide_eq_true h2, if_pos (show (true && true) = true from rfl)]
            unfold strsV
            rw [List.map_append]
            rfl
          · rw [decide_eq_true h1, decide_eq_false h2]
            refine s_if (as_is (b := false) (as_eqI (vl_var rfl) vl_c) rfl) (fun z => nomatch z) (fun _ => s_nx ⟨_, rfl, by decide, ?_⟩)
            rw [tk, hf, decide_eq_false h2, Bool.and_false, if_neg (by decide), List.append_nil]
        · have h2 : l ++ [98] ∈ ks := hnext.resolve_left h1
          rw [decide_eq_false h1, decide_eq_true h2]
          refine s_if (as_is (b := false) (as_eqI (vl_var rfl) vl_c) rfl) (fun z => nomatch z) (fun _ => s_nx ⟨_, rfl, by decide, ?_⟩)
          rw [tk, hf, decide_eq_false h1, Bool.false_and, if_neg (by decide), List.append_nil]
      · obtain ⟨v, rfl, hv, rfl⟩ := w
        have fb : Fl (upd H3 b (.lst (strsV ((ls.take (i + 1)).filter f)))) := f3.upd rfl
        refine s_if (as_is (b := false) (as_or (as_eqI (vl_var rfl) vl_c) fun _ => as_test (vl_niS (l := l.reverse) (vl_law_backward (vl_var rfl) ⟨by omega, fb⟩) (vl_var rfl) (hpL _))) ?_) (fun z => nomatch z) (fun _ => s_nx ⟨_, _, rfl, rfl⟩)
        rw [decide_eq_false hv, decide_eq_true hback]
        rfl
    obtain ⟨y4', y6, rfl, rfl⟩ := w
    rw [strsV_len, List.take_length, hfork]
    have s4 : Same H (upd H3 b (.lst (strsV [(wordL 0 n).reverse]))) := same_new' s3 nb
    have f4 : Fl (upd H3 b (.lst (strsV [(wordL 0 n).reverse]))) := f3.upd rfl
    have hb4 : SqL K (upd H3 b (.lst (strsV [(wordL 0 n).reverse]))) b (strsV [(wordL 0 n).reverse]) := SqL.of upd_same
    refine q_if (as_is (b := false) (as_neI (vl_len (vl_var rfl) hb4) vl_c) (by rw [strsV_len]; rfl)) (fun z => nomatch z) (fun _ => q_nx ?_)
    refine q_set (vl_fork_of (vl_var rfl) ⟨by omega, f4⟩) ?_
    refine q_if (as_is (b := false) (as_or (as_not (as_B (vl_isi (vl_var rfl) ty_str kit_str_str))) (fun _ => (as_test (vl_neT (vl_var rfl) (vl_ixL (vl_var rfl) vl_c hb4 rfl))))) (by simp)) (fun z => nomatch z) (fun _ => q_nx ?_)
    refine q_if (as_is (b := false) (as_test (vl_neT (vl_law_backward (l := (wordL 0 40).reverse) (vl_fork_of (n := 40) vl_c ⟨by decide, f4⟩) ⟨by rw [List.length_reverse, wordL_len]; decide, f4⟩) (vl_piece_at (k := 0) (n := 40) vl_c vl_c ⟨by omega, f4⟩))) (by rw [List.reverse_reverse]; simp)) (fun z => nomatch z) (fun _ => q_nx ?_)
    refine s_ret (vl_is (vl_eqT (vl_law_backward (l := (wordL 0 n).reverse) (vl_var rfl) ⟨by rw [List.length_reverse, wordL_len]; omega, f4⟩) (vl_piece_at (k := 0) (n := n) vl_c (vl_var rfl) ⟨by omega, f4⟩)) ?_) (rt_val fl s4 q)
    rw [List.reverse_reverse]
    simp
end
theorem all_mk {l : PySem.W.OpenLaw} {w : World} {K : PySem.W.Frag} {h : Heap} {mg : Str → Option Value} {fa f1 f2 f3 f4 f5 f6 f7 f8 f9 f10 : Addr} (X : K.In h) (G : h.Ns mainGlobals mg) (hfa : mg "law" = some (.ref fa))
    {od1 an1 od2 an2 od3 an3 od4 an4 od5 an5 od6 an6 od7 an7 od8 an8 od9 an9 od10 an10 : Option Addr} {sl1 sl2 sl3 sl4 sl5 sl6 sl7 sl8 sl9 sl10 : Array (Option Value)} {oc1 kV1 dc1 pm1 cd1 ct1 oc2 kV2 dc2 pm2 cd2 ct2 oc3 kV3 dc3 pm3 cd3 ct3 oc4 kV4 dc4 pm4 cd4 ct4 oc5 kV5 dc5 pm5 cd5 ct5 oc6 kV6 dc6 pm6 cd6 ct6 oc7 kV7 dc7 pm7 cd7 ct7 oc8 kV8 dc8 pm8 cd8 ct8 oc9 kV9 dc9 pm9 cd9 ct9 oc10 kV10 dc10 pm10 cd10 ct10 : Value}
    (a1 : PySem.W.nsIn K mainGlobals "beginning" = some (some (.ref f1))) (l1 : K.lookup f1 = some ⟨oc1, od1, .func (PySem.W.fnOf "beginning" "beginning" (defArgs s_beginning) (defBody s_beginning) (defScope s_beginning) .none kV1 dc1 pm1 an1 cd1 ct1), sl1⟩) (c1 : PySem.W.codeIn K cd1 "beginning" = true) (k1 : PySem.W.keepIn K (.ref f1) = true)
    (a2 : PySem.W.nsIn K mainGlobals "pieces_of" = some (some (.ref f2))) (l2 : K.lookup f2 = some ⟨oc2, od2, .func (PySem.W.fnOf "pieces_of" "pieces_of" (defArgs s_pieces_of) (defBody s_pieces_of) (defScope s_pieces_of) .none kV2 dc2 pm2 an2 cd2 ct2), sl2⟩) (c2 : PySem.W.codeIn K cd2 "pieces_of" = true) (k2 : PySem.W.keepIn K (.ref f2) = true)
    (a3 : PySem.W.nsIn K mainGlobals "fork_of" = some (some (.ref f3))) (l3 : K.lookup f3 = some ⟨oc3, od3, .func (PySem.W.fnOf "fork_of" "fork_of" (defArgs s_fork_of) (defBody s_fork_of) (defScope s_fork_of) .none kV3 dc3 pm3 an3 cd3 ct3), sl3⟩) (c3 : PySem.W.codeIn K cd3 "fork_of" = true) (k3 : PySem.W.keepIn K (.ref f3) = true)
    (a4 : PySem.W.nsIn K mainGlobals "_law_cell" = some (some (.ref f4))) (l4 : K.lookup f4 = some ⟨oc4, od4, .func (PySem.W.fnOf "_law_cell" "_law_cell" (defArgs s_law_cell) (defBody s_law_cell) (defScope s_law_cell) .none kV4 dc4 pm4 an4 cd4 ct4), sl4⟩) (c4 : PySem.W.codeIn K cd4 "_law_cell" = true) (k4 : PySem.W.keepIn K (.ref f4) = true)
    (a5 : PySem.W.nsIn K mainGlobals "_law_backward" = some (some (.ref f5))) (l5 : K.lookup f5 = some ⟨oc5, od5, .func (PySem.W.fnOf "_law_backward" "_law_backward" (defArgs s_law_backward) (defBody s_law_backward) (defScope s_law_backward) .none kV5 dc5 pm5 an5 cd5 ct5), sl5⟩) (c5 : PySem.W.codeIn K cd5 "_law_backward" = true) (k5 : PySem.W.keepIn K (.ref f5) = true)
    (a6 : PySem.W.nsIn K mainGlobals "marks_to" = some (some (.ref f6))) (l6 : K.lookup f6 = some ⟨oc6, od6, .func (PySem.W.fnOf "marks_to" "marks_to" (defArgs s_marks_to) (defBody s_marks_to) (defScope s_marks_to) .none kV6 dc6 pm6 an6 cd6 ct6), sl6⟩) (c6 : PySem.W.codeIn K cd6 "marks_to" = true) (k6 : PySem.W.keepIn K (.ref f6) = true)
    (a7 : PySem.W.nsIn K mainGlobals "row_of" = some (some (.ref f7))) (l7 : K.lookup f7 = some ⟨oc7, od7, .func (PySem.W.fnOf "row_of" "row_of" (defArgs s_row_of) (defBody s_row_of) (defScope s_row_of) .none kV7 dc7 pm7 an7 cd7 ct7), sl7⟩) (c7 : PySem.W.codeIn K cd7 "row_of" = true) (k7 : PySem.W.keepIn K (.ref f7) = true)
    (a8 : PySem.W.nsIn K mainGlobals "sign_at" = some (some (.ref f8))) (l8 : K.lookup f8 = some ⟨oc8, od8, .func (PySem.W.fnOf "sign_at" "sign_at" (defArgs s_sign_at) (defBody s_sign_at) (defScope s_sign_at) .none kV8 dc8 pm8 an8 cd8 ct8), sl8⟩) (c8 : PySem.W.codeIn K cd8 "sign_at" = true) (k8 : PySem.W.keepIn K (.ref f8) = true)
    (a9 : PySem.W.nsIn K mainGlobals "piece_at" = some (some (.ref f9))) (l9 : K.lookup f9 = some ⟨oc9, od9, .func (PySem.W.fnOf "piece_at" "piece_at" (defArgs s_piece_at) (defBody s_piece_at) (defScope s_piece_at) .none kV9 dc9 pm9 an9 cd9 ct9), sl9⟩) (c9 : PySem.W.codeIn K cd9 "piece_at" = true) (k9 : PySem.W.keepIn K (.ref f9) = true)
    (a10 : PySem.W.nsIn K mainGlobals "law" = some (some (.ref f10))) (l10 : K.lookup f10 = some ⟨oc10, od10, .func (PySem.W.fnOf "law" "law" (defArgs s_law) (defBody s_law) (defScope s_law) .none kV10 dc10 pm10 an10 cd10 ct10), sl10⟩) (c10 : PySem.W.codeIn K cd10 "law" = true) (k10 : PySem.W.keepIn K (.ref f10) = true)
    (z1 : PySem.W.nsIn K mainGlobals "len" = some none)
    (z2 : PySem.W.nsIn K mainGlobals "range" = some none)
    (z3 : PySem.W.nsIn K mainGlobals "sorted" = some none)
    (z4 : PySem.W.nsIn K mainGlobals "list" = some none)
    (z5 : PySem.W.nsIn K mainGlobals "reversed" = some none)
    (z6 : PySem.W.nsIn K mainGlobals "int" = some none)
    (z7 : PySem.W.nsIn K mainGlobals "isinstance" = some none)
    (z8 : PySem.W.nsIn K mainGlobals "str" = some none)
    : ∃ fd : FuncData, (∀ (s : Shared) (v : Value), BindsTo s fd ⟨[v], []⟩ [("script", v)]) ∧ ∀ base : Heap, K.In base → base.Ns mainGlobals mg → FnOk l.prog w K mg base CX0 5 fa fd ["script"] (spLaw K) := by
  have e := hfa.symm.trans (PySem.W.mg_of X G a10)
  cases e
  have F1 := fun_mk (st := s_beginning) l1 c1 k1
  have b1 := F1.binds (ps := ["size"]) fun _ _ _ _ _ _ us hl => match us, hl with | [_], _ => rfl
  have F2 := fun_mk (st := s_pieces_of) l2 c2 k2
  have b2 := F2.binds (ps := ["n"]) fun _ _ _ _ _ _ us hl => match us, hl with | [_], _ => rfl
  have F3 := fun_mk (st := s_fork_of) l3 c3 k3
  have b3 := F3.binds (ps := ["n"]) fun _ _ _ _ _ _ us hl => match us, hl with | [_], _ => rfl
  have F4 := fun_mk (st := s_law_cell) l4 c4 k4
  have b4 := F4.binds (ps := ["script", "k"]) fun _ _ _ _ _ _ us hl => match us, hl with | [_, _], _ => rfl
  have F5 := fun_mk (st := s_law_backward) l5 c5 k5
  have b5 := F5.binds (ps := ["text"]) fun _ _ _ _ _ _ us hl => match us, hl with | [_], _ => rfl
  have F6 := fun_mk (st := s_marks_to) l6 c6 k6
  have b6 := F6.binds (ps := ["number"]) fun _ _ _ _ _ _ us hl => match us, hl with | [_], _ => rfl
  have F7 := fun_mk (st := s_row_of) l7 c7 k7
  have b7 := F7.binds (ps := ["number"]) fun _ _ _ _ _ _ us hl => match us, hl with | [_], _ => rfl
  have F8 := fun_mk (st := s_sign_at) l8 c8 k8
  have b8 := F8.binds (ps := ["k"]) fun _ _ _ _ _ _ us hl => match us, hl with | [_], _ => rfl
  have F9 := fun_mk (st := s_piece_at) l9 c9 k9
  have b9 := F9.binds (ps := ["k", "n"]) fun _ _ _ _ _ _ us hl => match us, hl with | [_, _], _ => rfl
  have F10 := fun_mk (st := s_law) l10 c10 k10
  have y_len := PySem.W.mg_none_of X G z1
  have y_range := PySem.W.mg_none_of X G z2
  have y_sorted := PySem.W.mg_none_of X G z3
  have y_list := PySem.W.mg_none_of X G z4
  have y_reversed := PySem.W.mg_none_of X G z5
  have y_int := PySem.W.mg_none_of X G z6
  have y_isinstance := PySem.W.mg_none_of X G z7
  have y_str := PySem.W.mg_none_of X G z8
  refine ⟨PySem.W.fnOf "law" "law" (defArgs s_law) (defBody s_law) (defScope s_law) .none kV10 dc10 pm10 an10 cd10 ct10, fun s v => .of_eq rfl, fun base _ _ => ?_⟩
  have O1 : Own l.prog w K mg base 1 "beginning" ["size"] (sp_beginning) := ⟨⟨_, _, ok_beginning (P := l.prog) (w := w) (base := base) F1   y_len, PySem.W.mg_of X G a1, k1, b1⟩⟩
  have O2 : Own l.prog w K mg base 2 "pieces_of" ["n"] (sp_pieces_of) := ⟨⟨_, _, ok_pieces_of (P := l.prog) (w := w) (base := base) F2  O1 y_range y_sorted y_list, PySem.W.mg_of X G a2, k2, b2⟩⟩
  have O3 : Own l.prog w K mg base 2 "fork_of" ["n"] (sp_fork_of) := ⟨⟨_, _, ok_fork_of (P := l.prog) (w := w) (base := base) F3  O1 y_list y_reversed, PySem.W.mg_of X G a3, k3, b3⟩⟩
  have O4 : Own l.prog w K mg base 1 "_law_cell" ["script", "k"] (sp_law_cell K) := ⟨⟨_, _, ok_law_cell (P := l.prog) (w := w) (base := base) F4   y_len, PySem.W.mg_of X G a4, k4, b4⟩⟩
  have O5 : Own l.prog w K mg base 1 "_law_backward" ["text"] (sp_law_backward) := ⟨⟨_, _, ok_law_backward (P := l.prog) (w := w) (base := base) F5   , PySem.W.mg_of X G a5, k5, b5⟩⟩
  have O6 : Own l.prog w K mg base 1 "marks_to" ["number"] (sp_marks_to) := ⟨⟨_, _, ok_marks_to (P := l.prog) (w := w) (base := base) F6   , PySem.W.mg_of X G a6, k6, b6⟩⟩
  have O7 : Own l.prog w K mg base 2 "row_of" ["number"] (sp_row_of) := ⟨⟨_, _, ok_row_of (P := l.prog) (w := w) (base := base) F7  O6 y_range y_list y_reversed y_len, PySem.W.mg_of X G a7, k7, b7⟩⟩
  have O8 : Own l.prog w K mg base 3 "sign_at" ["k"] (sp_sign_at) := ⟨⟨_, _, ok_sign_at (P := l.prog) (w := w) (base := base) F8  O7 , PySem.W.mg_of X G a8, k8, b8⟩⟩
  have O9 : Own l.prog w K mg base 4 "piece_at" ["k", "n"] (sp_piece_at) := ⟨⟨_, _, ok_piece_at (P := l.prog) (w := w) (base := base) F9  O8 y_range, PySem.W.mg_of X G a9, k9, b9⟩⟩
  exact ok_law (P := l.prog) (w := w) (base := base) F10  O2 O3 O4 O5 O9 y_len y_int y_isinstance y_str
end TwL
open PySem PySem.W PyProof.Rows
set_option maxHeartbeats 0 in
theorem PySem.Challenge.cw_twinless_k21_whole_forks_holds : PySem.Challenge.rw_twinless_k21_whole_forks.Holds := by
  w_on; o_law; k_head; (case hw => w_witness2)
  k_fill
  refine L2.walk_of (l := PySem.Challenge.rw_twinless_k21_whole_forks) (n := 63) (k := 5) (x := "script") (CX := fun _ => L2.CX0) (sp := fun w => Tw.spLaw _) rfl (by decide) rfl ⟨rfl, by decide, by decide⟩ (fun w h Y => PySem.W.kIn_of Y) ?F (fun _ _ a ns hl ho hS => Tw.law_start hl ho hS) (fun _ _ _ _ _ h => h)
  case F =>
    intro w mg fa h KX G hmg
    refine' TwL.all_mk KX G hmg ?a1 ?l1 ?c1 ?k1 ?a2 ?l2 ?c2 ?k2 ?a3 ?l3 ?c3 ?k3 ?a4 ?l4 ?c4 ?k4 ?a5 ?l5 ?c5 ?k5 ?a6 ?l6 ?c6 ?k6 ?a7 ?l7 ?c7 ?k7 ?a8 ?l8 ?c8 ?k8 ?a9 ?l9 ?c9 ?k9 ?a10 ?l10 ?c10 ?k10 ?z1 ?z2 ?z3 ?z4 ?z5 ?z6 ?z7 ?z8
    (case a1 => k_is); (case l1 => k_is); (case c1 => k_is); (case k1 => k_is); (case a2 => k_is); (case l2 => k_is); (case c2 => k_is); (case k2 => k_is); (case a3 => k_is); (case l3 => k_is); (case c3 => k_is); (case k3 => k_is); (case a4 => k_is); (case l4 => k_is); (case c4 => k_is); (case k4 => k_is); (case a5 => k_is); (case l5 => k_is); (case c5 => k_is); (case k5 => k_is); (case a6 => k_is); (case l6 => k_is); (case c6 => k_is); (case k6 => k_is); (case a7 => k_is); (case l7 => k_is); (case c7 => k_is); (case k7 => k_is); (case a8 => k_is); (case l8 => k_is); (case c8 => k_is); (case k8 => k_is); (case a9 => k_is); (case l9 => k_is); (case c9 => k_is); (case k9 => k_is); (case a10 => k_is); (case l10 => k_is); (case c10 => k_is); (case k10 => k_is); (case z1 => k_is); (case z2 => k_is); (case z3 => k_is); (case z4 => k_is); (case z5 => k_is); (case z6 => k_is); (case z7 => k_is); (case z8 => k_is)
