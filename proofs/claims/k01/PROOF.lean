import PyProof.Rows.All
import Wide.All
import OpenK.AllK
import Wide.FinOn
import HandS.ForMost
import HandS.ForExc
import HandS.TryMany
import HandS.IsInst
import HandS.Wide
import HandS.WideBits
import HandS.Conv
import HandS.Codes
import HandS.TupAny
import HandS.TupMul
import HandS.NoneIn
import HandS.SortRule
import HandS.SortInts
import HandS.DictComp
import HandS.Zip
import HandS.Flow
import HandS.Style
import HandS.Deep
import PySem.Challenge.RW_figurefolds_k01_steps_made
set_option autoImplicit false
set_option Elab.async false
set_option linter.all false
set_option maxRecDepth 100000
set_option maxHeartbeats 4000000
namespace Fold
open PySem PySem.Spec PyProof.Rows L2
/-! ### a def that stands in the text, its promise -/
/-- a def of the text that the top has bound to its name -/
structure Df (K : PySem.W.Frag) (mg : Str → Option Value) (x : Str) (st : Stmt) (ps : List Str) : Prop where
  ex : ∃ f fd, Fun K x x st f fd ∧ mg x = some (.ref f) ∧ Binds K fd ps []
/-- a promise, by name: no exception leaves / one may leave -/
structure C0 (P : Program) (w : World) (K : PySem.W.Frag) (mg : Str → Option Value) (base : Heap) (k : Nat) (x : Str) (sp : Sp) : Prop where
  ex : ∃ f fd ps, FnOk P w K mg base CX0 k f fd ps sp ∧ mg x = some (.ref f) ∧ PySem.W.keepIn K (.ref f) = true ∧ Binds K fd ps []
structure C1 (P : Program) (w : World) (K : PySem.W.Frag) (mg : Str → Option Value) (base : Heap) (k : Nat) (x : Str) (sp : Sp) : Prop where
  ex : ∃ f fd ps, FnOk P w K mg base (L2.CX P w) k f fd ps sp ∧ mg x = some (.ref f) ∧ PySem.W.keepIn K (.ref f) = true ∧ Binds K fd ps []
section
variable {P : Program} {w : World} {K : PySem.W.Frag} {mg : Str → Option Value} {base : Heap} {x : Str} {st : Stmt} {N ps : List Str} {k : Nat} {sp : Sp}
theorem Df.c0 (F : Df K mg x st ps) (S : FnScope N ps (defScope st)) (len : ∀ vs H Q E, sp vs H Q E → vs.length = ps.length)
    (hbody : ∀ (f : Addr) (cdv : Value) (A : Around) (outer : List Env) (s : Shared) (H : Hp) (vs : List V) (Q : VK) (E : XK), Room k (A.deeper (envOfC x (defScope st) s.heap.objs.size f cdv)) → sp vs H Q E →
      ∃ t, PSs (cxOf CX0 P w K mg base N x (defScope st) f cdv A outer s H E).nox (defBody st) t ∧ t { nx := fun _ H' => Q .non H', rt := Q } (start N vs) H) : C0 P w K mg base (k + 1) x sp := by
  obtain ⟨f, fd, F1, hm, b⟩ := F.ex
  exact ⟨f, fd, ps, F1.ok S len (fun cdv A outer s H vs Q E => hbody f cdv A outer s H vs Q E), hm, F1.kp, b⟩
theorem Df.c1 (F : Df K mg x st ps) (S : FnScope N ps (defScope st)) (len : ∀ vs H Q E, sp vs H Q E → vs.length = ps.length)
    (hbody : ∀ (f : Addr) (cdv : Value) (A : Around) (outer : List Env) (s : Shared) (H : Hp) (vs : List V) (Q : VK) (E : XK), Room k (A.deeper (envOfC x (defScope st) s.heap.objs.size f cdv)) → sp vs H Q E →
      ∃ t, PSs (cxOf (L2.CX P w) P w K mg base N x (defScope st) f cdv A outer s H E) (defBody st) t ∧ t { nx := fun _ H' => Q .non H', rt := Q } (start N vs) H) : C1 P w K mg base (k + 1) x sp := by
  obtain ⟨f, fd, F1, hm, b⟩ := F.ex
  exact ⟨f, fd, ps, F1.okX S len (fun cdv A outer s H vs Q E => hbody f cdv A outer s H vs Q E), hm, F1.kp, b⟩
theorem C0.imp {sp' : Sp} (c : C0 P w K mg base k x sp) (h : ∀ vs H Q E, sp' vs H Q E → sp vs H Q E) : C0 P w K mg base k x sp' := by
  obtain ⟨f, fd, ps, F, hm, kp, b⟩ := c.ex
  exact ⟨f, fd, ps, F.imp h, hm, kp, b⟩
theorem C1.imp {sp' : Sp} (c : C1 P w K mg base k x sp) (h : ∀ vs H Q E, sp' vs H Q E → sp vs H Q E) : C1 P w K mg base k x sp' := by
  obtain ⟨f, fd, ps, F, hm, kp, b⟩ := c.ex
  exact ⟨f, fd, ps, F.imp h, hm, kp, b⟩
end
section
variable {X : Cx} {k j : Nat} {x : Str} {sp : Sp} {p pos : Pos} {e : Expr} {es : List Expr} {t : TA} {W : WX}
theorem pe_0 (c : C0 X.prog X.w X.K X.mg X.base k x sp) (hr : Room j X.A) (hk : k ≤ j) (ha : PA X (e :: es) t) (hg : Gl X x := by rfl)
    (hdb : (x == ("__debug__" : Str)) = false := by decide) (he : starEach (e :: es) X.env = (false, eval e X.env) :: starEach es X.env := by rfl) (hpl : (backTo pos (starEach es X.env)).any (·.1) = false := by rfl) :
    PE X (.Call (.Name x p) (e :: es) [] pos) (tCall sp [] E0 t) := by
  obtain ⟨f, fd, ps, F, hm, kp, b⟩ := c.ex
  exact pe_call F (hr.mono hk) hg hm kp b .nil pass0 ha hdb he hpl
theorem pe_10 (c : C1 X.prog X.w X.K X.mg X.base k x sp) (hr : Room j X.A) (hk : k ≤ j) (ha : PA X (e :: es) t) (hg : Gl X x := by rfl)
    (hdb : (x == ("__debug__" : Str)) = false := by decide) (he : starEach (e :: es) X.env = (false, eval e X.env) :: starEach es X.env := by rfl) (hpl : (backTo pos (starEach es X.env)).any (·.1) = false := by rfl) :
    PE X (.Call (.Name x p) (e :: es) [] pos) (tCall sp [] E0 t) := by
  obtain ⟨f, fd, ps, F, hm, kp, b⟩ := c.ex
  exact pe_call F (hr.mono hk) hg hm kp b .nil passL ha hdb he hpl
theorem pe_1 (c : C1 X.prog X.w X.K X.mg X.base k x sp) (hr : Room j X.A) (hk : k ≤ j) (tk : Takes X W) (ha : PA X (e :: es) t) (hg : Gl X x := by rfl)
    (hdb : (x == ("__debug__" : Str)) = false := by decide) (he : starEach (e :: es) X.env = (false, eval e X.env) :: starEach es X.env := by rfl) (hpl : (backTo pos (starEach es X.env)).any (·.1) = false := by rfl) :
    PE X (.Call (.Name x p) (e :: es) [] pos) (tCallS sp (WE W) t) := by
  obtain ⟨f, fd, ps, F, hm, kp, b⟩ := c.ex
  exact pe_callS F (hr.mono hk) hg hm kp b (fun σ => passAt tk σ) ha hdb he hpl
end
theorem hu64 {A : Around} {k : Nat} (hr : Room k A) : A.units + 64 < cLine := hr.units

/-! ### own exceptions -/
abbrev veB : List Value := [.type "ValueError", .type "Exception", .type "BaseException", .type "object"]
/-- an own exception class (no __init__) at C -/
structure Xc (K : PySem.W.Frag) (mg : Str → Option Value) (C : Addr) (x : Str) : Prop where
  gC : mg x = some (.ref C)
  xC : PySem.W.excIn K C veB "ValueError.__new__" = true
  kC : PySem.W.keepIn K (.ref C) = true
  bC : PySem.W.subIn K (.ref C) (.type "BaseException") = some true
  tC : PySem.W.typeIn K (.ref C) = some (.type "type")
  iC : PySem.W.isClsIn K C = true
section
variable {X : Cx} {C : Addr} {x : Str}
theorem Xc.pmk {p pos : Pos} (T : Xc X.K X.mg C x) (hg : Gl X x := by rfl) (hdb : (x == ("__debug__" : Str)) = false := by decide) : PMk X (.Call (.Name x p) [] [] pos) (fun _ H Q => Q (.ref C) none H) := by
  intro pins s σ H Q I h
  refine wpAny_Call_Name_kw (ld_glob I hg T.gC ?_ hdb)
  refine PySem.W.callWith_K0 (first := []) I.kIn T.kC ?_
  show wpAny _ _ (call (.ref C) []) _ _ _
  obtain ⟨bm, N, nm, qn, bs, hdct, sn, sub, ab, col, dd, k0, k1, k2, k3, k5, mN, hC, hN, hni, TT⟩ := exc_obj I.kIn T.xC
  refine PySem.wpAny_call_exc_subT PySem.F.excBase_ValueError TT hC hN hni (fun h' e hm => ?_) (Nat.zero_le _)
  exact mk_of I hm (raises_own T.bC T.tC) h (I.hok.gone hm.new)
theorem Xc.names (T : Xc X.K X.mg C x) (hg : Gl X x := by rfl) (hdb : (x == ("__debug__" : Str)) = false := by decide) : Names X x (.ref C) := ⟨hg, hdb, .inl T.gC⟩
end
/-- whether an error of the class at C is met by «except D» -/
theorem Xc.exm {K : PySem.W.Frag} {mg mg' : Str → Option Value} {C D : Addr} {x y : Str} {b : Bool} (T : Xc K mg C x) (U : Xc K mg' D y) (s : PySem.W.subIn K (.ref C) (.ref D) = some b) : PySem.W.exmOne K (.ref C) (.ref D) = some b := by
  have e1 : (PySem.W.subIn K (.ref C) (.type "BaseException") == some true) = true := by rw [T.bC] <;> rfl
  have u1 : (PySem.W.subIn K (.ref D) (.type "BaseException") == some true) = true := by rw [U.bC] <;> rfl
  have e2 : ((PySem.W.clsIn K D).isSome && PySem.W.typeIn K (.ref D) == some (.type "type")) = true := by
    have h2' : (PySem.W.clsIn K D).isSome = true := U.iC
    rw [h2', U.tC] <;> rfl
  show (if (PySem.W.subIn K (.ref D) (.type "BaseException") == some true) = true then (if ((PySem.W.clsIn K D).isSome && PySem.W.typeIn K (.ref D) == some (.type "type")) = true then PySem.W.subIn K (.ref C) (.ref D) else none) else none) = some b
  rw [if_pos u1, if_pos e2]
  exact s

/-! ### what a value is -/
inductive Kn (H : Hp) : V → String → Prop
  | non : Kn H .non "NoneType"
  | bl (b : Bool) : Kn H (.bl b) "bool"
  | int (i : Int) : Kn H (.int i) "int"
  | str (z : Str) : Kn H (.str z) "str"
  | lst {a : Addr} {xs : List V} (e : H a = some (.lst xs)) : Kn H (.ref a) "list"
  | tup {a : Addr} {xs : List V} (e : H a = some (.tup xs)) : Kn H (.ref a) "tuple"
theorem Kn.ty {K : PySem.W.Frag} {H : Hp} {v : V} {t : String} (k : Kn H v t) : TyX K H v (.type t) := by
  cases k with
  | non => exact .base .non
  | bl b => exact .base (.bl b)
  | int i => exact .base (.int i)
  | str z => exact .base (.str z)
  | lst e => exact .base (.lst e)
  | tup e => exact .base (.tup e)
/-- isinstance(v, c), c a built-in type -/
def isA (v : String) (c : String) : Bool := (kitB v c).getD false
theorem isA_int : ∀ {H : Hp} {v : V} {t : String}, Kn H v t → kitB t "int" = some (decide (t = "int" ∨ t = "bool"))
  | _, _, _, .non => by decide +kernel
  | _, _, _, .bl _ => by decide +kernel
  | _, _, _, .int _ => by decide +kernel
  | _, _, _, .str _ => by decide +kernel
  | _, _, _, .lst _ => by decide +kernel
  | _, _, _, .tup _ => by decide +kernel
theorem isA_bool : ∀ {H : Hp} {v : V} {t : String}, Kn H v t → kitB t "bool" = some (decide (t = "bool"))
  | _, _, _, .non => by decide +kernel
  | _, _, _, .bl _ => by decide +kernel
  | _, _, _, .int _ => by decide +kernel
  | _, _, _, .str _ => by decide +kernel
  | _, _, _, .lst _ => by decide +kernel
  | _, _, _, .tup _ => by decide +kernel
theorem isA_tuple : ∀ {H : Hp} {v : V} {t : String}, Kn H v t → kitB t "tuple" = some (decide (t = "tuple"))
  | _, _, _, .non => by decide +kernel
  | _, _, _, .bl _ => by decide +kernel
  | _, _, _, .int _ => by decide +kernel
  | _, _, _, .str _ => by decide +kernel
  | _, _, _, .lst _ => by decide +kernel
  | _, _, _, .tup _ => by decide +kernel
theorem isA_str : ∀ {H : Hp} {v : V} {t : String}, Kn H v t → kitB t "str" = some (decide (t = "str"))
  | _, _, _, .non => by decide +kernel
  | _, _, _, .bl _ => by decide +kernel
  | _, _, _, .int _ => by decide +kernel
  | _, _, _, .str _ => by decide +kernel
  | _, _, _, .lst _ => by decide +kernel
  | _, _, _, .tup _ => by decide +kernel
theorem Kn.mono {H H' : Hp} (s : Same H H') {v : V} {t : String} (k : Kn H v t) : Kn H' v t := by
  cases k with
  | non => exact .non
  | bl b => exact .bl b
  | int i => exact .int i
  | str z => exact .str z
  | lst e => exact .lst (s _ _ e)
  | tup e => exact .tup (s _ _ e)

/-! ### small words -/
theorem b_len : bootBuiltins "len" = some (.builtin "len") := PySem.boot_len
theorem b_abs : bootBuiltins "abs" = some (.builtin "abs") := by decide +kernel
theorem b_isinstance : bootBuiltins "isinstance" = some (.builtin "isinstance") := by decide +kernel
theorem b_all : bootBuiltins "all" = some (.builtin "all") := by decide +kernel
theorem b_min : bootBuiltins "min" = some (.builtin "min") := by decide +kernel
theorem b_max : bootBuiltins "max" = some (.builtin "max") := by decide +kernel
theorem b_sorted : bootBuiltins "sorted" = some (.builtin "sorted") := by decide +kernel
theorem b_int : bootBuiltins "int" = some (.type "int") := by decide +kernel
theorem b_str : bootBuiltins "str" = some (.type "str") := by decide +kernel
theorem b_bool : bootBuiltins "bool" = some (.type "bool") := by decide +kernel
theorem b_list : bootBuiltins "list" = some (.type "list") := by decide +kernel
theorem b_tuple : bootBuiltins "tuple" = some (.type "tuple") := by decide +kernel
theorem b_dict : bootBuiltins "dict" = some (.type "dict") := by decide +kernel
theorem same_upd {H H' : Hp} {p : Addr} {o : HO} (s : Same H H') (h : H' p = none) : Same H (L2.upd H' p o) := fun b u e => by
  rw [upd_ne (ne_of_none (s b u e) h)]
  exact s b u e
theorem same_new {H : Hp} {p : Addr} {o : HO} (h : H p = none) : Same H (L2.upd H p o) := same_upd (Same.refl H) h
/-- all but what stands at a is as it was -/
def But (a : Addr) (H H' : Hp) : Prop := ∀ b o, b ≠ a → H b = some o → H' b = some o
theorem But.refl (a : Addr) (H : Hp) : But a H H := fun _ _ _ h => h
theorem But.trans {a : Addr} {H H1 H2 : Hp} (x : But a H H1) (y : But a H1 H2) : But a H H2 := fun b o n e => y b o n (x b o n e)
theorem But.of {a : Addr} {H H' : Hp} (s : Same H H') : But a H H' := fun b o _ e => s b o e
theorem But.same {a : Addr} {H H' : Hp} (x : But a H H') (h : H a = none) : Same H H' := fun b o e => x b o (ne_of_none e h) e
theorem But.upd {a : Addr} {H : Hp} {o : HO} : But a H (L2.upd H a o) := fun b u n e => by rw [upd_ne n]; exact e
theorem But.new {a p : Addr} {H H' : Hp} {o : HO} (x : But a H H') (h : H' p = none) : But a H (L2.upd H' p o) := fun b u n e => by
  have q := x b u n e
  rw [upd_ne (ne_of_none q h)]
  exact q
theorem pe_gi {X : Cx} {x : Str} {pos : Pos} {i : Int} (hg : Gl X x) (h : ∃ t, X.mg x = some (.int i t)) (hd : (x == ("__debug__" : Str)) = false := by decide) : PE X (.Name x pos) (tC (.int i)) := by
  obtain ⟨t, e⟩ := h
  exact pe_glob hg e ⟨t, rfl⟩ hd
theorem pe_gs {X : Cx} {x z : Str} {pos : Pos} (hg : Gl X x) (h : ∃ t, X.mg x = some (.str z t)) (hd : (x == ("__debug__" : Str)) = false := by decide) : PE X (.Name x pos) (tC (.str z)) := by
  obtain ⟨t, e⟩ := h
  exact pe_glob hg e ⟨t, rfl⟩ hd
theorem q_eq {Q : VK} {x y : V} {H : Hp} (q : Q x H) (e : y = x) : Q y H := by rw [e]; exact q
theorem bf {b : Bool} (h : ¬ b = true) : b = false := by cases b <;> simp_all
theorem iteT' {c : Bool} {A B : Prop} (hc : c = true) (h : A) : if c = true then A else B := by rw [if_pos hc]; exact h
theorem iteF' {c : Bool} {A B : Prop} (hc : c = false) (h : B) : if c = true then A else B := by rw [hc, if_neg Bool.false_ne_true]; exact h
theorem iteB {c : Bool} {A B : Prop} (h1 : c = true → A) (h2 : c = false → B) : if c = true then A else B := by
  cases c
  · exact iteF (h2 rfl)
  · exact iteT (h1 rfl)
theorem dec_int {i j : Int} : decide (V.int i = V.int j) = decide (i = j) := by
  by_cases e : i = j
  · subst e; simp
  · rw [decide_eq_false e, decide_eq_false (fun q => e (by injection q))]
theorem dec_str {i j : Str} : decide (V.str i = V.str j) = decide (i = j) := by
  by_cases e : i = j
  · subst e; simp
  · rw [decide_eq_false e, decide_eq_false (fun q => e (by injection q))]
/-- the number in a slot -/
def sN (σ : L2.St) (i : Nat) : Nat := match σ[i]? with
  | some (some (V.int m)) => m.toNat
  | _ => 0
/-! ### steps of a reading that ask nothing -/
theorem g_seq {t u : TS} {D : Ends} {σ : L2.St} {H : Hp} (h : t { D with nx := u D } σ H) : tSeq t u D σ H := h
theorem g_setC {v : V} {i : Nat} {u : TS} {D : Ends} {σ : L2.St} {H : Hp} (h : u D (σ.set i (some v)) H) : tSeq (tAsg (tC v) (gName i)) u D σ H := h
theorem g_next {D : Ends} {σ : L2.St} {H : Hp} (h : D.nx σ H) : tNext D σ H := h
theorem kept {H : Hp} {a p : Addr} {o u : HO} (h : H a = some o) (hp : H p = none) : upd H p u a = some o := by rw [upd_ne (ne_of_none h hp)]; exact h
theorem keptN {H : Hp} {a p : Addr} {o u : HO} (h : H a = some o) (hp : a ≠ p) : upd H p u a = some o := by rw [upd_ne hp]; exact h
theorem But.free {a p : Addr} {H H' : Hp} (b : But a H H') (ha : ∃ o, H' a = some o) (hp : H' p = none) : H p = none := by
  cases e : H p with
  | none => rfl
  | some o =>
    by_cases c : p = a
    · subst c
      obtain ⟨u, hu⟩ := ha
      rw [hp] at hu
      cases hu
    · have := b p o c e
      rw [hp] at this
      cases this
theorem nodup_none {H : Hp} {p q : Addr} {o : HO} (h : upd H q o p = none) : H p = none := by
  unfold upd at h
  split at h
  · cases h
  · exact h

end Fold
namespace Fold
open PySem PySem.Spec PyProof.Rows L2
/-! ### comprehensions whose element is reckoned without a change of the heap -/
theorem take_snoc {α : Type} {xs : List α} {i : Nat} {x : α} (h : xs[i]? = some x) : xs.take (i + 1) = xs.take i ++ [x] := by
  rw [List.take_add_one, h]; rfl
theorem idx_lt {α : Type} {xs : List α} {i : Nat} {x : α} (h : xs[i]? = some x) : i < xs.length := (List.getElem?_eq_some_iff.mp h).1
/-- a tuple or a list walked; tests g? -/
theorem lc_tupM {K : PySem.W.Frag} {p : Addr} {xs : List V} {j : Nat} {te : TE} {vs : List Nat} {σ : L2.St} {H1 : Hp} {D : Addr} {Qd : Hp → Prop} (g : V → V) (hp : H1 p = some (.tup xs)) (hD : H1 D = none) (hl : xs.length < sizeLine)
    (hw : ∀ x, wipe ((wipe σ vs).set j (some x)) vs = wipe σ vs)
    (ev : ∀ (i : Nat) (x : V), xs[i]? = some x → ∀ (H' : Hp) (Q : VK), Same H1 H' → Q (g x) H' → te ((wipe σ vs).set j (some x)) H' Q) (hd : Qd (upd H1 D (.lst (xs.map g)))) :
    ∃ W : Nat → Nat → Hp → Prop, (∃ m, W 0 m (upd H1 D (.lst []))) ∧ ∀ i m H, W i m H →
      ((Itt K p).stop i H ∧ Qd H) ∨ ((Itt K p).go i H ∧ ∃ Nx : Hp → Prop, (∀ H', Nx H' → ∃ m', m' < m ∧ W (i + 1) m' H') ∧ ∀ x H', (Itt K p).yld i H x H' → gName j x (wipe σ vs) H' fun σ2 H2 => wipe σ2 vs = wipe σ vs ∧ tYes σ2 H2 fun b H3 =>
        if b = true then te σ2 H3 fun y H4 => ∃ acc, H4 D = some (.lst acc) ∧ acc.length < sizeLine ∧ Nx (upd H4 D (.lst (acc ++ [y]))) else Nx H3) := by
  refine lc_tup (xs := xs) (fun i H' => H' = upd H1 D (.lst ((xs.take i).map g))) rfl ?_ ?_ ?_
  · rintro i H' _ rfl
    exact SqT.of (by rw [upd_ne (ne_of_none hp hD)]; exact hp)
  · rintro i x H' hi rfl
    refine ⟨hw x, ?_⟩
    unfold tYes
    dsimp only
    rw [if_pos rfl]
    refine ev i x hi _ _ (same_new hD) ⟨_, upd_same, ?_, ?_⟩
    · rw [List.length_map, List.length_take]; omega
    · rw [upd_upd, take_snoc hi, List.map_append]; rfl
  · rintro H' rfl
    rw [List.take_length]
    exact hd
theorem lc_listM {K : PySem.W.Frag} {p : Addr} {xs : List V} {j : Nat} {te : TE} {vs : List Nat} {σ : L2.St} {H1 : Hp} {D : Addr} {Qd : Hp → Prop} (g : V → V) (hp : H1 p = some (.lst xs)) (hD : H1 D = none) (hl : xs.length < sizeLine)
    (hw : ∀ x, wipe ((wipe σ vs).set j (some x)) vs = wipe σ vs)
    (ev : ∀ (i : Nat) (x : V), xs[i]? = some x → ∀ (H' : Hp) (Q : VK), Same H1 H' → Q (g x) H' → te ((wipe σ vs).set j (some x)) H' Q) (hd : Qd (upd H1 D (.lst (xs.map g)))) :
    ∃ W : Nat → Nat → Hp → Prop, (∃ m, W 0 m (upd H1 D (.lst []))) ∧ ∀ i m H, W i m H →
      ((Itl K p).stop i H ∧ Qd H) ∨ ((Itl K p).go i H ∧ ∃ Nx : Hp → Prop, (∀ H', Nx H' → ∃ m', m' < m ∧ W (i + 1) m' H') ∧ ∀ x H', (Itl K p).yld i H x H' → gName j x (wipe σ vs) H' fun σ2 H2 => wipe σ2 vs = wipe σ vs ∧ tYes σ2 H2 fun b H3 =>
        if b = true then te σ2 H3 fun y H4 => ∃ acc, H4 D = some (.lst acc) ∧ acc.length < sizeLine ∧ Nx (upd H4 D (.lst (acc ++ [y]))) else Nx H3) := by
  refine lc_list (xs := xs) (fun i H' => H' = upd H1 D (.lst ((xs.take i).map g))) rfl ?_ ?_ ?_
  · rintro i H' _ rfl
    exact SqL.of (by rw [upd_ne (ne_of_none hp hD)]; exact hp)
  · rintro i x H' hi rfl
    refine ⟨hw x, ?_⟩
    unfold tYes
    dsimp only
    rw [if_pos rfl]
    refine ev i x hi _ _ (same_new hD) ⟨_, upd_same, ?_, ?_⟩
    · rw [List.length_map, List.length_take]; omega
    · rw [upd_upd, take_snoc hi, List.map_append]; rfl
  · rintro H' rfl
    rw [List.take_length]
    exact hd
theorem lc_rangeM {lo : Int} {n : Nat} {j : Nat} {te : TE} {vs : List Nat} {σ : L2.St} {H1 : Hp} {D : Addr} {Qd : Hp → Prop} (g : Nat → V) (hD : H1 D = none) (hl : n < sizeLine)
    (hw : ∀ x, wipe ((wipe σ vs).set j (some x)) vs = wipe σ vs)
    (ev : ∀ i, i < n → ∀ (H' : Hp) (Q : VK), Same H1 H' → Q (g i) H' → te ((wipe σ vs).set j (some (.int (lo + i)))) H' Q) (hd : Qd (upd H1 D (.lst ((List.range n).map g)))) :
    ∃ W : Nat → Nat → Hp → Prop, (∃ m, W 0 m (upd H1 D (.lst []))) ∧ ∀ i m H, W i m H →
      ((Itr lo n).stop i H ∧ Qd H) ∨ ((Itr lo n).go i H ∧ ∃ Nx : Hp → Prop, (∀ H', Nx H' → ∃ m', m' < m ∧ W (i + 1) m' H') ∧ ∀ x H', (Itr lo n).yld i H x H' → gName j x (wipe σ vs) H' fun σ2 H2 => wipe σ2 vs = wipe σ vs ∧ tYes σ2 H2 fun b H3 =>
        if b = true then te σ2 H3 fun y H4 => ∃ acc, H4 D = some (.lst acc) ∧ acc.length < sizeLine ∧ Nx (upd H4 D (.lst (acc ++ [y]))) else Nx H3) := by
  refine lc_range (fun i H' => H' = upd H1 D (.lst ((List.range i).map g))) rfl ?_ ?_
  · rintro i H' hi rfl
    refine ⟨hw _, ?_⟩
    unfold tYes
    dsimp only
    rw [if_pos rfl]
    refine ev i hi _ _ (same_new hD) ⟨_, upd_same, ?_, ?_⟩
    · rw [List.length_map, List.length_range]; omega
    · rw [upd_upd, List.range_succ, List.map_append]; rfl
  · rintro H' rfl
    exact hd

end Fold
namespace Fold
open PySem PySem.Spec PyProof.Rows L2
def topS (i : Nat) : Stmt := PySem.Challenge.pw_figurefolds_k01_steps_made.main.body.getD i (.Pass ⟨0, 0, 0, 0⟩)
abbrev s_is_whole : Stmt := topS 6
theorem sc_is_whole : FnScope ["thing", "least", "most"] ["thing", "least", "most"] (defScope s_is_whole) := ⟨rfl, rfl, rfl, by decide +kernel, rfl, by decide +kernel, by decide +kernel⟩
abbrev s_power_of : Stmt := topS 7
theorem sc_power_of : FnScope ["base", "times", "found", "turn"] ["base", "times"] (defScope s_power_of) := ⟨rfl, rfl, rfl, by decide +kernel, rfl, by decide +kernel, by decide +kernel⟩
abbrev s_is_fold : Stmt := topS 8
theorem sc_is_fold : FnScope ["base", "thing"] ["base", "thing"] (defScope s_is_fold) := ⟨rfl, rfl, rfl, by decide +kernel, rfl, by decide +kernel, by decide +kernel⟩
abbrev s_is_weigh : Stmt := topS 9
theorem sc_is_weigh : FnScope ["thing", "one"] ["thing"] (defScope s_is_weigh) := ⟨rfl, rfl, rfl, by decide +kernel, rfl, by decide +kernel, by decide +kernel⟩
abbrev s_is_step : Stmt := topS 10
theorem sc_is_step : FnScope ["base", "thing"] ["base", "thing"] (defScope s_is_step) := ⟨rfl, rfl, rfl, by decide +kernel, rfl, by decide +kernel, by decide +kernel⟩
abbrev s_check_step : Stmt := topS 11
theorem sc_check_step : FnScope ["base", "step"] ["base", "step"] (defScope s_check_step) := ⟨rfl, rfl, rfl, by decide +kernel, rfl, by decide +kernel, by decide +kernel⟩
abbrev s_weighed : Stmt := topS 12
theorem sc_weighed : FnScope ["base", "row", "n", "total", "at"] ["base", "row", "n"] (defScope s_weighed) := ⟨rfl, rfl, rfl, by decide +kernel, rfl, by decide +kernel, by decide +kernel⟩
abbrev s_after : Stmt := topS 13
theorem sc_after : FnScope ["base", "step", "n", "power"] ["base", "step", "n"] (defScope s_after) := ⟨rfl, rfl, rfl, by decide +kernel, rfl, by decide +kernel, by decide +kernel⟩
abbrev s_made : Stmt := topS 14
theorem sc_made : FnScope ["base", "step", "n"] ["base", "step", "n"] (defScope s_made) := ⟨rfl, rfl, rfl, by decide +kernel, rfl, by decide +kernel, by decide +kernel⟩
abbrev s__law_begin : Stmt := topS 16
theorem sc__law_begin : FnScope ["_law_script"] ["_law_script"] (defScope s__law_begin) := ⟨rfl, rfl, rfl, by decide +kernel, rfl, by decide +kernel, by decide +kernel⟩
abbrev s__law_draw : Stmt := topS 17
theorem sc__law_draw : FnScope ["_law_draws", "_law_size", "_law_cell", "_law_found"] ["_law_draws", "_law_size"] (defScope s__law_draw) := ⟨rfl, rfl, rfl, by decide +kernel, rfl, by decide +kernel, by decide +kernel⟩
abbrev s__law_power : Stmt := topS 18
theorem sc__law_power : FnScope ["_law_base", "_law_times", "_law_found", "_law_k"] ["_law_base", "_law_times"] (defScope s__law_power) := ⟨rfl, rfl, rfl, by decide +kernel, rfl, by decide +kernel, by decide +kernel⟩
abbrev s__law_step : Stmt := topS 19
theorem sc__law_step : FnScope ["_law_draws", "_law_base", "_law_size", "_law_unit", "_law_row", "_law_k", "_law_x"] ["_law_draws", "_law_base"] (defScope s__law_step) := ⟨rfl, rfl, rfl, by decide +kernel, rfl, by decide +kernel, by decide +kernel⟩
abbrev s__law_made : Stmt := topS 20
theorem sc__law_made : FnScope ["_law_base", "_law_step_here", "_law_n", "_law_cut", "_law_head", "_law_tail", "_law_total", "_law_place", "_law_weight"] ["_law_base", "_law_step_here", "_law_n"] (defScope s__law_made) := ⟨rfl, rfl, rfl, by decide +kernel, rfl, by decide +kernel, by decide +kernel⟩
abbrev s__law_refused : Stmt := topS 21
theorem sc__law_refused : FnScope ["_law_base", "_law_step_here", "_law_told"] ["_law_base", "_law_step_here"] (defScope s__law_refused) := ⟨rfl, rfl, rfl, by decide +kernel, rfl, by decide +kernel, by decide +kernel⟩
abbrev s_law : Stmt := topS 22
theorem sc_law : FnScope ["_law_script", "_law_draws", "_law_base", "_law_step_here", "_law_k", "_law_n", "_law_odd"] ["_law_script"] (defScope s_law) := ⟨rfl, rfl, rfl, by decide +kernel, rfl, by decide +kernel, by decide +kernel⟩
/-- where the classes stand -/
structure Ad where
  FoldError : Addr
  BadStep : Addr
/-- what the top has written -/
structure Txt (K : PySem.W.Frag) (mg : Str → Option Value) (a : Ad) : Prop where
  n_abs : mg "abs" = none
  n_all : mg "all" = none
  n_bool : mg "bool" = none
  n_int : mg "int" = none
  n_isinstance : mg "isinstance" = none
  n_len : mg "len" = none
  n_list : mg "list" = none
  n_range : mg "range" = none
  n_str : mg "str" = none
  n_tuple : mg "tuple" = none
  g_MOST_POWER : ∃ t, mg "MOST_POWER" = some (.int 60 t)
  g_MOST : ∃ t, mg "MOST" = some (.int 12 t)
  x_FoldError : Xc K mg a.FoldError "FoldError"
  x_BadStep : Xc K mg a.BadStep "BadStep"
  sub_FoldError_BadStep : PySem.W.subIn K (.ref a.FoldError) (.ref a.BadStep) = some false
  sub_BadStep_BadStep : PySem.W.subIn K (.ref a.BadStep) (.ref a.BadStep) = some true
  d_is_whole : Df K mg "is_whole" s_is_whole ["thing", "least", "most"]
  d_power_of : Df K mg "power_of" s_power_of ["base", "times"]
  d_is_fold : Df K mg "is_fold" s_is_fold ["base", "thing"]
  d_is_weigh : Df K mg "is_weigh" s_is_weigh ["thing"]
  d_is_step : Df K mg "is_step" s_is_step ["base", "thing"]
  d_check_step : Df K mg "check_step" s_check_step ["base", "step"]
  d_weighed : Df K mg "weighed" s_weighed ["base", "row", "n"]
  d_after : Df K mg "after" s_after ["base", "step", "n"]
  d_made : Df K mg "made" s_made ["base", "step", "n"]
  d__law_begin : Df K mg "_law_begin" s__law_begin ["_law_script"]
  d__law_draw : Df K mg "_law_draw" s__law_draw ["_law_draws", "_law_size"]
  d__law_power : Df K mg "_law_power" s__law_power ["_law_base", "_law_times"]
  d__law_step : Df K mg "_law_step" s__law_step ["_law_draws", "_law_base"]
  d__law_made : Df K mg "_law_made" s__law_made ["_law_base", "_law_step_here", "_law_n"]
  d__law_refused : Df K mg "_law_refused" s__law_refused ["_law_base", "_law_step_here"]
  d_law : Df K mg "law" s_law ["_law_script"]


end Fold
namespace Fold
open PySem PySem.Spec PyProof.Rows L2
section
variable {P : Program} {w : World} {K : PySem.W.Frag} {mg : Str → Option Value} {base : Heap} {a : Ad}
def wholeB (v : V) (lo hi : Int) : Bool := match v with
  | .int i => decide (lo ≤ i) && decide (i ≤ hi)
  | _ => false
def sp_is_whole : Sp := fun vs H Q _ => ∃ (v : V) (t : String) (lo hi : Int), vs = [v, .int lo, .int hi] ∧ Kn H v t ∧ Q (.bl (wholeB v lo hi)) H
theorem ok_is_whole (T : Txt K mg a) : C0 P w K mg base 1 "is_whole" sp_is_whole := by
  refine T.d_is_whole.c0 sc_is_whole (fun vs H Q E h => ?_) (fun f cdv A outer s H vs Q E hr h => ?_)
  · obtain ⟨v, t, lo, hi, rfl, _⟩ := h
    rfl
  · obtain ⟨v, t, lo, hi, rfl, hv, k⟩ := h
    refine ⟨_, (pss_one (ps_ret (pe_and (pe_callB call_isi (by rfl) T.n_isinstance b_isinstance (pa_cons (pv 0) (pa_cons (pe_bltn (v := .ty "int") (by rfl) T.n_int b_int rfl) pa_nil))) (pe_and (pe_not (pe_callB call_isi (by rfl) T.n_isinstance b_isinstance (pa_cons (pv 0) (pa_cons (pe_bltn (v := .ty "bool") (by rfl) T.n_bool b_bool rfl) pa_nil)))) (pe_one (pe_chain op_le op_le (pv 1) (pv 0) (pv 2))))))), ?_⟩
    refine ⟨_, rfl, _, _, _, _, _, rfl, .ty _, hv.ty, kit_ty (isA_int hv), _, rfl, ?_⟩
    cases hv with
    | int i =>
      refine iteT ⟨_, rfl, _, _, _, _, _, rfl, .ty _, (Kn.int i).ty, kit_ty (isA_bool (Kn.int (H := H) i)), _, rfl, _, rfl, ?_⟩
      refine iteT ⟨_, rfl, _, rfl, _, _, rfl, rfl, _, rfl, ?_⟩
      by_cases c : lo ≤ i
      · rw [if_pos (decide_eq_true c)]
        refine ⟨_, rfl, _, _, rfl, rfl, ?_⟩
        exact q_eq k (by simp [wholeB, c])
      · rw [if_neg (by simpa using c)]
        exact q_eq k (by simp [wholeB, c])
    | bl b => exact iteT ⟨_, rfl, _, _, _, _, _, rfl, .ty _, (Kn.bl b).ty, kit_ty (isA_bool (Kn.bl (H := H) b)), _, rfl, _, rfl, iteF k⟩
    | non => exact iteF k
    | str z => exact iteF k
    | lst e => exact iteF k
    | tup e => exact iteF k
def sp_power_of : Sp := fun vs H Q _ => ∃ (b n : Int), vs = [.int b, .int n] ∧ (0 ≤ b ∧ b < 1000) ∧ (0 ≤ n ∧ n < 1000) ∧ Q (.int ((b.toNat ^ n.toNat : Nat) : Int)) H
theorem ok_power_of (T : Txt K mg a) : C0 P w K mg base 1 "power_of" sp_power_of := by
  refine T.d_power_of.c0 sc_power_of (fun vs H Q E h => ?_) (fun f cdv A outer s H vs Q E hr h => ?_)
  · obtain ⟨b, n, rfl, _⟩ := h
    rfl
  · obtain ⟨b, n, rfl, ⟨b0, b1⟩, ⟨n0, n1⟩, k⟩ := h
    obtain ⟨b, rfl⟩ := Int.eq_ofNat_of_zero_le b0
    obtain ⟨n, rfl⟩ := Int.eq_ofNat_of_zero_le n0
    refine ⟨_, (pss_cons (ps_set (i := 2) sc_power_of.nd rfl (Or.inl rfl) pe_int)
      (pss_cons (ps_for PassesOwn.never rfl (pi_range1 (by rfl) T.n_range (pa_cons (pv 1) pa_nil)) (pg_name (i := 3) sc_power_of.nd rfl (Or.inl rfl)) (pss_one (ps_set (i := 2) sc_power_of.nd rfl (Or.inl rfl) (pe_op op_mul (pv 2) (pv 0)))))
      (pss_one (ps_ret (pv 2))))), ?_⟩
    refine ⟨_, rfl, _, rfl, by omega, by omega, for_range (fun i σ H' => H' = H ∧ ∃ v, σ = [some (.int b), some (.int n), some (.int ((b ^ i : Nat) : Int)), v]) ⟨rfl, none, rfl⟩ ?_ ?_⟩
    · rintro i σ H' hi ⟨rfl, v, rfl⟩
      refine ⟨_, rfl, _, rfl, _, _, rfl, rfl, .inr ⟨by omega, by omega⟩, rfl, some (.int (0 + (i : Int))), ?_⟩
      rw [Nat.pow_succ, Int.natCast_mul]
      rfl
    · rintro σ H' ⟨rfl, v, rfl⟩
      exact ⟨_, rfl, k⟩
end

end Fold
namespace Fold
open PySem PySem.Spec PyProof.Rows L2
section
variable {P : Program} {w : World} {K : PySem.W.Frag} {mg : Str → Option Value} {base : Heap} {a : Ad}
theorem wholeB_iff {v : V} {lo hi : Int} : wholeB v lo hi = true ↔ ∃ i, v = .int i ∧ lo ≤ i ∧ i ≤ hi := by
  cases v <;> simp [wholeB]
/-- each value of a list is of a known kind -/
def KnAll (H : Hp) (xs : List V) : Prop := ∀ x ∈ xs, ∃ t, Kn H x t
theorem KnAll.mono {H H' : Hp} (s : Same H H') {xs : List V} (k : KnAll H xs) : KnAll H' xs := fun x m => by
  obtain ⟨t, h⟩ := k x m
  exact ⟨t, h.mono s⟩
def foldB (b : Int) (xs : List V) : Bool := match xs with
  | [_, .int k, x, y] => decide (1 ≤ k) && decide (k ≤ 5) && decide (b.toNat ^ k.toNat ≤ 60) && wholeB x (-12) 12 && wholeB y (-12) 12
  | _ => false
def sp_is_fold : Sp := fun vs H Q _ => ∃ (b : Int) (p : Addr) (xs : List V), vs = [.int b, .ref p] ∧ (0 ≤ b ∧ b < 1000) ∧ H p = some (.tup xs) ∧ KnAll H xs ∧ Q (.bl (foldB b xs)) H
theorem foldB_len {b : Int} {xs : List V} (h : ¬ xs.length = 4) : foldB b xs = false := by
  unfold foldB
  split
  · exact absurd rfl h
  · rfl
theorem foldB_no {b : Int} {z k x y : V} (h : ¬ wholeB k 1 5 = true) : foldB b [z, k, x, y] = false := by
  cases k <;> simp only [foldB]
  rename_i i
  simp only [wholeB, Bool.and_eq_true, decide_eq_true_eq] at h
  simp only [Bool.and_eq_false_imp, Bool.and_eq_true, decide_eq_true_eq]
  intro h1
  omega
theorem ok_is_fold (T : Txt K mg a) : C0 P w K mg base 2 "is_fold" sp_is_fold := by
  have c_is_whole := ok_is_whole (P := P) (w := w) (base := base) T; have c_power_of := ok_power_of (P := P) (w := w) (base := base) T
  refine T.d_is_fold.c0 sc_is_fold (fun vs H Q E h => ?_) (fun f cdv A outer s H vs Q E hr h => ?_)
  · obtain ⟨b, p, xs, rfl, _⟩ := h
    rfl
  · obtain ⟨b, p, xs, rfl, hb, hp, hk, k⟩ := h
    refine ⟨_, (pss_cons (ps_if (pw_or (pt_cmpR op_ne (pe_callB call_len_seq (by rfl) T.n_len b_len (pa_cons (pv 1) pa_nil)) pe_int (nomark _)) (pw_or (pt_not (pt_val (pe_0 c_is_whole hr (by decide) (pa_cons (pe_ix ix_tup (pv 1) pe_int (fun _ _ => rfl)) (pa_cons pe_int (pa_cons pe_int pa_nil)))))) (pw_or1 (pt_cmpR op_gt (pe_0 c_power_of hr (by decide) (pa_cons (pv 0) (pa_cons (pe_ix ix_tup (pv 1) pe_int (fun _ _ => rfl)) pa_nil))) (pe_gi (by rfl) T.g_MOST_POWER) (nomark _))))).pt (pss_one (ps_ret pe_bl)) pss_nil)
      (pss_one (ps_ret (pe_and (pe_0 c_is_whole hr (by decide) (pa_cons (pe_ix ix_tup (pv 1) pe_int (fun _ _ => rfl)) (pa_cons (pe_un un_neg (pe_gi (by rfl) T.g_MOST)) (pa_cons (pe_gi (by rfl) T.g_MOST) pa_nil)))) (pe_one (pe_0 c_is_whole hr (by decide) (pa_cons (pe_ix ix_tup (pv 1) pe_int (fun _ _ => rfl)) (pa_cons (pe_un un_neg (pe_gi (by rfl) T.g_MOST)) (pa_cons (pe_gi (by rfl) T.g_MOST) pa_nil))))))))), ?_⟩
    refine ⟨_, rfl, p, xs, rfl, .inr (SqT.of hp), rfl, _, rfl, ?_⟩
    by_cases hl : xs.length = 4
    · match xs, hl with
      | [z, n, x, y], _ =>
        refine iteF ?_
        obtain ⟨tn, kn⟩ := hk n (by simp)
        obtain ⟨tx, kx⟩ := hk x (by simp)
        obtain ⟨ty, ky⟩ := hk y (by simp)
        refine ⟨_, rfl, _, _, _, _, rfl, rfl, SqT.of hp, rfl, n, tn, 1, 5, rfl, kn, _, rfl, ?_⟩
        by_cases hw : wholeB n 1 5 = true
        · rw [hw]
          refine iteF ?_
          obtain ⟨i, rfl, h1, h5⟩ := wholeB_iff.mp hw
          refine ⟨_, rfl, _, rfl, _, _, _, _, rfl, rfl, SqT.of hp, rfl, _, _, rfl, hb, ⟨by omega, by omega⟩, _, _, rfl, rfl, _, rfl, ?_⟩
          by_cases h60 : b.toNat ^ i.toNat ≤ 60
          · rw [decide_eq_false (by omega)]
            refine iteF ⟨_, rfl, _, _, _, _, rfl, rfl, SqT.of hp, rfl, _, rfl, _, _, _, _, rfl, kx, _, rfl, ?_⟩
            by_cases hx : wholeB x (-12) 12 = true
            · rw [hx]
              refine iteT ⟨_, rfl, _, _, _, _, rfl, rfl, SqT.of hp, rfl, _, rfl, _, _, _, _, rfl, ky, ?_⟩
              exact q_eq k (by simp [foldB, h1, h5, h60, hx])
            · rw [bf hx]
              exact iteF (q_eq k (by simp [foldB, hx]))
          · rw [decide_eq_true (by omega)]
            exact iteT (q_eq k (by simp [foldB, h60]))
        · rw [bf hw]
          exact iteT (iteT (q_eq k (by rw [foldB_no hw])))
    · exact iteT' (by rw [dec_int, decide_eq_false (by omega)]; rfl) (iteT (q_eq k (by rw [foldB_len hl])))
end

end Fold
namespace Fold
open PySem PySem.Spec PyProof.Rows L2
section
variable {P : Program} {w : World} {K : PySem.W.Frag} {mg : Str → Option Value} {base : Heap} {a : Ad}
def rowB (ws : List V) : Bool := decide (1 ≤ ws.length) && decide (ws.length ≤ 6) && ws.all fun v => wholeB v (-12) 12
def weighB (H : Hp) (xs : List V) : Bool := match xs with
  | [_, .ref r] => match H r with
    | some (.tup ws) => rowB ws
    | _ => false
  | _ => false
/-- the values of a list are of known kinds, and so are those of the tuples in it -/
def KnDeep (H : Hp) (xs : List V) : Prop := KnAll H xs ∧ ∀ r ws, V.ref r ∈ xs → H r = some (.tup ws) → KnAll H ws
def sp_is_weigh : Sp := fun vs H Q _ => ∃ (p : Addr) (xs : List V), vs = [.ref p] ∧ H p = some (.tup xs) ∧ KnDeep H xs ∧ ∀ H', Same H H' → Q (.bl (weighB H xs)) H'
theorem weighB_len {H : Hp} {xs : List V} (h : ¬ xs.length = 2) : weighB H xs = false := by
  unfold weighB
  split
  · exact absurd rfl h
  · rfl
theorem small6 {n : Nat} (h : n ≤ 6) : n < sizeLine := Nat.lt_of_le_of_lt h (by decide)
theorem ok_is_weigh (T : Txt K mg a) : C0 P w K mg base 2 "is_weigh" sp_is_weigh := by
  have c_is_whole := ok_is_whole (P := P) (w := w) (base := base) T
  refine T.d_is_weigh.c0 sc_is_weigh (fun vs H Q E h => ?_) (fun f cdv A outer s H vs Q E hr h => ?_)
  · obtain ⟨p, xs, rfl, _⟩ := h
    rfl
  · obtain ⟨p, xs, rfl, hp, ⟨hk, hd⟩, k⟩ := h
    refine ⟨_, (pss_cons (ps_if (pw_or (pt_cmpR op_ne (pe_callB call_len_seq (by rfl) T.n_len b_len (pa_cons (pv 0) pa_nil)) pe_int (nomark _)) (pw_or (pt_not (pt_val (pe_callB call_isi (by rfl) T.n_isinstance b_isinstance (pa_cons (pe_ix ix_tup (pv 0) pe_int (fun _ _ => rfl)) (pa_cons (pe_bltn (v := .ty "tuple") (by rfl) T.n_tuple b_tuple rfl) pa_nil))))) (pw_or1 (pt_not (pt_chain op_le op_le pe_int (pe_callB call_len_seq (by rfl) T.n_len b_len (pa_cons (pe_ix ix_tup (pv 0) pe_int (fun _ _ => rfl)) pa_nil)) pe_int))))).pt (pss_one (ps_ret pe_bl)) pss_nil)
      (pss_one (ps_ret (pe_callB (cr_all rfl) (by rfl) T.n_all b_all (pa_cons (pe_lc (own := [("one", 1)]) (g := gName 1) rfl sc_is_weigh.nd (pi_tup (pe_ix ix_tup (pv 0) pe_int (fun _ _ => rfl))) (blkOk_by (N := ["thing", "one"]) (sc := defScope s_is_weigh) (by decide +kernel)) (fun _ _ _ _ _ => (pg_name (i := 1) sc_is_weigh.nd rfl (Or.inl rfl))) (fun _ _ _ _ _ => pts_nil) (fun _ _ _ _ _ => (pe_0 c_is_whole hr (by decide) (pa_cons (pv 1) (pa_cons (pe_un un_neg (pe_gi (by rfl) T.g_MOST)) (pa_cons (pe_gi (by rfl) T.g_MOST) pa_nil)))))) pa_nil))))), ?_⟩
    refine ⟨_, rfl, p, xs, rfl, .inr (SqT.of hp), rfl, _, rfl, ?_⟩
    by_cases hl : xs.length = 2
    · match xs, hl with
      | [z, x], _ =>
        obtain ⟨tx, kx⟩ := hk x (by simp)
        refine iteF ⟨_, rfl, _, _, _, _, rfl, rfl, SqT.of hp, rfl, _, _, _, _, _, rfl, .ty _, kx.ty, kit_ty (isA_tuple kx), _, rfl, ?_⟩
        cases kx with
        | @tup r ws e =>
          have hwe : weighB H [z, .ref r] = rowB ws := by simp only [weighB, e]
          rw [hwe] at k
          refine iteF ⟨_, rfl, _, _, _, _, rfl, rfl, SqT.of hp, rfl, r, ws, rfl, .inr (SqT.of e), _, _, rfl, rfl, _, rfl, ?_⟩
          by_cases c1 : 1 ≤ ws.length
          · refine iteT' (decide_eq_true (by omega)) ⟨_, _, rfl, rfl, _, rfl, ?_⟩
            by_cases c2 : ws.length ≤ 6
            · refine iteF' (by rw [decide_eq_true (by omega)]; rfl) ?_
              refine ⟨_, rfl, _, _, _, _, rfl, rfl, SqT.of hp, rfl, r, rfl, ⟨ws, SqT.of e⟩, fun D hD => lc_tupM (fun v => .bl (wholeB v (-12) 12)) e hD (small6 c2) (fun _ => rfl) ?_ ?_⟩
              · intro i v hi H' Q' s' q
                obtain ⟨t, kv⟩ := hd r ws (by simp) e v (List.mem_of_getElem? hi)
                exact ⟨_, rfl, _, rfl, v, t, _, _, rfl, kv.mono s', q⟩
              · refine ⟨D, ws.map (fun v => wholeB v (-12) 12), rfl, SqL.of (by rw [upd_same, List.map_map]; rfl), ?_⟩
                refine q_eq (k _ (same_new hD)) ?_
                simp only [rowB, decide_eq_true c1, decide_eq_true c2, Bool.true_and, List.all_map]
                rfl
            · refine iteT' (by rw [decide_eq_false (by omega)]; rfl) (q_eq (k _ (Same.refl _)) ?_)
              simp only [rowB, decide_eq_false c2, Bool.and_false, Bool.false_and]
          · refine iteF' (decide_eq_false (by omega)) ⟨_, rfl, iteT (q_eq (k _ (Same.refl _)) ?_)⟩
            simp only [rowB, decide_eq_false c1, Bool.false_and]
        | lst e => exact iteT (q_eq (k _ (Same.refl _)) (by simp only [weighB, e]))
        | _ => exact iteT (q_eq (k _ (Same.refl _)) rfl)
    · exact iteT' (by rw [dec_int, decide_eq_false (by omega)]; rfl) (iteT (q_eq (k _ (Same.refl _)) (by rw [weighB_len hl])))
end

end Fold
namespace Fold
open PySem PySem.Spec PyProof.Rows L2
section
variable {P : Program} {w : World} {K : PySem.W.Frag} {mg : Str → Option Value} {base : Heap} {a : Ad}
def stepB (b : Int) (H : Hp) (v : V) : Bool := match v with
  | .ref p => match H p with
    | some (.tup (.str z :: r)) => if z = "weigh" then weighB H (.str z :: r) else decide (z = "fold") && foldB b (.str z :: r)
    | _ => false
  | _ => false
/-- a thing of known kind, and what is in it too -/
def KnT (H : Hp) (v : V) : Prop := (∃ t, Kn H v t) ∧ ∀ p xs, v = .ref p → H p = some (.tup xs) → KnDeep H xs
def sp_is_step : Sp := fun vs H Q _ => ∃ (b : Int) (v : V), vs = [.int b, v] ∧ (0 ≤ b ∧ b < 1000) ∧ KnT H v ∧ ∀ H', Same H H' → Q (.bl (stepB b H v)) H'
theorem ok_is_step (T : Txt K mg a) : C0 P w K mg base 3 "is_step" sp_is_step := by
  have c_is_weigh := ok_is_weigh (P := P) (w := w) (base := base) T; have c_is_fold := ok_is_fold (P := P) (w := w) (base := base) T
  refine T.d_is_step.c0 sc_is_step (fun vs H Q E h => ?_) (fun f cdv A outer s H vs Q E hr h => ?_)
  · obtain ⟨b, v, rfl, _⟩ := h
    rfl
  · obtain ⟨b, v, rfl, hb, ⟨⟨t, kv⟩, hd⟩, k⟩ := h
    refine ⟨_, (pss_cons (ps_if (pw_or (pt_not (pt_val (pe_callB call_isi (by rfl) T.n_isinstance b_isinstance (pa_cons (pv 1) (pa_cons (pe_bltn (v := .ty "tuple") (by rfl) T.n_tuple b_tuple rfl) pa_nil))))) (pw_or (pt_not (pt_truth (pv 1) (fun _ => rfl))) (pw_or1 (pt_not (pt_val (pe_callB call_isi (by rfl) T.n_isinstance b_isinstance (pa_cons (pe_ix ix_tup (pv 1) pe_int (fun _ _ => rfl)) (pa_cons (pe_bltn (v := .ty "str") (by rfl) T.n_str b_str rfl) pa_nil)))))))).pt (pss_one (ps_ret pe_bl)) pss_nil)
      (pss_one (ps_ret (pe_ifExp (pt_cmpR op_eq (pe_ix ix_tup (pv 1) pe_int (fun _ _ => rfl)) pe_str (nomark _)) (pe_0 c_is_weigh hr (by decide) (pa_cons (pv 1) pa_nil)) (pe_and (pe_cmpR op_eq (pe_ix ix_tup (pv 1) pe_int (fun _ _ => rfl)) pe_str (nomark _)) (pe_one (pe_0 c_is_fold hr (by decide) (pa_cons (pv 0) (pa_cons (pv 1) pa_nil))))))))), ?_⟩
    refine ⟨_, rfl, _, _, _, _, _, rfl, .ty _, kv.ty, kit_ty (isA_tuple kv), _, rfl, ?_⟩
    cases kv with
    | @tup p xs e =>
      have hd := hd p xs rfl e
      match xs with
      | [] => exact iteF ⟨_, rfl, _, .inr (.inl ⟨[], SqT.of e, rfl⟩), iteT (q_eq (k _ (Same.refl _)) (by simp only [stepB, e]))⟩
      | z :: r =>
        obtain ⟨tz, kz⟩ := hd.1 z (by simp)
        refine iteF ⟨_, rfl, _, .inr (.inl ⟨_, SqT.of e, rfl⟩), iteF ⟨_, rfl, _, _, _, _, rfl, rfl, SqT.of e, at_of (j := 0) rfl rfl, _, _, _, _, _, rfl, .ty _, kz.ty, kit_ty (isA_str kz), _, rfl, ?_⟩⟩
        cases kz with
        | str z =>
          refine iteF ⟨_, rfl, _, _, _, _, rfl, rfl, SqT.of e, at_of (j := 0) rfl rfl, rfl, _, rfl, ?_⟩
          by_cases c : z = "weigh"
          · refine iteT' (by rw [dec_str]; exact decide_eq_true c) ⟨_, rfl, p, _, rfl, e, hd, fun H' s' => q_eq (k _ s') ?_⟩
            simp only [stepB, e, if_pos c]
          · refine iteF' (by rw [dec_str]; exact decide_eq_false c) ⟨_, rfl, _, _, _, _, rfl, rfl, SqT.of e, at_of (j := 0) rfl rfl, rfl, _, rfl, ?_⟩
            by_cases c2 : z = "fold"
            · refine iteT' (by rw [dec_str]; exact decide_eq_true c2) ⟨_, rfl, _, rfl, b, p, _, rfl, hb, e, hd.1, q_eq (k _ (Same.refl _)) ?_⟩
              simp only [stepB, e, if_neg c, decide_eq_true c2, Bool.true_and]
            · refine iteF' (by rw [dec_str]; exact decide_eq_false c2) (q_eq (k _ (Same.refl _)) ?_)
              simp only [stepB, e, if_neg c, decide_eq_false c2, Bool.false_and]
        | _ => exact iteT (q_eq (k _ (Same.refl _)) (by simp only [stepB, e]))
    | lst e => exact iteT (q_eq (k _ (Same.refl _)) (by simp only [stepB, e]))
    | _ => exact iteT (q_eq (k _ (Same.refl _)) rfl)
def intOf : V → Int
  | .int i => i
  | _ => 0
def okB (H : Hp) (v u : V) : Bool := wholeB v 2 12 && stepB (intOf v) H u
def sp_check_step (a : Ad) : Sp := fun vs H Q E => ∃ (v u : V), vs = [v, u] ∧ (∃ t, Kn H v t) ∧ KnT H u ∧ (okB H v u = true → ∀ H', Same H H' → Q .non H') ∧ (okB H v u = false → ∀ H', Same H H' → E (.ref a.BadStep) none H')
theorem ok_check_step (T : Txt K mg a) : C1 P w K mg base 4 "check_step" (sp_check_step a) := by
  have c_is_whole := ok_is_whole (P := P) (w := w) (base := base) T; have c_is_step := ok_is_step (P := P) (w := w) (base := base) T
  refine T.d_check_step.c1 sc_check_step (fun vs H Q E h => ?_) (fun f cdv A outer s H vs Q E hr h => ?_)
  · obtain ⟨v, u, rfl, _⟩ := h
    rfl
  · obtain ⟨v, u, rfl, ⟨t, kv⟩, ku, kY, kN⟩ := h
    have tk := takes_of (X := cxOf (L2.CX P w) P w K mg base ["base", "step"] "check_step" (defScope s_check_step) f cdv A outer s H E) rfl rfl rfl rfl
    refine ⟨_, (pss_one (ps_if (pw_or (pt_not (pt_val (pe_0 c_is_whole hr (by decide) (pa_cons (pv 0) (pa_cons pe_int (pa_cons (pe_gi (by rfl) T.g_MOST) pa_nil)))))) (pw_or1 (pt_not (pt_val (pe_0 c_is_step hr (by decide) (pa_cons (pv 0) (pa_cons (pv 1) pa_nil))))))).pt (pss_one (ps_raise rfl tk T.x_BadStep.pmk)) pss_nil)), ?_⟩
    refine ⟨_, rfl, v, t, _, _, rfl, kv, _, rfl, ?_⟩
    by_cases c : wholeB v 2 12 = true
    · obtain ⟨i, rfl, h1, h2⟩ := wholeB_iff.mp c
      refine iteF' (by rw [c]; rfl) ⟨_, rfl, _, rfl, i, u, rfl, ⟨by omega, by omega⟩, ku, fun H' s' => ⟨_, rfl, ?_⟩⟩
      by_cases c2 : stepB i H u = true
      · exact iteF' (by rw [c2]; rfl) (kY (by simp only [okB, c, intOf, c2, Bool.and_self]) _ s')
      · exact iteT' (by rw [bf c2]; rfl) (kN (by simp only [okB, c, intOf, bf c2, Bool.and_false]) _ s')
    · exact iteT' (by rw [bf c]; rfl) (iteT (kN (by simp only [okB, bf c, Bool.false_and]) _ (Same.refl _)))
end

end Fold
namespace Fold
open PySem PySem.Spec PyProof.Rows L2
/-! ### steps, in plain Lean -/
inductive Stp where
  | fold (k : Nat) (x y : Int)
  | weigh (row : List Int)
def wsum (b : Nat) (row : List Int) (n i : Nat) : Int :=
  if h : 2 ≤ b ∧ 0 < n then row.getD (i % row.length) 0 * ((n % b : Nat) : Int) + wsum b row (n / b) (i + 1) else 0
termination_by n
decreasing_by exact Nat.div_lt_self h.2 h.1
theorem wsum_zero (b : Nat) (row : List Int) (i : Nat) : wsum b row 0 i = 0 := by
  unfold wsum
  rw [dif_neg (by omega)]
theorem wsum_pos {b n : Nat} (row : List Int) (i : Nat) (hb : 2 ≤ b) (hn : 0 < n) : wsum b row n i = row.getD (i % row.length) 0 * ((n % b : Nat) : Int) + wsum b row (n / b) (i + 1) := by
  rw [wsum, dif_pos ⟨hb, hn⟩]
/-- what a step makes of a number -/
def mk (b : Nat) : Stp → Nat → Nat
  | .fold k x y, n => (x * ((n / b ^ k : Nat) : Int) + y * ((n % b ^ k : Nat) : Int)).natAbs
  | .weigh row, n => (wsum b row n 0).natAbs
/-- a step for a base -/
def OkS (b : Nat) : Stp → Prop
  | .fold k x y => 1 ≤ k ∧ k ≤ 5 ∧ b ^ k ≤ 60 ∧ (-12 ≤ x ∧ x ≤ 12) ∧ (-12 ≤ y ∧ y ≤ 12)
  | .weigh row => 1 ≤ row.length ∧ row.length ≤ 6 ∧ ∀ v ∈ row, -12 ≤ v ∧ v ≤ 12
/-- the step s stands at p -/
def StepAt (H : Hp) (p : Addr) : Stp → Prop
  | .fold k x y => H p = some (.tup [.str "fold", .int k, .int x, .int y])
  | .weigh row => ∃ r, H p = some (.tup [.str "weigh", .ref r]) ∧ H r = some (.tup (row.map V.int))
theorem StepAt.mono {H H' : Hp} {p : Addr} {s : Stp} (e : Same H H') (h : StepAt H p s) : StepAt H' p s := by
  cases s with
  | fold k x y => exact e _ _ h
  | weigh row =>
    obtain ⟨r, h1, h2⟩ := h
    exact ⟨r, e _ _ h1, e _ _ h2⟩
theorem fw : ¬ (("fold" : Str) = "weigh") := by decide +kernel
theorem KnAll.ints (H : Hp) (l : List Int) : KnAll H (l.map V.int) := fun x m => by
  obtain ⟨i, _, rfl⟩ := List.mem_map.mp m
  exact ⟨_, .int i⟩
theorem StepAt.known {H : Hp} {p : Addr} {s : Stp} (h : StepAt H p s) : KnT H (.ref p) := by
  cases s with
  | fold k x y =>
    have h : H p = _ := h
    refine ⟨⟨_, .tup h⟩, fun q xs e1 e2 => ?_⟩
    cases e1
    rw [h] at e2
    cases e2
    refine ⟨fun x m => ?_, fun r ws m => ?_⟩
    · simp only [List.mem_cons, List.not_mem_nil, or_false] at m
      rcases m with rfl | rfl | rfl | rfl
      · exact ⟨_, .str _⟩
      · exact ⟨_, .int _⟩
      · exact ⟨_, .int _⟩
      · exact ⟨_, .int _⟩
    · simp at m
  | weigh row =>
    obtain ⟨r, h1, h2⟩ := h
    refine ⟨⟨_, .tup h1⟩, fun q xs e1 e2 => ?_⟩
    cases e1
    rw [h1] at e2
    cases e2
    refine ⟨fun x m => ?_, fun r' ws m e => ?_⟩
    · simp only [List.mem_cons, List.not_mem_nil, or_false] at m
      rcases m with rfl | rfl
      · exact ⟨_, .str _⟩
      · exact ⟨_, .tup h2⟩
    · simp only [List.mem_cons, List.not_mem_nil, or_false, reduceCtorEq, false_or, V.ref.injEq] at m
      subst m
      rw [h2] at e
      cases e
      exact KnAll.ints _ _
theorem StepAt.ok {H : Hp} {p : Addr} {s : Stp} {b : Nat} (h : StepAt H p s) (hb : 2 ≤ b ∧ b ≤ 12) (o : OkS b s) : okB H (.int b) (.ref p) = true := by
  have h1 : wholeB (.int b) 2 12 = true := wholeB_iff.mpr ⟨b, rfl, by omega, by omega⟩
  cases s with
  | fold k x y =>
    have h : H p = _ := h
    obtain ⟨o1, o2, o3, o4, o5⟩ := o
    have hx : wholeB (.int x) (-12) 12 = true := wholeB_iff.mpr ⟨x, rfl, o4⟩
    have hy : wholeB (.int y) (-12) 12 = true := wholeB_iff.mpr ⟨y, rfl, o5⟩
    have hk1 : (1 : Int) ≤ (k : Int) := by omega
    have hk5 : (k : Int) ≤ (5 : Int) := by omega
    simp only [okB, h1, stepB, h, intOf, if_neg fw, foldB, hx, hy, decide_true, Bool.true_and, Bool.and_true, Int.toNat_natCast, decide_eq_true hk1, decide_eq_true hk5]
    exact decide_eq_true o3
  | weigh row =>
    obtain ⟨r, e1, e2⟩ := h
    obtain ⟨o1, o2, o3⟩ := o
    have ha : (row.map V.int).all (fun v => wholeB v (-12) 12) = true := by
      rw [List.all_eq_true]
      intro v m
      obtain ⟨i, hi, rfl⟩ := List.mem_map.mp m
      exact wholeB_iff.mpr ⟨i, rfl, o3 i hi⟩
    simp only [okB, h1, stepB, e1, intOf, if_true, weighB, e2, rowB, ha, List.length_map, decide_eq_true o1, decide_eq_true o2, Bool.true_and]
theorem StepAt.okI {H : Hp} {p : Addr} {s : Stp} {b : Int} (h : StepAt H p s) (hb : 2 ≤ b ∧ b ≤ 12) (o : OkS b.toNat s) : okB H (.int b) (.ref p) = true := by
  obtain ⟨b, rfl⟩ := Int.eq_ofNat_of_zero_le (show 0 ≤ b by omega)
  exact h.ok (by omega) o

end Fold
namespace Fold
open PySem PySem.Spec PyProof.Rows L2
section
variable {P : Program} {w : World} {K : PySem.W.Frag} {mg : Str → Option Value} {base : Heap} {a : Ad}
theorem wdiv {i j : Int} (h : 0 < j) (h2 : j < 18446744073709551616) : CDivW i j := wide_div (b := 64) h (by omega) (by decide) (by decide)
def sp_weighed : Sp := fun vs H Q _ => ∃ (b : Int) (r : Addr) (n : Int) (row : List Int), vs = [.int b, .ref r, .int n] ∧ (2 ≤ b ∧ b ≤ 12) ∧ H r = some (.tup (row.map V.int)) ∧ 0 < row.length ∧ 0 ≤ n ∧ Q (.int (wsum b.toNat row n.toNat 0)) H
theorem ok_weighed (T : Txt K mg a) : C0 P w K mg base 1 "weighed" sp_weighed := by
  skip
  refine T.d_weighed.c0 sc_weighed (fun vs H Q E h => ?_) (fun f cdv A outer s H vs Q E hr h => ?_)
  · obtain ⟨b, r, n, row, rfl, _⟩ := h
    rfl
  · obtain ⟨b, r, n, row, rfl, hb, hr0, hl, hn, k⟩ := h
    obtain ⟨b, rfl⟩ := Int.eq_ofNat_of_zero_le (show 0 ≤ b by omega)
    obtain ⟨n, rfl⟩ := Int.eq_ofNat_of_zero_le hn
    refine ⟨_, (pss_cons (ps_set (i := 3) sc_weighed.nd rfl (Or.inl rfl) pe_int)
      (pss_cons (ps_set (i := 4) sc_weighed.nd rfl (Or.inl rfl) pe_int)
      (pss_cons (ps_while PassesOwn.never (pt_truth (pv 2) (fun _ => rfl)) (pss_cons (ps_aug (i := 3) sc_weighed.nd rfl (Or.inl rfl) (pe_op op_mul (pe_ix ix_tup (pv 1) (pe_op op_mod (pv 4) (pe_callB call_len_seq (by rfl) T.n_len b_len (pa_cons (pv 1) pa_nil))) (fun _ _ => rfl)) (pe_op op_mod (pv 2) (pv 0))) ip_add)
      (pss_cons (ps_set (i := 2) sc_weighed.nd rfl (Or.inl rfl) (pe_op op_fdivW (pv 2) (pv 0)))
      (pss_one (ps_aug (i := 4) sc_weighed.nd rfl (Or.inl rfl) pe_int ip_add)))))
      (pss_one (ps_ret (pv 3)))))), ?_⟩
    refine g_setC (g_setC (g_seq ?_))
    refine while_by (fun σ H' => H' = H ∧ ∃ (m i : Nat) (t : Int), σ = [some (.int b), some (.ref r), some (.int m), some (.int t), some (.int i)] ∧ t + wsum b row m i = wsum b row n 0)
      (fun σ _ => sN σ 2) ⟨rfl, n, 0, 0, rfl, by omega⟩ ?_ ?_
    · rintro σ H' ⟨rfl, m, i, t, rfl, ht⟩
      refine ⟨_, rfl, _, rfl, ?_⟩
      by_cases hm : m = 0
      · subst hm
        refine iteF' rfl ⟨_, rfl, ?_⟩
        rw [wsum_zero] at ht
        exact q_eq k (by rw [← Int.add_zero t, ht]; rfl)
      · have hm0 : 0 < m := by omega
        refine iteT' (by simpa using hm) ?_
        have hi : i % row.length < row.length := Nat.mod_lt _ hl
        have hx : (row.map V.int)[i % row.length]? = some (.int (row.getD (i % row.length) 0)) := by
          rw [List.getElem?_map, List.getElem?_eq_getElem hi, List.getD_eq_getElem?_getD, List.getElem?_eq_getElem hi]; rfl
        have hd : 0 ≤ (m : Int) % (b : Int) := Int.emod_nonneg _ (by omega)
        have hd2 : (m : Int) % (b : Int) < b := Int.emod_lt_of_pos _ (by omega)
        refine ⟨_, rfl, _, rfl, _, rfl, _, rfl, r, _, rfl, .inr (SqT.of hr0), _, _, rfl, rfl, by rw [List.length_map]; omega, r, _, _, _, rfl, rfl, SqT.of hr0, at_of (j := i % row.length) (by rw [List.length_map]; rfl) hx,
          _, rfl, _, rfl, _, _, rfl, rfl, (show (0 : Int) < b by omega), _, _, rfl, rfl, .inr ⟨by omega, by omega⟩, _, _, rfl, rfl, ?_⟩
        refine ⟨_, rfl, _, rfl, _, _, rfl, rfl, wdiv (by omega) (by omega), _, rfl, _, _, rfl, rfl, ⟨rfl, m / b, i + 1, t + row.getD (i % row.length) 0 * ((m % b : Nat) : Int), rfl, ?_⟩, ?_⟩
        · rw [wsum_pos row i (by omega) hm0] at ht
          omega
        · show ((m / b : Nat) : Int).toNat < (m : Int).toNat
          have := Nat.div_lt_self hm0 (show 1 < b by omega)
          omega
    · rintro σ H' Q1 Q2 hq ⟨v, e, c, t, q⟩
      exact ⟨v, e, c, t, hq _ _ q⟩
def sp_after : Sp := fun vs H Q _ => ∃ (b : Int) (p : Addr) (n : Int) (s : Stp), vs = [.int b, .ref p, .int n] ∧ (2 ≤ b ∧ b ≤ 12) ∧ StepAt H p s ∧ OkS b.toNat s ∧ 0 ≤ n ∧ Q (.int (mk b.toNat s n.toNat : Nat)) H
theorem abs_nat (i : Int) : (if i < 0 then -i else i) = (i.natAbs : Int) := by split <;> omega
theorem ok_after (T : Txt K mg a) : C0 P w K mg base 2 "after" sp_after := by
  have c_power_of := ok_power_of (P := P) (w := w) (base := base) T; have c_weighed := ok_weighed (P := P) (w := w) (base := base) T
  refine T.d_after.c0 sc_after (fun vs H Q E h => ?_) (fun f cdv A outer s H vs Q E hr h => ?_)
  · obtain ⟨b, r, n, s, rfl, _⟩ := h
    rfl
  · obtain ⟨b, p, n, s, rfl, hb, hs, ho, hn, k⟩ := h
    obtain ⟨b, rfl⟩ := Int.eq_ofNat_of_zero_le (show 0 ≤ b by omega)
    obtain ⟨n, rfl⟩ := Int.eq_ofNat_of_zero_le hn
    refine ⟨_, (pss_cons (ps_if (pt_cmpR op_eq (pe_ix ix_tup (pv 1) pe_int (fun _ _ => rfl)) pe_str (nomark _)) (pss_one (ps_ret (pe_callB call_abs (by rfl) T.n_abs b_abs (pa_cons (pe_0 c_weighed hr (by decide) (pa_cons (pv 0) (pa_cons (pe_ix ix_tup (pv 1) pe_int (fun _ _ => rfl)) (pa_cons (pv 2) pa_nil)))) pa_nil)))) pss_nil)
      (pss_cons (ps_set (i := 3) sc_after.nd rfl (Or.inl rfl) (pe_0 c_power_of hr (by decide) (pa_cons (pv 0) (pa_cons (pe_ix ix_tup (pv 1) pe_int (fun _ _ => rfl)) pa_nil))))
      (pss_one (ps_ret (pe_callB call_abs (by rfl) T.n_abs b_abs (pa_cons (pe_op op_add (pe_op op_mul (pe_ix ix_tup (pv 1) pe_int (fun _ _ => rfl)) (pe_op op_fdivW (pv 2) (pv 3))) (pe_op op_mul (pe_ix ix_tup (pv 1) pe_int (fun _ _ => rfl)) (pe_op op_mod (pv 2) (pv 3)))) pa_nil)))))), ?_⟩
    cases s with
    | weigh row =>
      obtain ⟨r, h1, h2⟩ := hs
      refine ⟨_, rfl, _, _, _, _, rfl, rfl, SqT.of h1, rfl, rfl, _, rfl, iteT' (by decide +kernel) ⟨_, rfl, _, rfl, _, _, _, _, rfl, rfl, SqT.of h1, rfl, _, rfl, _, r, _, row, rfl, hb, h2, ho.1, hn, _, rfl, ?_⟩⟩
      exact q_eq k (by rw [abs_nat]; rfl)
    | fold kk x y =>
      have hs : H p = _ := hs
      obtain ⟨o1, o2, o3, o4, o5⟩ := ho
      have hP : 0 < b ^ kk := Nat.pow_pos (by omega)
      have o3 : b ^ kk ≤ 60 := o3
      have hd : 0 ≤ (n : Int) % ((b ^ kk : Nat) : Int) := Int.emod_nonneg _ (by omega)
      have hd2 : (n : Int) % ((b ^ kk : Nat) : Int) < ((b ^ kk : Nat) : Int) := Int.emod_lt_of_pos _ (by omega)
      refine ⟨_, rfl, _, _, _, _, rfl, rfl, SqT.of hs, rfl, rfl, _, rfl, iteF' (by decide +kernel) ⟨_, rfl, _, rfl, _, _, _, _, rfl, rfl, SqT.of hs, rfl, _, _, rfl, ⟨by omega, by omega⟩, ⟨by omega, by omega⟩, ?_⟩⟩
      refine ⟨_, rfl, _, _, _, _, rfl, rfl, SqT.of hs, rfl, _, rfl, _, rfl, _, _, rfl, rfl, wdiv (show (0 : Int) < ((b ^ kk : Nat) : Int) by omega) (show ((b ^ kk : Nat) : Int) < _ by omega), _, _, rfl, rfl, .inl ⟨by omega, by omega⟩,
        _, rfl, _, _, _, _, rfl, rfl, SqT.of hs, rfl, _, rfl, _, rfl, _, _, rfl, rfl, (show (0 : Int) < ((b ^ kk : Nat) : Int) by omega), _, _, rfl, rfl, .inl ⟨by omega, by omega⟩, _, _, rfl, rfl, _, rfl, ?_⟩
      exact q_eq k (by rw [abs_nat]; rfl)
def sp_made (a : Ad) : Sp := fun vs H Q E => ∃ (v u : V) (n : Int), vs = [v, u, .int n] ∧ (∃ t, Kn H v t) ∧ KnT H u ∧ 0 ≤ n ∧
  (okB H v u = true → ∃ (b : Int) (p : Addr) (s : Stp), v = .int b ∧ u = .ref p ∧ (2 ≤ b ∧ b ≤ 12) ∧ StepAt H p s ∧ OkS b.toNat s ∧ ∀ H', Same H H' → Q (.int (mk b.toNat s n.toNat : Nat)) H') ∧ (okB H v u = false → ∀ H', Same H H' → E (.ref a.BadStep) none H')
theorem ok_made (T : Txt K mg a) : C1 P w K mg base 5 "made" (sp_made a) := by
  have c_check_step := ok_check_step (P := P) (w := w) (base := base) T; have c_after := ok_after (P := P) (w := w) (base := base) T
  refine T.d_made.c1 sc_made (fun vs H Q E h => ?_) (fun f cdv A outer s H vs Q E hr h => ?_)
  · obtain ⟨v, u, n, rfl, _⟩ := h
    rfl
  · obtain ⟨v, u, n, rfl, kv, ku, hn, kY, kN⟩ := h
    have tk := takes_of (X := cxOf (L2.CX P w) P w K mg base ["base", "step", "n"] "made" (defScope s_made) f cdv A outer s H E) rfl rfl rfl rfl
    refine ⟨_, (pss_cons (ps_expr (pe_1 c_check_step hr (by decide) tk (by exact (pa_cons (pv 0) (pa_cons (pv 1) pa_nil)))))
      (pss_one (ps_ret (pe_0 c_after hr (by decide) (pa_cons (pv 0) (pa_cons (pv 1) (pa_cons (pv 2) pa_nil))))))), ?_⟩
    refine ⟨_, rfl, _, rfl, v, u, rfl, kv, ku, fun c H' s' => ?_, fun c H' s' => kN c H' s'⟩
    obtain ⟨b, p, s, rfl, rfl, hb, hs, ho, q⟩ := kY c
    exact ⟨_, rfl, _, rfl, _, rfl, b, p, n, s, rfl, hb, hs.mono s', ho, hn, q H' s'⟩
end

end Fold
namespace Fold
open PySem PySem.Spec PyProof.Rows L2
/-! ### the law's own helpers -/
section
variable {P : Program} {w : World} {K : PySem.W.Frag} {mg : Str → Option Value} {base : Heap} {a : Ad}
/-- the drawing list stands at d -/
def DrawsAt (H : Hp) (d l : Addr) : Prop := ∃ (ns : List Int) (i : Nat) (g e : Int), H d = some (.lst [.ref l, .int i, .int g, .int e]) ∧ H l = some (.lst (ns.map V.int))
theorem DrawsAt.ne {H : Hp} {d l : Addr} {ns : List Int} {i : Nat} {g e : Int} (h : H d = some (.lst [.ref l, .int i, .int g, .int e])) (h' : H l = some (.lst (ns.map V.int))) : l ≠ d := by
  refine ne_of h' h fun q => ?_
  injection q with q
  cases ns with
  | nil => cases q
  | cons x r => cases q
theorem DrawsAt.mono {H H' : Hp} {d l : Addr} (s : Same H H') (h : DrawsAt H d l) : DrawsAt H' d l := by
  obtain ⟨ns, i, g, e, h1, h2⟩ := h
  exact ⟨ns, i, g, e, s _ _ h1, s _ _ h2⟩
theorem DrawsAt.there {H : Hp} {d l : Addr} (h : DrawsAt H d l) : ∃ o, H d = some o := by
  obtain ⟨ns, i, g, e, h1, h2⟩ := h
  exact ⟨_, h1⟩
theorem p31 : (0 : Int) < 2147483647 := by decide
theorem p29 : (0 : Int) < 2147483629 := by decide
def sp_law_begin (K : PySem.W.Frag) : Sp := fun vs H Q _ => ∃ (p : Addr) (ns : List Int), vs = [.ref p] ∧ SqL K H p (ns.map V.int) ∧ ∀ d l H', H d = none → Same H H' → DrawsAt H' d l → Q (.ref d) H'
theorem ok__law_begin (T : Txt K mg a) : C0 P w K mg base 1 "_law_begin" (sp_law_begin K) := by
  skip
  refine T.d__law_begin.c0 sc__law_begin (fun vs H Q E h => ?_) (fun f cdv A outer s H vs Q E hr h => ?_)
  · obtain ⟨p, ns, rfl, _⟩ := h
    rfl
  · obtain ⟨p, ns, rfl, hp, k⟩ := h
    refine ⟨_, (pss_one (ps_ret (pe_lst (pa_cons (pe_callTy call_list_of (by rfl) T.n_list b_list (pa_cons (pv 0) pa_nil)) (pa_cons pe_int (pa_cons pe_int (pa_cons pe_int pa_nil))))))), ?_⟩
    refine ⟨_, rfl, p, _, rfl, .inl hp, fun l hl => ⟨by show 4 ≤ sizeLine; decide, fun d hd => ?_⟩⟩
    have nd : l ≠ d := ne_of_none upd_same hd
    have hd0 : H d = none := by rw [upd_ne nd.symm] at hd; exact hd
    exact k d l _ hd0 (same_upd (same_new hl) hd) ⟨ns, 0, 0, 7, upd_same, by rw [upd_ne nd]; exact upd_same⟩
def sp_law_draw : Sp := fun vs H Q _ => ∃ (d l : Addr) (z : Int), vs = [.ref d, .int z] ∧ (0 < z ∧ z < 9223372036854775808) ∧ DrawsAt H d l ∧ ∀ r H', 0 ≤ r → r < z → DrawsAt H' d l → But d H H' → Q (.int r) H'
theorem ok__law_draw (T : Txt K mg a) : C0 P w K mg base 1 "_law_draw" sp_law_draw := by
  skip
  refine T.d__law_draw.c0 sc__law_draw (fun vs H Q E h => ?_) (fun f cdv A outer s H vs Q E hr h => ?_)
  · obtain ⟨d, l, z, rfl, _⟩ := h
    rfl
  · obtain ⟨d, l, z, rfl, hz, hD, k⟩ := h
    refine ⟨_, (C8.pss_cut (ps_if (pt_cmpR op_eq (pe_ix ix_list (pv 0) pe_int (fun _ _ => rfl)) pe_int (nomark _)) (pss_one (ps_if (pt_cmpR op_lt (pe_ix ix_list (pv 0) pe_int (fun _ _ => rfl)) (pe_callB call_len_seq (by rfl) T.n_len b_len (pa_cons (pe_ix ix_list (pv 0) pe_int (fun _ _ => rfl)) pa_nil)) (nomark _)) (pss_cons (ps_set (i := 2) sc__law_draw.nd rfl (Or.inl rfl) (pe_ix ix_list (pe_ix ix_list (pv 0) pe_int (fun _ _ => rfl)) (pe_ix ix_list (pv 0) pe_int (fun _ _ => rfl)) (fun _ _ => rfl)))
      (pss_cons (ps_asg (pe_op op_add (pe_ix ix_list (pv 0) pe_int (fun _ _ => rfl)) pe_int) (pg_sub (pv 0) pe_int set_list))
      (pss_one (ps_if (pt_cmpR op_ge (pv 2) (pe_op op_pow pe_int pe_int) (nomark _)) (pss_one (ps_asg (pv 2) (pg_sub (pv 0) pe_int set_list))) (pss_one (ps_asg (pe_op op_mod (pe_callTy call_int1 (by rfl) T.n_int b_int (pa_cons (pe_op op_add (pe_op op_add (pe_op op_mul (pe_ix ix_list (pv 0) pe_int (fun _ _ => rfl)) pe_int) (pe_op op_mul (pv 2) pe_int)) pe_int) pa_nil)) pe_int) (pg_sub (pv 0) pe_int set_list))))))) (pss_one (ps_asg (pe_op op_mod (pe_callTy call_int1 (by rfl) T.n_int b_int (pa_cons (pe_op op_add (pe_op op_mul (pe_ix ix_list (pv 0) pe_int (fun _ _ => rfl)) pe_int) pe_int) pa_nil)) pe_int) (pg_sub (pv 0) pe_int set_list))))) pss_nil)
      (pss_cons (ps_if (pt_cmpR op_gt (pe_ix ix_list (pv 0) pe_int (fun _ _ => rfl)) pe_int (nomark _)) (pss_cons (ps_set (i := 3) sc__law_draw.nd rfl (Or.inl rfl) (pe_op op_mod (pe_callTy call_int1 (by rfl) T.n_int b_int (pa_cons (pe_ix ix_list (pv 0) pe_int (fun _ _ => rfl)) pa_nil)) (pv 1)))
      (pss_cons (ps_asg (pe_op op_fdivW (pe_ix ix_list (pv 0) pe_int (fun _ _ => rfl)) (pv 1)) (pg_sub (pv 0) pe_int set_list))
      (pss_one (ps_ret (pv 3))))) pss_nil)
      (pss_one (ps_ret (pe_op op_mod (pe_op op_mod (pe_callTy call_int1 (by rfl) T.n_int b_int (pa_cons (pe_op op_mul (pe_ix ix_list (pv 0) pe_int (fun _ _ => rfl)) pe_int) pa_nil)) pe_int) (pv 1)))))), ?_⟩
    refine ⟨fun σ H' => DrawsAt H' d l ∧ But d H H' ∧ ∃ c, σ = [some (.ref d), some (.int z), c, none], ?_, ?_⟩
    · obtain ⟨ns, i, g, e, h1, h2⟩ := id hD
      have nl : l ≠ d := DrawsAt.ne h1 h2
      refine ⟨_, rfl, _, _, _, _, rfl, rfl, SqL.of h1, rfl, rfl, _, rfl, ?_⟩
      rw [dec_int]
      refine iteB (fun c => ?_) (fun c => ⟨hD, But.refl _ _, _, rfl⟩)
      refine ⟨_, rfl, _, _, _, _, rfl, rfl, SqL.of h1, rfl, _, rfl, _, _, _, _, rfl, rfl, SqL.of h1, rfl, l, _, rfl, .inl (SqL.of h2), _, _, rfl, rfl, _, rfl, ?_⟩
      rw [List.length_map]
      refine iteB (fun c2 => ?_) (fun c2 => ?_)
      · have hi : i < ns.length := by simpa using c2
        refine ⟨_, rfl, _, _, _, _, rfl, rfl, SqL.of h1, rfl, _, rfl, _, _, _, _, rfl, rfl, SqL.of h1, rfl, l, _, _, _, rfl, rfl, SqL.of h2, at_of (j := i) (v := V.int ns[i]) rfl (by rw [List.getElem?_map, List.getElem?_eq_getElem hi]; rfl), ?_⟩
        refine ⟨_, rfl, _, _, _, _, rfl, rfl, SqL.of h1, rfl, _, _, rfl, rfl, _, rfl, d, _, _, _, rfl, rfl, h1, rfl, ?_⟩
        refine ⟨_, rfl, _, _, rfl, rfl, ⟨by decide, by decide, by decide⟩, _, _, rfl, rfl, _, rfl, ?_⟩
        refine iteB (fun c3 => ?_) (fun c3 => ?_)
        · refine ⟨_, rfl, _, rfl, d, _, _, _, rfl, rfl, upd_same, rfl, ⟨ns, i + 1, _, e, upd_same, ?_⟩, But.trans But.upd But.upd, _, rfl⟩
          rw [upd_ne nl, upd_ne nl]; exact h2
        · refine ⟨_, rfl, _, _, _, _, rfl, rfl, SqL.of upd_same, rfl, _, _, rfl, rfl, .inr ⟨by decide, by decide⟩, _, rfl, _, _, rfl, rfl, .inr ⟨by decide, by decide⟩, _, _, rfl, rfl, _, _, rfl, rfl, .inl ⟨_, rfl, _, _, rfl, rfl, p31, _, rfl, d, _, _, _, rfl, rfl, upd_same, rfl, ⟨ns, i + 1, g, _, upd_same, ?_⟩, But.trans But.upd But.upd, _, rfl⟩⟩
          rw [upd_ne nl, upd_ne nl]; exact h2
      · refine ⟨_, rfl, _, _, _, _, rfl, rfl, SqL.of h1, rfl, _, _, rfl, rfl, .inr ⟨by decide, by decide⟩, _, _, rfl, rfl, .inl ⟨_, rfl, _, _, rfl, rfl, p31, _, rfl, d, _, _, _, rfl, rfl, h1, rfl, ⟨ns, i, g, _, upd_same, ?_⟩, But.upd, _, rfl⟩⟩
        rw [upd_ne nl]; exact h2
    · rintro σ H1 ⟨hD1, hB, c, rfl⟩
      obtain ⟨ns, i, g, e, h1, h2⟩ := id hD1
      have nl : l ≠ d := DrawsAt.ne h1 h2
      refine ⟨_, rfl, _, _, _, _, rfl, rfl, SqL.of h1, rfl, _, _, rfl, rfl, _, rfl, ?_⟩
      refine iteB (fun c => ?_) (fun c => ?_)
      · refine ⟨_, rfl, _, _, _, _, rfl, rfl, SqL.of h1, rfl, .inl ⟨_, rfl, _, rfl, _, _, rfl, rfl, hz.1, ?_⟩⟩
        refine ⟨_, rfl, _, _, _, _, rfl, rfl, SqL.of h1, rfl, _, rfl, _, _, rfl, rfl, wdiv hz.1 (by omega), _, rfl, d, _, _, _, rfl, rfl, h1, rfl, _, rfl, ?_⟩
        refine k _ _ (Int.emod_nonneg _ (by omega)) (Int.emod_lt_of_pos _ hz.1) ⟨ns, i, _, e, upd_same, ?_⟩ (hB.trans But.upd)
        rw [upd_ne nl]; exact h2
      · refine ⟨_, rfl, _, _, _, _, rfl, rfl, SqL.of h1, rfl, _, _, rfl, rfl, .inr ⟨by decide, by decide⟩, .inl ⟨_, rfl, _, _, rfl, rfl, p29, _, rfl, _, _, rfl, rfl, hz.1, ?_⟩⟩
        exact k _ _ (Int.emod_nonneg _ (by omega)) (Int.emod_lt_of_pos _ hz.1) hD1 hB
theorem ok__law_power (T : Txt K mg a) : C0 P w K mg base 1 "_law_power" sp_power_of := by
  refine T.d__law_power.c0 sc__law_power (fun vs H Q E h => ?_) (fun f cdv A outer s H vs Q E hr h => ?_)
  · obtain ⟨b, n, rfl, _⟩ := h
    rfl
  · obtain ⟨b, n, rfl, ⟨b0, b1⟩, ⟨n0, n1⟩, k⟩ := h
    obtain ⟨b, rfl⟩ := Int.eq_ofNat_of_zero_le b0
    obtain ⟨n, rfl⟩ := Int.eq_ofNat_of_zero_le n0
    refine ⟨_, (pss_cons (ps_set (i := 2) sc__law_power.nd rfl (Or.inl rfl) pe_int)
      (pss_cons (ps_for PassesOwn.never rfl (pi_range1 (by rfl) T.n_range (pa_cons (pv 1) pa_nil)) (pg_name (i := 3) sc__law_power.nd rfl (Or.inl rfl)) (pss_one (ps_set (i := 2) sc__law_power.nd rfl (Or.inl rfl) (pe_op op_mul (pv 2) (pv 0)))))
      (pss_one (ps_ret (pv 2))))), ?_⟩
    refine ⟨_, rfl, _, rfl, by omega, by omega, for_range (fun i σ H' => H' = H ∧ ∃ v, σ = [some (.int b), some (.int n), some (.int ((b ^ i : Nat) : Int)), v]) ⟨rfl, none, rfl⟩ ?_ ?_⟩
    · rintro i σ H' hi ⟨rfl, v, rfl⟩
      refine ⟨_, rfl, _, rfl, _, _, rfl, rfl, .inr ⟨by omega, by omega⟩, rfl, some (.int (0 + (i : Int))), ?_⟩
      rw [Nat.pow_succ, Int.natCast_mul]
      rfl
    · rintro σ H' ⟨rfl, v, rfl⟩
      exact ⟨_, rfl, k⟩
theorem DrawsAt.there2 {H : Hp} {d l : Addr} (h : DrawsAt H d l) : ∃ o, H l = some o := by
  obtain ⟨ns, i, g, e, h1, h2⟩ := h
  exact ⟨_, h2⟩
theorem DrawsAt.updO {H : Hp} {d l D : Addr} {o : HO} (h : DrawsAt H d l) (h1 : D ≠ d) (h2 : D ≠ l) : DrawsAt (upd H D o) d l := by
  obtain ⟨ns, i, g, e, e1, e2⟩ := h
  exact ⟨ns, i, g, e, keptN e1 h1.symm, keptN e2 h2.symm⟩
/-- a step as the laws draw them -/
def OkL : Stp → Prop
  | .fold _ x _ => -6 ≤ x ∧ x ≤ 6
  | .weigh row => row.length ≤ 4 ∧ ∀ v ∈ row, -7 ≤ v ∧ v ≤ 7
theorem pow60 {b k : Nat} (hb : 2 ≤ b) (h : b ^ k ≤ 60) : k ≤ 5 := by
  refine Nat.le_of_not_lt fun c => ?_
  have h1 : b ^ 6 ≤ b ^ k := Nat.pow_le_pow_right (by omega) c
  have h2 : 2 ^ 6 ≤ b ^ 6 := Nat.pow_le_pow_left hb 6
  omega
theorem cutV_take {xs : List V} {k : Nat} : cutV xs none (some (k : Int)) = xs.take k := by
  unfold cutV
  rw [HT.sIx_none, HT.sIx_nat, Nat.sub_zero, List.drop_zero]
  rcases Nat.le_total k xs.length with h | h
  · rw [Nat.min_eq_left h]
  · rw [Nat.min_eq_right h, List.take_length, List.take_of_length_le h]
def sp_law_step : Sp := fun vs H Q _ => ∃ (d l : Addr) (b : Int), vs = [.ref d, .int b] ∧ (2 ≤ b ∧ b ≤ 12) ∧ DrawsAt H d l ∧ ∀ p s H', H p = none → StepAt H' p s → OkS b.toNat s → OkL s → DrawsAt H' d l → But d H H' → Q (.ref p) H'
theorem ok__law_step (T : Txt K mg a) : C0 P w K mg base 2 "_law_step" sp_law_step := by
  have c__law_draw := ok__law_draw (P := P) (w := w) (base := base) T; have c__law_power := ok__law_power (P := P) (w := w) (base := base) T
  refine T.d__law_step.c0 sc__law_step (fun vs H Q E h => ?_) (fun f cdv A outer s H vs Q E hr h => ?_)
  · obtain ⟨d, l, b, rfl, _⟩ := h
    rfl
  · obtain ⟨d, l, b, rfl, hb, hD, k⟩ := h
    obtain ⟨b, rfl⟩ := Int.eq_ofNat_of_zero_le (show 0 ≤ b by omega)
    refine ⟨_, (pss_cons (ps_if (pt_cmpR op_eq (pe_0 c__law_draw hr (by decide) (pa_cons (pv 0) (pa_cons pe_int pa_nil))) pe_int (nomark _)) (pss_cons (ps_set (i := 2) sc__law_step.nd rfl (Or.inl rfl) (pe_op op_add pe_int (pe_0 c__law_draw hr (by decide) (pa_cons (pv 0) (pa_cons pe_int pa_nil)))))
      (pss_cons (ps_if (pt_cmpR op_eq (pe_0 c__law_draw hr (by decide) (pa_cons (pv 0) (pa_cons pe_int pa_nil))) pe_int (nomark _)) (pss_cons (ps_set (i := 3) sc__law_step.nd rfl (Or.inl rfl) (pe_op op_add pe_int (pe_0 c__law_draw hr (by decide) (pa_cons (pv 0) (pa_cons pe_int pa_nil)))))
      (pss_cons (ps_set (i := 4) sc__law_step.nd rfl (Or.inl rfl) (pe_lst (pa_cons (pv 3) (pa_cons (pe_un un_neg (pv 3)) (pa_cons (pv 3) (pa_cons (pe_un un_neg (pv 3)) pa_nil))))))
      (pss_one (ps_ret (pe_tup (pa_cons pe_str (pa_cons (pe_tupleOf (by rfl) T.n_tuple (pe_slice sl_list (pv 4) po_none (po_some (pv 2)))) pa_nil))))))) pss_nil)
      (pss_one (ps_ret (pe_tup (pa_cons pe_str (pa_cons (pe_tupleOf (by rfl) T.n_tuple (pe_lc (own := [("_law_k", 5)]) (g := gName 5) rfl sc__law_step.nd (pi_range1 (by rfl) T.n_range (pa_cons (pv 2) pa_nil)) (blkOk_by (N := ["_law_draws", "_law_base", "_law_size", "_law_unit", "_law_row", "_law_k", "_law_x"]) (sc := defScope s__law_step) (by decide +kernel)) (fun _ _ _ _ _ => (pg_name (i := 5) sc__law_step.nd rfl (Or.inl rfl))) (fun _ _ _ _ _ => pts_nil) (fun _ _ _ _ _ => (pe_op op_sub (pe_0 c__law_draw hr (by decide) (pa_cons (pv 0) (pa_cons pe_int pa_nil))) pe_int)))) pa_nil))))))) pss_nil)
      (pss_cons (ps_set (i := 5) sc__law_step.nd rfl (Or.inl rfl) pe_int)
      (C8.pss_cut (ps_while PassesOwn.never (pw_and (pt_cmpR op_le (pe_0 c__law_power hr (by decide) (pa_cons (pv 1) (pa_cons (pe_op op_add (pv 5) pe_int) pa_nil))) pe_int (nomark _)) (pw_and1 (pt_cmpR op_eq (pe_0 c__law_draw hr (by decide) (pa_cons (pv 0) (pa_cons pe_int pa_nil))) pe_int (nomark _)))).pt (pss_one (ps_set (i := 5) sc__law_step.nd rfl (Or.inl rfl) (pe_op op_add (pv 5) pe_int))))
      (pss_cons (ps_set (i := 6) sc__law_step.nd rfl (Or.inl rfl) (pe_op op_sub (pe_0 c__law_draw hr (by decide) (pa_cons (pv 0) (pa_cons pe_int pa_nil))) pe_int))
      (pss_one (ps_ret (pe_tup (pa_cons pe_str (pa_cons (pv 5) (pa_cons (pv 6) (pa_cons (pe_op op_sub (pe_0 c__law_draw hr (by decide) (pa_cons (pv 0) (pa_cons pe_int pa_nil))) pe_int) pa_nil))))))))))), ?_⟩
    refine ⟨_, rfl, d, l, _, rfl, by decide, hD, fun r1 H1 _ _ hD1 b1 => ⟨rfl, _, rfl, ?_⟩⟩
    refine iteB (fun _ => ?_) (fun _ => ?_)
    · refine ⟨_, rfl, d, l, _, rfl, by decide, hD1, fun r2 H2 r20 r21 hD2 b2 => ⟨_, _, rfl, rfl, ?_⟩⟩
      refine ⟨_, rfl, d, l, _, rfl, by decide, hD2, fun r3 H3 _ _ hD3 b3 => ⟨rfl, _, rfl, ?_⟩⟩
      have b03 := (b1.trans b2).trans b3
      refine iteB (fun _ => ?_) (fun _ => ?_)
      · refine ⟨_, rfl, d, l, _, rfl, by decide, hD3, fun r4 H4 r40 r41 hD4 b4 => ⟨_, _, rfl, rfl, ?_⟩⟩
        obtain ⟨n, rfl⟩ := Int.eq_ofNat_of_zero_le r20
        have b04 := b03.trans b4
        refine ⟨_, rfl, _, rfl, _, rfl, _, rfl, _, rfl, _, rfl, (by show 4 ≤ sizeLine; decide), fun q hq => ?_⟩
        refine ⟨_, rfl, _, rfl, _, rfl, q, _, rfl, SqL.of upd_same, fun q2 hq2 => .inl ⟨q2, _, rfl, SqL.of upd_same, fun q3 hq3 => ⟨by show 2 ≤ sizeLine; decide, fun p hp => ?_⟩⟩⟩
        have e4 : (1 + (n : Int)) = ((1 + n : Nat) : Int) := by omega
        refine k p (.weigh (([1 + r4, -(1 + r4), 1 + r4, -(1 + r4)] : List Int).take (1 + n))) _ (b04.free hD4.there ((same_upd (same_upd (same_new hq) hq2) hq3).free hp)) ⟨q3, upd_same, ?_⟩ ⟨?_, ?_, ?_⟩ ⟨?_, ?_⟩
          (hD4.mono (same_upd (same_upd (same_upd (same_new hq) hq2) hq3) hp)) (b04.trans (But.of (same_upd (same_upd (same_upd (same_new hq) hq2) hq3) hp)))
        · rw [kept upd_same hp, e4, cutV_take, List.map_take]; rfl
        · rw [List.length_take]; simp only [List.length_cons, List.length_nil]; omega
        · rw [List.length_take]; simp only [List.length_cons, List.length_nil]; omega
        · intro v m
          have := List.mem_of_mem_take m
          simp only [List.mem_cons, List.not_mem_nil, or_false] at this
          omega
        · rw [List.length_take]; simp only [List.length_cons, List.length_nil]; omega
        · intro v m
          have := List.mem_of_mem_take m
          simp only [List.mem_cons, List.not_mem_nil, or_false] at this
          omega
      · obtain ⟨n, rfl⟩ := Int.eq_ofNat_of_zero_le r20
        refine ⟨_, rfl, _, rfl, by omega, by omega, fun D hD0 => lc_range (fun i H' => ∃ row : List Int, row.length = i ∧ (∀ v ∈ row, -7 ≤ v ∧ v ≤ 7) ∧ H' D = some (.lst (row.map V.int)) ∧ DrawsAt H' d l ∧ But d H3 H')
          ⟨[], rfl, fun _ m => (nomatch m), upd_same, hD3.mono (same_new hD0), But.of (same_new hD0)⟩ ?_ ?_⟩
        · rintro i H' hi ⟨row, hl, hv, hDl, hDr, hB⟩
          refine ⟨rfl, ?_⟩
          unfold tYes
          dsimp only
          rw [if_pos rfl]
          refine ⟨_, rfl, d, l, _, rfl, by decide, hDr, fun r H'' r0 r1 hDr' hB' => ⟨_, _, rfl, rfl, ?_⟩⟩
          have nDd : D ≠ d := fun q => by
            obtain ⟨o, ho⟩ := hD3.there
            rw [q, ho] at hD0
            cases hD0
          have nDl : D ≠ l := fun q => by
            obtain ⟨o, ho⟩ := hD3.there2
            rw [q, ho] at hD0
            cases hD0
          refine ⟨_, hB' D _ nDd hDl, ?_, row ++ [r - 7], ?_, ?_, ?_, hDr'.updO nDd nDl, ?_⟩
          · rw [List.length_map]; exact small6 (by omega)
          · rw [List.length_append, hl]; rfl
          · intro v m
            rcases List.mem_append.mp m with m | m
            · exact hv v m
            · simp only [List.mem_cons, List.not_mem_nil, or_false] at m
              omega
          · rw [upd_same, List.map_append]; rfl
          · intro b' o hb' e
            rw [upd_ne (ne_of_none e hD0)]
            exact hB' _ _ hb' (hB _ _ hb' e)
        · rintro H' ⟨row, hl, hv, hDl, hDr, hB⟩
          refine .inl ⟨D, _, rfl, SqL.of hDl, fun q hq => ⟨by show 2 ≤ sizeLine; decide, fun p hp => ?_⟩⟩
          have b04 := b03.trans hB
          refine k p (.weigh row) _ (b04.free hDr.there ((same_new hq).free hp)) ⟨q, upd_same, kept upd_same hp⟩ ⟨by omega, by omega, fun v m => ?_⟩ ⟨by omega, hv⟩ (hDr.mono (same_upd (same_new hq) hp)) (b04.trans (But.of (same_upd (same_new hq) hp)))
          have := hv v m
          omega
    · refine g_next (g_setC ⟨fun σ H' => ∃ kk : Nat, σ = [some (.ref d), some (.int b), none, none, none, some (.int kk), none] ∧ 1 ≤ kk ∧ b ^ kk ≤ 60 ∧ DrawsAt H' d l ∧ But d H H', ?_, ?_⟩)
      · refine ⟨fun m σ H' => ∃ kk : Nat, m = 6 - kk ∧ σ = [some (.ref d), some (.int b), none, none, none, some (.int kk), none] ∧ 1 ≤ kk ∧ b ^ kk ≤ 60 ∧ DrawsAt H' d l ∧ But d H H', ⟨5, 1, rfl, rfl, Nat.le_refl _, by rw [Nat.pow_one]; omega, hD1, b1⟩, ?_⟩
        rintro m σ H' ⟨kk, rfl, rfl, k1, k60, hDk, hBk⟩
        have k5 := pow60 (by omega) k60
        refine ⟨_, rfl, _, rfl, _, _, rfl, rfl, _, _, rfl, ⟨by omega, by omega⟩, ⟨by omega, by omega⟩, _, _, rfl, rfl, _, rfl, ?_⟩
        have e1 : ((kk : Int) + 1).toNat = kk + 1 := by omega
        rw [e1, Int.toNat_natCast]
        by_cases c : b ^ (kk + 1) ≤ 60
        · refine iteT' (decide_eq_true (by omega)) ⟨_, rfl, d, l, _, rfl, by decide, hDk, fun r H'' r0 r1 hDr hBr => ⟨rfl, _, rfl, ?_⟩⟩
          refine iteB (fun _ => ?_) (fun _ => ⟨kk, rfl, k1, k60, hDr, hBk.trans hBr⟩)
          exact ⟨_, fun _ _ h => h, _, rfl, _, _, rfl, rfl, 6 - (kk + 1), by omega, kk + 1, rfl, rfl, by omega, c, hDr, hBk.trans hBr⟩
        · refine iteF' (decide_eq_false (by omega)) ?_
          exact iteF ⟨kk, rfl, k1, k60, hDk, hBk⟩
      · rintro σ H' ⟨kk, rfl, k1, k60, hDk, hBk⟩
        have k5 := pow60 (by omega) k60
        refine ⟨_, rfl, d, l, _, rfl, by decide, hDk, fun rx H2 x0 x1 hD2 b2 => ⟨_, _, rfl, rfl, _, rfl, _, rfl, _, rfl, d, l, _, rfl, by decide, hD2, fun ry H3 y0 y1 hD3 b3 => ⟨_, _, rfl, rfl, by show 4 ≤ sizeLine; decide, fun p hp => ?_⟩⟩⟩
        have b03 := (hBk.trans b2).trans b3
        exact k p (.fold kk (rx - 6) (ry - 12)) _ (b03.free hD3.there hp) upd_same ⟨k1, k5, k60, by omega, by omega⟩ ⟨by omega, by omega⟩ (hD3.mono (same_new hp)) (b03.trans (But.of (same_new hp)))
end

end Fold
namespace Fold
open PySem PySem.Spec PyProof.Rows L2
section
variable {P : Program} {w : World} {K : PySem.W.Frag} {mg : Str → Option Value} {base : Heap} {a : Ad}
theorem tail_mod (n P : Int) : n - n / P * P = n % P := by rw [Int.emod_def, Int.mul_comm]
theorem ok__law_made (T : Txt K mg a) : C0 P w K mg base 2 "_law_made" sp_after := by
  have c__law_power := ok__law_power (P := P) (w := w) (base := base) T
  refine T.d__law_made.c0 sc__law_made (fun vs H Q E h => ?_) (fun f cdv A outer s H vs Q E hr h => ?_)
  · obtain ⟨b, r, n, s, rfl, _⟩ := h
    rfl
  · obtain ⟨b, p, n, s, rfl, hb, hs, ho, hn, k⟩ := h
    obtain ⟨b, rfl⟩ := Int.eq_ofNat_of_zero_le (show 0 ≤ b by omega)
    obtain ⟨n, rfl⟩ := Int.eq_ofNat_of_zero_le hn
    refine ⟨_, (pss_cons (ps_if (pt_cmpR op_eq (pe_ix ix_tup (pv 1) pe_int (fun _ _ => rfl)) pe_str (nomark _)) (pss_cons (ps_set (i := 3) sc__law_made.nd rfl (Or.inl rfl) (pe_0 c__law_power hr (by decide) (pa_cons (pv 0) (pa_cons (pe_ix ix_tup (pv 1) pe_int (fun _ _ => rfl)) pa_nil))))
      (pss_cons (ps_set (i := 4) sc__law_made.nd rfl (Or.inl rfl) (pe_op op_fdivW (pv 2) (pv 3)))
      (pss_cons (ps_set (i := 5) sc__law_made.nd rfl (Or.inl rfl) (pe_op op_sub (pv 2) (pe_op op_mul (pv 4) (pv 3))))
      (pss_one (ps_ret (pe_callB call_abs (by rfl) T.n_abs b_abs (pa_cons (pe_op op_add (pe_op op_mul (pe_ix ix_tup (pv 1) pe_int (fun _ _ => rfl)) (pv 4)) (pe_op op_mul (pe_ix ix_tup (pv 1) pe_int (fun _ _ => rfl)) (pv 5))) pa_nil))))))) pss_nil)
      (pss_cons (ps_set (i := 6) sc__law_made.nd rfl (Or.inl rfl) pe_int)
      (pss_cons (ps_set (i := 7) sc__law_made.nd rfl (Or.inl rfl) pe_int)
      (pss_cons (ps_while PassesOwn.never (pt_cmpR op_gt (pv 2) pe_int (nomark _)) (pss_cons (ps_set (i := 8) sc__law_made.nd rfl (Or.inl rfl) (pe_ix ix_tup (pe_ix ix_tup (pv 1) pe_int (fun _ _ => rfl)) (pe_op op_mod (pv 7) (pe_callB call_len_seq (by rfl) T.n_len b_len (pa_cons (pe_ix ix_tup (pv 1) pe_int (fun _ _ => rfl)) pa_nil))) (fun _ _ => rfl)))
      (pss_cons (ps_set (i := 6) sc__law_made.nd rfl (Or.inl rfl) (pe_op op_add (pv 6) (pe_op op_mul (pv 8) (pe_op op_mod (pv 2) (pv 0)))))
      (pss_cons (ps_set (i := 2) sc__law_made.nd rfl (Or.inl rfl) (pe_op op_fdivW (pv 2) (pv 0)))
      (pss_one (ps_set (i := 7) sc__law_made.nd rfl (Or.inl rfl) (pe_op op_add (pv 7) pe_int)))))))
      (pss_one (ps_ret (pe_callB call_abs (by rfl) T.n_abs b_abs (pa_cons (pv 6) pa_nil)))))))), ?_⟩
    cases s with
    | weigh row =>
      obtain ⟨r, h1, h2⟩ := hs
      refine ⟨_, rfl, _, _, _, _, rfl, rfl, SqT.of h1, rfl, rfl, _, rfl, iteF' (by decide +kernel) (g_next (g_setC (g_setC (g_seq ?_))))⟩
      have hl : 0 < row.length := ho.1
      refine ⟨fun mm σ H' => H' = H ∧ ∃ (m i : Nat) (t : Int) (v : Option V), mm = m ∧ σ = [some (.int b), some (.ref p), some (.int m), none, none, none, some (.int t), some (.int i), v] ∧ t + wsum b row m i = wsum b row n 0, ⟨n, rfl, n, 0, 0, none, rfl, rfl, by omega⟩, ?_⟩
      rintro mm σ H' ⟨rfl, m, i, t, v, rfl, rfl, ht⟩
      refine ⟨_, rfl, _, _, rfl, rfl, _, rfl, ?_⟩
      by_cases hm : mm = 0
      · subst hm
        refine iteF' rfl ⟨_, rfl, _, rfl, ?_⟩
        rw [wsum_zero] at ht
        exact q_eq k (by rw [abs_nat, show t = wsum b row n 0 by omega]; rfl)
      · have hm0 : 0 < mm := by omega
        refine iteT' (decide_eq_true (by omega)) ?_
        have hi : i % row.length < row.length := Nat.mod_lt _ hl
        have hx : (row.map V.int)[i % row.length]? = some (.int (row.getD (i % row.length) 0)) := by
          rw [List.getElem?_map, List.getElem?_eq_getElem hi, List.getD_eq_getElem?_getD, List.getElem?_eq_getElem hi]; rfl
        have hd : 0 ≤ (mm : Int) % (b : Int) := Int.emod_nonneg _ (by omega)
        have hd2 : (mm : Int) % (b : Int) < b := Int.emod_lt_of_pos _ (by omega)
        refine ⟨_, fun _ _ h => h, ?_⟩
        refine ⟨_, rfl, _, _, _, _, rfl, rfl, SqT.of h1, rfl, _, rfl, _, rfl, _, _, _, _, rfl, rfl, SqT.of h1, rfl, r, _, rfl, .inr (SqT.of h2), _, _, rfl, rfl, by rw [List.length_map]; omega, r, _, _, _, rfl, rfl, SqT.of h2, at_of (j := i % row.length) (by rw [List.length_map]; rfl) hx, ?_⟩
        refine ⟨_, rfl, _, rfl, _, rfl, _, rfl, _, _, rfl, rfl, (show (0 : Int) < b by omega), _, _, rfl, rfl, .inr ⟨by omega, by omega⟩, _, _, rfl, rfl, ?_⟩
        refine ⟨_, rfl, _, rfl, _, _, rfl, rfl, wdiv (by omega) (by omega), _, rfl, _, _, rfl, rfl, mm / b, Nat.div_lt_self hm0 (by omega), rfl, mm / b, i + 1, t + row.getD (i % row.length) 0 * ((mm % b : Nat) : Int), _, rfl, rfl, ?_⟩
        rw [wsum_pos row i (by omega) hm0] at ht
        omega
    | fold kk x y =>
      have hs : H p = _ := hs
      obtain ⟨o1, o2, o3, o4, o5⟩ := ho
      have hP : 0 < b ^ kk := Nat.pow_pos (by omega)
      have o3 : b ^ kk ≤ 60 := o3
      refine ⟨_, rfl, _, _, _, _, rfl, rfl, SqT.of hs, rfl, rfl, _, rfl, iteT' (by decide +kernel) ⟨_, rfl, _, rfl, _, _, _, _, rfl, rfl, SqT.of hs, rfl, _, _, rfl, ⟨by omega, by omega⟩, ⟨by omega, by omega⟩, ?_⟩⟩
      refine ⟨_, rfl, _, rfl, _, _, rfl, rfl, wdiv (show (0 : Int) < ((b ^ kk : Nat) : Int) by omega) (show ((b ^ kk : Nat) : Int) < _ by omega), ?_⟩
      refine ⟨_, rfl, _, rfl, _, rfl, _, _, rfl, rfl, .inr ⟨show -(2 ^ 64) < ((b ^ kk : Nat) : Int) by omega, show ((b ^ kk : Nat) : Int) < 2 ^ 64 by omega⟩, _, _, rfl, rfl, ?_⟩
      refine ⟨_, rfl, _, _, _, _, rfl, rfl, SqT.of hs, rfl, _, rfl, _, _, rfl, rfl, .inl ⟨by omega, by omega⟩, _, rfl, _, _, _, _, rfl, rfl, SqT.of hs, rfl, _, rfl, _, _, rfl, rfl, .inl ⟨by omega, by omega⟩, _, _, rfl, rfl, _, rfl, ?_⟩
      exact q_eq k (by rw [abs_nat]; simp only [tail_mod]; rfl)
end

end Fold
namespace Fold
open PySem PySem.Spec PyProof.Rows L2
section
variable {P : Program} {w : World} {K : PySem.W.Frag} {mg : Str → Option Value} {base : Heap} {a : Ad}
def sp_law_refused : Sp := fun vs H Q _ => ∃ (v u : V), vs = [v, u] ∧ (∃ t, Kn H v t) ∧ KnT H u ∧ okB H v u = false ∧ ∀ H', Same H H' → Q (.bl true) H'
theorem ok__law_refused (T : Txt K mg a) : C0 P w K mg base 6 "_law_refused" sp_law_refused := by
  have c_made := ok_made (P := P) (w := w) (base := base) T
  refine T.d__law_refused.c0 sc__law_refused (fun vs H Q E h => ?_) (fun f cdv A outer s H vs Q E hr h => ?_)
  · obtain ⟨v, u, rfl, _⟩ := h
    rfl
  · obtain ⟨v, u, rfl, kv, ku, ho, k⟩ := h
    refine ⟨_, (pss_cons (ps_set (i := 2) sc__law_refused.nd rfl (Or.inl rfl) pe_bl)
      (pss_cons (ps_try_only rfl rfl T.x_BadStep.names takes0 (fun W pn xe tkb po => (pss_one (ps_expr (pe_1 c_made hr (by decide) tkb (by exact (pa_cons (pv 0) (pa_cons (pv 1) (pa_cons pe_int pa_nil)))))))) (fun _ _ _ _ _ _ _ => (pss_one (ps_set (i := 2) sc__law_refused.nd rfl (Or.inl rfl) pe_bl))))
      (pss_one (ps_ret (pv 2))))), ?_⟩
    refine g_setC ?_
    refine ⟨_, rfl, _, rfl, v, u, 5, rfl, kv, ku, by decide, fun c => ?_, fun _ H' s' => ⟨true, T.x_BadStep.exm T.x_BadStep T.sub_BadStep_BadStep, fun _ e _ => ⟨_, rfl, k H' s'⟩, fun q => nomatch q⟩⟩
    rw [ho] at c
    cases c
/-! ### strange things -/
/-- a tuple, that is no step for any base -/
inductive OddT (H : Hp) : V → Prop
  | flat {p : Addr} {xs : List V} (e : H p = some (.tup xs)) (sc : ∀ x ∈ xs, ∀ r, x ≠ .ref r) (kn : KnAll H xs) (no : ∀ z r, xs = .str z :: r → z = "fold" → ∀ b, foldB b xs = false) : OddT H (.ref p)
  | row {p r : Addr} {z : Str} {ws : List V} (e : H p = some (.tup [.str z, .ref r])) (e2 : H r = some (.tup ws)) (kn : KnAll H ws) (no : rowB ws = false) : OddT H (.ref p)
theorem weighB_flat {H : Hp} {xs : List V} (sc : ∀ x ∈ xs, ∀ r, x ≠ .ref r) : weighB H xs = false := by
  unfold weighB
  split
  · rename_i z r
    exact absurd rfl (sc (.ref r) (by simp) r)
  · rfl
theorem okB_of {H : Hp} {v u : V} (h : ∀ b, stepB b H u = false) : okB H v u = false := by rw [okB, h, Bool.and_false]
theorem OddT.no {H : Hp} {v : V} (o : OddT H v) : KnT H v ∧ ∀ b, stepB b H v = false := by
  cases o with
  | flat e sc kn no =>
    refine ⟨⟨⟨_, .tup e⟩, fun q xs e1 e2 => ?_⟩, fun b => ?_⟩
    · cases e1
      rw [e] at e2
      cases e2
      exact ⟨kn, fun r ws m _ => absurd rfl (sc _ m r)⟩
    · unfold stepB
      rename_i p xs
      simp only [e]
      cases xs with
      | nil => rfl
      | cons x r =>
        cases x with
        | str z =>
          have n2 := no z r rfl
          by_cases n1 : z = "weigh"
          · simp only [if_pos n1, weighB_flat sc]
          · simp only [if_neg n1]
            by_cases c : z = "fold"
            · rw [n2 c b, Bool.and_false]
            · rw [decide_eq_false c, Bool.false_and]
        | _ => rfl
  | @row p r z ws e e2 kn no =>
    refine ⟨⟨⟨_, .tup e⟩, fun q xs e1 e3 => ?_⟩, fun b => ?_⟩
    · cases e1
      rw [e] at e3
      cases e3
      refine ⟨fun x m => ?_, fun r' ws' m e4 => ?_⟩
      · simp only [List.mem_cons, List.not_mem_nil, or_false] at m
        rcases m with rfl | rfl
        · exact ⟨_, .str _⟩
        · exact ⟨_, .tup e2⟩
      · simp only [List.mem_cons, List.not_mem_nil, or_false, reduceCtorEq, false_or, V.ref.injEq] at m
        subst m
        rw [e2] at e4
        cases e4
        exact kn
    · unfold stepB
      simp only [e, weighB, e2, no, foldB, Bool.and_false]
      split <;> rfl
theorem OddT.mono {H H' : Hp} (s : ∀ b xs, H b = some (.tup xs) → H' b = some (.tup xs)) (kn' : ∀ xs, KnAll H xs → KnAll H' xs) {v : V} (o : OddT H v) : OddT H' v := by
  cases o with
  | flat e sc kn no => exact .flat (s _ _ e) sc (kn' _ kn) no
  | row e e2 kn no => exact .row (s _ _ e) (s _ _ e2) (kn' _ kn) no
/-- a thing that is no step for any base, told by what it is -/
inductive Odd (H : Hp) : V → Prop
  | tup {v : V} (o : OddT H v) : Odd H v
  | non : Odd H .non
  | str (z : Str) : Odd H (.str z)
  | lst {p : Addr} {xs : List V} (e : H p = some (.lst xs)) : Odd H (.ref p)
  | rlst {p r : Addr} {z : Str} {ws : List V} (e : H p = some (.tup [.str z, .ref r])) (e2 : H r = some (.lst ws)) : Odd H (.ref p)
theorem Odd.no {H : Hp} {v : V} (o : Odd H v) : KnT H v ∧ ∀ b, stepB b H v = false := by
  cases o with
  | tup o => exact o.no
  | non => exact ⟨⟨⟨_, .non⟩, fun q xs e1 e2 => nomatch e1⟩, fun b => rfl⟩
  | str z => exact ⟨⟨⟨_, .str z⟩, fun q xs e1 e2 => nomatch e1⟩, fun b => rfl⟩
  | lst e =>
    refine ⟨⟨⟨_, .lst e⟩, fun q xs e1 e2 => ?_⟩, fun b => ?_⟩
    · cases e1
      rw [e] at e2
      cases e2
    · unfold stepB
      simp only [e]
  | @rlst p r z ws e e2 =>
    refine ⟨⟨⟨_, .tup e⟩, fun q xs e1 e3 => ?_⟩, fun b => ?_⟩
    · cases e1
      rw [e] at e3
      cases e3
      refine ⟨fun x m => ?_, fun r' ws' m e4 => ?_⟩
      · simp only [List.mem_cons, List.not_mem_nil, or_false] at m
        rcases m with rfl | rfl
        · exact ⟨_, .str _⟩
        · exact ⟨_, .lst e2⟩
      · simp only [List.mem_cons, List.not_mem_nil, or_false, reduceCtorEq, false_or, V.ref.injEq] at m
        subst m
        rw [e2] at e4
        cases e4
    · unfold stepB
      simp only [e, weighB, e2, foldB, Bool.and_false]
      split <;> rfl
theorem Odd.mono {H H' : Hp} (s : Same H H') {v : V} (o : Odd H v) : Odd H' v := by
  cases o with
  | tup o => exact .tup (o.mono (fun b xs e => s b _ e) fun xs k => k.mono s)
  | non => exact .non
  | str z => exact .str z
  | lst e => exact .lst (s _ _ e)
  | rlst e e2 => exact .rlst (s _ _ e) (s _ _ e2)
/-- behind a list that is changed -/
theorem OddT.put {H : Hp} {q : Addr} {xs ys : List V} (hq : H q = some (.lst xs)) {v : V} (o : OddT H v) : OddT (upd H q (.lst ys)) v := by
  have s1 : ∀ b xs, H b = some (.tup xs) → upd H q (.lst ys) b = some (.tup xs) := fun b zs e => keptN e (ne_of e hq (fun z => nomatch z))
  have kn' : ∀ xs, KnAll H xs → KnAll (upd H q (.lst ys)) xs := fun xs k x m => by
    obtain ⟨t, k⟩ := k x m
    cases k with
    | non => exact ⟨_, .non⟩
    | bl b => exact ⟨_, .bl b⟩
    | int i => exact ⟨_, .int i⟩
    | str z => exact ⟨_, .str z⟩
    | tup e => exact ⟨_, .tup (s1 _ _ e)⟩
    | @lst p xs e =>
      by_cases c : p = q
      · subst c; exact ⟨_, .lst upd_same⟩
      · exact ⟨_, .lst (keptN e c)⟩
  exact o.mono s1 kn'
/-! ### readings that make strange things -/
def TeOdd (te : TE) (σ : L2.St) : Prop := ∀ H Q, (∀ v H', Same H H' → Odd H' v → Q v H') → te σ H Q
def TeOddT (te : TE) (σ : L2.St) : Prop := ∀ H Q, (∀ v H', Same H H' → OddT H' v → Q v H') → te σ H Q
theorem TeOddT.odd {te : TE} {σ : L2.St} (h : TeOddT te σ) : TeOdd te σ := fun H Q k => h H Q fun v H' s o => k v H' s (.tup o)
def TaOdd (t : TA) (σ : L2.St) (n : Nat) : Prop := ∀ H Q, (∀ vs H', Same H H' → (∀ v ∈ vs, Odd H' v) → vs.length = n → Q vs H') → t σ H Q
theorem TaOdd.nil {σ : L2.St} : TaOdd tNil σ 0 := fun H Q k => k [] H (Same.refl _) (fun _ m => nomatch m) rfl
theorem TaOdd.cons {te : TE} {t : TA} {σ : L2.St} {n : Nat} (a : TeOdd te σ) (b : TaOdd t σ n) : TaOdd (tCons te t) σ (n + 1) := fun H Q k =>
  a _ _ fun v H1 s1 o1 => b _ _ fun vs H2 s2 o2 e => k _ _ (s1.trans s2) (fun x m => by
    rcases List.mem_cons.mp m with rfl | m
    · exact o1.mono s2
    · exact o2 x m) (by rw [List.length_cons, e])
theorem TeOdd.non {σ : L2.St} : TeOdd (tC .non) σ := fun H Q k => k _ _ (Same.refl _) .non
theorem TeOdd.str {σ : L2.St} (z : Str) : TeOdd (tC (.str z)) σ := fun H Q k => k _ _ (Same.refl _) (.str z)
/-- the values are reckoned without a change -/
def TaFlat (t : TA) (σ : L2.St) (vs : List V) : Prop := ∀ H Q, Q vs H → t σ H Q
theorem TeOddT.flat {t : TA} {σ : L2.St} {vs : List V} (h : TaFlat t σ vs) (sz : vs.length ≤ 10) (sc : vs.all (fun x => match x with | .ref _ => false | .byt _ => false | .flt _ => false | .ty _ => false | _ => true) = true)
    (no : ∀ z r, vs = .str z :: r → z = "fold" → ∀ b, foldB b vs = false) : TeOddT (tTup t) σ := fun H Q k => by
  refine h _ _ ⟨Nat.le_trans sz (by decide), fun p hp => k _ _ (same_new hp) (.flat upd_same (fun x m r e => ?_) (fun x m => ?_) no)⟩
  · subst e
    have := List.all_eq_true.mp sc _ m
    simp at this
  · have := List.all_eq_true.mp sc _ m
    cases x with
    | non => exact ⟨_, .non⟩
    | bl b => exact ⟨_, .bl b⟩
    | int i => exact ⟨_, .int i⟩
    | str z => exact ⟨_, .str z⟩
    | ref r => simp at this
    | byt b => simp at this
    | flt b => simp at this
    | ty n => simp at this
theorem TeOdd.lst {t : TA} {σ : L2.St} {vs : List V} (h : TaFlat t σ vs) (sz : vs.length ≤ 10) : TeOdd (tLst t) σ := fun H Q k =>
  h _ _ ⟨Nat.le_trans sz (by decide), fun p hp => k _ _ (same_new hp) (.lst upd_same)⟩
/-- ("weigh", a list) -/
theorem TeOdd.rlst {t : TA} {σ : L2.St} {vs : List V} {z : Str} (h : TaFlat t σ vs) (sz : vs.length ≤ 10) : TeOdd (tTup (tCons (tC (.str z)) (tCons (tLst t) tNil))) σ := fun H Q k =>
  h _ _ ⟨Nat.le_trans sz (by decide), fun p hp => ⟨by show 2 ≤ sizeLine; decide, fun q hq => k _ _ (same_upd (same_new hp) hq) (.rlst upd_same (kept upd_same hq))⟩⟩
/-- ("weigh", a tuple) -/
def TeTup (te : TE) (σ : L2.St) (ws : List V) : Prop := ∀ H Q, (∀ p H', Same H H' → H' p = some (.tup ws) → Q (.ref p) H') → te σ H Q
theorem TeOdd.row {te : TE} {σ : L2.St} {ws : List V} {z : Str} (h : TeTup te σ ws) (kn : ∀ H, KnAll H ws) (no : rowB ws = false) : TeOdd (tTup (tCons (tC (.str z)) (tCons te tNil))) σ := fun H Q k =>
  h _ _ fun r H1 s1 e => ⟨by show 2 ≤ sizeLine; decide, fun q hq => k _ _ (same_upd s1 hq) (.tup (.row upd_same (kept e hq) (kn _) no))⟩
theorem TeTup.flat {t : TA} {σ : L2.St} {vs : List V} (h : TaFlat t σ vs) (sz : vs.length ≤ 10) : TeTup (tTup t) σ vs := fun H Q k =>
  h _ _ ⟨Nat.le_trans sz (by decide), fun p hp => k _ _ (same_new hp) upd_same⟩
theorem TeTup.rep {K : PySem.W.Frag} {t : TA} {σ : L2.St} {v : V} {n : Int} (h : TaFlat t σ [v]) (h1 : 2 ≤ n) (h2 : n ≤ 10) : TeTup (tOp (rRepT K) (tTup t) (tC (.int n))) σ (List.replicate n.toNat [v]).flatten := fun H Q k =>
  h _ _ ⟨by show 1 ≤ sizeLine; decide, fun p hp => ⟨p, n, [v], rfl, rfl, SqT.of upd_same, by simp, h1, by omega, by show 1 ≤ 1000; decide, fun q hq => k q _ (same_upd (same_new hp) hq) upd_same⟩⟩
/-- a list of strange things -/
def OddL (H : Hp) (q : Addr) (n : Nat) : Prop := ∃ xs, H q = some (.lst xs) ∧ (∀ v ∈ xs, Odd H v) ∧ xs.length = n
theorem OddL.mono {H H' : Hp} (s : Same H H') {q : Addr} {n : Nat} (h : OddL H q n) : OddL H' q n := by
  obtain ⟨xs, h1, h2, h3⟩ := h
  exact ⟨xs, s _ _ h1, fun v m => (h2 v m).mono s, h3⟩
theorem g_setOdd {t : TA} {u : TS} {D : Ends} {σ : L2.St} {H : Hp} {i n : Nat} (A : TaOdd t σ n) (hn : n ≤ 100) (k : ∀ q H0 H1, Same H H0 → H0 q = none → (∃ xs, H1 = upd H0 q (.lst xs) ∧ (∀ v ∈ xs, Odd H0 v) ∧ xs.length = n) → u D (σ.set i (some (.ref q))) H1) :
    tSeq (tAsg (tLst t) (gName i)) u D σ H :=
  A _ _ fun xs H1 s1 o1 l1 => ⟨Nat.le_trans (Nat.le_of_eq l1) (Nat.le_trans hn (by decide)), fun q hq => k q H1 _ s1 hq ⟨xs, rfl, o1, l1⟩⟩
theorem g_appOdd {K : PySem.W.Frag} {te : TE} {u : TS} {D : Ends} {σ : L2.St} {H H0 : Hp} {i n : Nat} {q : Addr} {xs : List V} (hσ : σ[i]? = some (some (.ref q))) (h0 : H0 q = none) (e0 : H = upd H0 q (.lst xs)) (o : ∀ v ∈ xs, Odd H0 v) (hl : xs.length = n) (hn : n ≤ 100) (A : TeOddT te σ)
    (k : ∀ H1, Same H0 H1 → OddL H1 q (n + 1) → u D σ H1) : tSeq (tDrop (tBM K "list" rAppend (tVar i) (tCons te tNil))) u D σ H := by
  subst e0
  refine ⟨_, hσ, .inl ⟨rfl, _, SqL.of upd_same⟩, A _ _ fun v H2 s2 o2 => ?_⟩
  have hq := s2 q _ upd_same
  have s3 : Same H0 (upd H2 q (.lst (xs ++ [v]))) := But.same (But.trans (But.of ((same_new h0).trans s2)) But.upd) h0
  refine ⟨q, xs, v, rfl, rfl, hq, by rw [hl]; exact Nat.lt_of_le_of_lt hn (by decide), k _ s3 ⟨_, upd_same, fun x m => ?_, by rw [List.length_append, hl]; rfl⟩⟩
  rcases List.mem_append.mp m with m | m
  · exact (o x m).mono s3
  · simp only [List.mem_cons, List.not_mem_nil, or_false] at m
    subst m
    exact .tup (o2.put hq)
theorem g_catOdd {t : TA} {u : TS} {D : Ends} {σ : L2.St} {H : Hp} {i n m : Nat} {q : Addr} (hσ : σ[i]? = some (some (.ref q))) (o : OddL H q n) (A : TaOdd t σ m) (hn : n ≤ 100) (hm : m ≤ 100)
    (k : ∀ q' H1, Same H H1 → OddL H1 q' (n + m) → u D (σ.set i (some (.ref q'))) H1) : tSeq (tAsg (tOp rCat (tVar i) (tLst t)) (gName i)) u D σ H := by
  obtain ⟨xs, h1, h2, h3⟩ := o
  refine ⟨_, hσ, A _ _ fun ys H2 s2 o2 l2 => ⟨Nat.le_trans (Nat.le_of_eq l2) (Nat.le_trans hm (by decide)), fun r hr => ⟨q, r, xs, ys, rfl, rfl, kept (s2 _ _ h1) hr, upd_same, ?_, fun p hp => ?_⟩⟩⟩
  · rw [h3, l2]
    exact Nat.le_trans (Nat.add_le_add hn hm) (by decide)
  · have s3 := same_upd (o := HO.lst (xs ++ ys)) (same_new (o := HO.lst ys) hr) hp
    refine k p _ (s2.trans s3) ⟨_, upd_same, fun x mm => ?_, by rw [List.length_append, h3, l2]⟩
    rcases List.mem_append.mp mm with mm | mm
    · exact (h2 x mm).mono (s2.trans s3)
    · exact (o2 x mm).mono s3
theorem noF {r : List V} (h : ∀ b, foldB b (.str "fold" :: r) = false) : ∀ z r', (V.str "fold" :: r) = .str z :: r' → z = "fold" → ∀ b, foldB b (V.str "fold" :: r) = false := fun _ _ _ _ => h
theorem noZ {x : V} {r : List V} (h : x ≠ .str "fold") : ∀ z r', (x :: r) = .str z :: r' → z = "fold" → ∀ b, foldB b (x :: r) = false := fun z r' e c => by
  injection e with e1 e2
  exact absurd (e1.trans (by rw [c])) h
theorem Odd.but {H H' : Hp} {d l : Addr} (hD : DrawsAt H d l) (hD' : DrawsAt H' d l) (u : But d H H') {v : V} (o : Odd H v) : Odd H' v := by
  obtain ⟨ns, i, g, e, h1, h2⟩ := hD
  obtain ⟨ns', i', g', e', h1', h2'⟩ := hD'
  have s1 : ∀ b xs, H b = some (.tup xs) → H' b = some (.tup xs) := fun b zs e => u b _ (ne_of e h1 (fun z => nomatch z)) e
  have sl : ∀ b xs, H b = some (.lst xs) → ∃ ys, H' b = some (.lst ys) := fun b zs e => by
    by_cases c : b = d
    · subst c; exact ⟨_, h1'⟩
    · exact ⟨_, u b _ c e⟩
  have kn' : ∀ xs, KnAll H xs → KnAll H' xs := fun xs k x m => by
    obtain ⟨t, k⟩ := k x m
    cases k with
    | non => exact ⟨_, .non⟩
    | bl b => exact ⟨_, .bl b⟩
    | int i => exact ⟨_, .int i⟩
    | str z => exact ⟨_, .str z⟩
    | tup e => exact ⟨_, .tup (s1 _ _ e)⟩
    | lst e =>
      obtain ⟨ys, e'⟩ := sl _ _ e
      exact ⟨_, .lst e'⟩
  cases o with
  | tup o => exact .tup (o.mono s1 kn')
  | non => exact .non
  | str z => exact .str z
  | lst e =>
    obtain ⟨ys, e'⟩ := sl _ _ e
    exact .lst e'
  | rlst e e2 =>
    obtain ⟨ys, e'⟩ := sl _ _ e2
    exact .rlst (s1 _ _ e) e'
end

end Fold
namespace Fold
open PySem PySem.Spec PyProof.Rows L2
/-- the law's promise -/
def spLaw (K : PySem.W.Frag) : Sp := fun vs H Q _ => ∃ (p : Addr) (ns : List Int), vs = [.ref p] ∧ SqL K H p (ns.map V.int) ∧ ns.length ≤ 63 ∧ ∀ H', Q (.bl true) H'

end Fold
namespace Fold
open PySem PySem.Spec PyProof.Rows L2
section
variable {P : Program} {w : World} {K : PySem.W.Frag} {mg : Str → Option Value} {base : Heap} {a : Ad}
theorem StepAt.but {H H' : Hp} {d l p : Addr} {s : Stp} (h : StepAt H p s) (hD : DrawsAt H d l) (b : But d H H') : StepAt H' p s := by
  obtain ⟨ns, i, g, e, h1, h2⟩ := hD
  have nt : ∀ {q : Addr} {xs : List V}, H q = some (.tup xs) → H' q = some (.tup xs) := fun {q xs} e => b q _ (ne_of e h1 (fun z => nomatch z)) e
  cases s with
  | fold k x y => exact nt h
  | weigh row =>
    obtain ⟨r, e1, e2⟩ := h
    exact ⟨r, nt e1, nt e2⟩
theorem pow126 {b e : Nat} (h1 : 1 ≤ b) (hb : b ≤ 12) (he : e ≤ 6) : b ^ e ≤ 2985984 := by
  have x1 : b ^ e ≤ b ^ 6 := Nat.pow_le_pow_right h1 he
  have x2 : b ^ 6 ≤ 12 ^ 6 := Nat.pow_le_pow_left hb 6
  have x3 : (12 : Nat) ^ 6 = 2985984 := by decide
  omega
theorem law_fn {f : Addr} {fd : FuncData} (T : Txt K mg a) (F : Fun K "law" "law" s_law f fd) : FnOk P w K mg base CX0 7 f fd ["_law_script"] (spLaw K) := by
  have c__law_begin := ok__law_begin (P := P) (w := w) (base := base) T; have c__law_step := ok__law_step (P := P) (w := w) (base := base) T; have c__law_refused := ok__law_refused (P := P) (w := w) (base := base) T; have c__law_draw := ok__law_draw (P := P) (w := w) (base := base) T; have c__law_power := ok__law_power (P := P) (w := w) (base := base) T; have c_made := ok_made (P := P) (w := w) (base := base) T; have c__law_made := ok__law_made (P := P) (w := w) (base := base) T
  refine F.ok sc_law (fun vs H Q E h => ?_) (fun cdv A outer s H vs Q E hr h => ?_)
  · obtain ⟨p, ns, rfl, _⟩ := h
    rfl
  · obtain ⟨sp, ns, rfl, hp, hn, k⟩ := h
    refine ⟨_, (pss_cons (ps_set (i := 1) sc_law.nd rfl (Or.inl rfl) (pe_0 c__law_begin hr (by decide) (pa_cons (pv 0) pa_nil)))
      (pss_cons (ps_set (i := 2) sc_law.nd rfl (Or.inl rfl) (pe_op op_add pe_int (pe_0 c__law_draw hr (by decide) (pa_cons (pv 1) (pa_cons pe_int pa_nil)))))
      (pss_cons (ps_set (i := 3) sc_law.nd rfl (Or.inl rfl) (pe_0 c__law_step hr (by decide) (pa_cons (pv 1) (pa_cons (pv 2) pa_nil))))
      (pss_cons (ps_for PassesOwn.never rfl (pi_range1 (by rfl) T.n_range (pa_cons pe_int pa_nil)) (pg_name (i := 4) sc_law.nd rfl (Or.inl rfl)) (pss_cons (ps_set (i := 5) sc_law.nd rfl (Or.inl rfl) (pe_0 c__law_draw hr (by decide) (pa_cons (pv 1) (pa_cons (pe_0 c__law_power hr (by decide) (pa_cons (pv 2) (pa_cons (pe_op op_add pe_int (pe_op op_mod (pv 4) pe_int)) pa_nil))) pa_nil))))
      (C8.pss_cut (ps_if (pt_cmpR op_gt (pv 4) pe_int (nomark _)) (pss_one (ps_set (i := 5) sc_law.nd rfl (Or.inl rfl) (pe_op op_add (pe_op op_mul (pv 5) pe_int) (pe_0 c__law_draw hr (by decide) (pa_cons (pv 1) (pa_cons pe_int pa_nil)))))) pss_nil)
      (pss_one (ps_if (pt_cmpR op_ne (pe_10 c_made hr (by decide) (pa_cons (pv 2) (pa_cons (pv 3) (pa_cons (pv 5) pa_nil)))) (pe_0 c__law_made hr (by decide) (pa_cons (pv 2) (pa_cons (pv 3) (pa_cons (pv 5) pa_nil)))) (nomark _)) (pss_one (ps_ret pe_bl)) pss_nil)))))
      (pss_cons (ps_set (i := 6) sc_law.nd rfl (Or.inl rfl) (pe_lst (pa_cons pe_non (pa_cons (pe_tup (pa_cons pe_str pa_nil)) (pa_cons (pe_tup (pa_cons pe_str (pa_cons pe_int (pa_cons pe_int pa_nil)))) (pa_cons (pe_tup (pa_cons pe_str (pa_cons pe_int (pa_cons pe_int (pa_cons pe_int pa_nil))))) (pa_cons (pe_tup (pa_cons pe_str (pa_cons pe_int (pa_cons pe_int (pa_cons pe_int pa_nil))))) (pa_cons (pe_tup (pa_cons pe_str (pa_cons pe_int (pa_cons pe_int (pa_cons pe_int pa_nil))))) pa_nil))))))))
      (pss_cons (ps_expr (pe_bm PySem.F.plainAttrs_list PySem.F.slot_list_append PySem.F.type_list_append mt_append (pv 6) (pa_cons (pe_tup (pa_cons pe_str (pa_cons pe_int (pa_cons pe_int (pa_cons (pe_un un_neg pe_int) pa_nil))))) pa_nil)))
      (pss_cons (ps_set (i := 6) sc_law.nd rfl (Or.inl rfl) (pe_op op_cat (pv 6) (pe_lst (pa_cons (pe_tup (pa_cons pe_str pa_nil)) (pa_cons (pe_tup (pa_cons pe_str (pa_cons (pe_tup pa_nil) pa_nil))) (pa_cons (pe_tup (pa_cons pe_str (pa_cons (pe_lst (pa_cons pe_int pa_nil)) pa_nil))) (pa_cons (pe_tup (pa_cons pe_str (pa_cons (pe_op op_repT (pe_tup (pa_cons pe_int pa_nil)) pe_int) pa_nil))) (pa_cons (pe_tup (pa_cons pe_str (pa_cons (pe_tup (pa_cons pe_int pa_nil)) pa_nil))) (pa_cons (pe_tup (pa_cons pe_str (pa_cons (pe_tup (pa_cons pe_bl pa_nil)) pa_nil))) pa_nil)))))))))
      (pss_cons (ps_set (i := 6) sc_law.nd rfl (Or.inl rfl) (pe_op op_cat (pv 6) (pe_lst (pa_cons (pe_tup (pa_cons pe_str (pa_cons pe_int (pa_cons pe_int (pa_cons pe_int pa_nil))))) (pa_cons (pe_lst (pa_cons pe_str (pa_cons pe_int (pa_cons pe_int (pa_cons pe_int pa_nil))))) (pa_cons (pe_tup (pa_cons pe_str (pa_cons pe_bl (pa_cons pe_int (pa_cons pe_int pa_nil))))) (pa_cons (pe_tup (pa_cons pe_str (pa_cons pe_int (pa_cons pe_int (pa_cons pe_int (pa_cons pe_int pa_nil)))))) (pa_cons (pe_tup (pa_cons pe_int (pa_cons pe_int pa_nil))) (pa_cons pe_str (pa_cons (pe_tup pa_nil) pa_nil))))))))))
      (pss_cons (ps_if (pw_or (pt_not (pt_val (pe_0 c__law_refused hr (by decide) (pa_cons (pv 2) (pa_cons (pe_ix ix_list (pv 6) (pe_0 c__law_draw hr (by decide) (pa_cons (pv 1) (pa_cons (pe_callB call_len_seq (by rfl) T.n_len b_len (pa_cons (pv 6) pa_nil)) pa_nil))) (fun _ _ => rfl)) pa_nil))))) (pw_or1 (pt_not (pt_val (pe_0 c__law_refused hr (by decide) (pa_cons pe_int (pa_cons (pe_tup (pa_cons pe_str (pa_cons pe_int (pa_cons pe_int (pa_cons pe_int pa_nil))))) pa_nil))))))).pt (pss_one (ps_ret pe_bl)) pss_nil)
      (pss_one (ps_ret (pe_0 c__law_refused hr (by decide) (pa_cons (pe_ix ix_list (pe_lst (pa_cons pe_int (pa_cons pe_int (pa_cons pe_int (pa_cons (pe_un un_neg pe_int) (pa_cons pe_non (pa_cons pe_bl (pa_cons pe_str pa_nil)))))))) (pe_0 c__law_draw hr (by decide) (pa_cons (pv 1) (pa_cons pe_int pa_nil))) (fun _ _ => rfl)) (pa_cons (pe_tup (pa_cons pe_str (pa_cons (pe_tup (pa_cons pe_int pa_nil)) pa_nil))) pa_nil)))))))))))))), ?_⟩
    refine ⟨_, rfl, sp, ns, rfl, hp, fun d l H1 d0 s1 hD1 => ?_⟩
    refine ⟨_, rfl, d, l, _, rfl, by decide, hD1, fun rb H2 b0 b1 hD2 u2 => ⟨_, _, rfl, rfl, ?_⟩⟩
    refine ⟨_, rfl, _, rfl, d, l, _, rfl, ⟨by omega, by omega⟩, hD2, fun p st H3 hp3 hS hO hL hD3 u3 => ?_⟩
    have hb : 2 ≤ 2 + rb ∧ 2 + rb ≤ 12 := by omega
    refine ⟨_, rfl, by decide, by decide, for_range (fun i σ H' => DrawsAt H' d l ∧ StepAt H' p st ∧ ∃ v5 v6, σ = [some (.ref sp), some (.ref d), some (.int (2 + rb)), some (.ref p), v5, v6, none]) ⟨hD3, hS, none, none, rfl⟩ ?_ ?_⟩
    · rintro i σ H' hi ⟨hD, hS, v5, v6, rfl⟩
      have hi2 : i < 12 := hi
      have he0 : 0 ≤ (0 + (i : Int)) % 6 := Int.emod_nonneg _ (by decide)
      have he6 : (0 + (i : Int)) % 6 < 6 := Int.emod_lt_of_pos _ (by decide)
      have hz : 0 < (2 + rb).toNat ^ (1 + (0 + (i : Int)) % 6).toNat ∧ (2 + rb).toNat ^ (1 + (0 + (i : Int)) % 6).toNat ≤ 2985984 := ⟨Nat.pow_pos (by omega), pow126 (by omega) (by omega) (by omega)⟩
      refine ⟨_, rfl, _, rfl, _, rfl, _, _, rfl, rfl, (show (0 : Int) < 6 by decide), _, _, rfl, rfl, _, _, rfl, ⟨by omega, by omega⟩, ⟨by omega, by omega⟩, d, l, _, rfl, ⟨by omega, by omega⟩, hD, fun rn H4 n0 n1 hD4 u4 => ?_⟩
      have hS4 := hS.but hD u4
      refine ⟨fun σ' H'' => DrawsAt H'' d l ∧ StepAt H'' p st ∧ ∃ n : Int, 0 ≤ n ∧ σ' = [some (.ref sp), some (.ref d), some (.int (2 + rb)), some (.ref p), some (.int (0 + i)), some (.int n), none], ?_, ?_⟩
      · refine ⟨_, rfl, _, _, rfl, rfl, _, rfl, iteB (fun _ => ?_) (fun _ => ⟨hD4, hS4, rn, n0, rfl⟩)⟩
        refine ⟨_, rfl, _, _, rfl, rfl, .inr ⟨by decide, by decide⟩, _, rfl, d, l, _, rfl, by decide, hD4, fun r2 H5 m0 m1 hD5 u5 => ⟨_, _, rfl, rfl, hD5, hS4.but hD4 u5, _, ?_, rfl⟩⟩
        omega
      · rintro σ' H'' ⟨hD5, hS5, n, hn0, rfl⟩
        refine ⟨_, rfl, _, rfl, _, rfl, _, _, n, rfl, ⟨_, .int _⟩, hS5.known, hn0, fun _ => ⟨_, p, st, rfl, rfl, hb, hS5, hO, fun H6 s6 => ?_⟩, fun c => ?_⟩
        · refine ⟨_, rfl, _, rfl, _, rfl, _, p, n, st, rfl, hb, hS5.mono s6, hO, hn0, rfl, _, rfl, iteF' (by simp) ?_⟩
          exact ⟨hD5.mono s6, hS5.mono s6, _, _, rfl⟩
        · rw [hS5.okI hb hO] at c
          cases c
    · rintro σ H' ⟨hD, hS, v5, v6, rfl⟩
      dsimp only
      refine g_setOdd (n := 6) ?_ (by decide) ?_
      · refine .cons .non (.cons (TeOddT.flat (vs := [.str "fold"]) (fun H Q k => k) (by decide) (by decide) (noF fun b => rfl)).odd (.cons (TeOddT.flat (vs := [.str "fold", .int 1, .int 1]) (fun H Q k => k) (by decide) (by decide) (noF fun b => rfl)).odd (.cons ?_ (.cons ?_ (.cons ?_ .nil)))))
        · exact (TeOddT.flat (vs := [.str "fold", .int 0, .int 1, .int 1]) (fun H Q k => k) (by decide) (by decide) (noF fun b => by simp [foldB])).odd
        · exact (TeOddT.flat (vs := [.str "fold", .int 6, .int 1, .int 1]) (fun H Q k => k) (by decide) (by decide) (noF fun b => by simp [foldB])).odd
        · exact (TeOddT.flat (vs := [.str "fold", .int 1, .int 13, .int 0]) (fun H Q k => k) (by decide) (by decide) (noF fun b => by simp [foldB, wholeB])).odd
      rintro q H4 H5 s4 q0 ⟨xs, e5, o5, l5⟩
      refine g_appOdd (i := 6) rfl q0 e5 o5 l5 (by decide) ?_ ?_
      · exact TeOddT.flat (vs := [.str "fold", .int 1, .int 0, .int (-13)]) (fun H Q k => ⟨13, rfl, k⟩) (by decide) (by decide) (noF fun b => by simp [foldB, wholeB])
      intro H6 s6 o6
      refine g_catOdd (i := 6) (m := 6) rfl o6 ?_ (by decide) (by decide) ?_
      · refine .cons ?_ (.cons ?_ (.cons ?_ (.cons ?_ (.cons ?_ (.cons ?_ .nil)))))
        · exact (TeOddT.flat (vs := [.str "weigh"]) (fun H Q k => k) (by decide) (by decide) (noZ (by decide +kernel))).odd
        · exact .row (.flat (vs := []) (fun H Q k => k) (by decide)) (fun _ _ m => nomatch m) rfl
        · exact .rlst (vs := [.int 1]) (fun H Q k => k) (by decide)
        · exact .row (.rep (v := .int 1) (fun H Q k => k) (by decide) (by decide)) (KnAll.ints · [1, 1, 1, 1, 1, 1, 1]) rfl
        · exact .row (.flat (vs := [.int 13]) (fun H Q k => k) (by decide)) (KnAll.ints · [13]) rfl
        · exact .row (.flat (vs := [.bl true]) (fun H Q k => k) (by decide)) (fun _ x m => ⟨"bool", by simp at m; subst m; exact .bl true⟩) rfl
      intro q7 H7 s7 o7
      refine g_catOdd (i := 6) (m := 7) rfl o7 ?_ (by decide) (by decide) ?_
      · refine .cons ?_ (.cons ?_ (.cons ?_ (.cons ?_ (.cons ?_ (.cons (.str _) (.cons ?_ .nil))))))
        · exact (TeOddT.flat (vs := [.str "Fold", .int 1, .int 1, .int 1]) (fun H Q k => k) (by decide) (by decide) (noZ (by decide +kernel))).odd
        · exact .lst (vs := [.str "fold", .int 1, .int 1, .int 1]) (fun H Q k => k) (by decide)
        · exact (TeOddT.flat (vs := [.str "fold", .bl true, .int 1, .int 1]) (fun H Q k => k) (by decide) (by decide) (noF fun b => rfl)).odd
        · exact (TeOddT.flat (vs := [.str "fold", .int 1, .int 1, .int 1, .int 1]) (fun H Q k => k) (by decide) (by decide) (noF fun b => rfl)).odd
        · exact (TeOddT.flat (vs := [.int 1, .int 2]) (fun H Q k => k) (by decide) (by decide) (noZ (fun q => nomatch q))).odd
        · exact (TeOddT.flat (vs := []) (fun H Q k => k) (by decide) (by decide) (fun _ _ e => nomatch e)).odd
      rintro q8 H8 s8 ⟨ys, h8, o8, l8⟩
      have hD8 := hD.mono (s4.trans (s6.trans (s7.trans s8)))
      have l8' : ys.length = 20 := l8
      have n8 : q8 ≠ d := by
        obtain ⟨ns', i', g', e', h1', h2'⟩ := hD8
        refine ne_of h8 h1' (fun z => ?_)
        injection z with z
        rw [z] at l8'
        simp at l8'
      refine ⟨_, rfl, _, rfl, _, rfl, _, rfl, q8, ys, rfl, .inl (SqL.of h8), d, l, _, rfl, ⟨by omega, by omega⟩, hD8, fun r H9 r0 r1 hD9 u9 => ?_⟩
      obtain ⟨r, rfl⟩ := Int.eq_ofNat_of_zero_le r0
      have hr9 : r < ys.length := by omega
      have o9 := (o8 ys[r] (List.getElem_mem hr9)).but hD8 hD9 u9
      refine ⟨q8, ys, _, ys[r], rfl, rfl, SqL.of (u9 _ _ n8 h8), at_of (j := r) rfl (List.getElem?_eq_getElem hr9), _, _, rfl, ⟨_, .int _⟩, o9.no.1, okB_of o9.no.2, fun H10 s10 => ⟨_, rfl, iteF ?_⟩⟩
      refine ⟨by show 4 ≤ sizeLine; decide, fun p2 hp2 => ?_⟩
      have st2 : StepAt (upd H10 p2 (.tup [.str "fold", .int 2, .int 1, .int 1])) p2 (.fold 2 1 1) := upd_same
      refine ⟨_, _, rfl, ⟨_, .int _⟩, st2.known, ?_, fun H11 s11 => ⟨_, rfl, iteF' rfl (g_next ?_)⟩⟩
      · have e : upd H10 p2 (.tup [.str "fold", .int 2, .int 1, .int 1]) p2 = some (.tup [.str "fold", .int 2, .int 1, .int 1]) := upd_same
        simp only [okB, stepB, e, if_neg fw, intOf]
        decide +kernel
      have hD11 : DrawsAt H11 d l := hD9.mono (s10.trans ((same_new hp2).trans s11))
      refine ⟨_, rfl, (by show 7 ≤ sizeLine; decide), fun q9 hq9 => ⟨_, rfl, d, l, _, rfl, by decide, hD11.mono (same_new hq9), fun r2 H12 r20 r21 hD12 u12 => ?_⟩⟩
      have n9 : q9 ≠ d := fun z => by
        obtain ⟨o, ho⟩ := hD11.there
        rw [z, ho] at hq9
        cases hq9
      have h12 := u12 q9 _ n9 upd_same
      obtain ⟨r2, rfl⟩ := Int.eq_ofNat_of_zero_le r20
      have hr2 : r2 < ([.int 1, .int 13, .int 0, .int (-2), .non, .bl true, .str "10"] : List V).length := by show r2 < 7; omega
      have odd2 : ∀ v ∈ ([.int 1, .int 13, .int 0, .int (-2), .non, .bl true, .str "10"] : List V), wholeB v 2 12 = false ∧ ∀ H, ∃ t, Kn H v t := by
        intro v m
        simp only [List.mem_cons, List.not_mem_nil, or_false] at m
        rcases m with rfl | rfl | rfl | rfl | rfl | rfl | rfl
        · exact ⟨rfl, fun H => ⟨_, .int _⟩⟩
        · exact ⟨rfl, fun H => ⟨_, .int _⟩⟩
        · exact ⟨rfl, fun H => ⟨_, .int _⟩⟩
        · exact ⟨rfl, fun H => ⟨_, .int _⟩⟩
        · exact ⟨rfl, fun H => ⟨_, .non⟩⟩
        · exact ⟨rfl, fun H => ⟨_, .bl _⟩⟩
        · exact ⟨rfl, fun H => ⟨_, .str _⟩⟩
      obtain ⟨w1, w2⟩ := odd2 _ (List.getElem_mem hr2)
      refine ⟨q9, _, _, _, rfl, rfl, SqL.of h12, at_of (j := r2) rfl (List.getElem?_eq_getElem hr2), (by show 1 ≤ sizeLine; decide), fun p3 hp3 => ⟨(by show 2 ≤ sizeLine; decide), fun p4 hp4 => ?_⟩⟩
      have st3 : StepAt (upd (upd H12 p3 (.tup [.int 1])) p4 (.tup [.str "weigh", .ref p3])) p4 (.weigh [1]) := ⟨p3, upd_same, kept upd_same hp4⟩
      exact ⟨_, _, rfl, w2 _, st3.known, by rw [okB, w1, Bool.false_and], fun H13 _ => k H13⟩
end

end Fold
namespace Fold
open PySem PySem.Spec PyProof.Rows L2
theorem all_mk {l : PySem.W.OpenLaw} {w : World} {K : PySem.W.Frag} {h : Heap} {mg : Str → Option Value} {fa : Addr} (X : K.In h) (G : h.Ns mainGlobals mg) (hfa : mg "law" = some (.ref fa))
    {t_MOST_POWER : Tok}
    {t_MOST : Tok}
    {C_FoldError : Addr}
    {C_BadStep : Addr}
    {f_is_whole : Addr} {od_is_whole an_is_whole : Option Addr} {sl_is_whole : Array (Option Value)} {oc_is_whole kV_is_whole dc_is_whole pm_is_whole cd_is_whole ct_is_whole : Value}
    {f_power_of : Addr} {od_power_of an_power_of : Option Addr} {sl_power_of : Array (Option Value)} {oc_power_of kV_power_of dc_power_of pm_power_of cd_power_of ct_power_of : Value}
    {f_is_fold : Addr} {od_is_fold an_is_fold : Option Addr} {sl_is_fold : Array (Option Value)} {oc_is_fold kV_is_fold dc_is_fold pm_is_fold cd_is_fold ct_is_fold : Value}
    {f_is_weigh : Addr} {od_is_weigh an_is_weigh : Option Addr} {sl_is_weigh : Array (Option Value)} {oc_is_weigh kV_is_weigh dc_is_weigh pm_is_weigh cd_is_weigh ct_is_weigh : Value}
    {f_is_step : Addr} {od_is_step an_is_step : Option Addr} {sl_is_step : Array (Option Value)} {oc_is_step kV_is_step dc_is_step pm_is_step cd_is_step ct_is_step : Value}
    {f_check_step : Addr} {od_check_step an_check_step : Option Addr} {sl_check_step : Array (Option Value)} {oc_check_step kV_check_step dc_check_step pm_check_step cd_check_step ct_check_step : Value}
    {f_weighed : Addr} {od_weighed an_weighed : Option Addr} {sl_weighed : Array (Option Value)} {oc_weighed kV_weighed dc_weighed pm_weighed cd_weighed ct_weighed : Value}
    {f_after : Addr} {od_after an_after : Option Addr} {sl_after : Array (Option Value)} {oc_after kV_after dc_after pm_after cd_after ct_after : Value}
    {f_made : Addr} {od_made an_made : Option Addr} {sl_made : Array (Option Value)} {oc_made kV_made dc_made pm_made cd_made ct_made : Value}
    {f__law_begin : Addr} {od__law_begin an__law_begin : Option Addr} {sl__law_begin : Array (Option Value)} {oc__law_begin kV__law_begin dc__law_begin pm__law_begin cd__law_begin ct__law_begin : Value}
    {f__law_draw : Addr} {od__law_draw an__law_draw : Option Addr} {sl__law_draw : Array (Option Value)} {oc__law_draw kV__law_draw dc__law_draw pm__law_draw cd__law_draw ct__law_draw : Value}
    {f__law_power : Addr} {od__law_power an__law_power : Option Addr} {sl__law_power : Array (Option Value)} {oc__law_power kV__law_power dc__law_power pm__law_power cd__law_power ct__law_power : Value}
    {f__law_step : Addr} {od__law_step an__law_step : Option Addr} {sl__law_step : Array (Option Value)} {oc__law_step kV__law_step dc__law_step pm__law_step cd__law_step ct__law_step : Value}
    {f__law_made : Addr} {od__law_made an__law_made : Option Addr} {sl__law_made : Array (Option Value)} {oc__law_made kV__law_made dc__law_made pm__law_made cd__law_made ct__law_made : Value}
    {f__law_refused : Addr} {od__law_refused an__law_refused : Option Addr} {sl__law_refused : Array (Option Value)} {oc__law_refused kV__law_refused dc__law_refused pm__law_refused cd__law_refused ct__law_refused : Value}
    {f_law : Addr} {od_law an_law : Option Addr} {sl_law : Array (Option Value)} {oc_law kV_law dc_law pm_law cd_law ct_law : Value}
    (n_abs : PySem.W.nsIn K mainGlobals "abs" = some none)
    (n_all : PySem.W.nsIn K mainGlobals "all" = some none)
    (n_bool : PySem.W.nsIn K mainGlobals "bool" = some none)
    (n_int : PySem.W.nsIn K mainGlobals "int" = some none)
    (n_isinstance : PySem.W.nsIn K mainGlobals "isinstance" = some none)
    (n_len : PySem.W.nsIn K mainGlobals "len" = some none)
    (n_list : PySem.W.nsIn K mainGlobals "list" = some none)
    (n_range : PySem.W.nsIn K mainGlobals "range" = some none)
    (n_str : PySem.W.nsIn K mainGlobals "str" = some none)
    (n_tuple : PySem.W.nsIn K mainGlobals "tuple" = some none)
    (g_MOST_POWER : PySem.W.nsIn K mainGlobals "MOST_POWER" = some (some (.int 60 t_MOST_POWER)))
    (g_MOST : PySem.W.nsIn K mainGlobals "MOST" = some (some (.int 12 t_MOST)))
    (gx_FoldError : PySem.W.nsIn K mainGlobals "FoldError" = some (some (.ref C_FoldError)))
    (xx_FoldError : PySem.W.excIn K C_FoldError veB "ValueError.__new__" = true)
    (kx_FoldError : PySem.W.keepIn K (.ref C_FoldError) = true)
    (bx_FoldError : PySem.W.subIn K (.ref C_FoldError) (.type "BaseException") = some true)
    (tx_FoldError : PySem.W.typeIn K (.ref C_FoldError) = some (.type "type"))
    (ix_FoldError : PySem.W.isClsIn K C_FoldError = true)
    (gx_BadStep : PySem.W.nsIn K mainGlobals "BadStep" = some (some (.ref C_BadStep)))
    (xx_BadStep : PySem.W.excIn K C_BadStep veB "ValueError.__new__" = true)
    (kx_BadStep : PySem.W.keepIn K (.ref C_BadStep) = true)
    (bx_BadStep : PySem.W.subIn K (.ref C_BadStep) (.type "BaseException") = some true)
    (tx_BadStep : PySem.W.typeIn K (.ref C_BadStep) = some (.type "type"))
    (ix_BadStep : PySem.W.isClsIn K C_BadStep = true)
    (sub_FoldError_BadStep : PySem.W.subIn K (.ref C_FoldError) (.ref C_BadStep) = some false)
    (sub_BadStep_BadStep : PySem.W.subIn K (.ref C_BadStep) (.ref C_BadStep) = some true)
    (a_is_whole : PySem.W.nsIn K mainGlobals "is_whole" = some (some (.ref f_is_whole)))
    (l_is_whole : K.lookup f_is_whole = some ⟨oc_is_whole, od_is_whole, .func (PySem.W.fnOf "is_whole" "is_whole" (defArgs s_is_whole) (defBody s_is_whole) (defScope s_is_whole) .none kV_is_whole dc_is_whole pm_is_whole an_is_whole cd_is_whole ct_is_whole), sl_is_whole⟩)
    (c_is_whole : PySem.W.codeIn K cd_is_whole "is_whole" = true)
    (k_is_whole : PySem.W.keepIn K (.ref f_is_whole) = true)
    (a_power_of : PySem.W.nsIn K mainGlobals "power_of" = some (some (.ref f_power_of)))
    (l_power_of : K.lookup f_power_of = some ⟨oc_power_of, od_power_of, .func (PySem.W.fnOf "power_of" "power_of" (defArgs s_power_of) (defBody s_power_of) (defScope s_power_of) .none kV_power_of dc_power_of pm_power_of an_power_of cd_power_of ct_power_of), sl_power_of⟩)
    (c_power_of : PySem.W.codeIn K cd_power_of "power_of" = true)
    (k_power_of : PySem.W.keepIn K (.ref f_power_of) = true)
    (a_is_fold : PySem.W.nsIn K mainGlobals "is_fold" = some (some (.ref f_is_fold)))
    (l_is_fold : K.lookup f_is_fold = some ⟨oc_is_fold, od_is_fold, .func (PySem.W.fnOf "is_fold" "is_fold" (defArgs s_is_fold) (defBody s_is_fold) (defScope s_is_fold) .none kV_is_fold dc_is_fold pm_is_fold an_is_fold cd_is_fold ct_is_fold), sl_is_fold⟩)
    (c_is_fold : PySem.W.codeIn K cd_is_fold "is_fold" = true)
    (k_is_fold : PySem.W.keepIn K (.ref f_is_fold) = true)
    (a_is_weigh : PySem.W.nsIn K mainGlobals "is_weigh" = some (some (.ref f_is_weigh)))
    (l_is_weigh : K.lookup f_is_weigh = some ⟨oc_is_weigh, od_is_weigh, .func (PySem.W.fnOf "is_weigh" "is_weigh" (defArgs s_is_weigh) (defBody s_is_weigh) (defScope s_is_weigh) .none kV_is_weigh dc_is_weigh pm_is_weigh an_is_weigh cd_is_weigh ct_is_weigh), sl_is_weigh⟩)
    (c_is_weigh : PySem.W.codeIn K cd_is_weigh "is_weigh" = true)
    (k_is_weigh : PySem.W.keepIn K (.ref f_is_weigh) = true)
    (a_is_step : PySem.W.nsIn K mainGlobals "is_step" = some (some (.ref f_is_step)))
    (l_is_step : K.lookup f_is_step = some ⟨oc_is_step, od_is_step, .func (PySem.W.fnOf "is_step" "is_step" (defArgs s_is_step) (defBody s_is_step) (defScope s_is_step) .none kV_is_step dc_is_step pm_is_step an_is_step cd_is_step ct_is_step), sl_is_step⟩)
    (c_is_step : PySem.W.codeIn K cd_is_step "is_step" = true)
    (k_is_step : PySem.W.keepIn K (.ref f_is_step) = true)
    (a_check_step : PySem.W.nsIn K mainGlobals "check_step" = some (some (.ref f_check_step)))
    (l_check_step : K.lookup f_check_step = some ⟨oc_check_step, od_check_step, .func (PySem.W.fnOf "check_step" "check_step" (defArgs s_check_step) (defBody s_check_step) (defScope s_check_step) .none kV_check_step dc_check_step pm_check_step an_check_step cd_check_step ct_check_step), sl_check_step⟩)
    (c_check_step : PySem.W.codeIn K cd_check_step "check_step" = true)
    (k_check_step : PySem.W.keepIn K (.ref f_check_step) = true)
    (a_weighed : PySem.W.nsIn K mainGlobals "weighed" = some (some (.ref f_weighed)))
    (l_weighed : K.lookup f_weighed = some ⟨oc_weighed, od_weighed, .func (PySem.W.fnOf "weighed" "weighed" (defArgs s_weighed) (defBody s_weighed) (defScope s_weighed) .none kV_weighed dc_weighed pm_weighed an_weighed cd_weighed ct_weighed), sl_weighed⟩)
    (c_weighed : PySem.W.codeIn K cd_weighed "weighed" = true)
    (k_weighed : PySem.W.keepIn K (.ref f_weighed) = true)
    (a_after : PySem.W.nsIn K mainGlobals "after" = some (some (.ref f_after)))
    (l_after : K.lookup f_after = some ⟨oc_after, od_after, .func (PySem.W.fnOf "after" "after" (defArgs s_after) (defBody s_after) (defScope s_after) .none kV_after dc_after pm_after an_after cd_after ct_after), sl_after⟩)
    (c_after : PySem.W.codeIn K cd_after "after" = true)
    (k_after : PySem.W.keepIn K (.ref f_after) = true)
    (a_made : PySem.W.nsIn K mainGlobals "made" = some (some (.ref f_made)))
    (l_made : K.lookup f_made = some ⟨oc_made, od_made, .func (PySem.W.fnOf "made" "made" (defArgs s_made) (defBody s_made) (defScope s_made) .none kV_made dc_made pm_made an_made cd_made ct_made), sl_made⟩)
    (c_made : PySem.W.codeIn K cd_made "made" = true)
    (k_made : PySem.W.keepIn K (.ref f_made) = true)
    (a__law_begin : PySem.W.nsIn K mainGlobals "_law_begin" = some (some (.ref f__law_begin)))
    (l__law_begin : K.lookup f__law_begin = some ⟨oc__law_begin, od__law_begin, .func (PySem.W.fnOf "_law_begin" "_law_begin" (defArgs s__law_begin) (defBody s__law_begin) (defScope s__law_begin) .none kV__law_begin dc__law_begin pm__law_begin an__law_begin cd__law_begin ct__law_begin), sl__law_begin⟩)
    (c__law_begin : PySem.W.codeIn K cd__law_begin "_law_begin" = true)
    (k__law_begin : PySem.W.keepIn K (.ref f__law_begin) = true)
    (a__law_draw : PySem.W.nsIn K mainGlobals "_law_draw" = some (some (.ref f__law_draw)))
    (l__law_draw : K.lookup f__law_draw = some ⟨oc__law_draw, od__law_draw, .func (PySem.W.fnOf "_law_draw" "_law_draw" (defArgs s__law_draw) (defBody s__law_draw) (defScope s__law_draw) .none kV__law_draw dc__law_draw pm__law_draw an__law_draw cd__law_draw ct__law_draw), sl__law_draw⟩)
    (c__law_draw : PySem.W.codeIn K cd__law_draw "_law_draw" = true)
    (k__law_draw : PySem.W.keepIn K (.ref f__law_draw) = true)
    (a__law_power : PySem.W.nsIn K mainGlobals "_law_power" = some (some (.ref f__law_power)))
    (l__law_power : K.lookup f__law_power = some ⟨oc__law_power, od__law_power, .func (PySem.W.fnOf "_law_power" "_law_power" (defArgs s__law_power) (defBody s__law_power) (defScope s__law_power) .none kV__law_power dc__law_power pm__law_power an__law_power cd__law_power ct__law_power), sl__law_power⟩)
    (c__law_power : PySem.W.codeIn K cd__law_power "_law_power" = true)
    (k__law_power : PySem.W.keepIn K (.ref f__law_power) = true)
    (a__law_step : PySem.W.nsIn K mainGlobals "_law_step" = some (some (.ref f__law_step)))
    (l__law_step : K.lookup f__law_step = some ⟨oc__law_step, od__law_step, .func (PySem.W.fnOf "_law_step" "_law_step" (defArgs s__law_step) (defBody s__law_step) (defScope s__law_step) .none kV__law_step dc__law_step pm__law_step an__law_step cd__law_step ct__law_step), sl__law_step⟩)
    (c__law_step : PySem.W.codeIn K cd__law_step "_law_step" = true)
    (k__law_step : PySem.W.keepIn K (.ref f__law_step) = true)
    (a__law_made : PySem.W.nsIn K mainGlobals "_law_made" = some (some (.ref f__law_made)))
    (l__law_made : K.lookup f__law_made = some ⟨oc__law_made, od__law_made, .func (PySem.W.fnOf "_law_made" "_law_made" (defArgs s__law_made) (defBody s__law_made) (defScope s__law_made) .none kV__law_made dc__law_made pm__law_made an__law_made cd__law_made ct__law_made), sl__law_made⟩)
    (c__law_made : PySem.W.codeIn K cd__law_made "_law_made" = true)
    (k__law_made : PySem.W.keepIn K (.ref f__law_made) = true)
    (a__law_refused : PySem.W.nsIn K mainGlobals "_law_refused" = some (some (.ref f__law_refused)))
    (l__law_refused : K.lookup f__law_refused = some ⟨oc__law_refused, od__law_refused, .func (PySem.W.fnOf "_law_refused" "_law_refused" (defArgs s__law_refused) (defBody s__law_refused) (defScope s__law_refused) .none kV__law_refused dc__law_refused pm__law_refused an__law_refused cd__law_refused ct__law_refused), sl__law_refused⟩)
    (c__law_refused : PySem.W.codeIn K cd__law_refused "_law_refused" = true)
    (k__law_refused : PySem.W.keepIn K (.ref f__law_refused) = true)
    (a_law : PySem.W.nsIn K mainGlobals "law" = some (some (.ref f_law)))
    (l_law : K.lookup f_law = some ⟨oc_law, od_law, .func (PySem.W.fnOf "law" "law" (defArgs s_law) (defBody s_law) (defScope s_law) .none kV_law dc_law pm_law an_law cd_law ct_law), sl_law⟩)
    (c_law : PySem.W.codeIn K cd_law "law" = true)
    (k_law : PySem.W.keepIn K (.ref f_law) = true) :
    ∃ fd : FuncData, (∀ (s : Shared) (v : Value), BindsTo s fd ⟨[v], []⟩ [("_law_script", v)]) ∧ ∀ base : Heap, K.In base → base.Ns mainGlobals mg → FnOk l.prog w K mg base CX0 7 fa fd ["_law_script"] (spLaw K) := by
  have e := hfa.symm.trans (PySem.W.mg_of X G a_law)
  cases e
  have T : Txt K mg ⟨C_FoldError, C_BadStep⟩ := ⟨PySem.W.mg_none_of X G n_abs, PySem.W.mg_none_of X G n_all, PySem.W.mg_none_of X G n_bool, PySem.W.mg_none_of X G n_int, PySem.W.mg_none_of X G n_isinstance, PySem.W.mg_none_of X G n_len, PySem.W.mg_none_of X G n_list, PySem.W.mg_none_of X G n_range, PySem.W.mg_none_of X G n_str, PySem.W.mg_none_of X G n_tuple, ⟨t_MOST_POWER, PySem.W.mg_of X G g_MOST_POWER⟩, ⟨t_MOST, PySem.W.mg_of X G g_MOST⟩, ⟨PySem.W.mg_of X G gx_FoldError, xx_FoldError, kx_FoldError, bx_FoldError, tx_FoldError, ix_FoldError⟩, ⟨PySem.W.mg_of X G gx_BadStep, xx_BadStep, kx_BadStep, bx_BadStep, tx_BadStep, ix_BadStep⟩, sub_FoldError_BadStep, sub_BadStep_BadStep, ⟨_, _, fun_mk (st := s_is_whole) l_is_whole c_is_whole k_is_whole, PySem.W.mg_of X G a_is_whole, (fun_mk (st := s_is_whole) l_is_whole c_is_whole k_is_whole).binds (ps := ["thing", "least", "most"]) fun _ _ _ _ _ _ us hl => match us, hl with | [_, _, _], _ => rfl⟩, ⟨_, _, fun_mk (st := s_power_of) l_power_of c_power_of k_power_of, PySem.W.mg_of X G a_power_of, (fun_mk (st := s_power_of) l_power_of c_power_of k_power_of).binds (ps := ["base", "times"]) fun _ _ _ _ _ _ us hl => match us, hl with | [_, _], _ => rfl⟩, ⟨_, _, fun_mk (st := s_is_fold) l_is_fold c_is_fold k_is_fold, PySem.W.mg_of X G a_is_fold, (fun_mk (st := s_is_fold) l_is_fold c_is_fold k_is_fold).binds (ps := ["base", "thing"]) fun _ _ _ _ _ _ us hl => match us, hl with | [_, _], _ => rfl⟩, ⟨_, _, fun_mk (st := s_is_weigh) l_is_weigh c_is_weigh k_is_weigh, PySem.W.mg_of X G a_is_weigh, (fun_mk (st := s_is_weigh) l_is_weigh c_is_weigh k_is_weigh).binds (ps := ["thing"]) fun _ _ _ _ _ _ us hl => match us, hl with | [_], _ => rfl⟩, ⟨_, _, fun_mk (st := s_is_step) l_is_step c_is_step k_is_step, PySem.W.mg_of X G a_is_step, (fun_mk (st := s_is_step) l_is_step c_is_step k_is_step).binds (ps := ["base", "thing"]) fun _ _ _ _ _ _ us hl => match us, hl with | [_, _], _ => rfl⟩, ⟨_, _, fun_mk (st := s_check_step) l_check_step c_check_step k_check_step, PySem.W.mg_of X G a_check_step, (fun_mk (st := s_check_step) l_check_step c_check_step k_check_step).binds (ps := ["base", "step"]) fun _ _ _ _ _ _ us hl => match us, hl with | [_, _], _ => rfl⟩, ⟨_, _, fun_mk (st := s_weighed) l_weighed c_weighed k_weighed, PySem.W.mg_of X G a_weighed, (fun_mk (st := s_weighed) l_weighed c_weighed k_weighed).binds (ps := ["base", "row", "n"]) fun _ _ _ _ _ _ us hl => match us, hl with | [_, _, _], _ => rfl⟩, ⟨_, _, fun_mk (st := s_after) l_after c_after k_after, PySem.W.mg_of X G a_after, (fun_mk (st := s_after) l_after c_after k_after).binds (ps := ["base", "step", "n"]) fun _ _ _ _ _ _ us hl => match us, hl with | [_, _, _], _ => rfl⟩, ⟨_, _, fun_mk (st := s_made) l_made c_made k_made, PySem.W.mg_of X G a_made, (fun_mk (st := s_made) l_made c_made k_made).binds (ps := ["base", "step", "n"]) fun _ _ _ _ _ _ us hl => match us, hl with | [_, _, _], _ => rfl⟩, ⟨_, _, fun_mk (st := s__law_begin) l__law_begin c__law_begin k__law_begin, PySem.W.mg_of X G a__law_begin, (fun_mk (st := s__law_begin) l__law_begin c__law_begin k__law_begin).binds (ps := ["_law_script"]) fun _ _ _ _ _ _ us hl => match us, hl with | [_], _ => rfl⟩, ⟨_, _, fun_mk (st := s__law_draw) l__law_draw c__law_draw k__law_draw, PySem.W.mg_of X G a__law_draw, (fun_mk (st := s__law_draw) l__law_draw c__law_draw k__law_draw).binds (ps := ["_law_draws", "_law_size"]) fun _ _ _ _ _ _ us hl => match us, hl with | [_, _], _ => rfl⟩, ⟨_, _, fun_mk (st := s__law_power) l__law_power c__law_power k__law_power, PySem.W.mg_of X G a__law_power, (fun_mk (st := s__law_power) l__law_power c__law_power k__law_power).binds (ps := ["_law_base", "_law_times"]) fun _ _ _ _ _ _ us hl => match us, hl with | [_, _], _ => rfl⟩, ⟨_, _, fun_mk (st := s__law_step) l__law_step c__law_step k__law_step, PySem.W.mg_of X G a__law_step, (fun_mk (st := s__law_step) l__law_step c__law_step k__law_step).binds (ps := ["_law_draws", "_law_base"]) fun _ _ _ _ _ _ us hl => match us, hl with | [_, _], _ => rfl⟩, ⟨_, _, fun_mk (st := s__law_made) l__law_made c__law_made k__law_made, PySem.W.mg_of X G a__law_made, (fun_mk (st := s__law_made) l__law_made c__law_made k__law_made).binds (ps := ["_law_base", "_law_step_here", "_law_n"]) fun _ _ _ _ _ _ us hl => match us, hl with | [_, _, _], _ => rfl⟩, ⟨_, _, fun_mk (st := s__law_refused) l__law_refused c__law_refused k__law_refused, PySem.W.mg_of X G a__law_refused, (fun_mk (st := s__law_refused) l__law_refused c__law_refused k__law_refused).binds (ps := ["_law_base", "_law_step_here"]) fun _ _ _ _ _ _ us hl => match us, hl with | [_, _], _ => rfl⟩, ⟨_, _, fun_mk (st := s_law) l_law c_law k_law, PySem.W.mg_of X G a_law, (fun_mk (st := s_law) l_law c_law k_law).binds (ps := ["_law_script"]) fun _ _ _ _ _ _ us hl => match us, hl with | [_], _ => rfl⟩⟩
  exact ⟨PySem.W.fnOf "law" "law" (defArgs s_law) (defBody s_law) (defScope s_law) .none kV_law dc_law pm_law an_law cd_law ct_law, fun s v => .of_eq rfl, fun base _ _ => law_fn T (fun_mk (st := s_law) l_law c_law k_law)⟩
theorem walk {l : PySem.W.OpenLaw} {q : Program} {loose : List Str} {XP : (Str → Option Value) → Heap → Prop} {YP : World → Heap → Prop} {d : DefRec} {K : Params → PySem.W.Frag} (hn : l.most = some 63) (hdf : d.params.defaults = [])
    (hY : ∀ (w : World) (h : Heap), YP w h → (K w.params).In h)
    (F : ∀ (w : World) (mg : Str → Option Value) (fa : Addr) (h : Heap), (K w.params).In h → h.Ns mainGlobals mg → mg d.name = some (.ref fa) →
      ∃ fd : FuncData, (∀ (s : Shared) (u : Value), BindsTo s fd ⟨[u], []⟩ [("_law_script", u)]) ∧ ∀ base : Heap, (K w.params).In base → base.Ns mainGlobals mg → FnOk l.prog w (K w.params) mg base CX0 7 fa fd ["_law_script"] (spLaw (K w.params))) :
    PySem.W.WalkO q loose XP YP l.row.toRowW d [] (fun f vs => PySem.call f vs) :=
  L2.walk_of (n := 63) (k := 7) (x := "_law_script") (CX := fun _ => CX0) (sp := fun w => spLaw (K w.params)) hn (by decide) hdf ⟨rfl, by decide, by decide⟩ hY F (fun _ _ a ns hl _ hS => ⟨a, ns, rfl, hS, hl, fun _ => rfl⟩) fun _ _ _ _ _ z => z
end Fold
open PySem PySem.W PyProof.Rows
set_option maxRecDepth 100000 in
set_option maxHeartbeats 0 in
theorem PySem.Challenge.cw_figurefolds_k01_steps_made_holds : PySem.Challenge.rw_figurefolds_k01_steps_made.Holds := by
  w_on; o_law; k_head; (case hw => w_witness2)
  k_fill
  refine Fold.walk (l := PySem.Challenge.rw_figurefolds_k01_steps_made) rfl rfl (fun w h Y => PySem.W.kIn_of Y) ?F
  case F =>
    intro w mg fa h KX G hmg
    refine' Fold.all_mk KX G hmg ?n_abs ?n_all ?n_bool ?n_int ?n_isinstance ?n_len ?n_list ?n_range ?n_str ?n_tuple ?g_MOST_POWER ?g_MOST ?gx_FoldError ?xx_FoldError ?kx_FoldError ?bx_FoldError ?tx_FoldError ?ix_FoldError ?gx_BadStep ?xx_BadStep ?kx_BadStep ?bx_BadStep ?tx_BadStep ?ix_BadStep ?sub_FoldError_BadStep ?sub_BadStep_BadStep ?a_is_whole ?l_is_whole ?c_is_whole ?k_is_whole ?a_power_of ?l_power_of ?c_power_of ?k_power_of ?a_is_fold ?l_is_fold ?c_is_fold ?k_is_fold ?a_is_weigh ?l_is_weigh ?c_is_weigh ?k_is_weigh ?a_is_step ?l_is_step ?c_is_step ?k_is_step ?a_check_step ?l_check_step ?c_check_step ?k_check_step ?a_weighed ?l_weighed ?c_weighed ?k_weighed ?a_after ?l_after ?c_after ?k_after ?a_made ?l_made ?c_made ?k_made ?a__law_begin ?l__law_begin ?c__law_begin ?k__law_begin ?a__law_draw ?l__law_draw ?c__law_draw ?k__law_draw ?a__law_power ?l__law_power ?c__law_power ?k__law_power ?a__law_step ?l__law_step ?c__law_step ?k__law_step ?a__law_made ?l__law_made ?c__law_made ?k__law_made ?a__law_refused ?l__law_refused ?c__law_refused ?k__law_refused ?a_law ?l_law ?c_law ?k_law
    (case n_abs => k_is)
    (case n_all => k_is)
    (case n_bool => k_is)
    (case n_int => k_is)
    (case n_isinstance => k_is)
    (case n_len => k_is)
    (case n_list => k_is)
    (case n_range => k_is)
    (case n_str => k_is)
    (case n_tuple => k_is)
    (case g_MOST_POWER => k_is)
    (case g_MOST => k_is)
    (case gx_FoldError => k_is)
    (case xx_FoldError => k_exc)
    (case kx_FoldError => k_is)
    (case bx_FoldError => k_is)
    (case tx_FoldError => k_is)
    (case ix_FoldError => k_is)
    (case gx_BadStep => k_is)
    (case xx_BadStep => k_exc)
    (case kx_BadStep => k_is)
    (case bx_BadStep => k_is)
    (case tx_BadStep => k_is)
    (case ix_BadStep => k_is)
    (case sub_FoldError_BadStep => first | rfl | k_is)
    (case sub_BadStep_BadStep => first | rfl | k_is)
    (case a_is_whole => k_is)
    (case l_is_whole => k_is)
    (case c_is_whole => k_is)
    (case k_is_whole => k_is)
    (case a_power_of => k_is)
    (case l_power_of => k_is)
    (case c_power_of => k_is)
    (case k_power_of => k_is)
    (case a_is_fold => k_is)
    (case l_is_fold => k_is)
    (case c_is_fold => k_is)
    (case k_is_fold => k_is)
    (case a_is_weigh => k_is)
    (case l_is_weigh => k_is)
    (case c_is_weigh => k_is)
    (case k_is_weigh => k_is)
    (case a_is_step => k_is)
    (case l_is_step => k_is)
    (case c_is_step => k_is)
    (case k_is_step => k_is)
    (case a_check_step => k_is)
    (case l_check_step => k_is)
    (case c_check_step => k_is)
    (case k_check_step => k_is)
    (case a_weighed => k_is)
    (case l_weighed => k_is)
    (case c_weighed => k_is)
    (case k_weighed => k_is)
    (case a_after => k_is)
    (case l_after => k_is)
    (case c_after => k_is)
    (case k_after => k_is)
    (case a_made => k_is)
    (case l_made => k_is)
    (case c_made => k_is)
    (case k_made => k_is)
    (case a__law_begin => k_is)
    (case l__law_begin => k_is)
    (case c__law_begin => k_is)
    (case k__law_begin => k_is)
    (case a__law_draw => k_is)
    (case l__law_draw => k_is)
    (case c__law_draw => k_is)
    (case k__law_draw => k_is)
    (case a__law_power => k_is)
    (case l__law_power => k_is)
    (case c__law_power => k_is)
    (case k__law_power => k_is)
    (case a__law_step => k_is)
    (case l__law_step => k_is)
    (case c__law_step => k_is)
    (case k__law_step => k_is)
    (case a__law_made => k_is)
    (case l__law_made => k_is)
    (case c__law_made => k_is)
    (case k__law_made => k_is)
    (case a__law_refused => k_is)
    (case l__law_refused => k_is)
    (case c__law_refused => k_is)
    (case k__law_refused => k_is)
    (case a_law => k_is)
    (case l_law => k_is)
    (case c_law => k_is)
    (case k_law => k_is)
