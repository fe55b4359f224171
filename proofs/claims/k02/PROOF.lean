import PyProof.Rows.All
import Wide.All
import OpenK.AllK
import Wide.FinOn
import HandS.ForMost
import HandS.ForExc
import HandS.TryMany
import HandS.IsInst
import HandS.Wide
import HandS.WideBits
import HandS.Conv
import HandS.Codes
import HandS.TupAny
import HandS.TupMul
import HandS.NoneIn
import HandS.SortRule
import HandS.SortInts
import HandS.DictComp
import HandS.Zip
import HandS.Flow
import HandS.Style
import HandS.Deep
import HandS.Flt
import HandS.Walk
import PySem.Challenge.RW_figurefolds_k02_whole_kept_moduli
set_option autoImplicit false
set_option Elab.async false
set_option linter.all false
set_option maxRecDepth 100000
set_option maxHeartbeats 4000000
namespace Fold
open PySem PySem.Spec PyProof.Rows L2
/-! ### a def that stands in the text, its promise -/
/-- a def of the text that the top has bound to its name -/
structure Df (K : PySem.W.Frag) (mg : Str → Option Value) (x : Str) (st : Stmt) (ps : List Str) : Prop where
  ex : ∃ f fd, Fun K x x st f fd ∧ mg x = some (.ref f) ∧ Binds K fd ps []
/-- a promise, by name: no exception leaves / one may leave -/
structure C0 (P : Program) (w : World) (K : PySem.W.Frag) (mg : Str → Option Value) (base : Heap) (k : Nat) (x : Str) (sp : Sp) : Prop where
  ex : ∃ f fd ps, FnOk P w K mg base CX0 k f fd ps sp ∧ mg x = some (.ref f) ∧ PySem.W.keepIn K (.ref f) = true ∧ Binds K fd ps []
structure C1 (P : Program) (w : World) (K : PySem.W.Frag) (mg : Str → Option Value) (base : Heap) (k : Nat) (x : Str) (sp : Sp) : Prop where
  ex : ∃ f fd ps, FnOk P w K mg base (L2.CX P w) k f fd ps sp ∧ mg x = some (.ref f) ∧ PySem.W.keepIn K (.ref f) = true ∧ Binds K fd ps []
section
variable {P : Program} {w : World} {K : PySem.W.Frag} {mg : Str → Option Value} {base : Heap} {x : Str} {st : Stmt} {N ps : List Str} {k : Nat} {sp : Sp}
theorem Df.c0 (F : Df K mg x st ps) (S : FnScope N ps (defScope st)) (len : ∀ vs H Q E, sp vs H Q E → vs.length = ps.length)
    (hbody : ∀ (f : Addr) (cdv : Value) (A : Around) (outer : List Env) (s : Shared) (H : Hp) (vs : List V) (Q : VK) (E : XK), Room k (A.deeper (envOfC x (defScope st) s.heap.objs.size f cdv)) → sp vs H Q E →
      ∃ t, PSs (cxOf CX0 P w K mg base N x (defScope st) f cdv A outer s H E).nox (defBody st) t ∧ t { nx := fun _ H' => Q .non H', rt := Q } (start N vs) H) : C0 P w K mg base (k + 1) x sp := by
  obtain ⟨f, fd, F1, hm, b⟩ := F.ex
  exact ⟨f, fd, ps, F1.ok S len (fun cdv A outer s H vs Q E => hbody f cdv A outer s H vs Q E), hm, F1.kp, b⟩
theorem Df.c1 (F : Df K mg x st ps) (S : FnScope N ps (defScope st)) (len : ∀ vs H Q E, sp vs H Q E → vs.length = ps.length)
    (hbody : ∀ (f : Addr) (cdv : Value) (A : Around) (outer : List Env) (s : Shared) (H : Hp) (vs : List V) (Q : VK) (E : XK), Room k (A.deeper (envOfC x (defScope st) s.heap.objs.size f cdv)) → sp vs H Q E →
      ∃ t, PSs (cxOf (L2.CX P w) P w K mg base N x (defScope st) f cdv A outer s H E) (defBody st) t ∧ t { nx := fun _ H' => Q .non H', rt := Q } (start N vs) H) : C1 P w K mg base (k + 1) x sp := by
  obtain ⟨f, fd, F1, hm, b⟩ := F.ex
  exact ⟨f, fd, ps, F1.okX S len (fun cdv A outer s H vs Q E => hbody f cdv A outer s H vs Q E), hm, F1.kp, b⟩
theorem C0.imp {sp' : Sp} (c : C0 P w K mg base k x sp) (h : ∀ vs H Q E, sp' vs H Q E → sp vs H Q E) : C0 P w K mg base k x sp' := by
  obtain ⟨f, fd, ps, F, hm, kp, b⟩ := c.ex
  exact ⟨f, fd, ps, F.imp h, hm, kp, b⟩
theorem C1.imp {sp' : Sp} (c : C1 P w K mg base k x sp) (h : ∀ vs H Q E, sp' vs H Q E → sp vs H Q E) : C1 P w K mg base k x sp' := by
  obtain ⟨f, fd, ps, F, hm, kp, b⟩ := c.ex
  exact ⟨f, fd, ps, F.imp h, hm, kp, b⟩
end
section
variable {X : Cx} {k j : Nat} {x : Str} {sp : Sp} {p pos : Pos} {e : Expr} {es : List Expr} {t : TA} {W : WX}
theorem pe_0 (c : C0 X.prog X.w X.K X.mg X.base k x sp) (hr : Room j X.A) (hk : k ≤ j) (ha : PA X (e :: es) t) (hg : Gl X x := by rfl)
    (hdb : (x == ("__debug__" : Str)) = false := by decide) (he : starEach (e :: es) X.env = (false, eval e X.env) :: starEach es X.env := by rfl) (hpl : (backTo pos (starEach es X.env)).any (·.1) = false := by rfl) :
    PE X (.Call (.Name x p) (e :: es) [] pos) (tCall sp [] E0 t) := by
  obtain ⟨f, fd, ps, F, hm, kp, b⟩ := c.ex
  exact pe_call F (hr.mono hk) hg hm kp b .nil pass0 ha hdb he hpl
theorem pe_10 (c : C1 X.prog X.w X.K X.mg X.base k x sp) (hr : Room j X.A) (hk : k ≤ j) (ha : PA X (e :: es) t) (hg : Gl X x := by rfl)
    (hdb : (x == ("__debug__" : Str)) = false := by decide) (he : starEach (e :: es) X.env = (false, eval e X.env) :: starEach es X.env := by rfl) (hpl : (backTo pos (starEach es X.env)).any (·.1) = false := by rfl) :
    PE X (.Call (.Name x p) (e :: es) [] pos) (tCall sp [] E0 t) := by
  obtain ⟨f, fd, ps, F, hm, kp, b⟩ := c.ex
  exact pe_call F (hr.mono hk) hg hm kp b .nil passL ha hdb he hpl
theorem pe_1 (c : C1 X.prog X.w X.K X.mg X.base k x sp) (hr : Room j X.A) (hk : k ≤ j) (tk : Takes X W) (ha : PA X (e :: es) t) (hg : Gl X x := by rfl)
    (hdb : (x == ("__debug__" : Str)) = false := by decide) (he : starEach (e :: es) X.env = (false, eval e X.env) :: starEach es X.env := by rfl) (hpl : (backTo pos (starEach es X.env)).any (·.1) = false := by rfl) :
    PE X (.Call (.Name x p) (e :: es) [] pos) (tCallS sp (WE W) t) := by
  obtain ⟨f, fd, ps, F, hm, kp, b⟩ := c.ex
  exact pe_callS F (hr.mono hk) hg hm kp b (fun σ => passAt tk σ) ha hdb he hpl
end
theorem hu64 {A : Around} {k : Nat} (hr : Room k A) : A.units + 64 < cLine := hr.units

/-! ### own exceptions -/
abbrev veB : List Value := [.type "ValueError", .type "Exception", .type "BaseException", .type "object"]
/-- an own exception class (no __init__) at C -/
structure Xc (K : PySem.W.Frag) (mg : Str → Option Value) (C : Addr) (x : Str) : Prop where
  gC : mg x = some (.ref C)
  xC : PySem.W.excIn K C veB "ValueError.__new__" = true
  kC : PySem.W.keepIn K (.ref C) = true
  bC : PySem.W.subIn K (.ref C) (.type "BaseException") = some true
  tC : PySem.W.typeIn K (.ref C) = some (.type "type")
  iC : PySem.W.isClsIn K C = true
section
variable {X : Cx} {C : Addr} {x : Str}
theorem Xc.pmk {p pos : Pos} (T : Xc X.K X.mg C x) (hg : Gl X x := by rfl) (hdb : (x == ("__debug__" : Str)) = false := by decide) : PMk X (.Call (.Name x p) [] [] pos) (fun _ H Q => Q (.ref C) none H) := by
  intro pins s σ H Q I h
  refine wpAny_Call_Name_kw (ld_glob I hg T.gC ?_ hdb)
  refine PySem.W.callWith_K0 (first := []) I.kIn T.kC ?_
  show wpAny _ _ (call (.ref C) []) _ _ _
  obtain ⟨bm, N, nm, qn, bs, hdct, sn, sub, ab, col, dd, k0, k1, k2, k3, k5, mN, hC, hN, hni, TT⟩ := exc_obj I.kIn T.xC
  refine PySem.wpAny_call_exc_subT PySem.F.excBase_ValueError TT hC hN hni (fun h' e hm => ?_) (Nat.zero_le _)
  exact mk_of I hm (raises_own T.bC T.tC) h (I.hok.gone hm.new)
theorem Xc.names (T : Xc X.K X.mg C x) (hg : Gl X x := by rfl) (hdb : (x == ("__debug__" : Str)) = false := by decide) : Names X x (.ref C) := ⟨hg, hdb, .inl T.gC⟩
end
/-- whether an error of the class at C is met by «except D» -/
theorem Xc.exm {K : PySem.W.Frag} {mg mg' : Str → Option Value} {C D : Addr} {x y : Str} {b : Bool} (T : Xc K mg C x) (U : Xc K mg' D y) (s : PySem.W.subIn K (.ref C) (.ref D) = some b) : PySem.W.exmOne K (.ref C) (.ref D) = some b := by
  have e1 : (PySem.W.subIn K (.ref C) (.type "BaseException") == some true) = true := by rw [T.bC] <;> rfl
  have u1 : (PySem.W.subIn K (.ref D) (.type "BaseException") == some true) = true := by rw [U.bC] <;> rfl
  have e2 : ((PySem.W.clsIn K D).isSome && PySem.W.typeIn K (.ref D) == some (.type "type")) = true := by
    have h2' : (PySem.W.clsIn K D).isSome = true := U.iC
    rw [h2', U.tC] <;> rfl
  show (if (PySem.W.subIn K (.ref D) (.type "BaseException") == some true) = true then (if ((PySem.W.clsIn K D).isSome && PySem.W.typeIn K (.ref D) == some (.type "type")) = true then PySem.W.subIn K (.ref C) (.ref D) else none) else none) = some b
  rw [if_pos u1, if_pos e2]
  exact s

/-! ### what a value is -/
inductive Kn (H : Hp) : V → String → Prop
  | non : Kn H .non "NoneType"
  | bl (b : Bool) : Kn H (.bl b) "bool"
  | int (i : Int) : Kn H (.int i) "int"
  | str (z : Str) : Kn H (.str z) "str"
  | lst {a : Addr} {xs : List V} (e : H a = some (.lst xs)) : Kn H (.ref a) "list"
  | tup {a : Addr} {xs : List V} (e : H a = some (.tup xs)) : Kn H (.ref a) "tuple"
theorem Kn.ty {K : PySem.W.Frag} {H : Hp} {v : V} {t : String} (k : Kn H v t) : TyX K H v (.type t) := by
  cases k with
  | non => exact .base .non
  | bl b => exact .base (.bl b)
  | int i => exact .base (.int i)
  | str z => exact .base (.str z)
  | lst e => exact .base (.lst e)
  | tup e => exact .base (.tup e)
/-- isinstance(v, c), c a built-in type -/
def isA (v : String) (c : String) : Bool := (kitB v c).getD false
theorem isA_int : ∀ {H : Hp} {v : V} {t : String}, Kn H v t → kitB t "int" = some (decide (t = "int" ∨ t = "bool"))
  | _, _, _, .non => by decide +kernel
  | _, _, _, .bl _ => by decide +kernel
  | _, _, _, .int _ => by decide +kernel
  | _, _, _, .str _ => by decide +kernel
  | _, _, _, .lst _ => by decide +kernel
  | _, _, _, .tup _ => by decide +kernel
theorem isA_bool : ∀ {H : Hp} {v : V} {t : String}, Kn H v t → kitB t "bool" = some (decide (t = "bool"))
  | _, _, _, .non => by decide +kernel
  | _, _, _, .bl _ => by decide +kernel
  | _, _, _, .int _ => by decide +kernel
  | _, _, _, .str _ => by decide +kernel
  | _, _, _, .lst _ => by decide +kernel
  | _, _, _, .tup _ => by decide +kernel
theorem isA_tuple : ∀ {H : Hp} {v : V} {t : String}, Kn H v t → kitB t "tuple" = some (decide (t = "tuple"))
  | _, _, _, .non => by decide +kernel
  | _, _, _, .bl _ => by decide +kernel
  | _, _, _, .int _ => by decide +kernel
  | _, _, _, .str _ => by decide +kernel
  | _, _, _, .lst _ => by decide +kernel
  | _, _, _, .tup _ => by decide +kernel
theorem isA_str : ∀ {H : Hp} {v : V} {t : String}, Kn H v t → kitB t "str" = some (decide (t = "str"))
  | _, _, _, .non => by decide +kernel
  | _, _, _, .bl _ => by decide +kernel
  | _, _, _, .int _ => by decide +kernel
  | _, _, _, .str _ => by decide +kernel
  | _, _, _, .lst _ => by decide +kernel
  | _, _, _, .tup _ => by decide +kernel
theorem Kn.mono {H H' : Hp} (s : Same H H') {v : V} {t : String} (k : Kn H v t) : Kn H' v t := by
  cases k with
  | non => exact .non
  | bl b => exact .bl b
  | int i => exact .int i
  | str z => exact .str z
  | lst e => exact .lst (s _ _ e)
  | tup e => exact .tup (s _ _ e)

/-! ### small words -/
theorem b_len : bootBuiltins "len" = some (.builtin "len") := PySem.boot_len
theorem b_abs : bootBuiltins "abs" = some (.builtin "abs") := by decide +kernel
theorem b_isinstance : bootBuiltins "isinstance" = some (.builtin "isinstance") := by decide +kernel
theorem b_all : bootBuiltins "all" = some (.builtin "all") := by decide +kernel
theorem b_min : bootBuiltins "min" = some (.builtin "min") := by decide +kernel
theorem b_max : bootBuiltins "max" = some (.builtin "max") := by decide +kernel
theorem b_sorted : bootBuiltins "sorted" = some (.builtin "sorted") := by decide +kernel
theorem b_int : bootBuiltins "int" = some (.type "int") := by decide +kernel
theorem b_str : bootBuiltins "str" = some (.type "str") := by decide +kernel
theorem b_bool : bootBuiltins "bool" = some (.type "bool") := by decide +kernel
theorem b_list : bootBuiltins "list" = some (.type "list") := by decide +kernel
theorem b_tuple : bootBuiltins "tuple" = some (.type "tuple") := by decide +kernel
theorem b_dict : bootBuiltins "dict" = some (.type "dict") := by decide +kernel
theorem same_upd {H H' : Hp} {p : Addr} {o : HO} (s : Same H H') (h : H' p = none) : Same H (L2.upd H' p o) := fun b u e => by
  rw [upd_ne (ne_of_none (s b u e) h)]
  exact s b u e
theorem same_new {H : Hp} {p : Addr} {o : HO} (h : H p = none) : Same H (L2.upd H p o) := same_upd (Same.refl H) h
/-- all but what stands at a is as it was -/
def But (a : Addr) (H H' : Hp) : Prop := ∀ b o, b ≠ a → H b = some o → H' b = some o
theorem But.refl (a : Addr) (H : Hp) : But a H H := fun _ _ _ h => h
theorem But.trans {a : Addr} {H H1 H2 : Hp} (x : But a H H1) (y : But a H1 H2) : But a H H2 := fun b o n e => y b o n (x b o n e)
theorem But.of {a : Addr} {H H' : Hp} (s : Same H H') : But a H H' := fun b o _ e => s b o e
theorem But.same {a : Addr} {H H' : Hp} (x : But a H H') (h : H a = none) : Same H H' := fun b o e => x b o (ne_of_none e h) e
theorem But.upd {a : Addr} {H : Hp} {o : HO} : But a H (L2.upd H a o) := fun b u n e => by rw [upd_ne n]; exact e
theorem But.new {a p : Addr} {H H' : Hp} {o : HO} (x : But a H H') (h : H' p = none) : But a H (L2.upd H' p o) := fun b u n e => by
  have q := x b u n e
  rw [upd_ne (ne_of_none q h)]
  exact q
theorem pe_gi {X : Cx} {x : Str} {pos : Pos} {i : Int} (hg : Gl X x) (h : ∃ t, X.mg x = some (.int i t)) (hd : (x == ("__debug__" : Str)) = false := by decide) : PE X (.Name x pos) (tC (.int i)) := by
  obtain ⟨t, e⟩ := h
  exact pe_glob hg e ⟨t, rfl⟩ hd
theorem pe_gs {X : Cx} {x z : Str} {pos : Pos} (hg : Gl X x) (h : ∃ t, X.mg x = some (.str z t)) (hd : (x == ("__debug__" : Str)) = false := by decide) : PE X (.Name x pos) (tC (.str z)) := by
  obtain ⟨t, e⟩ := h
  exact pe_glob hg e ⟨t, rfl⟩ hd
theorem q_eq {Q : VK} {x y : V} {H : Hp} (q : Q x H) (e : y = x) : Q y H := by rw [e]; exact q
theorem bf {b : Bool} (h : ¬ b = true) : b = false := by cases b <;> simp_all
theorem iteT' {c : Bool} {A B : Prop} (hc : c = true) (h : A) : if c = true then A else B := by rw [if_pos hc]; exact h
theorem iteF' {c : Bool} {A B : Prop} (hc : c = false) (h : B) : if c = true then A else B := by rw [hc, if_neg Bool.false_ne_true]; exact h
theorem iteB {c : Bool} {A B : Prop} (h1 : c = true → A) (h2 : c = false → B) : if c = true then A else B := by
  cases c
  · exact iteF (h2 rfl)
  · exact iteT (h1 rfl)
theorem dec_int {i j : Int} : decide (V.int i = V.int j) = decide (i = j) := by
  by_cases e : i = j
  · subst e; simp
  · rw [decide_eq_false e, decide_eq_false (fun q => e (by injection q))]
theorem dec_str {i j : Str} : decide (V.str i = V.str j) = decide (i = j) := by
  by_cases e : i = j
  · subst e; simp
  · rw [decide_eq_false e, decide_eq_false (fun q => e (by injection q))]
/-- the number in a slot -/
def sN (σ : L2.St) (i : Nat) : Nat := match σ[i]? with
  | some (some (V.int m)) => m.toNat
  | _ => 0
/-! ### steps of a reading that ask nothing -/
theorem g_seq {t u : TS} {D : Ends} {σ : L2.St} {H : Hp} (h : t { D with nx := u D } σ H) : tSeq t u D σ H := h
theorem g_setC {v : V} {i : Nat} {u : TS} {D : Ends} {σ : L2.St} {H : Hp} (h : u D (σ.set i (some v)) H) : tSeq (tAsg (tC v) (gName i)) u D σ H := h
theorem g_next {D : Ends} {σ : L2.St} {H : Hp} (h : D.nx σ H) : tNext D σ H := h
theorem kept {H : Hp} {a p : Addr} {o u : HO} (h : H a = some o) (hp : H p = none) : upd H p u a = some o := by rw [upd_ne (ne_of_none h hp)]; exact h
theorem keptN {H : Hp} {a p : Addr} {o u : HO} (h : H a = some o) (hp : a ≠ p) : upd H p u a = some o := by rw [upd_ne hp]; exact h
theorem But.free {a p : Addr} {H H' : Hp} (b : But a H H') (ha : ∃ o, H' a = some o) (hp : H' p = none) : H p = none := by
  cases e : H p with
  | none => rfl
  | some o =>
    by_cases c : p = a
    · subst c
      obtain ⟨u, hu⟩ := ha
      rw [hp] at hu
      cases hu
    · have := b p o c e
      rw [hp] at this
      cases this
theorem nodup_none {H : Hp} {p q : Addr} {o : HO} (h : upd H q o p = none) : H p = none := by
  unfold upd at h
  split at h
  · cases h
  · exact h

end Fold
namespace Fold
open PySem PySem.Spec PyProof.Rows L2
/-! ### comprehensions whose element is reckoned without a change of the heap -/
theorem take_snoc {α : Type} {xs : List α} {i : Nat} {x : α} (h : xs[i]? = some x) : xs.take (i + 1) = xs.take i ++ [x] := by
  rw [List.take_add_one, h]; rfl
theorem idx_lt {α : Type} {xs : List α} {i : Nat} {x : α} (h : xs[i]? = some x) : i < xs.length := (List.getElem?_eq_some_iff.mp h).1
/-- a tuple or a list walked; tests g? -/
theorem lc_tupM {K : PySem.W.Frag} {p : Addr} {xs : List V} {j : Nat} {te : TE} {vs : List Nat} {σ : L2.St} {H1 : Hp} {D : Addr} {Qd : Hp → Prop} (g : V → V) (hp : H1 p = some (.tup xs)) (hD : H1 D = none) (hl : xs.length < sizeLine)
    (hw : ∀ x, wipe ((wipe σ vs).set j (some x)) vs = wipe σ vs)
    (ev : ∀ (i : Nat) (x : V), xs[i]? = some x → ∀ (H' : Hp) (Q : VK), Same H1 H' → Q (g x) H' → te ((wipe σ vs).set j (some x)) H' Q) (hd : Qd (upd H1 D (.lst (xs.map g)))) :
    ∃ W : Nat → Nat → Hp → Prop, (∃ m, W 0 m (upd H1 D (.lst []))) ∧ ∀ i m H, W i m H →
      ((Itt K p).stop i H ∧ Qd H) ∨ ((Itt K p).go i H ∧ ∃ Nx : Hp → Prop, (∀ H', Nx H' → ∃ m', m' < m ∧ W (i + 1) m' H') ∧ ∀ x H', (Itt K p).yld i H x H' → gName j x (wipe σ vs) H' fun σ2 H2 => wipe σ2 vs = wipe σ vs ∧ tYes σ2 H2 fun b H3 =>
        if b = true then te σ2 H3 fun y H4 => ∃ acc, H4 D = some (.lst acc) ∧ acc.length < sizeLine ∧ Nx (upd H4 D (.lst (acc ++ [y]))) else Nx H3) := by
  refine lc_tup (xs := xs) (fun i H' => H' = upd H1 D (.lst ((xs.take i).map g))) rfl ?_ ?_ ?_
  · rintro i H' _ rfl
    exact SqT.of (by rw [upd_ne (ne_of_none hp hD)]; exact hp)
  · rintro i x H' hi rfl
    refine ⟨hw x, ?_⟩
    unfold tYes
    dsimp only
    rw [if_pos rfl]
    refine ev i x hi _ _ (same_new hD) ⟨_, upd_same, ?_, ?_⟩
    · rw [List.length_map, List.length_take]; omega
    · rw [upd_upd, take_snoc hi, List.map_append]; rfl
  · rintro H' rfl
    rw [List.take_length]
    exact hd
theorem lc_listM {K : PySem.W.Frag} {p : Addr} {xs : List V} {j : Nat} {te : TE} {vs : List Nat} {σ : L2.St} {H1 : Hp} {D : Addr} {Qd : Hp → Prop} (g : V → V) (hp : H1 p = some (.lst xs)) (hD : H1 D = none) (hl : xs.length < sizeLine)
    (hw : ∀ x, wipe ((wipe σ vs).set j (some x)) vs = wipe σ vs)
    (ev : ∀ (i : Nat) (x : V), xs[i]? = some x → ∀ (H' : Hp) (Q : VK), Same H1 H' → Q (g x) H' → te ((wipe σ vs).set j (some x)) H' Q) (hd : Qd (upd H1 D (.lst (xs.map g)))) :
    ∃ W : Nat → Nat → Hp → Prop, (∃ m, W 0 m (upd H1 D (.lst []))) ∧ ∀ i m H, W i m H →
      ((Itl K p).stop i H ∧ Qd H) ∨ ((Itl K p).go i H ∧ ∃ Nx : Hp → Prop, (∀ H', Nx H' → ∃ m', m' < m ∧ W (i + 1) m' H') ∧ ∀ x H', (Itl K p).yld i H x H' → gName j x (wipe σ vs) H' fun σ2 H2 => wipe σ2 vs = wipe σ vs ∧ tYes σ2 H2 fun b H3 =>
        if b = true then te σ2 H3 fun y H4 => ∃ acc, H4 D = some (.lst acc) ∧ acc.length < sizeLine ∧ Nx (upd H4 D (.lst (acc ++ [y]))) else Nx H3) := by
  refine lc_list (xs := xs) (fun i H' => H' = upd H1 D (.lst ((xs.take i).map g))) rfl ?_ ?_ ?_
  · rintro i H' _ rfl
    exact SqL.of (by rw [upd_ne (ne_of_none hp hD)]; exact hp)
  · rintro i x H' hi rfl
    refine ⟨hw x, ?_⟩
    unfold tYes
    dsimp only
    rw [if_pos rfl]
    refine ev i x hi _ _ (same_new hD) ⟨_, upd_same, ?_, ?_⟩
    · rw [List.length_map, List.length_take]; omega
    · rw [upd_upd, take_snoc hi, List.map_append]; rfl
  · rintro H' rfl
    rw [List.take_length]
    exact hd
theorem lc_rangeM {lo : Int} {n : Nat} {j : Nat} {te : TE} {vs : List Nat} {σ : L2.St} {H1 : Hp} {D : Addr} {Qd : Hp → Prop} (g : Nat → V) (hD : H1 D = none) (hl : n < sizeLine)
    (hw : ∀ x, wipe ((wipe σ vs).set j (some x)) vs = wipe σ vs)
    (ev : ∀ i, i < n → ∀ (H' : Hp) (Q : VK), Same H1 H' → Q (g i) H' → te ((wipe σ vs).set j (some (.int (lo + i)))) H' Q) (hd : Qd (upd H1 D (.lst ((List.range n).map g)))) :
    ∃ W : Nat → Nat → Hp → Prop, (∃ m, W 0 m (upd H1 D (.lst []))) ∧ ∀ i m H, W i m H →
      ((Itr lo n).stop i H ∧ Qd H) ∨ ((Itr lo n).go i H ∧ ∃ Nx : Hp → Prop, (∀ H', Nx H' → ∃ m', m' < m ∧ W (i + 1) m' H') ∧ ∀ x H', (Itr lo n).yld i H x H' → gName j x (wipe σ vs) H' fun σ2 H2 => wipe σ2 vs = wipe σ vs ∧ tYes σ2 H2 fun b H3 =>
        if b = true then te σ2 H3 fun y H4 => ∃ acc, H4 D = some (.lst acc) ∧ acc.length < sizeLine ∧ Nx (upd H4 D (.lst (acc ++ [y]))) else Nx H3) := by
  refine lc_range (fun i H' => H' = upd H1 D (.lst ((List.range i).map g))) rfl ?_ ?_
  · rintro i H' hi rfl
    refine ⟨hw _, ?_⟩
    unfold tYes
    dsimp only
    rw [if_pos rfl]
    refine ev i hi _ _ (same_new hD) ⟨_, upd_same, ?_, ?_⟩
    · rw [List.length_map, List.length_range]; omega
    · rw [upd_upd, List.range_succ, List.map_append]; rfl
  · rintro H' rfl
    exact hd
theorem lc_rangeF {lo : Int} {n : Nat} {j : Nat} {te : TE} {tt : TT} {vs : List Nat} {σ : L2.St} {H1 : Hp} {D : Addr} {Qd : Hp → Prop} (b : Nat → Bool) (g : Nat → V) (hD : H1 D = none) (hl : n < sizeLine)
    (hw : ∀ x, wipe ((wipe σ vs).set j (some x)) vs = wipe σ vs)
    (et : ∀ (i : Nat), i < n → ∀ (H' : Hp) (Q : Bool → Hp → Prop), Same H1 H' → Q (b i) H' → tt ((wipe σ vs).set j (some (.int (lo + i)))) H' Q)
    (ev : ∀ (i : Nat), i < n → ∀ (H' : Hp) (Q : VK), Same H1 H' → Q (g i) H' → te ((wipe σ vs).set j (some (.int (lo + i)))) H' Q) (hd : Qd (upd H1 D (.lst (((List.range n).filter b).map g)))) :
    ∃ W : Nat → Nat → Hp → Prop, (∃ m, W 0 m (upd H1 D (.lst []))) ∧ ∀ i m H, W i m H →
      ((Itr lo n).stop i H ∧ Qd H) ∨ ((Itr lo n).go i H ∧ ∃ Nx : Hp → Prop, (∀ H', Nx H' → ∃ m', m' < m ∧ W (i + 1) m' H') ∧ ∀ x H', (Itr lo n).yld i H x H' → gName j x (wipe σ vs) H' fun σ2 H2 => wipe σ2 vs = wipe σ vs ∧ tt σ2 H2 fun b H3 =>
        if b = true then te σ2 H3 fun y H4 => ∃ acc, H4 D = some (.lst acc) ∧ acc.length < sizeLine ∧ Nx (upd H4 D (.lst (acc ++ [y]))) else Nx H3) := by
  refine lc_range (fun i H' => H' = upd H1 D (.lst (((List.range i).filter b).map g))) rfl ?_ ?_
  · rintro i H' hi rfl
    refine ⟨hw _, et i hi _ _ (same_new hD) ?_⟩
    cases c : b i with
    | true =>
      rw [if_pos rfl]
      refine ev i hi _ _ (same_new hD) ⟨_, upd_same, ?_, ?_⟩
      · rw [List.length_map]
        have := List.length_filter_le b (List.range i)
        rw [List.length_range] at this
        omega
      · rw [upd_upd, List.range_succ, List.filter_append, List.map_append, List.filter_cons_of_pos c]; rfl
    | false =>
      rw [if_neg Bool.false_ne_true, List.range_succ, List.filter_append, List.filter_cons_of_neg (by rw [c]; exact Bool.false_ne_true), List.filter_nil, List.append_nil]
  · rintro H' rfl
    exact hd
/-- a list walked, with a test -/
theorem lc_listF {K : PySem.W.Frag} {p : Addr} {xs : List V} {j : Nat} {te : TE} {tt : TT} {vs : List Nat} {σ : L2.St} {H1 : Hp} {D : Addr} {Qd : Hp → Prop} (b : V → Bool) (g : V → V) (hp : H1 p = some (.lst xs)) (hD : H1 D = none) (hl : xs.length < sizeLine)
    (hw : ∀ x, wipe ((wipe σ vs).set j (some x)) vs = wipe σ vs)
    (et : ∀ (i : Nat) (x : V), xs[i]? = some x → ∀ (H' : Hp) (Q : Bool → Hp → Prop), Same H1 H' → Q (b x) H' → tt ((wipe σ vs).set j (some x)) H' Q)
    (ev : ∀ (i : Nat) (x : V), xs[i]? = some x → ∀ (H' : Hp) (Q : VK), Same H1 H' → Q (g x) H' → te ((wipe σ vs).set j (some x)) H' Q) (hd : Qd (upd H1 D (.lst ((xs.filter b).map g)))) :
    ∃ W : Nat → Nat → Hp → Prop, (∃ m, W 0 m (upd H1 D (.lst []))) ∧ ∀ i m H, W i m H →
      ((Itl K p).stop i H ∧ Qd H) ∨ ((Itl K p).go i H ∧ ∃ Nx : Hp → Prop, (∀ H', Nx H' → ∃ m', m' < m ∧ W (i + 1) m' H') ∧ ∀ x H', (Itl K p).yld i H x H' → gName j x (wipe σ vs) H' fun σ2 H2 => wipe σ2 vs = wipe σ vs ∧ tt σ2 H2 fun b H3 =>
        if b = true then te σ2 H3 fun y H4 => ∃ acc, H4 D = some (.lst acc) ∧ acc.length < sizeLine ∧ Nx (upd H4 D (.lst (acc ++ [y]))) else Nx H3) := by
  refine lc_list (xs := xs) (fun i H' => H' = upd H1 D (.lst (((xs.take i).filter b).map g))) rfl ?_ ?_ ?_
  · rintro i H' _ rfl
    exact SqL.of (by rw [upd_ne (ne_of_none hp hD)]; exact hp)
  · rintro i x H' hi rfl
    refine ⟨hw x, et i x hi _ _ (same_new hD) ?_⟩
    cases c : b x with
    | true =>
      rw [if_pos rfl]
      refine ev i x hi _ _ (same_new hD) ⟨_, upd_same, ?_, ?_⟩
      · rw [List.length_map]
        have := List.length_filter_le b (xs.take i)
        rw [List.length_take] at this
        omega
      · rw [upd_upd, take_snoc hi, List.filter_append, List.map_append, List.filter_cons_of_pos c]; rfl
    | false =>
      rw [if_neg Bool.false_ne_true, take_snoc hi, List.filter_append, List.filter_cons_of_neg (by rw [c]; exact Bool.false_ne_true), List.filter_nil, List.append_nil]
  · rintro H' rfl
    rw [List.take_length]
    exact hd
theorem small6 {n : Nat} (h : n ≤ 6) : n < sizeLine := Nat.lt_of_le_of_lt h (by decide)

end Fold
namespace Fold
open PySem PySem.Spec PyProof.Rows L2
/-! ### classes of the text -/
def NaAll (K : PySem.W.Frag) (C : Addr) : List Str → Prop
  | [] => True
  | f :: r => NoAttr K C f ∧ NaAll K C r
theorem na_all {p : Prop} (h : p) : p := h
structure Cl (K : PySem.W.Frag) (mg : Str → Option Value) (C : Addr) (x : Str) (fs : List Str) : Prop where
  cl : Cls K C
  g : mg x = some (.ref C)
  mkC : PySem.W.makesIn K C = true
  kC : PySem.W.keepIn K (.ref C) = true
  na : NaAll K C fs
/-- a method of the text -/
structure Dm (K : PySem.W.Frag) (C : Addr) (m qual : Str) (st : Stmt) (ps : List Str) : Prop where
  ex : ∃ f fd, Fun K m qual st f fd ∧ PySem.W.findIn K (.ref C) m = some (some (.ref f)) ∧ PySem.W.isFn K (.ref f) = true ∧ Binds K fd ps []
/-- a method's promise (CX0: nothing is raised out of it) -/
structure Mt (CX : CXT) (P : Program) (w : World) (K : PySem.W.Frag) (mg : Str → Option Value) (base : Heap) (k : Nat) (C : Addr) (m : Str) (sp : Sp) : Prop where
  ex : ∃ f fd ps, FnOk P w K mg base CX k f fd ps sp ∧ Meth K C m f ∧ Binds K fd ps []
abbrev Mt0 := Mt CX0
abbrev Mt1 (P : Program) (w : World) := Mt (L2.CX P w) P w
/-- what the call of a class promises -/
structure In (CX : CXT) (P : Program) (w : World) (K : PySem.W.Frag) (mg : Str → Option Value) (base : Heap) (k : Nat) (C : Addr) (x : Str) (sp : Sp) : Prop where
  ex : ∃ f fd ps, FnOk P w K mg base CX k f fd ps sp ∧ Mk K C f ∧ mg x = some (.ref C) ∧ Binds K fd ps []
section
variable {P : Program} {w : World} {K : PySem.W.Frag} {mg : Str → Option Value} {base : Heap} {x m qual : Str} {st : Stmt} {N ps fs : List Str} {k : Nat} {sp : Sp} {C : Addr}
theorem Dm.m0 (F : Dm K C m qual st ps) (S : FnScope N ps (defScope st)) (len : ∀ vs H Q E, sp vs H Q E → vs.length = ps.length)
    (hbody : ∀ (f : Addr) (cdv : Value) (A : Around) (outer : List Env) (s : Shared) (H : Hp) (vs : List V) (Q : VK) (E : XK), Room k (A.deeper (envOfC qual (defScope st) s.heap.objs.size f cdv)) → sp vs H Q E →
      ∃ t, PSs (cxOf CX0 P w K mg base N qual (defScope st) f cdv A outer s H E).nox (defBody st) t ∧ t { nx := fun _ H' => Q .non H', rt := Q } (start N vs) H) : Mt CX0 P w K mg base (k + 1) C m sp := by
  obtain ⟨f, fd, F1, hm, hi, b⟩ := F.ex
  exact ⟨f, fd, ps, F1.ok S len (fun cdv A outer s H vs Q E => hbody f cdv A outer s H vs Q E), ⟨hm, hi, F1.kp⟩, b⟩
theorem Dm.m1 (F : Dm K C m qual st ps) (S : FnScope N ps (defScope st)) (len : ∀ vs H Q E, sp vs H Q E → vs.length = ps.length)
    (hbody : ∀ (f : Addr) (cdv : Value) (A : Around) (outer : List Env) (s : Shared) (H : Hp) (vs : List V) (Q : VK) (E : XK), Room k (A.deeper (envOfC qual (defScope st) s.heap.objs.size f cdv)) → sp vs H Q E →
      ∃ t, PSs (cxOf (L2.CX P w) P w K mg base N qual (defScope st) f cdv A outer s H E) (defBody st) t ∧ t { nx := fun _ H' => Q .non H', rt := Q } (start N vs) H) : Mt (L2.CX P w) P w K mg base (k + 1) C m sp := by
  obtain ⟨f, fd, F1, hm, hi, b⟩ := F.ex
  exact ⟨f, fd, ps, F1.okX S len (fun cdv A outer s H vs Q E => hbody f cdv A outer s H vs Q E), ⟨hm, hi, F1.kp⟩, b⟩
theorem Mt.make {CX : CXT} (M : Mt CX P w K mg base k C "__init__" sp) (T : Cl K mg C x fs) : In CX P w K mg base k C x sp := by
  obtain ⟨f, fd, ps, F, ⟨h1, h2, _⟩, b⟩ := M.ex
  exact ⟨f, fd, ps, F, ⟨T.mkC, h1, h2, T.kC⟩, T.g, b⟩
end
section
variable {X : Cx} {CX : CXT} {k j : Nat} {x m : Str} {sp : Sp} {p pos apos : Pos} {e o : Expr} {es : List Expr} {t : TA} {ta : TE} {W : WX} {C f : Addr} {fd : FuncData} {ps : List Str} {E : XK}
/-- C(..), what is raised wished for at the slots -/
theorem run_makeS {pins : List (Addr × Obj)} {σ : L2.St} {H : Hp} {s : Shared} {Q : VK} {us : List Value} {vs : List V} (M : Mk X.K C f) (F : FnOk X.prog X.w X.K X.mg X.base CX k f fd ps sp) (hr : Room (k + 1) X.A) (hb : Binds X.K fd ps [])
    (hx : PassesAt CX X σ E) (I : Inv X pins σ H s) (r : Vals vs us)
    (h : ∀ x dx, H x = none → H dx = none → dx ≠ x → sp (.ref x :: vs) (upd (upd H dx (.own x)) x (.ins C dx [])) (fun v H2 => v = .non ∧ Q (.ref x) H2) E) :
    wpAny (model X.prog X.w) X.A (call (.ref C) us) (EP X pins σ Q) X.xe s := by
  have hq := h (s.heap.objs.size + 1) s.heap.objs.size (I.hok.fresh (Nat.le_succ _)) (I.hok.fresh (Nat.le_refl _)) (Nat.ne_of_lt (Nat.lt_succ_self _))
  have I2 := Inv.made (C := C) I
  have r2 : Vals (V.ref (s.heap.objs.size + 1) :: vs) (Value.ref (s.heap.objs.size + 1) :: us) := .cons rfl r
  have hl : (Value.ref (s.heap.objs.size + 1) :: us).length = ps.length := by
    have e := r2.length
    rw [F.len _ _ _ _ hq] at e
    exact e.symm
  have b := hb _ (Value.ref (s.heap.objs.size + 1) :: us) I2.kIn (by rw [List.append_nil]; exact hl)
  rw [List.append_nil] at b
  refine wpAny_call (make_map (f := f) I.kIn M.makes M.init (beq_iff_eq.mp M.fn) (codeAny_mono (F.run _ X.stack _ _ ⟨Value.ref (s.heap.objs.size + 1) :: us, []⟩ (Value.ref (s.heap.objs.size + 1) :: us) _ _ E (hr.make C us [])
    (I2.env0.make C us []) b r2 hq) fun r s' hq' => ?_))
  cases r with
  | error e => exact hx pins _ _ e s' I2 hq'
  | ok fl =>
    cases fl with
    | ret u =>
      obtain ⟨v, H', I3, rv, ev, q3⟩ := I2.after hq'
      subst ev
      exact ⟨rv, ⟨V.ref (s.heap.objs.size + 1), H', I3, rfl, q3⟩⟩
    | next => exact False.elim hq'
    | brk => exact False.elim hq'
    | cont => exact False.elim hq'
def tMakeS (C : Addr) (sp : Sp) (E : L2.St → XK) (t : TA) : TE := fun σ H Q => t σ H fun vs H1 => ∀ x dx, H1 x = none → H1 dx = none → dx ≠ x →
  sp (.ref x :: vs) (upd (upd H1 dx (.own x)) x (.ins C dx [])) (fun v H2 => v = .non ∧ Q (.ref x) H2) (E σ)
theorem pe_m1 (c : In (L2.CX X.prog X.w) X.prog X.w X.K X.mg X.base k C x sp) (hr : Room j X.A) (hk : k + 1 ≤ j) (tk : Takes X W) (ha : PA X (e :: es) t) (hg : Gl X x := by rfl)
    (hdb : (x == ("__debug__" : Str)) = false := by decide) (he : starEach (e :: es) X.env = (false, eval e X.env) :: starEach es X.env := by rfl) (hpl : (backTo pos (starEach es X.env)).any (·.1) = false := by rfl) :
    PE X (.Call (.Name x p) (e :: es) [] pos) (tMakeS C sp (WE W) t) := by
  obtain ⟨f, fd, ps, F, M, hm, b⟩ := c.ex
  refine ⟨fun pins s σ H Q I h => ?_⟩
  refine wpAny_Call_Name_kw (ld_glob I hg hm ?_ hdb)
  refine PySem.W.callWith_K (h₀ := X.base) I.ok.mod.kin M.kp (thn (ha.run pos pins s σ H _ I h) fun us s1 ⟨vs, H1, I1, r, q⟩ => ⟨I1.kIn, ?_⟩) he hpl
  exact run_makeS M F (hr.mono hk) b (passAt tk σ) I1 r q
theorem pe_m10 (c : In (L2.CX X.prog X.w) X.prog X.w X.K X.mg X.base k C x sp) (hr : Room j X.A) (hk : k + 1 ≤ j) (ha : PA X (e :: es) t) (hg : Gl X x := by rfl)
    (hdb : (x == ("__debug__" : Str)) = false := by decide) (he : starEach (e :: es) X.env = (false, eval e X.env) :: starEach es X.env := by rfl) (hpl : (backTo pos (starEach es X.env)).any (·.1) = false := by rfl) :
    PE X (.Call (.Name x p) (e :: es) [] pos) (tMake C sp [] E0 t) := by
  obtain ⟨f, fd, ps, F, M, hm, b⟩ := c.ex
  exact pe_make M F (hr.mono hk) hg hm b .nil passL ha hdb he hpl
theorem pe_m0 (c : In CX0 X.prog X.w X.K X.mg X.base k C x sp) (hr : Room j X.A) (hk : k + 1 ≤ j) (ha : PA X (e :: es) t) (hg : Gl X x := by rfl)
    (hdb : (x == ("__debug__" : Str)) = false := by decide) (he : starEach (e :: es) X.env = (false, eval e X.env) :: starEach es X.env := by rfl) (hpl : (backTo pos (starEach es X.env)).any (·.1) = false := by rfl) :
    PE X (.Call (.Name x p) (e :: es) [] pos) (tMake C sp [] E0 t) := by
  obtain ⟨f, fd, ps, F, M, hm, b⟩ := c.ex
  exact pe_make M F (hr.mono hk) hg hm b .nil pass0 ha hdb he hpl
/-- o.m(e, ..) -/
theorem pe_o0 {pl : Sem Bool} (c : Mt CX0 X.prog X.w X.K X.mg X.base k C m sp) (hr : Room j X.A) (hk : k ≤ j) (he : PE X o ta) (cl : Cls X.K C) (ha : PA X (e :: es) t)
    (hst : starEach (e :: es) X.env = (false, eval e X.env) :: starEach es X.env := by rfl) (hpl : (backTo pos (starEach es X.env)).any (·.1) = false := by rfl)
    (ht : eval (.Call (.Attribute o m apos) (e :: es) [] pos) X.env = (do
      let ov ← eval o X.env
      standAt apos.atName
      let (f, first) ← holding [ov] (getMethod ov m pl)
      callWith pos f first (backTo pos (starEach (e :: es) X.env)) (backToKw pos (keywordEach [] X.env))) := by rfl) :
    PE X (.Call (.Attribute o m apos) (e :: es) [] pos) (tMeth C m sp [] E0 ta t) := by
  obtain ⟨f, fd, ps, F, M, b⟩ := c.ex
  exact pe_meth he cl M F (hr.mono hk) b .nil pass0 ha hst hpl ht
theorem pe_o00 {pl : Sem Bool} (c : Mt CX0 X.prog X.w X.K X.mg X.base k C m sp) (hr : Room j X.A) (hk : k ≤ j) (he : PE X o ta) (cl : Cls X.K C)
    (ht : eval (.Call (.Attribute o m apos) [] [] pos) X.env = (do
      let ov ← eval o X.env
      standAt apos.atName
      let (f, first) ← holding [ov] (getMethod ov m pl)
      callWith pos f first (backTo pos (starEach [] X.env)) (backToKw pos (keywordEach [] X.env))) := by rfl) :
    PE X (.Call (.Attribute o m apos) [] [] pos) (tMeth C m sp [] E0 ta tNil) := by
  obtain ⟨f, fd, ps, F, M, b⟩ := c.ex
  exact pe_meth0 he cl M F (hr.mono hk) b .nil pass0 ht
theorem pe_o100 {pl : Sem Bool} (c : Mt (L2.CX X.prog X.w) X.prog X.w X.K X.mg X.base k C m sp) (hr : Room j X.A) (hk : k ≤ j) (he : PE X o ta) (cl : Cls X.K C)
    (ht : eval (.Call (.Attribute o m apos) [] [] pos) X.env = (do
      let ov ← eval o X.env
      standAt apos.atName
      let (f, first) ← holding [ov] (getMethod ov m pl)
      callWith pos f first (backTo pos (starEach [] X.env)) (backToKw pos (keywordEach [] X.env))) := by rfl) :
    PE X (.Call (.Attribute o m apos) [] [] pos) (tMeth C m sp [] E0 ta tNil) := by
  obtain ⟨f, fd, ps, F, M, b⟩ := c.ex
  exact pe_meth0 he cl M F (hr.mono hk) b .nil passL ht
/-- .. what is raised wished for at the slots -/
def tMethS (C : Addr) (m : Str) (sp : Sp) (E : L2.St → XK) (ta : TE) (t : TA) : TE := fun σ H Q => ta σ H fun x H1 => ∃ a dx fs, x = .ref a ∧ H1 a = some (.ins C dx fs) ∧ fs.lookup m = none ∧
  t σ H1 fun vs H2 => sp (x :: vs) H2 Q (E σ)
theorem pe_o10 {pl : Sem Bool} (c : Mt (L2.CX X.prog X.w) X.prog X.w X.K X.mg X.base k C m sp) (hr : Room j X.A) (hk : k ≤ j) (tk : Takes X W) (he : PE X o ta) (cl : Cls X.K C)
    (ht : eval (.Call (.Attribute o m apos) [] [] pos) X.env = (do
      let ov ← eval o X.env
      standAt apos.atName
      let (f, first) ← holding [ov] (getMethod ov m pl)
      callWith pos f first (backTo pos (starEach [] X.env)) (backToKw pos (keywordEach [] X.env))) := by rfl) :
    PE X (.Call (.Attribute o m apos) [] [] pos) (tMethS C m sp (WE W) ta tNil) := by
  obtain ⟨f, fd, ps, F, hm, b⟩ := c.ex
  refine ⟨fun pins s σ H Q I h => ?_⟩
  refine PySem.W.methodCall_KW (pl := pl) (thn (he.run pins s σ H _ I h) fun u s1 ⟨x, H1, I1, rx, a, dx, fs, ex, ea, l, q⟩ => ?_) ht
  subst ex
  obtain rfl : u = Value.ref a := rx
  refine getmeth_ok I1 ea cl hm l ?_
  exact PySem.W.callWith_K0 (first := [.ref a]) I1.kIn hm.kp (run_fnS (us := [.ref a]) (vs := [.ref a]) F (hr.mono hk) b (passAt tk σ) I1 (.cons rfl .nil) q)
end
/-! ### x in o, o of an own class with __contains__ -/
section
variable {X : Cx} {k j : Nat} {sp : Sp} {C : Addr}
def rInOwn (C : Addr) (sp : Sp) (neg : Bool) : R2 := fun x y H Q => ∃ a dx fs, y = .ref a ∧ H a = some (.ins C dx fs) ∧ sp [y, x] H (fun v H' => ∃ b, v = .bl b ∧ Q (.bl (if neg then !b else b)) H') E0
theorem contains_own {pins : List (Addr × Obj)} {s : Shared} {σ : L2.St} {H : Hp} {x : V} {v : Value} {a dx : Addr} {fs : List (Str × V)} {Q : Bool → Shared → Prop} {Qw : VK} (c : Mt CX0 X.prog X.w X.K X.mg X.base k C "__contains__" sp) (hr : Room j X.A) (hk : k ≤ j)
    (I : Inv X pins σ H s) (rx : RelV x v) (ha : H a = some (.ins C dx fs)) (hs : sp [.ref a, x] H Qw E0) (hQ : ∀ y H' s', Inv X pins σ H' s' → Qw y H' → ∃ b, y = .bl b ∧ Q b s') :
    wpAny (model X.prog X.w) X.A (contains (.ref a) v) Q X.xe s := by
  obtain ⟨f, fd, ps, F, M, hb⟩ := c.ex
  obtain ⟨mA, J, _⟩ := ins_get I.hok ha
  obtain ⟨od, J, _⟩ := J.look
  unfold contains
  refine wpAny_holding ?_
  rw [stdlibNamesSay?_ref]
  show wpAny _ _ (specialOf (.ref a) "__contains__" >>= _) _ _ _
  have sp1 : PySem.W.Looks (model X.prog X.w) s.heap (specialOf (.ref a) "__contains__") (some (.ref f)) := J.type.andThen (PySem.W.looks_findIn I.kIn M.at_)
  refine wpAny_bind (sp1.here ?_)
  show wpAny _ _ (if (some (Value.ref f) == some Value.none) = true then _ else _) _ _ _
  rw [if_neg (by simp)]
  unfold callSpecialUnlessNone?
  refine wpAny_bind (wpAny_bind (sp1.here ?_))
  refine wpAny_holding (wpAny_bind ((PySem.W.bind_fn I.kIn _ (beq_iff_eq.mp M.fn)).here ?_))
  show wpAny _ _ (if (Value.ref f == Value.none) = true then _ else _) _ _ _
  rw [if_neg (by simp)]
  refine wpAny_bind (wpAny_mono (run_fn (us := [.ref a, v]) (vs := [.ref a, x]) (dvs := []) (ds := []) (E := E0) F (hr.mono hk) hb .nil pass0 I (.cons rfl (.cons rx .nil)) hs) (fun u s' hq => ?_) fun _ _ z => z)
  obtain ⟨y, H', I', ry, q⟩ := hq
  obtain ⟨b, ey, q2⟩ := hQ y H' s' I' q
  subst ey
  cases ry
  refine wpAny_pure ?_
  exact wpAny_truthy_bool q2
theorem op_inOwn (c : Mt CX0 X.prog X.w X.K X.mg X.base k C "__contains__" sp) (hr : Room j X.A) (hk : k ≤ j) : OpR X (compareOp .In) (rInOwn C sp false) := by
  intro pins s σ H x y v u Q I rx ry h
  obtain ⟨a, dx, fs, rfl, ha, hs⟩ := h
  cases ry
  show wpAny _ _ (contains (.ref a) v >>= fun b => (pure (Value.bool b) : Sem Value)) _ _ _
  refine wpAny_bind (contains_own c hr hk I rx ha hs fun y H' s' I' q => ?_)
  obtain ⟨b, rfl, q⟩ := q
  exact ⟨b, rfl, wpAny_pure ⟨.bl b, H', I', rfl, q⟩⟩
theorem op_notInOwn (c : Mt CX0 X.prog X.w X.K X.mg X.base k C "__contains__" sp) (hr : Room j X.A) (hk : k ≤ j) : OpR X (compareOp .NotIn) (rInOwn C sp true) := by
  intro pins s σ H x y v u Q I rx ry h
  obtain ⟨a, dx, fs, rfl, ha, hs⟩ := h
  cases ry
  show wpAny _ _ (contains (.ref a) v >>= fun b => (pure (Value.bool (!b)) : Sem Value)) _ _ _
  refine wpAny_bind (contains_own c hr hk I rx ha hs fun y H' s' I' q => ?_)
  obtain ⟨b, rfl, q⟩ := q
  exact ⟨b, rfl, wpAny_pure ⟨.bl (!b), H', I', rfl, q⟩⟩
end

end Fold
namespace Fold
open PySem PySem.Spec PyProof.Rows L2
/-! ### enumerate of a tuple -/
open PySem.Sem (wp) in
open AutoSeq1 (wpAny_loadPart') in
theorem meets_enumT (l : Addr) (items : Array Value) (n : Nat) (dct : Option Addr) (sl : Array (Option Value)) :
    Meets (Builtin.«enumerate.__new__» ⟨[.type "enumerate", .ref l], []⟩) (fun _ R s => s.heap.get? l = some { cls := .type "tuple", dict := dct, data := .seq items n, slots := sl } ∧
      R (.ok (.ret (.ref (s.heap.push { cls := .type "tuple_iterator", data := .fields #[.ref l, .int 0 0] }).objs.size)))
        { s with heap := (s.heap.push { cls := .type "tuple_iterator", data := .fields #[.ref l, .int 0 0] }).push { cls := .type "enumerate", data := .fields #[.none, .bool false, .ref s.heap.objs.size, rawInt 0, .none, .none] } }) :=
  .of_wp fun prog w A R s h => by
    obtain ⟨hp, g, d, tk, os⟩ := s; obtain ⟨hl, h⟩ := h
    have hsub := sub_enumerate
    have hL : Heap.IsTuple (Shared.heap ⟨hp, g, d, tk, os⟩) l items := ⟨_, hl, rfl, n, rfl⟩
    wp_walk using wpAny_loadPart' hl
    refine wpAny_stack_any fun st => wpAny_pure ?_
    split
    · rename_i c _ _ _ _ _
      cases (c == Value.type "enumerate")
      · wp_walk using wpAny_loadPart' hl, wpAny_pyIter_tuple hL
        exact ⟨_, rfl, h⟩
      · wp_walk using wpAny_loadPart' hl, wpAny_pyIter_tuple hL
        exact ⟨_, rfl, h⟩
    · wp_walk using wpAny_loadPart' hl, wpAny_pyIter_tuple hL
      exact ⟨_, rfl, h⟩
theorem call_enumT {prog : Program} {w : World} {A : Around} {E : Value → Shared → Prop} {s : Shared} {l : Addr} {items : Array Value} {Q : Value → Shared → Prop} (hL : s.heap.IsTuple l items)
    (h : ∀ h', IsEnum h' (s.heap.objs.size + 1) s.heap.objs.size 0 .none → h'.IsTupleIter s.heap.objs.size l 0 → h'.objs.size = s.heap.objs.size + 2 →
      (∀ b o, s.heap.get? b = some o → h'.get? b = some o) → Q (.ref (s.heap.objs.size + 1)) { s with heap := h' }) :
    wpAny (model prog w) A (call (.type "enumerate") [.ref l]) Q E s := by
  obtain ⟨⟨c, dct, dt, sl⟩, hl, hc, n, hd⟩ := hL
  replace hc : c = .type "tuple" := hc
  replace hd : dt = .seq items n := hd
  subst hc hd
  refine callType_new F.called_enumerate (by decide) (F.typeCall_enumerate_1 _) (F.newCall_enumerate_1 _) (fun obj => F.args_object_init_2 obj _) F.entry_enumerate_new
    (meets_enumT l items n dct sl) ⟨hl, ?_⟩
  have hz : (s.heap.push { cls := .type "tuple_iterator", data := .fields #[.ref l, .int 0 0] }).objs.size = s.heap.objs.size + 1 := Heap.size_push ..
  show _ ∧ _
  rw [hz]
  have he : IsEnum ((s.heap.push { cls := .type "tuple_iterator", data := .fields #[.ref l, .int 0 0] }).push
      { cls := .type "enumerate", data := .fields #[.none, .bool false, .ref s.heap.objs.size, rawInt 0, .none, .none] }) (s.heap.objs.size + 1) s.heap.objs.size 0 .none := by
    have := Heap.get?_push_size (s.heap.push { cls := .type "tuple_iterator", data := .fields #[.ref l, .int 0 0] })
      (o := { cls := .type "enumerate", data := .fields #[.none, .bool false, .ref s.heap.objs.size, rawInt 0, .none, .none] }) rfl
    rw [hz] at this; exact this
  refine ⟨⟨_, he, rfl⟩, h _ he ⟨_, Heap.get?_push_of_some _ (Heap.get?_push_size _ rfl), rfl, rfl⟩ (by rw [Heap.size_push, hz]) fun b o x => Heap.get?_push_of_some _ (Heap.get?_push_of_some _ x)⟩
theorem draws_tup {prog : Program} {w : World} {A : Around} (hh : A.handled = none) (it l : Addr) (hne : l ≠ it) (items : Array Value) :
    Draws prog w A it [it, l] items.size (fun i v => items[i]? = some v) (fun i h => h.IsTupleIter it l i ∧ h.IsTuple l items) where
  live := fun _ _ st => let ⟨o, ho, _⟩ := st.1; ⟨o, ho⟩
  frame := fun _ _ _ st hk => ⟨st.1.at fun o e => hk it (by simp) o e, let ⟨o, ho, r⟩ := st.2; ⟨o, hk l (by simp) o ho, r⟩⟩
  item := fun i s Q E hi st hQ => by
    refine RZ.nextOf_tuple_item st.1 st.2 (x := items[i]) (by simp [hi]) fun h' hit' hs' => ?_
    exact hQ _ h' s.toks (by simp [hi]) ⟨hit', let ⟨o, ho, r⟩ := st.2; ⟨o, (hs'.2 l hne).trans ho, r⟩⟩ hs'
  done := fun s Q E st hE => RZ.nextOf_tuple_end hh st.1 st.2 (by simp) hE
theorem draws_end {prog : Program} {w : World} {A : Around} (hh : A.handled = none) (it l : Addr) (items : Array Value) (i : Nat) (hi : items.size ≤ i) :
    Draws prog w A it [it, l] 0 (fun _ _ => False) (fun k h => h.IsTupleIter it l (i + k) ∧ h.IsTuple l items) where
  live := fun _ _ st => let ⟨o, ho, _⟩ := st.1; ⟨o, ho⟩
  frame := fun _ _ _ st hk => ⟨st.1.at fun o e => hk it (by simp) o e, let ⟨o, ho, r⟩ := st.2; ⟨o, hk l (by simp) o ho, r⟩⟩
  item := fun i s Q E hi st hQ => absurd hi (Nat.not_lt_zero _)
  done := fun s Q E st hE => RZ.nextOf_tuple_end hh st.1 st.2 (by simp [hi]) hE
def IteT (K : PySem.W.Frag) (a : Addr) : It :=
  ⟨fun i H => ∃ (xs : List V) (x : V), SqT K H a xs ∧ xs[i]? = some x, fun i H v H' => ∃ T x, v = .ref T ∧ H T = none ∧ H' = upd H T (.tup [.int (i : Nat), x]) ∧ ∀ xs, SqT K H a xs → xs[i]? = some x, fun i H => ∃ xs : List V, SqT K H a xs ∧ xs.length ≤ i⟩
theorem turn_enumT {P : Program} {w : World} {K : PySem.W.Frag} {elts : List Expr} {kk : Nat} {tpos : Pos} (a e it : Addr) :
    Turn P w K (.Tuple elts kk tpos) (IteT K a) [e, it] e (fun i h => (∃ old, IsEnum h e it ((i : Nat) : Int) old) ∧ h.IsTupleIter it a i ∧ e ≠ it ∧ a ≠ it ∧ e ≠ a) where
  mem := by simp
  obj := fun i h st b hb => by
    obtain ⟨⟨old, he⟩, ⟨o, ho, hc, hd⟩, _⟩ := st
    have e' : b = e ∨ b = it := by simpa using hb
    rcases e' with z | z
    · rw [z]; exact ⟨_, he, fun v q => nomatch q⟩
    · rw [z]; exact ⟨o, ho, fun v q => by rw [hd] at q; cases q⟩
  keep := fun i h h' st k => let ⟨⟨old, he⟩, hi, hne⟩ := st; ⟨⟨old, k e (by simp) _ he⟩, hi.at fun o q => k it (by simp) o q, hne⟩
  item := by
    intro X hP hw hK hc i pins s σ H E I hf st hg
    subst hP hw hK
    obtain ⟨⟨old, he⟩, hit, hne, hai, hea⟩ := st
    obtain ⟨xs, x, hq, hx⟩ := hg
    obtain ⟨its, rv, p, hz⟩ := I.tuple hq
    obtain ⟨u, hu, ru⟩ := rv.get hx
    have hel : e < s.heap.objs.size := Heap.lt_size he
    have hil : it < s.heap.objs.size := by obtain ⟨_, q, _⟩ := hit; exact Heap.lt_size q
    have hlt : i < its.toArray.size := by
      have := (List.getElem?_eq_some_iff.mp hu).1
      simpa using this
    have hT : s.heap.IsTuple a its.toArray := p
    refine wpAny_pyNext_enum_itemD (draws_tup (show X.A.in1.handled = none from I.ok.hd hc) it a hai its.toArray) he ⟨hit, hT⟩ hlt hne (by simp [hne, hea]) fun x' h' tk hx' ho hst hT' hsz hk => ?_
    obtain rfl : u = x' := by
      have e2 : its.toArray[i]? = some u := by simpa using hu
      rw [e2] at hx'
      exact Option.some.inj hx'
    refine ⟨_, rfl, wpAny_letOwnedTupleGo_enum (s := { s with heap := h', toks := tk + 1 }) ho fun h'' he' sb => ?_⟩
    have hT2 : h''.get? s.heap.objs.size = some { cls := .type "tuple", data := .seq #[.int i tk, u] } := (sb.2 _ (Nat.ne_of_gt hel)).trans hT'
    have new : ObjOk X.prog X.w (upd H s.heap.objs.size (.tup [.int (i : Nat), x])) h'' s.heap.objs.size (.tup [.int (i : Nat), x]) :=
      ⟨by show 2 ≤ sizeLine; decide, [.int i tk, u], .cons ⟨_, rfl⟩ (.cons ru .nil), ⟨_, hT2, rfl, _, rfl⟩⟩
    have I1 : Inv X pins σ (upd H s.heap.objs.size (.tup [.int (i : Nat), x])) { s with heap := h'', toks := tk + 1 } :=
      I.turnedNew (ch := [e, it]) (fun b ob hb q => (sb.2 b (fun z => hb (by simp [z]))).trans (hk b ob (fun z => hb (by simp [z])) (fun z => hb (by simp [z])) q)) hf (Nat.le_refl _) new
    refine ⟨.ref s.heap.objs.size, _, I1, rfl, ⟨_, x, rfl, I.hok.fresh (Nat.le_refl _), rfl, fun ys hy => by rw [I.tuple_inj hy hq]; exact hx⟩, ⟨⟨u, ?_⟩, hst.1.at fun o q => (sb.2 it (Ne.symm hne)).trans q, hne, hai, hea⟩, fun b hb => ?_⟩
    · have e1 : ((i + 1 : Nat) : Int) = (i : Int) + 1 := by omega
      rw [e1]; exact he'
    · have hb' : b < s.heap.objs.size := by
        have e' : b = e ∨ b = it := by simpa using hb
        rcases e' with z | z
        · rw [z]; exact hel
        · rw [z]; exact hil
      rw [upd_ne (Nat.ne_of_lt hb')]
      exact (hf b hb).1
  done := by
    intro X hP hw hK hc i pins s σ H E I hf st hg
    subst hP hw hK
    obtain ⟨⟨old, he⟩, hit, hne, hai, hea⟩ := st
    obtain ⟨xs, hq, hx⟩ := hg
    obtain ⟨its, rv, p, hz⟩ := I.tuple hq
    obtain ⟨f0, f1, f2, f3, f4, f5⟩ := hf it (by simp)
    have hl := rv.length
    have hT : s.heap.IsTuple a its.toArray := p
    exact wpAny_pyNext_enum_endD (draws_end (show X.A.in1.handled = none from I.ok.hd hc) it a its.toArray i (by simp; omega)) he ⟨hit, hT⟩ fun h' eb => ⟨rfl, I.turned (t' := s.toks) (fun b o hb e => eb b o hb e) f0 f1 f3 f4 f5⟩
  self := fun A i s Q E st h => let ⟨⟨_, he⟩, _⟩ := st; wpAny_pyIter_enum he h
def iEnumT (K : PySem.W.Frag) (ta : TA) : TI := fun σ H R => ta σ H fun vs H1 => ∃ a xs, vs = [.ref a] ∧ SqT K H1 a xs ∧ R (IteT K a) H1
theorem pi_enumT {X : Cx} {e : Expr} {ta : TA} {p pos tpos : Pos} {elts : List Expr} {kk : Nat} (hg : Gl X "enumerate") (hm : X.mg "enumerate" = none) (ha : PA X [e] ta) (hs : starEach [e] X.env = [(false, eval e X.env)] := by rfl) :
    PI X (.Tuple elts kk tpos) (.Call (.Name "enumerate" p) [e] [] pos) (iEnumT X.K ta) := by
  refine ⟨fun pins s σ H R I h => ?_⟩
  refine Call_ (ld_blt I hg hm boot_enumerate (PyProof.Rows.callWith_type1 (thn (ha.run pos pins s σ H _ I h) fun us s1 ⟨vs, H1, I1, r1, q1⟩ => ?_) hs rfl))
  obtain ⟨a, xs, ex, hq, q⟩ := q1
  subst ex
  cases r1 with
  | cons r rr =>
    cases rr
    cases r
    obtain ⟨its, rv, p', hz⟩ := I1.tuple hq
    have hT : s1.heap.IsTuple a its.toArray := p'
    have hal : a < s1.heap.objs.size := by obtain ⟨_, z, _⟩ := hT; exact Heap.lt_size z
    refine call_enumT hT fun h' he hit hsz hk => wpAny_pyIter_enum he ?_
    have I2 : Inv X pins σ H1 { s1 with heap := h' } := I1.kept (t' := s1.toks) hk
    refine ⟨s1.heap.objs.size + 1, [s1.heap.objs.size + 1, s1.heap.objs.size], _, _, H1, rfl, I2, turn_enumT a (s1.heap.objs.size + 1) s1.heap.objs.size, ⟨⟨.none, he⟩, hit, Nat.succ_ne_self _, Nat.ne_of_lt hal, (Nat.ne_of_lt (Nat.lt_succ_of_lt hal)).symm⟩, fun b hb => ?_, q⟩
    have e' : b = s1.heap.objs.size + 1 ∨ b = s1.heap.objs.size := by simpa using hb
    have hle : s1.heap.objs.size ≤ b := by
      rcases e' with z | z
      · rw [z]; exact Nat.le_add_right _ _
      · rw [z]; exact Nat.le_refl _
    exact I1.fpOk hle (I1.hok.fresh hle)
theorem walk_enumT {K : PySem.W.Frag} {a : Addr} {xs : List V} : Walk (IteT K a) xs.length (fun H => SqT K H a xs) (YPair (fun i => some (.int (i : Nat))) (fun i => xs[i]?)) := by
  refine ⟨fun i _ hi q => ⟨xs, xs[i], q, by simp [hi]⟩, fun _ q => ⟨xs, q, Nat.le_refl _⟩, fun i H v H' _ q y => ?_⟩
  obtain ⟨T, x, h1, h2, h3, h4⟩ := y
  exact ⟨T, .int (i : Nat), x, h1, h2, h3, rfl, h4 xs q⟩

end Fold
namespace Fold
open PySem PySem.Spec PyProof.Rows L2
/-! ### {t: v}, t a tuple of ints and texts -/
section
variable {X : Cx} {pos : Pos}
def tDisp1T (te tv : TE) : TE := fun σ H Q => ∀ p, H p = none → te σ (upd H p (.dT [])) fun k H1 => tv σ H1 fun v H2 => H2 p = some (.dT []) ∧ ∃ (b : Addr) (ks : List Key), k = .ref b ∧ H2 b = some (.tup (ks.map kV)) ∧ Q (.ref p) (upd H2 p (.dT [(ks, v)]))
theorem pe_disp1T {e v : Expr} {te tv : TE} (hu : X.A.units + 1 < cLine) (he : PE X e te) (hv : PE X v tv) : PE X (.Dict [some e] [v] pos) (tDisp1T te tv) := by
  refine ⟨fun pins s σ H Q I q => ?_⟩
  have hn := I.hok.fresh (Nat.le_refl s.heap.objs.size)
  have I1 := I.laid (a := s.heap.objs.size) (o := .dT []) (h' := s.heap.push { cls := .type "dict", data := .dict #[] }) (t' := s.toks) (fun _ _ q => Heap.get?_push_of_some _ q) (Nat.le_refl _) (dt_empty s.heap I.big)
  rw [arm_eval_Dict, zip_pairTrees [some e] [v] X.env pos rfl rfl, dictDisplay_pairs (pairTrees [some e] [v] X.env pos) (by simp [pairTrees]) (by simp [pairTrees])]
  refine wpAny_bind (wpAny_standAt (wpAny_bind ?_))
  unfold subDict
  refine wpAny_bind (wpAny_alloc ?_)
  refine wpAny_bind (wpAny_holding ?_)
  rw [if_pos (by simp [pairTrees])]
  refine wpAny_bind (thn ((pps_cons he hv pps_nil).run pins _ σ _ (fun ps H2 => match ps with
    | [(k, w)] => H2 s.heap.objs.size = some (.dT []) ∧ ∃ (b : Addr) (ks : List Key), k = .ref b ∧ H2 b = some (.tup (ks.map kV)) ∧ Q (.ref s.heap.objs.size) (upd H2 s.heap.objs.size (.dT [(ks, w)]))
    | _ => False) I1 (q _ hn)) fun ws s2 ⟨ps, H2, I2, rel, q2⟩ => ?_)
  obtain ⟨k, w, u, w', rfl, rfl, ru, rw', e2, b, ks, ek, eb, q3⟩ : ∃ (k w : V) (u w' : Value), ps = [(k, w)] ∧ ws = [(u, w')] ∧ RelV k u ∧ RelV w w' ∧ H2 s.heap.objs.size = some (.dT []) ∧ ∃ (b : Addr) (ks : List Key), k = .ref b ∧ H2 b = some (.tup (ks.map kV)) ∧ Q (.ref s.heap.objs.size) (upd H2 s.heap.objs.size (.dT [(ks, w)])) := by
    cases rel with
    | nil => exact False.elim q2
    | @cons a b as bs h t =>
      cases t with
      | nil =>
        obtain ⟨k, w⟩ := a
        obtain ⟨u, w'⟩ := b
        exact ⟨k, w, u, w', rfl, rfl, h.1, h.2, q2⟩
      | cons h2 t2 => exact False.elim q2
  subst ek
  cases (show u = Value.ref b from ru)
  refine wpAny_holding (wpAny_bind ?_)
  rw [List.forIn_cons]
  obtain ⟨z, hd, xs, rel2, dd⟩ := dt_of I2.hok e2
  cases rel2
  refine wpAny_bind (wpAny_bind (wpAny_dictSet_heap (hsz := Nat.zero_le _) (show (tupleKind (mixKind X.prog X.w)).room X.A from Nat.lt_of_succ_lt hu) (key_of I2.hok eb) dd fun h' dd' hs => wpAny_pure ?_))
  dsimp only
  rw [List.forIn_nil]
  refine wpAny_pure (wpAny_pure (wpAny_pure (wpAny_pure ⟨.ref s.heap.objs.size, _, ?_, rfl, q3⟩)))
  obtain ⟨o, es, ep, hq, h2, h3, h4, h6, h5⟩ := dd'
  refine d_write I2 (by rw [e2]; exact True.intro) hs ⟨o, hq⟩ ⟨(by show 1 ≤ sizeLine; decide), hd, _, (KT.put (.nil : KT H2 [] []) ks eb rw').keeps fun c ys ec => ?_, o, es, ep, hq, h2, h3, h4, h5⟩
  rw [upd_ne (ne_of ec e2 (fun z => nomatch z))]
  exact ec
end

end Fold
namespace Fold
open PySem PySem.Spec PyProof.Rows L2
def topS (i : Nat) : Stmt := PySem.Challenge.pw_figurefolds_k02_whole_kept_moduli.main.body.getD i (.Pass ⟨0, 0, 0, 0⟩)
abbrev s_is_whole : Stmt := topS 8
theorem sc_is_whole : FnScope ["thing", "least", "most"] ["thing", "least", "most"] (defScope s_is_whole) := ⟨rfl, rfl, rfl, by decide +kernel, rfl, by decide +kernel, by decide +kernel⟩
abbrev s_power_of : Stmt := topS 9
theorem sc_power_of : FnScope ["base", "times", "found", "turn"] ["base", "times"] (defScope s_power_of) := ⟨rfl, rfl, rfl, by decide +kernel, rfl, by decide +kernel, by decide +kernel⟩
abbrev s_is_fold : Stmt := topS 10
theorem sc_is_fold : FnScope ["base", "thing"] ["base", "thing"] (defScope s_is_fold) := ⟨rfl, rfl, rfl, by decide +kernel, rfl, by decide +kernel, by decide +kernel⟩
abbrev s_is_weigh : Stmt := topS 11
theorem sc_is_weigh : FnScope ["thing", "one"] ["thing"] (defScope s_is_weigh) := ⟨rfl, rfl, rfl, by decide +kernel, rfl, by decide +kernel, by decide +kernel⟩
abbrev s_is_step : Stmt := topS 12
theorem sc_is_step : FnScope ["base", "thing"] ["base", "thing"] (defScope s_is_step) := ⟨rfl, rfl, rfl, by decide +kernel, rfl, by decide +kernel, by decide +kernel⟩
abbrev s_check_step : Stmt := topS 13
theorem sc_check_step : FnScope ["base", "step"] ["base", "step"] (defScope s_check_step) := ⟨rfl, rfl, rfl, by decide +kernel, rfl, by decide +kernel, by decide +kernel⟩
abbrev s_common : Stmt := topS 15
theorem sc_common : FnScope ["one", "other"] ["one", "other"] (defScope s_common) := ⟨rfl, rfl, rfl, by decide +kernel, rfl, by decide +kernel, by decide +kernel⟩
abbrev s_is_number : Stmt := topS 16
theorem sc_is_number : FnScope ["thing"] ["thing"] (defScope s_is_number) := ⟨rfl, rfl, rfl, by decide +kernel, rfl, by decide +kernel, by decide +kernel⟩
abbrev s_Kept___init__ : Stmt := inClass (topS 17) 0
theorem sc_Kept___init__ : FnScope ["self", "number", "unit", "power", "part", "one"] ["self", "number", "unit", "power", "part"] (defScope s_Kept___init__) := ⟨rfl, rfl, rfl, by decide +kernel, rfl, by decide +kernel, by decide +kernel⟩
abbrev s_Kept___contains__ : Stmt := inClass (topS 17) 1
theorem sc_Kept___contains__ : FnScope ["self", "m"] ["self", "m"] (defScope s_Kept___contains__) := ⟨rfl, rfl, rfl, by decide +kernel, rfl, by decide +kernel, by decide +kernel⟩
abbrev s_Kept_up_to : Stmt := inClass (topS 17) 2
theorem sc_Kept_up_to : FnScope ["self", "most", "m"] ["self", "most"] (defScope s_Kept_up_to) := ⟨rfl, rfl, rfl, by decide +kernel, rfl, by decide +kernel, by decide +kernel⟩
abbrev s_weigh_kept : Stmt := topS 18
theorem sc_weigh_kept : FnScope ["base", "row", "number", "at", "weight"] ["base", "row"] (defScope s_weigh_kept) := ⟨rfl, rfl, rfl, by decide +kernel, rfl, by decide +kernel, by decide +kernel⟩
abbrev s_fold_kept : Stmt := topS 19
theorem sc_fold_kept : FnScope ["base", "k", "x", "y", "power", "number"] ["base", "k", "x", "y"] (defScope s_fold_kept) := ⟨rfl, rfl, rfl, by decide +kernel, rfl, by decide +kernel, by decide +kernel⟩
abbrev s_kept : Stmt := topS 20
theorem sc_kept : FnScope ["base", "step"] ["base", "step"] (defScope s_kept) := ⟨rfl, rfl, rfl, by decide +kernel, rfl, by decide +kernel, by decide +kernel⟩
abbrev s_keeps : Stmt := topS 21
theorem sc_keeps : FnScope ["base", "step", "m"] ["base", "step", "m"] (defScope s_keeps) := ⟨rfl, rfl, rfl, by decide +kernel, rfl, by decide +kernel, by decide +kernel⟩
abbrev s__law_begin : Stmt := topS 23
theorem sc__law_begin : FnScope ["_law_script"] ["_law_script"] (defScope s__law_begin) := ⟨rfl, rfl, rfl, by decide +kernel, rfl, by decide +kernel, by decide +kernel⟩
abbrev s__law_draw : Stmt := topS 24
theorem sc__law_draw : FnScope ["_law_draws", "_law_size", "_law_cell", "_law_found"] ["_law_draws", "_law_size"] (defScope s__law_draw) := ⟨rfl, rfl, rfl, by decide +kernel, rfl, by decide +kernel, by decide +kernel⟩
abbrev s__law_power : Stmt := topS 25
theorem sc__law_power : FnScope ["_law_base", "_law_times", "_law_found", "_law_k"] ["_law_base", "_law_times"] (defScope s__law_power) := ⟨rfl, rfl, rfl, by decide +kernel, rfl, by decide +kernel, by decide +kernel⟩
abbrev s__law_step : Stmt := topS 26
theorem sc__law_step : FnScope ["_law_draws", "_law_base", "_law_size", "_law_unit", "_law_row", "_law_k", "_law_x"] ["_law_draws", "_law_base"] (defScope s__law_step) := ⟨rfl, rfl, rfl, by decide +kernel, rfl, by decide +kernel, by decide +kernel⟩
abbrev s__law_fold_keeps : Stmt := topS 28
theorem sc__law_fold_keeps : FnScope ["_law_base", "_law_step_here", "_law_m", "_law_cut", "_law_q", "_law_r", "_law_here"] ["_law_base", "_law_step_here", "_law_m"] (defScope s__law_fold_keeps) := ⟨rfl, rfl, rfl, by decide +kernel, rfl, by decide +kernel, by decide +kernel⟩
abbrev s__law_weigh_keeps : Stmt := topS 29
theorem sc__law_weigh_keeps : FnScope ["_law_base", "_law_row", "_law_m", "_law_first", "_law_seen", "_law_waiting", "_law_n", "_law_total", "_law_value", "_law_place", "_law_figure", "_law_one", "_law_two", "_law_new"] ["_law_base", "_law_row", "_law_m"] (defScope s__law_weigh_keeps) := ⟨rfl, rfl, rfl, by decide +kernel, rfl, by decide +kernel, by decide +kernel⟩
abbrev s__law_keeps : Stmt := topS 30
theorem sc__law_keeps : FnScope ["_law_base", "_law_step_here", "_law_m"] ["_law_base", "_law_step_here", "_law_m"] (defScope s__law_keeps) := ⟨rfl, rfl, rfl, by decide +kernel, rfl, by decide +kernel, by decide +kernel⟩
abbrev s__law_common : Stmt := topS 31
theorem sc__law_common : FnScope ["_law_one", "_law_other", "_law_rest"] ["_law_one", "_law_other"] (defScope s__law_common) := ⟨rfl, rfl, rfl, by decide +kernel, rfl, by decide +kernel, by decide +kernel⟩
abbrev s__law_fields : Stmt := topS 32
theorem sc__law_fields : FnScope ["_law_base", "_law_step_here", "_law_number", "_law_k", "_law_cut", "_law_odd"] ["_law_base", "_law_step_here"] (defScope s__law_fields) := ⟨rfl, rfl, rfl, by decide +kernel, rfl, by decide +kernel, by decide +kernel⟩
abbrev s_law : Stmt := topS 33
theorem sc_law : FnScope ["_law_script", "_law_draws", "_law_base", "_law_step_here", "_law_lot", "_law_top", "_law_found", "_law_m", "_law_due"] ["_law_script"] (defScope s_law) := ⟨rfl, rfl, rfl, by decide +kernel, rfl, by decide +kernel, by decide +kernel⟩
/-- where the classes stand -/
structure Ad where
  FoldError : Addr
  BadStep : Addr
  BadKept : Addr
  Kept : Addr
/-- what the top has written -/
structure Txt (K : PySem.W.Frag) (mg : Str → Option Value) (a : Ad) : Prop where
  n_abs : mg "abs" = none
  n_all : mg "all" = none
  n_bool : mg "bool" = none
  n_enumerate : mg "enumerate" = none
  n_int : mg "int" = none
  n_isinstance : mg "isinstance" = none
  n_len : mg "len" = none
  n_list : mg "list" = none
  n_range : mg "range" = none
  n_str : mg "str" = none
  n_tuple : mg "tuple" = none
  g_MOST_POWER : ∃ t, mg "MOST_POWER" = some (.int 60 t)
  g_MOST : ∃ t, mg "MOST" = some (.int 12 t)
  x_FoldError : Xc K mg a.FoldError "FoldError"
  x_BadStep : Xc K mg a.BadStep "BadStep"
  x_BadKept : Xc K mg a.BadKept "BadKept"
  d_is_whole : Df K mg "is_whole" s_is_whole ["thing", "least", "most"]
  d_power_of : Df K mg "power_of" s_power_of ["base", "times"]
  d_is_fold : Df K mg "is_fold" s_is_fold ["base", "thing"]
  d_is_weigh : Df K mg "is_weigh" s_is_weigh ["thing"]
  d_is_step : Df K mg "is_step" s_is_step ["base", "thing"]
  d_check_step : Df K mg "check_step" s_check_step ["base", "step"]
  d_common : Df K mg "common" s_common ["one", "other"]
  d_is_number : Df K mg "is_number" s_is_number ["thing"]
  d_weigh_kept : Df K mg "weigh_kept" s_weigh_kept ["base", "row"]
  d_fold_kept : Df K mg "fold_kept" s_fold_kept ["base", "k", "x", "y"]
  d_kept : Df K mg "kept" s_kept ["base", "step"]
  d_keeps : Df K mg "keeps" s_keeps ["base", "step", "m"]
  d__law_begin : Df K mg "_law_begin" s__law_begin ["_law_script"]
  d__law_draw : Df K mg "_law_draw" s__law_draw ["_law_draws", "_law_size"]
  d__law_power : Df K mg "_law_power" s__law_power ["_law_base", "_law_times"]
  d__law_step : Df K mg "_law_step" s__law_step ["_law_draws", "_law_base"]
  d__law_fold_keeps : Df K mg "_law_fold_keeps" s__law_fold_keeps ["_law_base", "_law_step_here", "_law_m"]
  d__law_weigh_keeps : Df K mg "_law_weigh_keeps" s__law_weigh_keeps ["_law_base", "_law_row", "_law_m"]
  d__law_keeps : Df K mg "_law_keeps" s__law_keeps ["_law_base", "_law_step_here", "_law_m"]
  d__law_common : Df K mg "_law_common" s__law_common ["_law_one", "_law_other"]
  d__law_fields : Df K mg "_law_fields" s__law_fields ["_law_base", "_law_step_here"]
  d_law : Df K mg "law" s_law ["_law_script"]
  cl_Kept : Cl K mg a.Kept "Kept" ["number", "unit", "power", "part"]
  d_Kept___init__ : Dm K a.Kept "__init__" "Kept.__init__" s_Kept___init__ ["self", "number", "unit", "power", "part"]
  d_Kept___contains__ : Dm K a.Kept "__contains__" "Kept.__contains__" s_Kept___contains__ ["self", "m"]
  d_Kept_up_to : Dm K a.Kept "up_to" "Kept.up_to" s_Kept_up_to ["self", "most"]


end Fold
namespace Fold
open PySem PySem.Spec PyProof.Rows L2
section
variable {P : Program} {w : World} {K : PySem.W.Frag} {mg : Str → Option Value} {base : Heap} {a : Ad}
def wholeB (v : V) (lo hi : Int) : Bool := match v with
  | .int i => decide (lo ≤ i) && decide (i ≤ hi)
  | _ => false
def sp_is_whole : Sp := fun vs H Q _ => ∃ (v : V) (t : String) (lo hi : Int), vs = [v, .int lo, .int hi] ∧ Kn H v t ∧ Q (.bl (wholeB v lo hi)) H
theorem ok_is_whole (T : Txt K mg a) : C0 P w K mg base 1 "is_whole" sp_is_whole := by
  refine T.d_is_whole.c0 sc_is_whole (fun vs H Q E h => ?_) (fun f cdv A outer s H vs Q E hr h => ?_)
  · obtain ⟨v, t, lo, hi, rfl, _⟩ := h
    rfl
  · obtain ⟨v, t, lo, hi, rfl, hv, k⟩ := h
    refine ⟨_, (pss_one (ps_ret (pe_and (pe_callB call_isi (by rfl) T.n_isinstance b_isinstance (pa_cons (pv 0) (pa_cons (pe_bltn (v := .ty "int") (by rfl) T.n_int b_int rfl) pa_nil))) (pe_and (pe_not (pe_callB call_isi (by rfl) T.n_isinstance b_isinstance (pa_cons (pv 0) (pa_cons (pe_bltn (v := .ty "bool") (by rfl) T.n_bool b_bool rfl) pa_nil)))) (pe_one (pe_chain op_le op_le (pv 1) (pv 0) (pv 2))))))), ?_⟩
    refine ⟨_, rfl, _, _, _, _, _, rfl, .ty _, hv.ty, kit_ty (isA_int hv), _, rfl, ?_⟩
    cases hv with
    | int i =>
      refine iteT ⟨_, rfl, _, _, _, _, _, rfl, .ty _, (Kn.int i).ty, kit_ty (isA_bool (Kn.int (H := H) i)), _, rfl, _, rfl, ?_⟩
      refine iteT ⟨_, rfl, _, rfl, _, _, rfl, rfl, _, rfl, ?_⟩
      by_cases c : lo ≤ i
      · rw [if_pos (decide_eq_true c)]
        refine ⟨_, rfl, _, _, rfl, rfl, ?_⟩
        exact q_eq k (by simp [wholeB, c])
      · rw [if_neg (by simpa using c)]
        exact q_eq k (by simp [wholeB, c])
    | bl b => exact iteT ⟨_, rfl, _, _, _, _, _, rfl, .ty _, (Kn.bl b).ty, kit_ty (isA_bool (Kn.bl (H := H) b)), _, rfl, _, rfl, iteF k⟩
    | non => exact iteF k
    | str z => exact iteF k
    | lst e => exact iteF k
    | tup e => exact iteF k
def sp_power_of : Sp := fun vs H Q _ => ∃ (b n : Int), vs = [.int b, .int n] ∧ (0 ≤ b ∧ b < 1000) ∧ (0 ≤ n ∧ n < 1000) ∧ Q (.int ((b.toNat ^ n.toNat : Nat) : Int)) H
theorem ok_power_of (T : Txt K mg a) : C0 P w K mg base 1 "power_of" sp_power_of := by
  refine T.d_power_of.c0 sc_power_of (fun vs H Q E h => ?_) (fun f cdv A outer s H vs Q E hr h => ?_)
  · obtain ⟨b, n, rfl, _⟩ := h
    rfl
  · obtain ⟨b, n, rfl, ⟨b0, b1⟩, ⟨n0, n1⟩, k⟩ := h
    obtain ⟨b, rfl⟩ := Int.eq_ofNat_of_zero_le b0
    obtain ⟨n, rfl⟩ := Int.eq_ofNat_of_zero_le n0
    refine ⟨_, (pss_cons (ps_set (i := 2) sc_power_of.nd rfl (Or.inl rfl) pe_int)
      (pss_cons (ps_for PassesOwn.never rfl (pi_range1 (by rfl) T.n_range (pa_cons (pv 1) pa_nil)) (pg_name (i := 3) sc_power_of.nd rfl (Or.inl rfl)) (pss_one (ps_set (i := 2) sc_power_of.nd rfl (Or.inl rfl) (pe_op op_mul (pv 2) (pv 0)))))
      (pss_one (ps_ret (pv 2))))), ?_⟩
    refine ⟨_, rfl, _, rfl, by omega, by omega, for_range (fun i σ H' => H' = H ∧ ∃ v, σ = [some (.int b), some (.int n), some (.int ((b ^ i : Nat) : Int)), v]) ⟨rfl, none, rfl⟩ ?_ ?_⟩
    · rintro i σ H' hi ⟨rfl, v, rfl⟩
      refine ⟨_, rfl, _, rfl, _, _, rfl, rfl, .inr ⟨by omega, by omega⟩, rfl, some (.int (0 + (i : Int))), ?_⟩
      rw [Nat.pow_succ, Int.natCast_mul]
      rfl
    · rintro σ H' ⟨rfl, v, rfl⟩
      exact ⟨_, rfl, k⟩
end

end Fold
namespace Fold
open PySem PySem.Spec PyProof.Rows L2
section
variable {P : Program} {w : World} {K : PySem.W.Frag} {mg : Str → Option Value} {base : Heap} {a : Ad}
theorem wholeB_iff {v : V} {lo hi : Int} : wholeB v lo hi = true ↔ ∃ i, v = .int i ∧ lo ≤ i ∧ i ≤ hi := by
  cases v <;> simp [wholeB]
/-- each value of a list is of a known kind -/
def KnAll (H : Hp) (xs : List V) : Prop := ∀ x ∈ xs, ∃ t, Kn H x t
theorem KnAll.mono {H H' : Hp} (s : Same H H') {xs : List V} (k : KnAll H xs) : KnAll H' xs := fun x m => by
  obtain ⟨t, h⟩ := k x m
  exact ⟨t, h.mono s⟩
def foldB (b : Int) (xs : List V) : Bool := match xs with
  | [_, .int k, x, y] => decide (1 ≤ k) && decide (k ≤ 5) && decide (b.toNat ^ k.toNat ≤ 60) && wholeB x (-12) 12 && wholeB y (-12) 12
  | _ => false
def sp_is_fold : Sp := fun vs H Q _ => ∃ (b : Int) (p : Addr) (xs : List V), vs = [.int b, .ref p] ∧ (0 ≤ b ∧ b < 1000) ∧ H p = some (.tup xs) ∧ KnAll H xs ∧ Q (.bl (foldB b xs)) H
theorem foldB_len {b : Int} {xs : List V} (h : ¬ xs.length = 4) : foldB b xs = false := by
  unfold foldB
  split
  · exact absurd rfl h
  · rfl
theorem foldB_no {b : Int} {z k x y : V} (h : ¬ wholeB k 1 5 = true) : foldB b [z, k, x, y] = false := by
  cases k <;> simp only [foldB]
  rename_i i
  simp only [wholeB, Bool.and_eq_true, decide_eq_true_eq] at h
  simp only [Bool.and_eq_false_imp, Bool.and_eq_true, decide_eq_true_eq]
  intro h1
  omega
theorem ok_is_fold (T : Txt K mg a) : C0 P w K mg base 2 "is_fold" sp_is_fold := by
  have c_is_whole := ok_is_whole (P := P) (w := w) (base := base) T; have c_power_of := ok_power_of (P := P) (w := w) (base := base) T
  refine T.d_is_fold.c0 sc_is_fold (fun vs H Q E h => ?_) (fun f cdv A outer s H vs Q E hr h => ?_)
  · obtain ⟨b, p, xs, rfl, _⟩ := h
    rfl
  · obtain ⟨b, p, xs, rfl, hb, hp, hk, k⟩ := h
    refine ⟨_, (pss_cons (ps_if (pw_or (pt_cmpR op_ne (pe_callB call_len_seq (by rfl) T.n_len b_len (pa_cons (pv 1) pa_nil)) pe_int (nomark _)) (pw_or (pt_not (pt_val (pe_0 c_is_whole hr (by decide) (pa_cons (pe_ix ix_tup (pv 1) pe_int (fun _ _ => rfl)) (pa_cons pe_int (pa_cons pe_int pa_nil)))))) (pw_or1 (pt_cmpR op_gt (pe_0 c_power_of hr (by decide) (pa_cons (pv 0) (pa_cons (pe_ix ix_tup (pv 1) pe_int (fun _ _ => rfl)) pa_nil))) (pe_gi (by rfl) T.g_MOST_POWER) (nomark _))))).pt (pss_one (ps_ret pe_bl)) pss_nil)
      (pss_one (ps_ret (pe_and (pe_0 c_is_whole hr (by decide) (pa_cons (pe_ix ix_tup (pv 1) pe_int (fun _ _ => rfl)) (pa_cons (pe_un un_neg (pe_gi (by rfl) T.g_MOST)) (pa_cons (pe_gi (by rfl) T.g_MOST) pa_nil)))) (pe_one (pe_0 c_is_whole hr (by decide) (pa_cons (pe_ix ix_tup (pv 1) pe_int (fun _ _ => rfl)) (pa_cons (pe_un un_neg (pe_gi (by rfl) T.g_MOST)) (pa_cons (pe_gi (by rfl) T.g_MOST) pa_nil))))))))), ?_⟩
    refine ⟨_, rfl, p, xs, rfl, .inr (SqT.of hp), rfl, _, rfl, ?_⟩
    by_cases hl : xs.length = 4
    · match xs, hl with
      | [z, n, x, y], _ =>
        refine iteF ?_
        obtain ⟨tn, kn⟩ := hk n (by simp)
        obtain ⟨tx, kx⟩ := hk x (by simp)
        obtain ⟨ty, ky⟩ := hk y (by simp)
        refine ⟨_, rfl, _, _, _, _, rfl, rfl, SqT.of hp, rfl, n, tn, 1, 5, rfl, kn, _, rfl, ?_⟩
        by_cases hw : wholeB n 1 5 = true
        · rw [hw]
          refine iteF ?_
          obtain ⟨i, rfl, h1, h5⟩ := wholeB_iff.mp hw
          refine ⟨_, rfl, _, rfl, _, _, _, _, rfl, rfl, SqT.of hp, rfl, _, _, rfl, hb, ⟨by omega, by omega⟩, _, _, rfl, rfl, _, rfl, ?_⟩
          by_cases h60 : b.toNat ^ i.toNat ≤ 60
          · rw [decide_eq_false (by omega)]
            refine iteF ⟨_, rfl, _, _, _, _, rfl, rfl, SqT.of hp, rfl, _, rfl, _, _, _, _, rfl, kx, _, rfl, ?_⟩
            by_cases hx : wholeB x (-12) 12 = true
            · rw [hx]
              refine iteT ⟨_, rfl, _, _, _, _, rfl, rfl, SqT.of hp, rfl, _, rfl, _, _, _, _, rfl, ky, ?_⟩
              exact q_eq k (by simp [foldB, h1, h5, h60, hx])
            · rw [bf hx]
              exact iteF (q_eq k (by simp [foldB, hx]))
          · rw [decide_eq_true (by omega)]
            exact iteT (q_eq k (by simp [foldB, h60]))
        · rw [bf hw]
          exact iteT (iteT (q_eq k (by rw [foldB_no hw])))
    · exact iteT' (by rw [dec_int, decide_eq_false (by omega)]; rfl) (iteT (q_eq k (by rw [foldB_len hl])))
end

end Fold
namespace Fold
open PySem PySem.Spec PyProof.Rows L2
section
variable {P : Program} {w : World} {K : PySem.W.Frag} {mg : Str → Option Value} {base : Heap} {a : Ad}
def rowB (ws : List V) : Bool := decide (1 ≤ ws.length) && decide (ws.length ≤ 6) && ws.all fun v => wholeB v (-12) 12
def weighB (H : Hp) (xs : List V) : Bool := match xs with
  | [_, .ref r] => match H r with
    | some (.tup ws) => rowB ws
    | _ => false
  | _ => false
/-- the values of a list are of known kinds, and so are those of the tuples in it -/
def KnDeep (H : Hp) (xs : List V) : Prop := KnAll H xs ∧ ∀ r ws, V.ref r ∈ xs → H r = some (.tup ws) → KnAll H ws
def sp_is_weigh : Sp := fun vs H Q _ => ∃ (p : Addr) (xs : List V), vs = [.ref p] ∧ H p = some (.tup xs) ∧ KnDeep H xs ∧ ∀ H', Same H H' → Q (.bl (weighB H xs)) H'
theorem weighB_len {H : Hp} {xs : List V} (h : ¬ xs.length = 2) : weighB H xs = false := by
  unfold weighB
  split
  · exact absurd rfl h
  · rfl
theorem ok_is_weigh (T : Txt K mg a) : C0 P w K mg base 2 "is_weigh" sp_is_weigh := by
  have c_is_whole := ok_is_whole (P := P) (w := w) (base := base) T
  refine T.d_is_weigh.c0 sc_is_weigh (fun vs H Q E h => ?_) (fun f cdv A outer s H vs Q E hr h => ?_)
  · obtain ⟨p, xs, rfl, _⟩ := h
    rfl
  · obtain ⟨p, xs, rfl, hp, ⟨hk, hd⟩, k⟩ := h
    refine ⟨_, (pss_cons (ps_if (pw_or (pt_cmpR op_ne (pe_callB call_len_seq (by rfl) T.n_len b_len (pa_cons (pv 0) pa_nil)) pe_int (nomark _)) (pw_or (pt_not (pt_val (pe_callB call_isi (by rfl) T.n_isinstance b_isinstance (pa_cons (pe_ix ix_tup (pv 0) pe_int (fun _ _ => rfl)) (pa_cons (pe_bltn (v := .ty "tuple") (by rfl) T.n_tuple b_tuple rfl) pa_nil))))) (pw_or1 (pt_not (pt_chain op_le op_le pe_int (pe_callB call_len_seq (by rfl) T.n_len b_len (pa_cons (pe_ix ix_tup (pv 0) pe_int (fun _ _ => rfl)) pa_nil)) pe_int))))).pt (pss_one (ps_ret pe_bl)) pss_nil)
      (pss_one (ps_ret (pe_callB (cr_all rfl) (by rfl) T.n_all b_all (pa_cons (pe_lc (own := [("one", 1)]) (g := gName 1) rfl sc_is_weigh.nd (pi_tup (pe_ix ix_tup (pv 0) pe_int (fun _ _ => rfl))) (blkOk_by (N := ["thing", "one"]) (sc := defScope s_is_weigh) (by decide +kernel)) (fun _ _ _ _ _ => (pg_name (i := 1) sc_is_weigh.nd rfl (Or.inl rfl))) (fun _ _ _ _ _ => pts_nil) (fun _ _ _ _ _ => (pe_0 c_is_whole hr (by decide) (pa_cons (pv 1) (pa_cons (pe_un un_neg (pe_gi (by rfl) T.g_MOST)) (pa_cons (pe_gi (by rfl) T.g_MOST) pa_nil)))))) pa_nil))))), ?_⟩
    refine ⟨_, rfl, p, xs, rfl, .inr (SqT.of hp), rfl, _, rfl, ?_⟩
    by_cases hl : xs.length = 2
    · match xs, hl with
      | [z, x], _ =>
        obtain ⟨tx, kx⟩ := hk x (by simp)
        refine iteF ⟨_, rfl, _, _, _, _, rfl, rfl, SqT.of hp, rfl, _, _, _, _, _, rfl, .ty _, kx.ty, kit_ty (isA_tuple kx), _, rfl, ?_⟩
        cases kx with
        | @tup r ws e =>
          have hwe : weighB H [z, .ref r] = rowB ws := by simp only [weighB, e]
          rw [hwe] at k
          refine iteF ⟨_, rfl, _, _, _, _, rfl, rfl, SqT.of hp, rfl, r, ws, rfl, .inr (SqT.of e), _, _, rfl, rfl, _, rfl, ?_⟩
          by_cases c1 : 1 ≤ ws.length
          · refine iteT' (decide_eq_true (by omega)) ⟨_, _, rfl, rfl, _, rfl, ?_⟩
            by_cases c2 : ws.length ≤ 6
            · refine iteF' (by rw [decide_eq_true (by omega)]; rfl) ?_
              refine ⟨_, rfl, _, _, _, _, rfl, rfl, SqT.of hp, rfl, r, rfl, ⟨ws, SqT.of e⟩, fun D hD => lc_tupM (fun v => .bl (wholeB v (-12) 12)) e hD (small6 c2) (fun _ => rfl) ?_ ?_⟩
              · intro i v hi H' Q' s' q
                obtain ⟨t, kv⟩ := hd r ws (by simp) e v (List.mem_of_getElem? hi)
                exact ⟨_, rfl, _, rfl, v, t, _, _, rfl, kv.mono s', q⟩
              · refine ⟨D, ws.map (fun v => wholeB v (-12) 12), rfl, SqL.of (by rw [upd_same, List.map_map]; rfl), ?_⟩
                refine q_eq (k _ (same_new hD)) ?_
                simp only [rowB, decide_eq_true c1, decide_eq_true c2, Bool.true_and, List.all_map]
                rfl
            · refine iteT' (by rw [decide_eq_false (by omega)]; rfl) (q_eq (k _ (Same.refl _)) ?_)
              simp only [rowB, decide_eq_false c2, Bool.and_false, Bool.false_and]
          · refine iteF' (decide_eq_false (by omega)) ⟨_, rfl, iteT (q_eq (k _ (Same.refl _)) ?_)⟩
            simp only [rowB, decide_eq_false c1, Bool.false_and]
        | lst e => exact iteT (q_eq (k _ (Same.refl _)) (by simp only [weighB, e]))
        | _ => exact iteT (q_eq (k _ (Same.refl _)) rfl)
    · exact iteT' (by rw [dec_int, decide_eq_false (by omega)]; rfl) (iteT (q_eq (k _ (Same.refl _)) (by rw [weighB_len hl])))
end

end Fold
namespace Fold
open PySem PySem.Spec PyProof.Rows L2
section
variable {P : Program} {w : World} {K : PySem.W.Frag} {mg : Str → Option Value} {base : Heap} {a : Ad}
def stepB (b : Int) (H : Hp) (v : V) : Bool := match v with
  | .ref p => match H p with
    | some (.tup (.str z :: r)) => if z = "weigh" then weighB H (.str z :: r) else decide (z = "fold") && foldB b (.str z :: r)
    | _ => false
  | _ => false
/-- a thing of known kind, and what is in it too -/
def KnT (H : Hp) (v : V) : Prop := (∃ t, Kn H v t) ∧ ∀ p xs, v = .ref p → H p = some (.tup xs) → KnDeep H xs
def sp_is_step : Sp := fun vs H Q _ => ∃ (b : Int) (v : V), vs = [.int b, v] ∧ (0 ≤ b ∧ b < 1000) ∧ KnT H v ∧ ∀ H', Same H H' → Q (.bl (stepB b H v)) H'
theorem ok_is_step (T : Txt K mg a) : C0 P w K mg base 3 "is_step" sp_is_step := by
  have c_is_weigh := ok_is_weigh (P := P) (w := w) (base := base) T; have c_is_fold := ok_is_fold (P := P) (w := w) (base := base) T
  refine T.d_is_step.c0 sc_is_step (fun vs H Q E h => ?_) (fun f cdv A outer s H vs Q E hr h => ?_)
  · obtain ⟨b, v, rfl, _⟩ := h
    rfl
  · obtain ⟨b, v, rfl, hb, ⟨⟨t, kv⟩, hd⟩, k⟩ := h
    refine ⟨_, (pss_cons (ps_if (pw_or (pt_not (pt_val (pe_callB call_isi (by rfl) T.n_isinstance b_isinstance (pa_cons (pv 1) (pa_cons (pe_bltn (v := .ty "tuple") (by rfl) T.n_tuple b_tuple rfl) pa_nil))))) (pw_or (pt_not (pt_truth (pv 1) (fun _ => rfl))) (pw_or1 (pt_not (pt_val (pe_callB call_isi (by rfl) T.n_isinstance b_isinstance (pa_cons (pe_ix ix_tup (pv 1) pe_int (fun _ _ => rfl)) (pa_cons (pe_bltn (v := .ty "str") (by rfl) T.n_str b_str rfl) pa_nil)))))))).pt (pss_one (ps_ret pe_bl)) pss_nil)
      (pss_one (ps_ret (pe_ifExp (pt_cmpR op_eq (pe_ix ix_tup (pv 1) pe_int (fun _ _ => rfl)) pe_str (nomark _)) (pe_0 c_is_weigh hr (by decide) (pa_cons (pv 1) pa_nil)) (pe_and (pe_cmpR op_eq (pe_ix ix_tup (pv 1) pe_int (fun _ _ => rfl)) pe_str (nomark _)) (pe_one (pe_0 c_is_fold hr (by decide) (pa_cons (pv 0) (pa_cons (pv 1) pa_nil))))))))), ?_⟩
    refine ⟨_, rfl, _, _, _, _, _, rfl, .ty _, kv.ty, kit_ty (isA_tuple kv), _, rfl, ?_⟩
    cases kv with
    | @tup p xs e =>
      have hd := hd p xs rfl e
      match xs with
      | [] => exact iteF ⟨_, rfl, _, .inr (.inl ⟨[], SqT.of e, rfl⟩), iteT (q_eq (k _ (Same.refl _)) (by simp only [stepB, e]))⟩
      | z :: r =>
        obtain ⟨tz, kz⟩ := hd.1 z (by simp)
        refine iteF ⟨_, rfl, _, .inr (.inl ⟨_, SqT.of e, rfl⟩), iteF ⟨_, rfl, _, _, _, _, rfl, rfl, SqT.of e, at_of (j := 0) rfl rfl, _, _, _, _, _, rfl, .ty _, kz.ty, kit_ty (isA_str kz), _, rfl, ?_⟩⟩
        cases kz with
        | str z =>
          refine iteF ⟨_, rfl, _, _, _, _, rfl, rfl, SqT.of e, at_of (j := 0) rfl rfl, rfl, _, rfl, ?_⟩
          by_cases c : z = "weigh"
          · refine iteT' (by rw [dec_str]; exact decide_eq_true c) ⟨_, rfl, p, _, rfl, e, hd, fun H' s' => q_eq (k _ s') ?_⟩
            simp only [stepB, e, if_pos c]
          · refine iteF' (by rw [dec_str]; exact decide_eq_false c) ⟨_, rfl, _, _, _, _, rfl, rfl, SqT.of e, at_of (j := 0) rfl rfl, rfl, _, rfl, ?_⟩
            by_cases c2 : z = "fold"
            · refine iteT' (by rw [dec_str]; exact decide_eq_true c2) ⟨_, rfl, _, rfl, b, p, _, rfl, hb, e, hd.1, q_eq (k _ (Same.refl _)) ?_⟩
              simp only [stepB, e, if_neg c, decide_eq_true c2, Bool.true_and]
            · refine iteF' (by rw [dec_str]; exact decide_eq_false c2) (q_eq (k _ (Same.refl _)) ?_)
              simp only [stepB, e, if_neg c, decide_eq_false c2, Bool.false_and]
        | _ => exact iteT (q_eq (k _ (Same.refl _)) (by simp only [stepB, e]))
    | lst e => exact iteT (q_eq (k _ (Same.refl _)) (by simp only [stepB, e]))
    | _ => exact iteT (q_eq (k _ (Same.refl _)) rfl)
def intOf : V → Int
  | .int i => i
  | _ => 0
def okB (H : Hp) (v u : V) : Bool := wholeB v 2 12 && stepB (intOf v) H u
def sp_check_step (a : Ad) : Sp := fun vs H Q E => ∃ (v u : V), vs = [v, u] ∧ (∃ t, Kn H v t) ∧ KnT H u ∧ (okB H v u = true → ∀ H', Same H H' → Q .non H') ∧ (okB H v u = false → ∀ H', Same H H' → E (.ref a.BadStep) none H')
theorem ok_check_step (T : Txt K mg a) : C1 P w K mg base 4 "check_step" (sp_check_step a) := by
  have c_is_whole := ok_is_whole (P := P) (w := w) (base := base) T; have c_is_step := ok_is_step (P := P) (w := w) (base := base) T
  refine T.d_check_step.c1 sc_check_step (fun vs H Q E h => ?_) (fun f cdv A outer s H vs Q E hr h => ?_)
  · obtain ⟨v, u, rfl, _⟩ := h
    rfl
  · obtain ⟨v, u, rfl, ⟨t, kv⟩, ku, kY, kN⟩ := h
    have tk := takes_of (X := cxOf (L2.CX P w) P w K mg base ["base", "step"] "check_step" (defScope s_check_step) f cdv A outer s H E) rfl rfl rfl rfl
    refine ⟨_, (pss_one (ps_if (pw_or (pt_not (pt_val (pe_0 c_is_whole hr (by decide) (pa_cons (pv 0) (pa_cons pe_int (pa_cons (pe_gi (by rfl) T.g_MOST) pa_nil)))))) (pw_or1 (pt_not (pt_val (pe_0 c_is_step hr (by decide) (pa_cons (pv 0) (pa_cons (pv 1) pa_nil))))))).pt (pss_one (ps_raise rfl tk T.x_BadStep.pmk)) pss_nil)), ?_⟩
    refine ⟨_, rfl, v, t, _, _, rfl, kv, _, rfl, ?_⟩
    by_cases c : wholeB v 2 12 = true
    · obtain ⟨i, rfl, h1, h2⟩ := wholeB_iff.mp c
      refine iteF' (by rw [c]; rfl) ⟨_, rfl, _, rfl, i, u, rfl, ⟨by omega, by omega⟩, ku, fun H' s' => ⟨_, rfl, ?_⟩⟩
      by_cases c2 : stepB i H u = true
      · exact iteF' (by rw [c2]; rfl) (kY (by simp only [okB, c, intOf, c2, Bool.and_self]) _ s')
      · exact iteT' (by rw [bf c2]; rfl) (kN (by simp only [okB, c, intOf, bf c2, Bool.and_false]) _ s')
    · exact iteT' (by rw [bf c]; rfl) (iteT (kN (by simp only [okB, bf c, Bool.false_and]) _ (Same.refl _)))
end

end Fold
namespace Fold
open PySem PySem.Spec PyProof.Rows L2
/-! ### steps, in plain Lean -/
inductive Stp where
  | fold (k : Nat) (x y : Int)
  | weigh (row : List Int)
def wsum (b : Nat) (row : List Int) (n i : Nat) : Int :=
  if h : 2 ≤ b ∧ 0 < n then row.getD (i % row.length) 0 * ((n % b : Nat) : Int) + wsum b row (n / b) (i + 1) else 0
termination_by n
decreasing_by exact Nat.div_lt_self h.2 h.1
theorem wsum_zero (b : Nat) (row : List Int) (i : Nat) : wsum b row 0 i = 0 := by
  unfold wsum
  rw [dif_neg (by omega)]
theorem wsum_pos {b n : Nat} (row : List Int) (i : Nat) (hb : 2 ≤ b) (hn : 0 < n) : wsum b row n i = row.getD (i % row.length) 0 * ((n % b : Nat) : Int) + wsum b row (n / b) (i + 1) := by
  rw [wsum, dif_pos ⟨hb, hn⟩]
/-- what a step makes of a number -/
def mk (b : Nat) : Stp → Nat → Nat
  | .fold k x y, n => (x * ((n / b ^ k : Nat) : Int) + y * ((n % b ^ k : Nat) : Int)).natAbs
  | .weigh row, n => (wsum b row n 0).natAbs
/-- a step for a base -/
def OkS (b : Nat) : Stp → Prop
  | .fold k x y => 1 ≤ k ∧ k ≤ 5 ∧ b ^ k ≤ 60 ∧ (-12 ≤ x ∧ x ≤ 12) ∧ (-12 ≤ y ∧ y ≤ 12)
  | .weigh row => 1 ≤ row.length ∧ row.length ≤ 6 ∧ ∀ v ∈ row, -12 ≤ v ∧ v ≤ 12
/-- the step s stands at p -/
def StepAt (H : Hp) (p : Addr) : Stp → Prop
  | .fold k x y => H p = some (.tup [.str "fold", .int k, .int x, .int y])
  | .weigh row => ∃ r, H p = some (.tup [.str "weigh", .ref r]) ∧ H r = some (.tup (row.map V.int))
theorem StepAt.mono {H H' : Hp} {p : Addr} {s : Stp} (e : Same H H') (h : StepAt H p s) : StepAt H' p s := by
  cases s with
  | fold k x y => exact e _ _ h
  | weigh row =>
    obtain ⟨r, h1, h2⟩ := h
    exact ⟨r, e _ _ h1, e _ _ h2⟩
theorem fw : ¬ (("fold" : Str) = "weigh") := by decide +kernel
theorem KnAll.ints (H : Hp) (l : List Int) : KnAll H (l.map V.int) := fun x m => by
  obtain ⟨i, _, rfl⟩ := List.mem_map.mp m
  exact ⟨_, .int i⟩
theorem StepAt.known {H : Hp} {p : Addr} {s : Stp} (h : StepAt H p s) : KnT H (.ref p) := by
  cases s with
  | fold k x y =>
    have h : H p = _ := h
    refine ⟨⟨_, .tup h⟩, fun q xs e1 e2 => ?_⟩
    cases e1
    rw [h] at e2
    cases e2
    refine ⟨fun x m => ?_, fun r ws m => ?_⟩
    · simp only [List.mem_cons, List.not_mem_nil, or_false] at m
      rcases m with rfl | rfl | rfl | rfl
      · exact ⟨_, .str _⟩
      · exact ⟨_, .int _⟩
      · exact ⟨_, .int _⟩
      · exact ⟨_, .int _⟩
    · simp at m
  | weigh row =>
    obtain ⟨r, h1, h2⟩ := h
    refine ⟨⟨_, .tup h1⟩, fun q xs e1 e2 => ?_⟩
    cases e1
    rw [h1] at e2
    cases e2
    refine ⟨fun x m => ?_, fun r' ws m e => ?_⟩
    · simp only [List.mem_cons, List.not_mem_nil, or_false] at m
      rcases m with rfl | rfl
      · exact ⟨_, .str _⟩
      · exact ⟨_, .tup h2⟩
    · simp only [List.mem_cons, List.not_mem_nil, or_false, reduceCtorEq, false_or, V.ref.injEq] at m
      subst m
      rw [h2] at e
      cases e
      exact KnAll.ints _ _
theorem StepAt.ok {H : Hp} {p : Addr} {s : Stp} {b : Nat} (h : StepAt H p s) (hb : 2 ≤ b ∧ b ≤ 12) (o : OkS b s) : okB H (.int b) (.ref p) = true := by
  have h1 : wholeB (.int b) 2 12 = true := wholeB_iff.mpr ⟨b, rfl, by omega, by omega⟩
  cases s with
  | fold k x y =>
    have h : H p = _ := h
    obtain ⟨o1, o2, o3, o4, o5⟩ := o
    have hx : wholeB (.int x) (-12) 12 = true := wholeB_iff.mpr ⟨x, rfl, o4⟩
    have hy : wholeB (.int y) (-12) 12 = true := wholeB_iff.mpr ⟨y, rfl, o5⟩
    have hk1 : (1 : Int) ≤ (k : Int) := by omega
    have hk5 : (k : Int) ≤ (5 : Int) := by omega
    simp only [okB, h1, stepB, h, intOf, if_neg fw, foldB, hx, hy, decide_true, Bool.true_and, Bool.and_true, Int.toNat_natCast, decide_eq_true hk1, decide_eq_true hk5]
    exact decide_eq_true o3
  | weigh row =>
    obtain ⟨r, e1, e2⟩ := h
    obtain ⟨o1, o2, o3⟩ := o
    have ha : (row.map V.int).all (fun v => wholeB v (-12) 12) = true := by
      rw [List.all_eq_true]
      intro v m
      obtain ⟨i, hi, rfl⟩ := List.mem_map.mp m
      exact wholeB_iff.mpr ⟨i, rfl, o3 i hi⟩
    simp only [okB, h1, stepB, e1, intOf, if_true, weighB, e2, rowB, ha, List.length_map, decide_eq_true o1, decide_eq_true o2, Bool.true_and]
theorem StepAt.okI {H : Hp} {p : Addr} {s : Stp} {b : Int} (h : StepAt H p s) (hb : 2 ≤ b ∧ b ≤ 12) (o : OkS b.toNat s) : okB H (.int b) (.ref p) = true := by
  obtain ⟨b, rfl⟩ := Int.eq_ofNat_of_zero_le (show 0 ≤ b by omega)
  exact h.ok (by omega) o

end Fold
namespace Fold
open PySem PySem.Spec PyProof.Rows L2
theorem abs_nat (i : Int) : (if i < 0 then -i else i) = (i.natAbs : Int) := by split <;> omega
theorem wdiv {i j : Int} (h : 0 < j) (h2 : j < 18446744073709551616) : CDivW i j := wide_div (b := 64) h (by omega) (by decide) (by decide)
theorem cutV_take {xs : List V} {k : Nat} : cutV xs none (some (k : Int)) = xs.take k := by
  unfold cutV
  rw [HT.sIx_none, HT.sIx_nat, Nat.sub_zero, List.drop_zero]
  rcases Nat.le_total k xs.length with h | h
  · rw [Nat.min_eq_left h]
  · rw [Nat.min_eq_right h, List.take_length, List.take_of_length_le h]
theorem cutV_drop {xs : List V} {k : Nat} : cutV xs (some (k : Int)) none = xs.drop k := by
  unfold cutV
  rw [HT.sIx_none, HT.sIx_nat]
  rcases Nat.le_total k xs.length with h | h
  · rw [Nat.min_eq_left h, List.take_of_length_le (by rw [List.length_drop]; omega)]
  · rw [Nat.min_eq_right h, List.drop_length, Nat.sub_self, List.drop_of_length_le h]; rfl
/-! ### lists of ints as data -/
def iD (ns : List Int) : PyData := .list (ns.map PyData.int)
theorem iDs_lay : ∀ ns : List Int, PyData.canLayAll0 (ns.map PyData.int) = true
  | [] => by simp [PyData.canLayAll0]
  | z :: zs => by simp [PyData.canLayAll0, PyData.canLay0, iDs_lay zs]
theorem iDs_depth : ∀ ns : List Int, PyData.depthAll (ns.map PyData.int) ≤ 1
  | [] => by simp [PyData.depthAll]
  | z :: zs => by
    have h1 := iDs_depth zs
    simp only [List.map_cons, PyData.depthAll, PyData.depth]
    omega
theorem iD_shaped (ns : List Int) : SeqAt.shaped (iD ns) = true := by
  have h1 := iDs_depth ns
  have h2 : PyData.depth (iD ns) ≤ 64 := by
    simp only [iD, PyData.depth]
    omega
  show (PyData.canLay0 (iD ns) && decide (PyData.depth (iD ns) ≤ 64)) = true
  rw [Bool.and_eq_true]
  exact ⟨by simp only [iD, PyData.canLay0]; exact iDs_lay ns, decide_eq_true h2⟩
theorem iD_eqv (ns ms : List Int) : PyData.eqv (iD ns) (iD ms) = decide (ns = ms) := by
  simp only [iD, PyData.eqv]
  induction ns generalizing ms with
  | nil => cases ms <;> simp [PyData.eqvAll]
  | cons n ns ih =>
    cases ms with
    | nil => simp [PyData.eqvAll]
    | cons m ms =>
      simp only [List.map_cons, PyData.eqvAll, PyData.eqv, ih]
      rw [Bool.eq_iff_iff]
      simp
theorem iD_all {K : PySem.W.Frag} {H : Hp} : ∀ ns : List Int, DpAll K H (ns.map V.int) (ns.map PyData.int)
  | [] => .nil
  | n :: ns => .cons (.int n) (iD_all ns)
theorem iD_dp {K : PySem.W.Frag} {H : Hp} {l : Addr} {ns : List Int} (h : SqL K H l (ns.map V.int)) : Dp K H (.ref l) (iD ns) := .lst h (iD_all ns)
theorem ix_listK {X : Cx} {K : PySem.W.Frag} (h : X.K = K) : IxR X (rIxL K) := h ▸ ix_list
theorem op_in_seqK {X : Cx} {K : PySem.W.Frag} (h : X.K = K) : OpR X (compareOp .In) (rIn K false) := h ▸ op_in_seq
theorem op_notIn_seqK {X : Cx} {K : PySem.W.Frag} (h : X.K = K) : OpR X (compareOp .NotIn) (rIn K true) := h ▸ op_notIn_seq
theorem ix_tupK {X : Cx} {K : PySem.W.Frag} (h : X.K = K) : IxR X (rIxT K) := h ▸ ix_tup

end Fold
namespace Fold
open PySem PySem.Spec PyProof.Rows L2
/-! ### lots of moduli -/
section
variable {P : Program} {w : World} {K : PySem.W.Frag} {mg : Str → Option Value} {base : Heap} {a : Ad}
theorem gcd_step (i j : Int) : Int.gcd j (i.fmod j) = Int.gcd i j := by
  rw [Int.fmod_def, Int.gcd_sub_mul_left_right, Int.gcd_comm]
theorem fmod_less {i j : Int} (h : j ≠ 0) : (i.fmod j).natAbs < j.natAbs := by
  rcases Int.lt_or_gt_of_ne h with c | c
  · have h1 := Int.fmod_nonneg_of_pos (-i) (b := -j) (by omega)
    have h2 := Int.fmod_lt_of_pos (-i) (b := -j) (by omega)
    have e : (-i).fmod (-j) = -(i.fmod j) := by rw [Int.neg_fmod_neg]
    omega
  · have h1 := Int.fmod_nonneg_of_pos i c
    have h2 := Int.fmod_lt_of_pos i c
    omega
def sp_common : Sp := fun vs H Q _ => ∃ (i j : Int), vs = [.int i, .int j] ∧ Q (.int (Int.gcd i j : Nat)) H
theorem ok_common (T : Txt K mg a) : C0 P w K mg base 1 "common" sp_common := by
  refine T.d_common.c0 sc_common (fun vs H Q E h => ?_) (fun f cdv A outer s H vs Q E hr h => ?_)
  · obtain ⟨i, j, rfl, _⟩ := h
    rfl
  · obtain ⟨i, j, rfl, k⟩ := h
    refine ⟨_, (pss_cons (ps_while PassesOwn.never (pt_truth (pv 1) (fun _ => rfl)) (pss_one (ps_par (i := 0) (j := 1) rfl sc_common.nd rfl rfl (by decide) rfl rfl (pa_cons (pv 1) (pa_cons (pe_op op_modN (pv 0) (pv 1)) pa_nil)) (by first | rfl | with_unfolding_all rfl))))
      (pss_one (ps_ret (pe_callB call_abs (by rfl) T.n_abs b_abs (pa_cons (pv 0) pa_nil))))), ?_⟩
    refine g_seq ?_
    refine ⟨fun m σ H' => H' = H ∧ ∃ x y : Int, m = y.natAbs ∧ σ = [some (.int x), some (.int y)] ∧ Int.gcd x y = Int.gcd i j, ⟨j.natAbs, rfl, i, j, rfl, rfl, rfl⟩, ?_⟩
    rintro m σ H' ⟨rfl, x, y, rfl, rfl, e⟩
    refine ⟨_, rfl, _, rfl, ?_⟩
    by_cases c : y = 0
    · subst c
      refine iteF' rfl ⟨_, rfl, _, rfl, q_eq k ?_⟩
      rw [abs_nat, ← e, Int.gcd_zero]
    · refine iteT' (by simpa using c) ⟨_, fun _ _ h => h, _, rfl, _, rfl, _, rfl, _, _, rfl, rfl, c, _, _, rfl, ?_⟩
      exact ⟨(x.fmod y).natAbs, fmod_less c, rfl, y, x.fmod y, rfl, rfl, by rw [gcd_step, e]⟩
def numB : V → Bool
  | .int i => decide (0 ≤ i)
  | _ => false
def sp_is_number : Sp := fun vs H Q _ => ∃ (v : V), vs = [v] ∧ (∃ t, Kn H v t) ∧ Q (.bl (numB v)) H
theorem ok_is_number (T : Txt K mg a) : C0 P w K mg base 1 "is_number" sp_is_number := by
  refine T.d_is_number.c0 sc_is_number (fun vs H Q E h => ?_) (fun f cdv A outer s H vs Q E hr h => ?_)
  · obtain ⟨v, rfl, _⟩ := h
    rfl
  · obtain ⟨v, rfl, ⟨t, hv⟩, k⟩ := h
    refine ⟨_, (pss_one (ps_ret (pe_and (pe_callB call_isi (by rfl) T.n_isinstance b_isinstance (pa_cons (pv 0) (pa_cons (pe_bltn (v := .ty "int") (by rfl) T.n_int b_int rfl) pa_nil))) (pe_and (pe_not (pe_callB call_isi (by rfl) T.n_isinstance b_isinstance (pa_cons (pv 0) (pa_cons (pe_bltn (v := .ty "bool") (by rfl) T.n_bool b_bool rfl) pa_nil)))) (pe_one (pe_cmpR op_ge (pv 0) pe_int (nomark _))))))), ?_⟩
    refine ⟨_, rfl, _, _, _, _, _, rfl, .ty _, hv.ty, kit_ty (isA_int hv), _, rfl, ?_⟩
    cases hv with
    | int i =>
      refine iteT ⟨_, rfl, _, _, _, _, _, rfl, .ty _, (Kn.int i).ty, kit_ty (isA_bool (Kn.int (H := H) i)), _, rfl, _, rfl, ?_⟩
      exact iteT ⟨_, rfl, _, _, rfl, rfl, k⟩
    | bl b => exact iteT ⟨_, rfl, _, _, _, _, _, rfl, .ty _, (Kn.bl b).ty, kit_ty (isA_bool (Kn.bl (H := H) b)), _, rfl, _, rfl, iteF k⟩
    | non => exact iteF k
    | str z => exact iteF k
    | lst e => exact iteF k
    | tup e => exact iteF k
/-- the fields of a lot -/
def kf (n u p q : Nat) : List (Str × V) := putF "part" (.int q) (putF "power" (.int p) (putF "unit" (.int u) (putF "number" (.int n) [])))
theorem nu1 : ¬ (("number" : Str) = "part") := by decide +kernel
theorem nu2 : ¬ (("number" : Str) = "power") := by decide +kernel
theorem nu3 : ¬ (("number" : Str) = "unit") := by decide +kernel
theorem un1 : ¬ (("unit" : Str) = "part") := by decide +kernel
theorem un2 : ¬ (("unit" : Str) = "power") := by decide +kernel
theorem po1 : ¬ (("power" : Str) = "part") := by decide +kernel
theorem kf_number (n u p q : Nat) : (kf n u p q).lookup ("number" : Str) = some (.int n) := by
  unfold kf; rw [lookup_putF, if_neg nu1, lookup_putF, if_neg nu2, lookup_putF, if_neg nu3, lookup_putF, if_pos rfl]
theorem kf_unit (n u p q : Nat) : (kf n u p q).lookup ("unit" : Str) = some (.int u) := by
  unfold kf; rw [lookup_putF, if_neg un1, lookup_putF, if_neg un2, lookup_putF, if_pos rfl]
theorem kf_power (n u p q : Nat) : (kf n u p q).lookup ("power" : Str) = some (.int p) := by
  unfold kf; rw [lookup_putF, if_neg po1, lookup_putF, if_pos rfl]
theorem kf_part (n u p q : Nat) : (kf n u p q).lookup ("part" : Str) = some (.int q) := by
  unfold kf; rw [lookup_putF, if_pos rfl]
theorem kf_no (n u p q : Nat) {m : Str} (h1 : ¬ m = "part") (h2 : ¬ m = "power") (h3 : ¬ m = "unit") (h4 : ¬ m = "number") : (kf n u p q).lookup m = none := by
  unfold kf; rw [lookup_putF, if_neg h1, lookup_putF, if_neg h2, lookup_putF, if_neg h3, lookup_putF, if_neg h4]; rfl
theorem putF_len (f : Str) (v : V) : ∀ fs : List (Str × V), (putF f v fs).length ≤ fs.length + 1
  | [] => Nat.le_refl _
  | (g, u) :: r => by
    unfold putF
    split
    · exact Nat.le_succ _
    · rw [List.length_cons, List.length_cons]
      have := putF_len f v r
      omega
/-- a lot stands at p -/
def KeptAt (C : Addr) (H : Hp) (x : Addr) (n u p q : Nat) : Prop := ∃ dx, H x = some (.ins C dx (kf n u p q))
theorem KeptAt.mono {C : Addr} {H H' : Hp} {x : Addr} {n u p q : Nat} (s : Same H H') (h : KeptAt C H x n u p q) : KeptAt C H' x n u p q := by
  obtain ⟨dx, h⟩ := h
  exact ⟨dx, s _ _ h⟩
def sp_Kept_init (a : Ad) : Sp := fun vs H Q E => ∃ (x dx : Addr) (v1 v2 v3 v4 : V), vs = [.ref x, v1, v2, v3, v4] ∧ H x = some (.ins a.Kept dx []) ∧ (∃ t, Kn H v1 t) ∧ (∃ t, Kn H v2 t) ∧ (∃ t, Kn H v3 t) ∧ (∃ t, Kn H v4 t) ∧
  ((numB v1 && numB v2 && numB v3 && numB v4) = true → ∃ n u p q : Nat, v1 = .int n ∧ v2 = .int u ∧ v3 = .int p ∧ v4 = .int q ∧ ∀ H', KeptAt a.Kept H' x n u p q → But x H H' → Q .non H') ∧
  ((numB v1 && numB v2 && numB v3 && numB v4) = false → ∀ H', Same H H' → E (.ref a.BadKept) none H')
theorem ok_Kept___init__ (T : Txt K mg a) : Mt (L2.CX P w) P w K mg base 2 a.Kept "__init__" (sp_Kept_init a) := by
  have c_is_number := ok_is_number (P := P) (w := w) (base := base) T
  refine T.d_Kept___init__.m1 sc_Kept___init__ (fun vs H Q E h => ?_) (fun f cdv A outer s H vs Q E hr h => ?_)
  · obtain ⟨x, dx, v1, v2, v3, v4, rfl, _⟩ := h
    rfl
  · obtain ⟨x, dx, v1, v2, v3, v4, rfl, hx, k1, k2, k3, k4, kY, kN⟩ := h
    have tk := takes_of (X := cxOf (L2.CX P w) P w K mg base ["self", "number", "unit", "power", "part", "one"] "Kept.__init__" (defScope s_Kept___init__) f cdv A outer s H E) rfl rfl rfl rfl
    refine ⟨_, (pss_cons (ps_if (pt_not (pt_val (pe_callB (cr_all rfl) (by rfl) T.n_all b_all (pa_cons (pe_lc (own := [("one", 5)]) (g := gName 5) rfl sc_Kept___init__.nd (pi_tup (pe_tup (pa_cons (pv 1) (pa_cons (pv 2) (pa_cons (pv 3) (pa_cons (pv 4) pa_nil)))))) (blkOk_by (N := ["self", "number", "unit", "power", "part", "one"]) (sc := defScope s_Kept___init__) (by decide +kernel)) (fun _ _ _ _ _ => (pg_name (i := 5) sc_Kept___init__.nd rfl (Or.inl rfl))) (fun _ _ _ _ _ => pts_nil) (fun _ _ _ _ _ => (pe_0 c_is_number hr (by decide) (pa_cons (pv 5) pa_nil)))) pa_nil)))) (pss_one (ps_raise rfl tk T.x_BadKept.pmk)) pss_nil)
      (pss_cons (ps_fld (pv 0) (pv 1) rfl)
      (pss_cons (ps_fld (pv 0) (pv 2) rfl)
      (pss_cons (ps_fld (pv 0) (pv 3) rfl)
      (pss_one (ps_fld (pv 0) (pv 4) rfl)))))), ?_⟩
    refine ⟨_, rfl, _, rfl, _, rfl, _, rfl, (by show 4 ≤ sizeLine; decide), fun t ht => ⟨t, rfl, ⟨_, SqT.of upd_same⟩, fun D hD => lc_tupM (fun v => .bl (numB v)) upd_same hD (by show 4 < sizeLine; decide) (fun _ => rfl) ?_ ?_⟩⟩
    · intro i v hi H' Q' s' q
      refine ⟨_, rfl, v, rfl, ?_, q⟩
      have m : v ∈ [v1, v2, v3, v4] := List.mem_of_getElem? hi
      have s2 : Same H H' := (same_new ht).trans s'
      simp only [List.mem_cons, List.not_mem_nil, or_false] at m
      rcases m with rfl | rfl | rfl | rfl
      · exact k1.imp fun t k => k.mono s2
      · exact k2.imp fun t k => k.mono s2
      · exact k3.imp fun t k => k.mono s2
      · exact k4.imp fun t k => k.mono s2
    · refine ⟨D, [numB v1, numB v2, numB v3, numB v4], rfl, SqL.of upd_same, _, rfl, ?_⟩
      have e : [numB v1, numB v2, numB v3, numB v4].all id = (numB v1 && numB v2 && numB v3 && numB v4) := by simp [Bool.and_assoc]
      rw [e]
      have s2 : Same H _ := same_upd (o := HO.lst [.bl (numB v1), .bl (numB v2), .bl (numB v3), .bl (numB v4)]) (same_new (o := HO.tup [v1, v2, v3, v4]) ht) hD
      cases c : (numB v1 && numB v2 && numB v3 && numB v4) with
      | false => exact iteT (kN c _ s2)
      | true =>
        obtain ⟨n, u, p, q, rfl, rfl, rfl, rfl, kk⟩ := kY c
        refine iteF (g_next ?_)
        have hx2 := s2 _ _ hx
        refine ⟨_, rfl, _, rfl, x, a.Kept, dx, [], rfl, hx2, T.cl_Kept.cl, T.cl_Kept.na.1, (by decide), _, rfl, _, rfl, x, a.Kept, dx, _, rfl, upd_same, T.cl_Kept.cl, T.cl_Kept.na.2.1, Nat.lt_of_le_of_lt (putF_len _ _ _) (by decide), ?_⟩
        refine ⟨_, rfl, _, rfl, x, a.Kept, dx, _, rfl, upd_same, T.cl_Kept.cl, T.cl_Kept.na.2.2.1, Nat.lt_of_le_of_lt (putF_len _ _ _) (Nat.lt_of_le_of_lt (Nat.succ_le_succ (putF_len _ _ _)) (by decide)),
          _, rfl, _, rfl, x, a.Kept, dx, _, rfl, upd_same, T.cl_Kept.cl, T.cl_Kept.na.2.2.2.1, Nat.lt_of_le_of_lt (putF_len _ _ _) (Nat.lt_of_le_of_lt (Nat.succ_le_succ (Nat.le_trans (putF_len _ _ _) (Nat.succ_le_succ (putF_len _ _ _)))) (by decide)), ?_⟩
        refine kk _ ⟨dx, upd_same⟩ fun b o nb e => ?_
        rw [upd_ne nb, upd_ne nb, upd_ne nb, upd_ne nb]
        exact s2 b o e
/-- whether a modulus is in a lot -/
def inK (n u p q m : Nat) : Bool := (decide (n % m = 0) && decide (Nat.gcd u m = 1)) || (decide (0 < p) && (decide (m % p = 0) && decide (Nat.gcd q (m / p) = 1)))
theorem inK_iff {n u p q m : Nat} : inK n u p q m = true ↔ (n % m = 0 ∧ Nat.gcd u m = 1) ∨ (0 < p ∧ m % p = 0 ∧ Nat.gcd q (m / p) = 1) := by
  simp only [inK, Bool.or_eq_true, Bool.and_eq_true, decide_eq_true_eq]
def inV' (n u p q : Nat) : V → Bool
  | .int m => decide (1 ≤ m) && inK n u p q m.toNat
  | _ => false
def sp_Kept_contains (a : Ad) : Sp := fun vs H Q _ => ∃ (x : Addr) (v : V) (n u p q : Nat), vs = [.ref x, v] ∧ KeptAt a.Kept H x n u p q ∧ (∃ t, Kn H v t) ∧ (∀ m, v = .int m → m < 1000000) ∧ p < 1000000 ∧ Q (.bl (inV' n u p q v)) H
theorem ok_Kept___contains__ (T : Txt K mg a) : Mt CX0 P w K mg base 2 a.Kept "__contains__" (sp_Kept_contains a) := by
  have c_is_number := ok_is_number (P := P) (w := w) (base := base) T; have c_common := ok_common (P := P) (w := w) (base := base) T
  refine T.d_Kept___contains__.m0 sc_Kept___contains__ (fun vs H Q E h => ?_) (fun f cdv A outer s H vs Q E hr h => ?_)
  · obtain ⟨x, v, n, u, p, q, rfl, _⟩ := h
    rfl
  · obtain ⟨x, v, n, u, p, q, rfl, ⟨dx, hx⟩, kv, hm, hp, k⟩ := h
    refine ⟨_, (pss_cons (ps_if (pw_or (pt_not (pt_val (pe_0 c_is_number hr (by decide) (pa_cons (pv 1) pa_nil)))) (pw_or1 (pt_cmpR op_lt (pv 1) pe_int (nomark _)))).pt (pss_one (ps_ret pe_bl)) pss_nil)
      (C8.pss_cut (ps_if (pw_and (pt_cmpR op_eq (pe_op op_mod (pe_fld (pv 0) rfl) (pv 1)) pe_int (nomark _)) (pw_and1 (pt_cmpR op_eq (pe_0 c_common hr (by decide) (pa_cons (pe_fld (pv 0) rfl) (pa_cons (pv 1) pa_nil))) pe_int (nomark _)))).pt (pss_one (ps_ret pe_bl)) pss_nil)
      (pss_one (ps_ret (pe_and (pe_cmpR op_gt (pe_fld (pv 0) rfl) pe_int (nomark _)) (pe_and (pe_cmpR op_eq (pe_op op_mod (pv 1) (pe_fld (pv 0) rfl)) pe_int (nomark _)) (pe_one (pe_cmpR op_eq (pe_0 c_common hr (by decide) (pa_cons (pe_fld (pv 0) rfl) (pa_cons (pe_op op_fdivW (pv 1) (pe_fld (pv 0) rfl)) pa_nil))) pe_int (nomark _))))))))), ?_⟩
    refine ⟨_, rfl, v, rfl, kv, _, rfl, ?_⟩
    by_cases c : numB v = true
    · obtain ⟨m, rfl, m0⟩ : ∃ m, v = .int m ∧ 0 ≤ m := by
        cases v <;> simp only [numB, Bool.false_eq_true, decide_eq_true_eq] at c
        exact ⟨_, rfl, c⟩
      obtain ⟨m, rfl⟩ := Int.eq_ofNat_of_zero_le m0
      refine iteF' (by rw [c]; rfl) ⟨_, rfl, _, _, rfl, rfl, _, rfl, ?_⟩
      by_cases c1 : m = 0
      · subst c1
        exact iteT' (by decide) (q_eq k rfl)
      · have m1 : 0 < m := by omega
        have mi : (0 : Int) < (m : Int) := by omega
        have hm' := hm _ rfl
        refine iteF' (decide_eq_false (by omega)) ?_
        have K1 : Q (.bl (inK n u p q m)) H := q_eq k (by simp only [inV', Int.toNat_natCast, decide_eq_true (show (1 : Int) ≤ (m : Int) by omega), Bool.true_and])
        refine g_next ?_
        refine ⟨fun σ' H' => H' = H ∧ σ' = [some (.ref x), some (.int m)] ∧ ¬ (n % m = 0 ∧ Nat.gcd u m = 1), ?_, ?_⟩
        · refine ⟨_, rfl, x, a.Kept, dx, _, _, rfl, hx, T.cl_Kept.cl, T.cl_Kept.na.1, kf_number _ _ _ _, _, rfl, _, _, rfl, rfl, mi, rfl, _, rfl, ?_⟩
          rw [dec_int]
          by_cases c2 : n % m = 0
          · refine iteT' (decide_eq_true (by rw [← Int.natCast_emod, c2]; rfl)) ⟨_, rfl, x, a.Kept, dx, _, _, rfl, hx, T.cl_Kept.cl, T.cl_Kept.na.2.1, kf_unit _ _ _ _, _, rfl, _, _, rfl, rfl, _, rfl, ?_⟩
            rw [dec_int]
            by_cases c3 : Nat.gcd u m = 1
            · refine iteT' (decide_eq_true (by show ((Nat.gcd u m : Nat) : Int) = 1; omega)) (q_eq K1 ?_)
              simp only [inK, c2, c3, decide_true, Bool.and_self, Bool.true_or]
            · exact iteF' (decide_eq_false (by show ¬ ((Nat.gcd u m : Nat) : Int) = 1; omega)) ⟨rfl, rfl, fun h => c3 h.2⟩
          · exact iteF' (decide_eq_false (fun h => c2 (by omega))) (iteF ⟨rfl, rfl, fun h => c2 h.1⟩)
        · rintro σ' H' ⟨rfl, rfl, no⟩
          have e0 : (decide (n % m = 0) && decide (Nat.gcd u m = 1)) = false := by
            rw [Bool.and_eq_false_imp]
            intro h1
            rw [decide_eq_true_eq] at h1
            exact decide_eq_false fun h2 => no ⟨h1, h2⟩
          refine ⟨_, rfl, x, a.Kept, dx, _, _, rfl, hx, T.cl_Kept.cl, T.cl_Kept.na.2.2.1, kf_power _ _ _ _, _, _, rfl, rfl, _, rfl, ?_⟩
          by_cases p0 : p = 0
          · subst p0
            exact iteF' (by decide) (q_eq K1 (by simp only [inK, e0, Bool.false_or]; rfl))
          · have p1 : (0 : Int) < (p : Int) := by omega
            have e1 : decide (0 < p) = true := decide_eq_true (by omega)
            refine iteT' (decide_eq_true p1) ⟨_, rfl, _, rfl, x, a.Kept, dx, _, _, rfl, hx, T.cl_Kept.cl, T.cl_Kept.na.2.2.1, kf_power _ _ _ _, _, _, rfl, rfl, p1, rfl, _, rfl, ?_⟩
            rw [dec_int]
            by_cases c3 : m % p = 0
            · refine iteT' (decide_eq_true (by rw [← Int.natCast_emod, c3]; rfl)) ⟨_, rfl, x, a.Kept, dx, _, _, rfl, hx, T.cl_Kept.cl, T.cl_Kept.na.2.2.2.1, kf_part _ _ _ _, _, rfl, _, rfl, x, a.Kept, dx, _, _, rfl, hx, T.cl_Kept.cl, T.cl_Kept.na.2.2.1, kf_power _ _ _ _, _, _, rfl, rfl, wdiv p1 (by omega), _, _, rfl, rfl, ?_⟩
              refine q_eq K1 ?_
              simp only [inK, e0, e1, c3, Bool.false_or, decide_true, Bool.true_and]
              rw [dec_int]
              congr 1
              exact decide_eq_decide.mpr ⟨fun h => by exact_mod_cast h, fun h => by exact_mod_cast h⟩
            · refine iteF' (decide_eq_false (fun h => c3 (by omega))) (q_eq K1 ?_)
              simp only [inK, e0, e1, c3, Bool.false_or, decide_false, Bool.false_and, Bool.and_false]
    · exact iteT' (by rw [bf c]; rfl) (iteT (q_eq k (by
        cases v <;> simp only [numB, decide_eq_true_eq] at c <;> try rfl
        simp only [inV']
        rw [decide_eq_false (by omega), Bool.false_and])))
end

end Fold
namespace Fold
open PySem PySem.Spec PyProof.Rows L2
section
variable {P : Program} {w : World} {K : PySem.W.Frag} {mg : Str → Option Value} {base : Heap} {a : Ad}
/-- the moduli up to a number -/
def upTo (n u p q N : Nat) : List V := ((List.range N).filter fun i => inK n u p q (i + 1)).map fun (i : Nat) => V.int (1 + (i : Int))
theorem inV'_nat {n u p q i : Nat} : inV' n u p q (.int (1 + (i : Int))) = inK n u p q (i + 1) := by
  have e : (1 + (i : Int)).toNat = i + 1 := by omega
  simp only [inV', e]
  rw [decide_eq_true (by omega), Bool.true_and]
def sp_Kept_up_to (a : Ad) : Sp := fun vs H Q _ => ∃ (x : Addr) (N n u p q : Nat), vs = [.ref x, .int N] ∧ KeptAt a.Kept H x n u p q ∧ p < 1000000 ∧ N < 100000 ∧ ∀ D, H D = none → Q (.ref D) (upd H D (.lst (upTo n u p q N)))
theorem ok_Kept_up_to (T : Txt K mg a) : Mt CX0 P w K mg base 3 a.Kept "up_to" (sp_Kept_up_to a) := by
  have o_Kept___contains__ := ok_Kept___contains__ (P := P) (w := w) (base := base) T
  refine T.d_Kept_up_to.m0 sc_Kept_up_to (fun vs H Q E h => ?_) (fun f cdv A outer s H vs Q E hr h => ?_)
  · obtain ⟨x, N, n, u, p, q, rfl, _⟩ := h
    rfl
  · obtain ⟨x, N, n, u, p, q, rfl, hx, hp, hN, k⟩ := h
    refine ⟨_, (pss_one (ps_ret (pe_lc (own := [("m", 2)]) (g := gName 2) rfl sc_Kept_up_to.nd (pi_range2 (by rfl) T.n_range (pa_cons pe_int (pa_cons (pe_op op_add (pv 1) pe_int) pa_nil))) (blkOk_by (N := ["self", "most", "m"]) (sc := defScope s_Kept_up_to) (by decide +kernel)) (fun _ _ _ _ _ => (pg_name (i := 2) sc_Kept_up_to.nd rfl (Or.inl rfl))) (fun _ _ _ _ _ => (pts_one (pt_cmpR (op_inOwn o_Kept___contains__ hr (by decide)) (pv 2) (pv 0) (by with_unfolding_all rfl)))) (fun _ _ _ _ _ => (pv 2))))), ?_⟩
    have eN : ((N : Int) + 1 - 1).toNat = N := by omega
    refine ⟨_, rfl, _, _, rfl, rfl, _, _, rfl, ⟨by omega, by omega, by omega, by omega⟩, fun D hD => ?_⟩
    refine lc_rangeF (fun i => inK n u p q (i + 1)) (fun i => V.int (1 + (i : Int))) hD (by rw [eN]; exact Nat.lt_of_lt_of_le hN (by decide)) (fun _ => rfl) ?_ ?_ ?_
    · intro i hi H' Q' s' qq
      obtain ⟨dx, hx'⟩ := hx.mono s'
      exact ⟨_, rfl, _, rfl, x, dx, _, rfl, hx', x, _, n, u, p, q, rfl, ⟨dx, hx'⟩, ⟨_, .int _⟩, fun m e => by injection e with e; omega, hp, _, rfl, _, rfl, by rw [inV'_nat]; exact qq⟩
    · intro i hi H' Q' s' qq
      exact ⟨_, rfl, qq⟩
    · rw [eN]
      exact k D hD
end

end Fold
namespace Fold
open PySem PySem.Spec PyProof.Rows L2
/-! ### what a step keeps: the lot the program makes -/
def wnum (b : Nat) (row : List Int) : Nat → Nat
  | 0 => b ^ row.length - 1
  | i + 1 => Int.gcd (wnum b row i) (row.getD i 0 - row.getD 0 0 * ((b ^ i : Nat) : Int))
def foldOdd (P : Nat) (x y : Int) : Bool := decide (x % (P : Int) = 0) && decide (Int.gcd y P = 1)
def kN (b : Nat) : Stp → Nat
  | .weigh row => wnum b row row.length
  | .fold k x y => (x - y * ((b ^ k : Nat) : Int)).natAbs
def kU : Stp → Nat
  | .weigh row => (row.getD 0 0).natAbs
  | .fold _ _ y => y.natAbs
def kP (b : Nat) : Stp → Nat
  | .weigh _ => 0
  | .fold k x y => if foldOdd (b ^ k) x y = true then b ^ k else 0
def kQ (b : Nat) : Stp → Nat
  | .weigh _ => 0
  | .fold k x y => if foldOdd (b ^ k) x y = true then x.natAbs / b ^ k else 0
def inS (b : Nat) (s : Stp) (m : Nat) : Bool := inK (kN b s) (kU s) (kP b s) (kQ b s) m
section
variable {P : Program} {w : World} {K : PySem.W.Frag} {mg : Str → Option Value} {base : Heap} {a : Ad}
def LotAt (C : Addr) (H : Hp) (x : Addr) (b : Nat) (s : Stp) : Prop := KeptAt C H x (kN b s) (kU s) (kP b s) (kQ b s)
theorem LotAt.mono {C : Addr} {H H' : Hp} {x : Addr} {b : Nat} {st : Stp} (s : Same H H') (h : LotAt C H x b st) : LotAt C H' x b st := KeptAt.mono s h
theorem init_ok {H : Hp} {x dx : Addr} (hx : H x = none) (hdx : H dx = none) (nx : dx ≠ x) (n u p q : Nat) {Q : VK} {E : XK} (k : ∀ H', KeptAt a.Kept H' x n u p q → Same H H' → Q .non H') :
    sp_Kept_init a [.ref x, .int n, .int u, .int p, .int q] (upd (upd H dx (.own x)) x (.ins a.Kept dx [])) Q E := by
  refine ⟨x, dx, _, _, _, _, rfl, upd_same, ⟨_, .int _⟩, ⟨_, .int _⟩, ⟨_, .int _⟩, ⟨_, .int _⟩, fun _ => ⟨n, u, p, q, rfl, rfl, rfl, rfl, fun H3 hK hb => k H3 hK fun b o e => ?_⟩, fun c => ?_⟩
  · have n1 := ne_of_none e hx
    have n2 := ne_of_none e hdx
    refine hb b o n1 ?_
    rw [upd_ne n1, upd_ne n2]
    exact e
  · simp [numB] at c
theorem CMulS {i j : Int} (h : -12 ≤ i ∧ i ≤ 12) : CMul i j := .inl ⟨by omega, by omega⟩
theorem rowAt {row : List Int} {i : Nat} (h : i < row.length) : (row.map V.int)[i]? = some (.int (row.getD i 0)) := by
  rw [List.getElem?_map, List.getElem?_eq_getElem h, List.getD_eq_getElem?_getD, List.getElem?_eq_getElem h]; rfl
theorem rowIn {row : List Int} {i : Nat} (h : i < row.length) : row.getD i 0 ∈ row := by
  rw [List.getD_eq_getElem?_getD, List.getElem?_eq_getElem h]; exact List.getElem_mem h
def sp_weigh_kept (a : Ad) : Sp := fun vs H Q _ => ∃ (b : Nat) (r : Addr) (row : List Int), vs = [.int b, .ref r] ∧ (2 ≤ b ∧ b ≤ 12) ∧ H r = some (.tup (row.map V.int)) ∧ OkS b (.weigh row) ∧ ∀ x H', LotAt a.Kept H' x b (.weigh row) → Same H H' → Q (.ref x) H'
theorem ok_weigh_kept (T : Txt K mg a) : C0 P w K mg base 4 "weigh_kept" (sp_weigh_kept a) := by
  have m_Kept := (ok_Kept___init__ (P := P) (w := w) (base := base) T).make T.cl_Kept; have c_power_of := ok_power_of (P := P) (w := w) (base := base) T; have c_common := ok_common (P := P) (w := w) (base := base) T
  refine T.d_weigh_kept.c0 sc_weigh_kept (fun vs H Q E h => ?_) (fun f cdv A outer s H vs Q E hr h => ?_)
  · obtain ⟨b, r, row, rfl, _⟩ := h
    rfl
  · obtain ⟨b, r, row, rfl, hb, h1, ho, k⟩ := h
    refine ⟨_, (pss_cons (ps_set (i := 2) sc_weigh_kept.nd rfl (Or.inl rfl) (pe_op op_sub (pe_0 c_power_of hr (by decide) (pa_cons (pv 0) (pa_cons (pe_callB call_len_seq (by rfl) T.n_len b_len (pa_cons (pv 1) pa_nil)) pa_nil))) pe_int))
      (pss_cons (ps_for PassesOwn.never rfl (pi_enumT (by rfl) T.n_enumerate (pa_cons (pv 1) pa_nil)) (pg_tup rfl (pgs_cons (pg_name (i := 3) sc_weigh_kept.nd rfl (Or.inl rfl)) (pgs_cons (pg_name (i := 4) sc_weigh_kept.nd rfl (Or.inl rfl)) pgs_nil))) (pss_one (ps_set (i := 2) sc_weigh_kept.nd rfl (Or.inl rfl) (pe_0 c_common hr (by decide) (pa_cons (pv 2) (pa_cons (pe_op op_sub (pv 4) (pe_op op_mul (pe_ix ix_tup (pv 1) pe_int (fun _ _ => rfl)) (pe_0 c_power_of hr (by decide) (pa_cons (pv 0) (pa_cons (pv 3) pa_nil))))) pa_nil))))))
      (pss_one (ps_ret (pe_m10 m_Kept hr (by decide) (pa_cons (pv 2) (pa_cons (pe_callB call_abs (by rfl) T.n_abs b_abs (pa_cons (pe_ix ix_tup (pv 1) pe_int (fun _ _ => rfl)) pa_nil)) (pa_cons pe_int (pa_cons pe_int pa_nil))))))))), ?_⟩
    obtain ⟨o1, o2, o3⟩ := id ho
    have r0 : 0 < row.length := o1
    refine ⟨_, rfl, _, rfl, r, _, rfl, .inr (SqT.of h1), _, _, rfl, ⟨by omega, by omega⟩, ⟨by rw [List.length_map]; omega, by rw [List.length_map]; omega⟩, _, _, rfl, rfl, ?_⟩
    refine ⟨_, rfl, r, _, rfl, SqT.of h1, for_it walk_enumT (fun i σ H' => Same H H' ∧ ∃ v1 v2, σ = [some (.int b), some (.ref r), some (.int (wnum b row i : Nat)), v1, v2]) ⟨Same.refl _, none, none, ?_⟩ (fun i σ H' _ h => SqT.of (h.1 _ _ h1)) ?_ ?_⟩
    · show _ = [some (V.int (b : Int)), some (V.ref r), some (V.int ((b ^ row.length - 1 : Nat) : Int)), none, none]
      have e : ((b : Int).toNat ^ ((row.map V.int).length : Int).toNat : Nat) - (1 : Int) = ((b ^ row.length - 1 : Nat) : Int) := by
        rw [List.length_map, Int.toNat_natCast, Int.toNat_natCast]
        have : 0 < b ^ row.length := Nat.pow_pos (by omega)
        omega
      rw [← e]; rfl
    · rintro i v σ H1 H2 hi ⟨s1, v1, v2, rfl⟩ ⟨T', x, y, rfl, hT, rfl, ex, ey⟩
      cases ex
      rw [List.length_map] at hi
      obtain rfl : V.int (row.getD i 0) = y := Option.some.inj ((rowAt hi).symm.trans ey)
      have s2 := s1.trans (same_new (o := HO.tup [.int (i : Int), .int (row.getD i 0)]) hT)
      have ri := o3 _ (rowIn hi)
      have r00 := o3 _ (rowIn r0)
      refine ⟨T', _, rfl, SqT.of upd_same, rfl, _, _, rfl, _, _, rfl, rfl, ?_⟩
      refine ⟨_, rfl, _, rfl, _, rfl, r, _, _, _, rfl, rfl, SqT.of (s2 _ _ h1), at_of (j := 0) rfl (rowAt r0), _, rfl, _, rfl, _, _, rfl, ⟨by omega, by omega⟩, ⟨by omega, by omega⟩, _, _, rfl, rfl, CMulS r00, _, _, rfl, rfl, _, _, rfl, s2, some (.int (i : Int)), some (.int (row.getD i 0)), rfl⟩
    · rintro σ H1 ⟨s1, v1, v2, rfl⟩
      refine ⟨_, rfl, _, rfl, r, _, _, _, rfl, rfl, SqT.of (s1 _ _ h1), at_of (j := 0) rfl (rowAt r0), _, rfl, fun x dx hx hdx nx => ?_⟩
      rw [abs_nat, List.length_map]
      exact init_ok hx hdx nx _ _ 0 0 fun H' hk s' => ⟨rfl, k x H' hk (s1.trans s')⟩
def sp_fold_kept (a : Ad) : Sp := fun vs H Q _ => ∃ (b k : Nat) (x y : Int), vs = [.int b, .int k, .int x, .int y] ∧ (2 ≤ b ∧ b ≤ 12) ∧ OkS b (.fold k x y) ∧ ∀ z H', LotAt a.Kept H' z b (.fold k x y) → Same H H' → Q (.ref z) H'
theorem ok_fold_kept (T : Txt K mg a) : C0 P w K mg base 4 "fold_kept" (sp_fold_kept a) := by
  have c_power_of := ok_power_of (P := P) (w := w) (base := base) T; have m_Kept := (ok_Kept___init__ (P := P) (w := w) (base := base) T).make T.cl_Kept; have c_common := ok_common (P := P) (w := w) (base := base) T
  refine T.d_fold_kept.c0 sc_fold_kept (fun vs H Q E h => ?_) (fun f cdv A outer s H vs Q E hr h => ?_)
  · obtain ⟨b, k, x, y, rfl, _⟩ := h
    rfl
  · obtain ⟨b, k, x, y, rfl, hb, ⟨o1, o2, o3, o4, o5⟩, kk⟩ := h
    refine ⟨_, (pss_cons (ps_set (i := 4) sc_fold_kept.nd rfl (Or.inl rfl) (pe_0 c_power_of hr (by decide) (pa_cons (pv 0) (pa_cons (pv 1) pa_nil))))
      (pss_cons (ps_set (i := 5) sc_fold_kept.nd rfl (Or.inl rfl) (pe_callB call_abs (by rfl) T.n_abs b_abs (pa_cons (pe_op op_sub (pv 2) (pe_op op_mul (pv 3) (pv 4))) pa_nil)))
      (C8.pss_cut (ps_if (pw_and (pt_cmpR op_eq (pe_op op_mod (pv 2) (pv 4)) pe_int (nomark _)) (pw_and1 (pt_cmpR op_eq (pe_0 c_common hr (by decide) (pa_cons (pv 3) (pa_cons (pv 4) pa_nil))) pe_int (nomark _)))).pt (pss_one (ps_ret (pe_m10 m_Kept hr (by decide) (pa_cons (pv 5) (pa_cons (pe_callB call_abs (by rfl) T.n_abs b_abs (pa_cons (pv 3) pa_nil)) (pa_cons (pv 4) (pa_cons (pe_op op_fdivW (pe_callB call_abs (by rfl) T.n_abs b_abs (pa_cons (pv 2) pa_nil)) (pv 4)) pa_nil))))))) pss_nil)
      (pss_one (ps_ret (pe_m10 m_Kept hr (by decide) (pa_cons (pv 5) (pa_cons (pe_callB call_abs (by rfl) T.n_abs b_abs (pa_cons (pv 3) pa_nil)) (pa_cons pe_int (pa_cons pe_int pa_nil)))))))))), ?_⟩
    have hP : 0 < b ^ k := Nat.pow_pos (by omega)
    have hPi : (0 : Int) < ((b ^ k : Nat) : Int) := by omega
    refine ⟨_, rfl, _, rfl, _, _, rfl, ⟨by omega, by omega⟩, ⟨by omega, by omega⟩, ?_⟩
    refine ⟨_, rfl, _, rfl, _, rfl, _, _, rfl, rfl, .inl ⟨by omega, by omega⟩, _, _, rfl, rfl, _, rfl, ?_⟩
    simp only [Int.toNat_natCast]
    rw [abs_nat]
    refine ⟨fun (σ' : L2.St) (H' : Hp) => H' = H ∧ σ' = [some (.int b), some (.int k), some (.int x), some (.int y), some (.int ((b ^ k : Nat) : Int)), some (.int ((x - y * ((b ^ k : Nat) : Int)).natAbs : Nat))] ∧ foldOdd (b ^ k) x y = false, ?_, ?_⟩
    · refine ⟨_, rfl, _, rfl, _, _, rfl, rfl, hPi, rfl, _, rfl, ?_⟩
      rw [dec_int]
      by_cases c1 : x % ((b ^ k : Nat) : Int) = 0
      · refine iteT' (decide_eq_true c1) ⟨_, rfl, _, rfl, _, _, rfl, rfl, _, rfl, ?_⟩
        rw [dec_int]
        by_cases c2 : Int.gcd y ((b ^ k : Nat) : Int) = 1
        · have ec : foldOdd (b ^ k) x y = true := by rw [foldOdd, decide_eq_true c1, decide_eq_true c2]; rfl
          refine iteT' (decide_eq_true (by omega)) ⟨_, rfl, _, rfl, _, rfl, _, rfl, _, rfl, _, rfl, _, rfl, _, _, rfl, rfl, wdiv hPi (by omega), fun z dz hz hdz nz => ?_⟩
          rw [abs_nat, abs_nat]
          refine init_ok hz hdz nz _ _ (b ^ k) (x.natAbs / b ^ k) fun H' hk s' => ⟨rfl, kk z H' ?_ s'⟩
          simp only [LotAt, kN, kU, kP, kQ, ec, if_true]
          exact hk
        · exact iteF' (decide_eq_false (by omega)) ⟨rfl, rfl, by rw [foldOdd, decide_eq_false c2, Bool.and_false]⟩
      · exact iteF' (decide_eq_false c1) (iteF ⟨rfl, rfl, by rw [foldOdd, decide_eq_false c1, Bool.false_and]⟩)
    · rintro σ' H' ⟨rfl, rfl, ec⟩
      refine ⟨_, rfl, _, rfl, _, rfl, fun z dz hz hdz nz => ?_⟩
      rw [abs_nat]
      refine init_ok hz hdz nz _ _ 0 0 fun H' hk s' => ⟨rfl, kk z H' ?_ s'⟩
      simp only [LotAt, kN, kU, kP, kQ, ec, if_neg Bool.false_ne_true]
      exact hk
def sp_kept (a : Ad) : Sp := fun vs H Q E => ∃ (v u : V), vs = [v, u] ∧ (∃ t, Kn H v t) ∧ KnT H u ∧
  (okB H v u = true → ∃ (b : Nat) (p : Addr) (s : Stp), v = .int b ∧ u = .ref p ∧ (2 ≤ b ∧ b ≤ 12) ∧ StepAt H p s ∧ OkS b s ∧ ∀ x H', LotAt a.Kept H' x b s → Same H H' → Q (.ref x) H') ∧ (okB H v u = false → ∀ H', Same H H' → E (.ref a.BadStep) none H')
theorem ok_kept (T : Txt K mg a) : C1 P w K mg base 5 "kept" (sp_kept a) := by
  have c_check_step := ok_check_step (P := P) (w := w) (base := base) T; have c_weigh_kept := ok_weigh_kept (P := P) (w := w) (base := base) T; have c_fold_kept := ok_fold_kept (P := P) (w := w) (base := base) T
  refine T.d_kept.c1 sc_kept (fun vs H Q E h => ?_) (fun f cdv A outer s H vs Q E hr h => ?_)
  · obtain ⟨v, u, rfl, _⟩ := h
    rfl
  · obtain ⟨v, u, rfl, kv, ku, kY, kN⟩ := h
    have tk := takes_of (X := cxOf (L2.CX P w) P w K mg base ["base", "step"] "kept" (defScope s_kept) f cdv A outer s H E) rfl rfl rfl rfl
    refine ⟨_, (pss_cons (ps_expr (pe_1 c_check_step hr (by decide) tk (by exact (pa_cons (pv 0) (pa_cons (pv 1) pa_nil)))))
      (pss_one (ps_ret (pe_ifExp (pt_cmpR op_eq (pe_ix (ix_tupK (K := K) rfl) (pv 1) pe_int (fun _ _ => rfl)) pe_str (nomark _)) (pe_0 c_weigh_kept hr (by decide) (pa_cons (pv 0) (pa_cons (pe_ix (ix_tupK (K := K) rfl) (pv 1) pe_int (fun _ _ => rfl)) pa_nil))) (pe_0 c_fold_kept hr (by decide) (pa_cons (pv 0) (pa_cons (pe_ix (ix_tupK (K := K) rfl) (pv 1) pe_int (fun _ _ => rfl)) (pa_cons (pe_ix (ix_tupK (K := K) rfl) (pv 1) pe_int (fun _ _ => rfl)) (pa_cons (pe_ix (ix_tupK (K := K) rfl) (pv 1) pe_int (fun _ _ => rfl)) pa_nil))))))))), ?_⟩
    refine ⟨_, rfl, _, rfl, v, u, rfl, kv, ku, fun c H' s' => ?_, fun c H' s' => kN c H' s'⟩
    obtain ⟨b, p, s, rfl, rfl, hb, hs, ho, q⟩ := kY c
    have hs' := hs.mono s'
    cases s with
    | weigh row =>
      obtain ⟨r, h1, h2⟩ := hs'
      exact ⟨_, rfl, _, _, _, _, rfl, rfl, SqT.of h1, rfl, rfl, _, rfl, iteT' (by decide +kernel) ⟨_, rfl, _, rfl, _, _, _, _, rfl, rfl, SqT.of h1, rfl, b, r, row, rfl, hb, h2, ho, fun x H2 hx s2 => q x H2 hx (s'.trans s2)⟩⟩
    | fold kk x y =>
      have h1 : H' p = _ := hs'
      exact ⟨_, rfl, _, _, _, _, rfl, rfl, SqT.of h1, rfl, rfl, _, rfl, iteF' (by decide +kernel) ⟨_, rfl, _, rfl, _, _, _, _, rfl, rfl, SqT.of h1, rfl, _, rfl, _, _, _, _, rfl, rfl, SqT.of h1, rfl, _, rfl, _, _, _, _, rfl, rfl, SqT.of h1, rfl, b, kk, x, y, rfl, hb, ho, fun x H2 hx s2 => q x H2 hx (s'.trans s2)⟩⟩
def sp_keeps (a : Ad) : Sp := fun vs H Q E => ∃ (v u m : V), vs = [v, u, m] ∧ (∃ t, Kn H v t) ∧ KnT H u ∧ (∃ t, Kn H m t) ∧ (∀ j, m = .int j → j < 1000000) ∧
  (okB H v u = true → ∃ (b : Nat) (p : Addr) (s : Stp), v = .int b ∧ u = .ref p ∧ (2 ≤ b ∧ b ≤ 12) ∧ StepAt H p s ∧ OkS b s ∧ ∀ H', Same H H' → Q (.bl (inV' (Fold.kN b s) (kU s) (kP b s) (kQ b s) m)) H') ∧ (okB H v u = false → ∀ H', Same H H' → E (.ref a.BadStep) none H')
theorem kP_lt {b : Nat} {s : Stp} (ho : OkS b s) : kP b s < 1000000 := by
  cases s with
  | weigh row => exact (by decide : 0 < 1000000)
  | fold k x y =>
    obtain ⟨o1, o2, o3, _⟩ := ho
    show (if foldOdd (b ^ k) x y = true then b ^ k else 0) < 1000000
    split <;> omega
theorem ok_keeps (T : Txt K mg a) : C1 P w K mg base 6 "keeps" (sp_keeps a) := by
  have o_Kept___contains__ := ok_Kept___contains__ (P := P) (w := w) (base := base) T; have c_kept := ok_kept (P := P) (w := w) (base := base) T
  refine T.d_keeps.c1 sc_keeps (fun vs H Q E h => ?_) (fun f cdv A outer s H vs Q E hr h => ?_)
  · obtain ⟨v, u, m, rfl, _⟩ := h
    rfl
  · obtain ⟨v, u, m, rfl, kv, ku, km, mb, kY, kN⟩ := h
    have tk := takes_of (X := cxOf (L2.CX P w) P w K mg base ["base", "step", "m"] "keeps" (defScope s_keeps) f cdv A outer s H E) rfl rfl rfl rfl
    refine ⟨_, (pss_one (ps_ret (pe_cmpR (op_inOwn o_Kept___contains__ hr (by decide)) (pv 2) (pe_1 c_kept hr (by decide) tk (by exact (pa_cons (pv 0) (pa_cons (pv 1) pa_nil)))) (by with_unfolding_all rfl)))), ?_⟩
    refine ⟨_, rfl, _, rfl, _, rfl, v, u, rfl, kv, ku, fun c => ?_, fun c H' s' => kN c H' s'⟩
    obtain ⟨b, p, s, rfl, rfl, hb, hs, ho, q⟩ := kY c
    refine ⟨b, p, s, rfl, rfl, hb, hs, ho, fun x H' hx s' => ?_⟩
    obtain ⟨dx, hx'⟩ := id hx
    exact ⟨x, dx, _, rfl, hx', x, m, _, _, _, _, rfl, hx, km.imp fun t z => z.mono s', mb, kP_lt ho, _, rfl, q H' s'⟩
end

end Fold
namespace Fold
open PySem PySem.Spec PyProof.Rows L2
/-! ### the law's own helpers -/
section
variable {P : Program} {w : World} {K : PySem.W.Frag} {mg : Str → Option Value} {base : Heap} {a : Ad}
/-- the drawing list stands at d -/
def DrawsAt (H : Hp) (d l : Addr) : Prop := ∃ (ns : List Int) (i : Nat) (g e : Int), H d = some (.lst [.ref l, .int i, .int g, .int e]) ∧ H l = some (.lst (ns.map V.int))
theorem DrawsAt.ne {H : Hp} {d l : Addr} {ns : List Int} {i : Nat} {g e : Int} (h : H d = some (.lst [.ref l, .int i, .int g, .int e])) (h' : H l = some (.lst (ns.map V.int))) : l ≠ d := by
  refine ne_of h' h fun q => ?_
  injection q with q
  cases ns with
  | nil => cases q
  | cons x r => cases q
theorem DrawsAt.mono {H H' : Hp} {d l : Addr} (s : Same H H') (h : DrawsAt H d l) : DrawsAt H' d l := by
  obtain ⟨ns, i, g, e, h1, h2⟩ := h
  exact ⟨ns, i, g, e, s _ _ h1, s _ _ h2⟩
theorem DrawsAt.there {H : Hp} {d l : Addr} (h : DrawsAt H d l) : ∃ o, H d = some o := by
  obtain ⟨ns, i, g, e, h1, h2⟩ := h
  exact ⟨_, h1⟩
theorem p31 : (0 : Int) < 2147483647 := by decide
theorem p29 : (0 : Int) < 2147483629 := by decide
def sp_law_begin (K : PySem.W.Frag) : Sp := fun vs H Q _ => ∃ (p : Addr) (ns : List Int), vs = [.ref p] ∧ SqL K H p (ns.map V.int) ∧ ∀ d l H', H d = none → Same H H' → DrawsAt H' d l → Q (.ref d) H'
theorem ok__law_begin (T : Txt K mg a) : C0 P w K mg base 1 "_law_begin" (sp_law_begin K) := by
  skip
  refine T.d__law_begin.c0 sc__law_begin (fun vs H Q E h => ?_) (fun f cdv A outer s H vs Q E hr h => ?_)
  · obtain ⟨p, ns, rfl, _⟩ := h
    rfl
  · obtain ⟨p, ns, rfl, hp, k⟩ := h
    refine ⟨_, (pss_one (ps_ret (pe_lst (pa_cons (pe_callTy call_list_of (by rfl) T.n_list b_list (pa_cons (pv 0) pa_nil)) (pa_cons pe_int (pa_cons pe_int (pa_cons pe_int pa_nil))))))), ?_⟩
    refine ⟨_, rfl, p, _, rfl, .inl hp, fun l hl => ⟨by show 4 ≤ sizeLine; decide, fun d hd => ?_⟩⟩
    have nd : l ≠ d := ne_of_none upd_same hd
    have hd0 : H d = none := by rw [upd_ne nd.symm] at hd; exact hd
    exact k d l _ hd0 (same_upd (same_new hl) hd) ⟨ns, 0, 0, 7, upd_same, by rw [upd_ne nd]; exact upd_same⟩
def sp_law_draw : Sp := fun vs H Q _ => ∃ (d l : Addr) (z : Int), vs = [.ref d, .int z] ∧ (0 < z ∧ z < 9223372036854775808) ∧ DrawsAt H d l ∧ ∀ r H', 0 ≤ r → r < z → DrawsAt H' d l → But d H H' → Q (.int r) H'
theorem ok__law_draw (T : Txt K mg a) : C0 P w K mg base 1 "_law_draw" sp_law_draw := by
  skip
  refine T.d__law_draw.c0 sc__law_draw (fun vs H Q E h => ?_) (fun f cdv A outer s H vs Q E hr h => ?_)
  · obtain ⟨d, l, z, rfl, _⟩ := h
    rfl
  · obtain ⟨d, l, z, rfl, hz, hD, k⟩ := h
    refine ⟨_, (C8.pss_cut (ps_if (pt_cmpR op_eq (pe_ix ix_list (pv 0) pe_int (fun _ _ => rfl)) pe_int (nomark _)) (pss_one (ps_if (pt_cmpR op_lt (pe_ix ix_list (pv 0) pe_int (fun _ _ => rfl)) (pe_callB call_len_seq (by rfl) T.n_len b_len (pa_cons (pe_ix ix_list (pv 0) pe_int (fun _ _ => rfl)) pa_nil)) (nomark _)) (pss_cons (ps_set (i := 2) sc__law_draw.nd rfl (Or.inl rfl) (pe_ix ix_list (pe_ix ix_list (pv 0) pe_int (fun _ _ => rfl)) (pe_ix ix_list (pv 0) pe_int (fun _ _ => rfl)) (fun _ _ => rfl)))
      (pss_cons (ps_asg (pe_op op_add (pe_ix ix_list (pv 0) pe_int (fun _ _ => rfl)) pe_int) (pg_sub (pv 0) pe_int set_list))
      (pss_one (ps_if (pt_cmpR op_ge (pv 2) (pe_op op_pow pe_int pe_int) (nomark _)) (pss_one (ps_asg (pv 2) (pg_sub (pv 0) pe_int set_list))) (pss_one (ps_asg (pe_op op_mod (pe_callTy call_int1 (by rfl) T.n_int b_int (pa_cons (pe_op op_add (pe_op op_add (pe_op op_mul (pe_ix ix_list (pv 0) pe_int (fun _ _ => rfl)) pe_int) (pe_op op_mul (pv 2) pe_int)) pe_int) pa_nil)) pe_int) (pg_sub (pv 0) pe_int set_list))))))) (pss_one (ps_asg (pe_op op_mod (pe_callTy call_int1 (by rfl) T.n_int b_int (pa_cons (pe_op op_add (pe_op op_mul (pe_ix ix_list (pv 0) pe_int (fun _ _ => rfl)) pe_int) pe_int) pa_nil)) pe_int) (pg_sub (pv 0) pe_int set_list))))) pss_nil)
      (pss_cons (ps_if (pt_cmpR op_gt (pe_ix ix_list (pv 0) pe_int (fun _ _ => rfl)) pe_int (nomark _)) (pss_cons (ps_set (i := 3) sc__law_draw.nd rfl (Or.inl rfl) (pe_op op_mod (pe_callTy call_int1 (by rfl) T.n_int b_int (pa_cons (pe_ix ix_list (pv 0) pe_int (fun _ _ => rfl)) pa_nil)) (pv 1)))
      (pss_cons (ps_asg (pe_op op_fdivW (pe_ix ix_list (pv 0) pe_int (fun _ _ => rfl)) (pv 1)) (pg_sub (pv 0) pe_int set_list))
      (pss_one (ps_ret (pv 3))))) pss_nil)
      (pss_one (ps_ret (pe_op op_mod (pe_op op_mod (pe_callTy call_int1 (by rfl) T.n_int b_int (pa_cons (pe_op op_mul (pe_ix ix_list (pv 0) pe_int (fun _ _ => rfl)) pe_int) pa_nil)) pe_int) (pv 1)))))), ?_⟩
    refine ⟨fun σ H' => DrawsAt H' d l ∧ But d H H' ∧ ∃ c, σ = [some (.ref d), some (.int z), c, none], ?_, ?_⟩
    · obtain ⟨ns, i, g, e, h1, h2⟩ := id hD
      have nl : l ≠ d := DrawsAt.ne h1 h2
      refine ⟨_, rfl, _, _, _, _, rfl, rfl, SqL.of h1, rfl, rfl, _, rfl, ?_⟩
      rw [dec_int]
      refine iteB (fun c => ?_) (fun c => ⟨hD, But.refl _ _, _, rfl⟩)
      refine ⟨_, rfl, _, _, _, _, rfl, rfl, SqL.of h1, rfl, _, rfl, _, _, _, _, rfl, rfl, SqL.of h1, rfl, l, _, rfl, .inl (SqL.of h2), _, _, rfl, rfl, _, rfl, ?_⟩
      rw [List.length_map]
      refine iteB (fun c2 => ?_) (fun c2 => ?_)
      · have hi : i < ns.length := by simpa using c2
        refine ⟨_, rfl, _, _, _, _, rfl, rfl, SqL.of h1, rfl, _, rfl, _, _, _, _, rfl, rfl, SqL.of h1, rfl, l, _, _, _, rfl, rfl, SqL.of h2, at_of (j := i) (v := V.int ns[i]) rfl (by rw [List.getElem?_map, List.getElem?_eq_getElem hi]; rfl), ?_⟩
        refine ⟨_, rfl, _, _, _, _, rfl, rfl, SqL.of h1, rfl, _, _, rfl, rfl, _, rfl, d, _, _, _, rfl, rfl, h1, rfl, ?_⟩
        refine ⟨_, rfl, _, _, rfl, rfl, ⟨by decide, by decide, by decide⟩, _, _, rfl, rfl, _, rfl, ?_⟩
        refine iteB (fun c3 => ?_) (fun c3 => ?_)
        · refine ⟨_, rfl, _, rfl, d, _, _, _, rfl, rfl, upd_same, rfl, ⟨ns, i + 1, _, e, upd_same, ?_⟩, But.trans But.upd But.upd, _, rfl⟩
          rw [upd_ne nl, upd_ne nl]; exact h2
        · refine ⟨_, rfl, _, _, _, _, rfl, rfl, SqL.of upd_same, rfl, _, _, rfl, rfl, .inr ⟨by decide, by decide⟩, _, rfl, _, _, rfl, rfl, .inr ⟨by decide, by decide⟩, _, _, rfl, rfl, _, _, rfl, rfl, .inl ⟨_, rfl, _, _, rfl, rfl, p31, _, rfl, d, _, _, _, rfl, rfl, upd_same, rfl, ⟨ns, i + 1, g, _, upd_same, ?_⟩, But.trans But.upd But.upd, _, rfl⟩⟩
          rw [upd_ne nl, upd_ne nl]; exact h2
      · refine ⟨_, rfl, _, _, _, _, rfl, rfl, SqL.of h1, rfl, _, _, rfl, rfl, .inr ⟨by decide, by decide⟩, _, _, rfl, rfl, .inl ⟨_, rfl, _, _, rfl, rfl, p31, _, rfl, d, _, _, _, rfl, rfl, h1, rfl, ⟨ns, i, g, _, upd_same, ?_⟩, But.upd, _, rfl⟩⟩
        rw [upd_ne nl]; exact h2
    · rintro σ H1 ⟨hD1, hB, c, rfl⟩
      obtain ⟨ns, i, g, e, h1, h2⟩ := id hD1
      have nl : l ≠ d := DrawsAt.ne h1 h2
      refine ⟨_, rfl, _, _, _, _, rfl, rfl, SqL.of h1, rfl, _, _, rfl, rfl, _, rfl, ?_⟩
      refine iteB (fun c => ?_) (fun c => ?_)
      · refine ⟨_, rfl, _, _, _, _, rfl, rfl, SqL.of h1, rfl, .inl ⟨_, rfl, _, rfl, _, _, rfl, rfl, hz.1, ?_⟩⟩
        refine ⟨_, rfl, _, _, _, _, rfl, rfl, SqL.of h1, rfl, _, rfl, _, _, rfl, rfl, wdiv hz.1 (by omega), _, rfl, d, _, _, _, rfl, rfl, h1, rfl, _, rfl, ?_⟩
        refine k _ _ (Int.emod_nonneg _ (by omega)) (Int.emod_lt_of_pos _ hz.1) ⟨ns, i, _, e, upd_same, ?_⟩ (hB.trans But.upd)
        rw [upd_ne nl]; exact h2
      · refine ⟨_, rfl, _, _, _, _, rfl, rfl, SqL.of h1, rfl, _, _, rfl, rfl, .inr ⟨by decide, by decide⟩, .inl ⟨_, rfl, _, _, rfl, rfl, p29, _, rfl, _, _, rfl, rfl, hz.1, ?_⟩⟩
        exact k _ _ (Int.emod_nonneg _ (by omega)) (Int.emod_lt_of_pos _ hz.1) hD1 hB
theorem DrawsAt.there2 {H : Hp} {d l : Addr} (h : DrawsAt H d l) : ∃ o, H l = some o := by
  obtain ⟨ns, i, g, e, h1, h2⟩ := h
  exact ⟨_, h2⟩
theorem DrawsAt.updO {H : Hp} {d l D : Addr} {o : HO} (h : DrawsAt H d l) (h1 : D ≠ d) (h2 : D ≠ l) : DrawsAt (upd H D o) d l := by
  obtain ⟨ns, i, g, e, e1, e2⟩ := h
  exact ⟨ns, i, g, e, keptN e1 h1.symm, keptN e2 h2.symm⟩
theorem DrawsAt.neL {H : Hp} {d l x : Addr} {xs : List V} (h : DrawsAt H d l) (e : H x = some (.lst xs)) (hx : ∀ v ∈ xs, ∀ r, v ≠ .ref r) : x ≠ d := by
  obtain ⟨ns, i, g, e', e1, e2⟩ := h
  refine ne_of e e1 fun q => ?_
  injection q with q
  rw [q] at hx
  exact hx _ List.mem_cons_self _ rfl
theorem noRef {l : List Nat} : ∀ v ∈ l.map (fun (z : Nat) => V.int z), ∀ r, v ≠ .ref r := by
  intro v m r
  obtain ⟨z, _, rfl⟩ := List.mem_map.mp m
  exact fun q => nomatch q
theorem DrawsAt.new1 {H : Hp} {d l D : Addr} (h : DrawsAt H d l) (hD : H D = none) : D ≠ d := fun q => by
  obtain ⟨o, ho⟩ := h.there
  rw [q, ho] at hD
  cases hD
theorem DrawsAt.new2 {H : Hp} {d l D : Addr} (h : DrawsAt H d l) (hD : H D = none) : D ≠ l := fun q => by
  obtain ⟨o, ho⟩ := h.there2
  rw [q, ho] at hD
  cases hD
end

end Fold
namespace Fold
open PySem PySem.Spec PyProof.Rows L2
section
variable {P : Program} {w : World} {K : PySem.W.Frag} {mg : Str → Option Value} {base : Heap} {a : Ad}
theorem ok__law_power (T : Txt K mg a) : C0 P w K mg base 1 "_law_power" sp_power_of := by
  refine T.d__law_power.c0 sc__law_power (fun vs H Q E h => ?_) (fun f cdv A outer s H vs Q E hr h => ?_)
  · obtain ⟨b, n, rfl, _⟩ := h
    rfl
  · obtain ⟨b, n, rfl, ⟨b0, b1⟩, ⟨n0, n1⟩, k⟩ := h
    obtain ⟨b, rfl⟩ := Int.eq_ofNat_of_zero_le b0
    obtain ⟨n, rfl⟩ := Int.eq_ofNat_of_zero_le n0
    refine ⟨_, (pss_cons (ps_set (i := 2) sc__law_power.nd rfl (Or.inl rfl) pe_int)
      (pss_cons (ps_for PassesOwn.never rfl (pi_range1 (by rfl) T.n_range (pa_cons (pv 1) pa_nil)) (pg_name (i := 3) sc__law_power.nd rfl (Or.inl rfl)) (pss_one (ps_set (i := 2) sc__law_power.nd rfl (Or.inl rfl) (pe_op op_mul (pv 2) (pv 0)))))
      (pss_one (ps_ret (pv 2))))), ?_⟩
    refine ⟨_, rfl, _, rfl, by omega, by omega, for_range (fun i σ H' => H' = H ∧ ∃ v, σ = [some (.int b), some (.int n), some (.int ((b ^ i : Nat) : Int)), v]) ⟨rfl, none, rfl⟩ ?_ ?_⟩
    · rintro i σ H' hi ⟨rfl, v, rfl⟩
      refine ⟨_, rfl, _, rfl, _, _, rfl, rfl, .inr ⟨by omega, by omega⟩, rfl, some (.int (0 + (i : Int))), ?_⟩
      rw [Nat.pow_succ, Int.natCast_mul]
      rfl
    · rintro σ H' ⟨rfl, v, rfl⟩
      exact ⟨_, rfl, k⟩
/-- a step as the laws draw them -/
def OkL : Stp → Prop
  | .fold _ x _ => -6 ≤ x ∧ x ≤ 6
  | .weigh row => row.length ≤ 4 ∧ ∀ v ∈ row, -7 ≤ v ∧ v ≤ 7
theorem pow60 {b k : Nat} (hb : 2 ≤ b) (h : b ^ k ≤ 60) : k ≤ 5 := by
  refine Nat.le_of_not_lt fun c => ?_
  have h1 : b ^ 6 ≤ b ^ k := Nat.pow_le_pow_right (by omega) c
  have h2 : 2 ^ 6 ≤ b ^ 6 := Nat.pow_le_pow_left hb 6
  omega
def sp_law_step : Sp := fun vs H Q _ => ∃ (d l : Addr) (b : Int), vs = [.ref d, .int b] ∧ (2 ≤ b ∧ b ≤ 12) ∧ DrawsAt H d l ∧ ∀ p s H', H p = none → StepAt H' p s → OkS b.toNat s → OkL s → DrawsAt H' d l → But d H H' → Q (.ref p) H'
theorem ok__law_step (T : Txt K mg a) : C0 P w K mg base 2 "_law_step" sp_law_step := by
  have c__law_draw := ok__law_draw (P := P) (w := w) (base := base) T; have c__law_power := ok__law_power (P := P) (w := w) (base := base) T
  refine T.d__law_step.c0 sc__law_step (fun vs H Q E h => ?_) (fun f cdv A outer s H vs Q E hr h => ?_)
  · obtain ⟨d, l, b, rfl, _⟩ := h
    rfl
  · obtain ⟨d, l, b, rfl, hb, hD, k⟩ := h
    obtain ⟨b, rfl⟩ := Int.eq_ofNat_of_zero_le (show 0 ≤ b by omega)
    refine ⟨_, (pss_cons (ps_if (pt_cmpR op_eq (pe_0 c__law_draw hr (by decide) (pa_cons (pv 0) (pa_cons pe_int pa_nil))) pe_int (nomark _)) (pss_cons (ps_set (i := 2) sc__law_step.nd rfl (Or.inl rfl) (pe_op op_add pe_int (pe_0 c__law_draw hr (by decide) (pa_cons (pv 0) (pa_cons pe_int pa_nil)))))
      (pss_cons (ps_if (pt_cmpR op_eq (pe_0 c__law_draw hr (by decide) (pa_cons (pv 0) (pa_cons pe_int pa_nil))) pe_int (nomark _)) (pss_cons (ps_set (i := 3) sc__law_step.nd rfl (Or.inl rfl) (pe_op op_add pe_int (pe_0 c__law_draw hr (by decide) (pa_cons (pv 0) (pa_cons pe_int pa_nil)))))
      (pss_cons (ps_set (i := 4) sc__law_step.nd rfl (Or.inl rfl) (pe_lst (pa_cons (pv 3) (pa_cons (pe_un un_neg (pv 3)) (pa_cons (pv 3) (pa_cons (pe_un un_neg (pv 3)) pa_nil))))))
      (pss_one (ps_ret (pe_tup (pa_cons pe_str (pa_cons (pe_tupleOf (by rfl) T.n_tuple (pe_slice sl_list (pv 4) po_none (po_some (pv 2)))) pa_nil))))))) pss_nil)
      (pss_one (ps_ret (pe_tup (pa_cons pe_str (pa_cons (pe_tupleOf (by rfl) T.n_tuple (pe_lc (own := [("_law_k", 5)]) (g := gName 5) rfl sc__law_step.nd (pi_range1 (by rfl) T.n_range (pa_cons (pv 2) pa_nil)) (blkOk_by (N := ["_law_draws", "_law_base", "_law_size", "_law_unit", "_law_row", "_law_k", "_law_x"]) (sc := defScope s__law_step) (by decide +kernel)) (fun _ _ _ _ _ => (pg_name (i := 5) sc__law_step.nd rfl (Or.inl rfl))) (fun _ _ _ _ _ => pts_nil) (fun _ _ _ _ _ => (pe_op op_sub (pe_0 c__law_draw hr (by decide) (pa_cons (pv 0) (pa_cons pe_int pa_nil))) pe_int)))) pa_nil))))))) pss_nil)
      (pss_cons (ps_set (i := 5) sc__law_step.nd rfl (Or.inl rfl) pe_int)
      (C8.pss_cut (ps_while PassesOwn.never (pw_and (pt_cmpR op_le (pe_0 c__law_power hr (by decide) (pa_cons (pv 1) (pa_cons (pe_op op_add (pv 5) pe_int) pa_nil))) pe_int (nomark _)) (pw_and1 (pt_cmpR op_eq (pe_0 c__law_draw hr (by decide) (pa_cons (pv 0) (pa_cons pe_int pa_nil))) pe_int (nomark _)))).pt (pss_one (ps_set (i := 5) sc__law_step.nd rfl (Or.inl rfl) (pe_op op_add (pv 5) pe_int))))
      (pss_cons (ps_set (i := 6) sc__law_step.nd rfl (Or.inl rfl) (pe_op op_sub (pe_0 c__law_draw hr (by decide) (pa_cons (pv 0) (pa_cons pe_int pa_nil))) pe_int))
      (pss_one (ps_ret (pe_tup (pa_cons pe_str (pa_cons (pv 5) (pa_cons (pv 6) (pa_cons (pe_op op_sub (pe_0 c__law_draw hr (by decide) (pa_cons (pv 0) (pa_cons pe_int pa_nil))) pe_int) pa_nil))))))))))), ?_⟩
    refine ⟨_, rfl, d, l, _, rfl, by decide, hD, fun r1 H1 _ _ hD1 b1 => ⟨rfl, _, rfl, ?_⟩⟩
    refine iteB (fun _ => ?_) (fun _ => ?_)
    · refine ⟨_, rfl, d, l, _, rfl, by decide, hD1, fun r2 H2 r20 r21 hD2 b2 => ⟨_, _, rfl, rfl, ?_⟩⟩
      refine ⟨_, rfl, d, l, _, rfl, by decide, hD2, fun r3 H3 _ _ hD3 b3 => ⟨rfl, _, rfl, ?_⟩⟩
      have b03 := (b1.trans b2).trans b3
      refine iteB (fun _ => ?_) (fun _ => ?_)
      · refine ⟨_, rfl, d, l, _, rfl, by decide, hD3, fun r4 H4 r40 r41 hD4 b4 => ⟨_, _, rfl, rfl, ?_⟩⟩
        obtain ⟨n, rfl⟩ := Int.eq_ofNat_of_zero_le r20
        have b04 := b03.trans b4
        refine ⟨_, rfl, _, rfl, _, rfl, _, rfl, _, rfl, _, rfl, (by show 4 ≤ sizeLine; decide), fun q hq => ?_⟩
        refine ⟨_, rfl, _, rfl, _, rfl, q, _, rfl, SqL.of upd_same, fun q2 hq2 => .inl ⟨q2, _, rfl, SqL.of upd_same, fun q3 hq3 => ⟨by show 2 ≤ sizeLine; decide, fun p hp => ?_⟩⟩⟩
        have e4 : (1 + (n : Int)) = ((1 + n : Nat) : Int) := by omega
        refine k p (.weigh (([1 + r4, -(1 + r4), 1 + r4, -(1 + r4)] : List Int).take (1 + n))) _ (b04.free hD4.there ((same_upd (same_upd (same_new hq) hq2) hq3).free hp)) ⟨q3, upd_same, ?_⟩ ⟨?_, ?_, ?_⟩ ⟨?_, ?_⟩
          (hD4.mono (same_upd (same_upd (same_upd (same_new hq) hq2) hq3) hp)) (b04.trans (But.of (same_upd (same_upd (same_upd (same_new hq) hq2) hq3) hp)))
        · rw [kept upd_same hp, e4, cutV_take, List.map_take]; rfl
        · rw [List.length_take]; simp only [List.length_cons, List.length_nil]; omega
        · rw [List.length_take]; simp only [List.length_cons, List.length_nil]; omega
        · intro v m
          have := List.mem_of_mem_take m
          simp only [List.mem_cons, List.not_mem_nil, or_false] at this
          omega
        · rw [List.length_take]; simp only [List.length_cons, List.length_nil]; omega
        · intro v m
          have := List.mem_of_mem_take m
          simp only [List.mem_cons, List.not_mem_nil, or_false] at this
          omega
      · obtain ⟨n, rfl⟩ := Int.eq_ofNat_of_zero_le r20
        refine ⟨_, rfl, _, rfl, by omega, by omega, fun D hD0 => lc_range (fun i H' => ∃ row : List Int, row.length = i ∧ (∀ v ∈ row, -7 ≤ v ∧ v ≤ 7) ∧ H' D = some (.lst (row.map V.int)) ∧ DrawsAt H' d l ∧ But d H3 H')
          ⟨[], rfl, fun _ m => (nomatch m), upd_same, hD3.mono (same_new hD0), But.of (same_new hD0)⟩ ?_ ?_⟩
        · rintro i H' hi ⟨row, hl, hv, hDl, hDr, hB⟩
          refine ⟨rfl, ?_⟩
          unfold tYes
          dsimp only
          rw [if_pos rfl]
          refine ⟨_, rfl, d, l, _, rfl, by decide, hDr, fun r H'' r0 r1 hDr' hB' => ⟨_, _, rfl, rfl, ?_⟩⟩
          have nDd : D ≠ d := fun q => by
            obtain ⟨o, ho⟩ := hD3.there
            rw [q, ho] at hD0
            cases hD0
          have nDl : D ≠ l := fun q => by
            obtain ⟨o, ho⟩ := hD3.there2
            rw [q, ho] at hD0
            cases hD0
          refine ⟨_, hB' D _ nDd hDl, ?_, row ++ [r - 7], ?_, ?_, ?_, hDr'.updO nDd nDl, ?_⟩
          · rw [List.length_map]; exact small6 (by omega)
          · rw [List.length_append, hl]; rfl
          · intro v m
            rcases List.mem_append.mp m with m | m
            · exact hv v m
            · simp only [List.mem_cons, List.not_mem_nil, or_false] at m
              omega
          · rw [upd_same, List.map_append]; rfl
          · intro b' o hb' e
            rw [upd_ne (ne_of_none e hD0)]
            exact hB' _ _ hb' (hB _ _ hb' e)
        · rintro H' ⟨row, hl, hv, hDl, hDr, hB⟩
          refine .inl ⟨D, _, rfl, SqL.of hDl, fun q hq => ⟨by show 2 ≤ sizeLine; decide, fun p hp => ?_⟩⟩
          have b04 := b03.trans hB
          refine k p (.weigh row) _ (b04.free hDr.there ((same_new hq).free hp)) ⟨q, upd_same, kept upd_same hp⟩ ⟨by omega, by omega, fun v m => ?_⟩ ⟨by omega, hv⟩ (hDr.mono (same_upd (same_new hq) hp)) (b04.trans (But.of (same_upd (same_new hq) hp)))
          have := hv v m
          omega
    · refine g_next (g_setC ⟨fun σ H' => ∃ kk : Nat, σ = [some (.ref d), some (.int b), none, none, none, some (.int kk), none] ∧ 1 ≤ kk ∧ b ^ kk ≤ 60 ∧ DrawsAt H' d l ∧ But d H H', ?_, ?_⟩)
      · refine ⟨fun m σ H' => ∃ kk : Nat, m = 6 - kk ∧ σ = [some (.ref d), some (.int b), none, none, none, some (.int kk), none] ∧ 1 ≤ kk ∧ b ^ kk ≤ 60 ∧ DrawsAt H' d l ∧ But d H H', ⟨5, 1, rfl, rfl, Nat.le_refl _, by rw [Nat.pow_one]; omega, hD1, b1⟩, ?_⟩
        rintro m σ H' ⟨kk, rfl, rfl, k1, k60, hDk, hBk⟩
        have k5 := pow60 (by omega) k60
        refine ⟨_, rfl, _, rfl, _, _, rfl, rfl, _, _, rfl, ⟨by omega, by omega⟩, ⟨by omega, by omega⟩, _, _, rfl, rfl, _, rfl, ?_⟩
        have e1 : ((kk : Int) + 1).toNat = kk + 1 := by omega
        rw [e1, Int.toNat_natCast]
        by_cases c : b ^ (kk + 1) ≤ 60
        · refine iteT' (decide_eq_true (by omega)) ⟨_, rfl, d, l, _, rfl, by decide, hDk, fun r H'' r0 r1 hDr hBr => ⟨rfl, _, rfl, ?_⟩⟩
          refine iteB (fun _ => ?_) (fun _ => ⟨kk, rfl, k1, k60, hDr, hBk.trans hBr⟩)
          exact ⟨_, fun _ _ h => h, _, rfl, _, _, rfl, rfl, 6 - (kk + 1), by omega, kk + 1, rfl, rfl, by omega, c, hDr, hBk.trans hBr⟩
        · refine iteF' (decide_eq_false (by omega)) ?_
          exact iteF ⟨kk, rfl, k1, k60, hDk, hBk⟩
      · rintro σ H' ⟨kk, rfl, k1, k60, hDk, hBk⟩
        have k5 := pow60 (by omega) k60
        refine ⟨_, rfl, d, l, _, rfl, by decide, hDk, fun rx H2 x0 x1 hD2 b2 => ⟨_, _, rfl, rfl, _, rfl, _, rfl, _, rfl, d, l, _, rfl, by decide, hD2, fun ry H3 y0 y1 hD3 b3 => ⟨_, _, rfl, rfl, by show 4 ≤ sizeLine; decide, fun p hp => ?_⟩⟩⟩
        have b03 := (hBk.trans b2).trans b3
        exact k p (.fold kk (rx - 6) (ry - 12)) _ (b03.free hD3.there hp) upd_same ⟨k1, k5, k60, by omega, by omega⟩ ⟨by omega, by omega⟩ (hD3.mono (same_new hp)) (b03.trans (But.of (same_new hp)))
end

end Fold
namespace Fold
open PySem PySem.Spec PyProof.Rows L2
/-! ### the plain law of kept moduli -/
theorem bezout : ∀ a b : Nat, ∃ u v : Int, u * a + v * b = (Nat.gcd a b : Nat) := by
  intro a b
  induction a, b using Nat.gcd.induction with
  | H0 n => exact ⟨0, 1, by rw [Nat.gcd_zero_left]; omega⟩
  | H1 m n h ih =>
    obtain ⟨u, v, e⟩ := ih
    refine ⟨v - u * (n / m : Nat), u, ?_⟩
    rw [Nat.gcd_rec, ← e]
    have h2 : (n : Int) = (m : Int) * ((n / m : Nat) : Int) + ((n % m : Nat) : Int) := by
      have := Nat.div_add_mod n m
      exact_mod_cast this.symm
    generalize ((n / m : Nat) : Int) = c at *
    generalize ((n % m : Nat) : Int) = d at *
    rw [h2]
    grind
theorem gcd_natAbs {y : Int} {m : Nat} : Int.gcd y m = Nat.gcd y.natAbs m := rfl
theorem cop_dvd {m : Nat} {y n : Int} (h : Int.gcd y m = 1) (d : (m : Int) ∣ y * n) : (m : Int) ∣ n := by
  rw [Int.ofNat_dvd_left] at d ⊢
  rw [Int.natAbs_mul] at d
  refine Nat.Coprime.dvd_of_dvd_mul_left (k := m) (m := y.natAbs) ?_ d
  rw [Nat.coprime_iff_gcd_eq_one, Nat.gcd_comm]
  exact h
theorem cop_of {m : Nat} {y : Int} (hm : 1 ≤ m) (h : ∀ r : Nat, r < m → (m : Int) ∣ y * r → r = 0) : Int.gcd y m = 1 := by
  rw [gcd_natAbs]
  obtain ⟨c, ec⟩ := Nat.gcd_dvd_right y.natAbs m
  obtain ⟨e, ee⟩ : ((Nat.gcd y.natAbs m : Nat) : Int) ∣ y := Int.ofNat_dvd_left.mpr (Nat.gcd_dvd_left y.natAbs m)
  have hg : 0 < Nat.gcd y.natAbs m := Nat.gcd_pos_of_pos_right _ hm
  generalize Nat.gcd y.natAbs m = g at *
  refine Decidable.byContradiction fun ne => ?_
  have c1 : 0 < c := by
    rcases Nat.eq_zero_or_pos c with z | z
    · rw [z, Nat.mul_zero] at ec; omega
    · exact z
  have c2 : c < m := by
    rw [ec]
    have := Nat.mul_le_mul_right c (show 2 ≤ g by omega)
    omega
  have := h c c2 ⟨e, by rw [ee, ec]; simp only [Int.natCast_mul]; grind⟩
  omega
/-- the law's own account of a fold -/
def FoldOk (b k : Nat) (x y : Int) (m : Nat) : Prop := ∀ q : Nat, q < m → ∀ r : Nat, r < b ^ k → (((q : Int) * ((b ^ k : Nat) : Int) + r) % m = 0 ↔ (x * q + y * r) % m = 0)
theorem fold_all {P m : Nat} {x y : Int} (hP : 2 ≤ P) (hm : 1 ≤ m) (F : ∀ q : Nat, q < m → ∀ r : Nat, r < P → (((q : Int) * (P : Int) + r) % m = 0 ↔ (x * q + y * r) % m = 0)) (q r : Nat) (hr : r < P) :
    ((m : Int) ∣ (q : Int) * P + r ↔ (m : Int) ∣ x * q + y * r) := by
  have f := F (q % m) (Nat.mod_lt _ hm) r hr
  rw [← Int.dvd_iff_emod_eq_zero, ← Int.dvd_iff_emod_eq_zero] at f
  have e : (q : Int) = (m : Int) * ((q / m : Nat) : Int) + ((q % m : Nat) : Int) := by
    have := Nat.div_add_mod q m
    exact_mod_cast this.symm
  generalize ((q / m : Nat) : Int) = c at *
  generalize ((q % m : Nat) : Int) = d at *
  rw [e]
  rw [show ((m : Int) * c + d) * P + r = (m : Int) * (c * P) + (d * P + r) by grind, show x * ((m : Int) * c + d) + y * r = (m : Int) * (x * c) + (x * d + y * r) by grind, Int.dvd_add_right (Int.dvd_mul_right _ _), Int.dvd_add_right (Int.dvd_mul_right _ _)]
  exact f
theorem small_dvd {P r : Nat} (h : (P : Int) ∣ (r : Int)) (hr : r < P) : r = 0 := by
  have h' : P ∣ r := Int.ofNat_dvd.mp h
  rcases Nat.eq_zero_or_pos r with z | z
  · exact z
  · have := Nat.le_of_dvd z h'
    omega
theorem cancelP {P : Nat} (hP : 2 ≤ P) {a b : Int} (h : (P : Int) * a = (P : Int) * b) : a = b := Int.eq_of_mul_eq_mul_left (by omega) h
theorem fold_back {P m : Nat} {x y : Int} (hP : 2 ≤ P) (h : ((m : Int) ∣ x - y * P ∧ Int.gcd y m = 1) ∨ ∃ (x' : Int) (m' : Nat), x = (P : Int) * x' ∧ m = P * m' ∧ Int.gcd y P = 1 ∧ Int.gcd x' m' = 1) (q r : Nat) (hr : r < P) :
    ((m : Int) ∣ (q : Int) * P + r ↔ (m : Int) ∣ x * q + y * r) := by
  rcases h with ⟨⟨D, eD⟩, hg⟩ | ⟨x', m', rfl, rfl, hy, hx⟩
  · rw [show x * (q : Int) + y * r = (m : Int) * (D * q) + y * ((q : Int) * P + r) by grind, Int.dvd_add_right (Int.dvd_mul_right _ _)]
    exact ⟨fun h => Int.dvd_trans h (Int.dvd_mul_left _ _), cop_dvd hg⟩
  · rw [Int.natCast_mul]
    constructor
    · rintro ⟨c, e⟩
      have h0 := small_dvd (P := P) (r := r) ⟨m' * c - q, by grind⟩ hr
      subst h0
      have e2 : (q : Int) = m' * c := cancelP hP (by grind)
      exact ⟨x' * c, by rw [e2]; grind⟩
    · rintro ⟨c, e⟩
      have h0 := small_dvd (P := P) (r := r) (cop_dvd hy ⟨m' * c - x' * q, by grind⟩) hr
      subst h0
      have e2 : x' * (q : Int) = m' * c := cancelP hP (by grind)
      obtain ⟨d, ed⟩ := cop_dvd hx ⟨c, e2⟩
      exact ⟨d, by rw [ed]; grind⟩
theorem fold_fwd {P m : Nat} {x y : Int} (hP : 2 ≤ P) (hm : 1 ≤ m) (A : ∀ q r : Nat, r < P → ((m : Int) ∣ (q : Int) * P + r ↔ (m : Int) ∣ x * q + y * r)) :
    ((m : Int) ∣ x - y * P ∧ Int.gcd y m = 1) ∨ ∃ (x' : Int) (m' : Nat), x = (P : Int) * x' ∧ m = P * m' ∧ Int.gcd y P = 1 ∧ Int.gcd x' m' = 1 := by
  by_cases hd : P ∣ m
  · right
    obtain ⟨m', rfl⟩ := hd
    have hm' : 0 < m' := by
      rcases Nat.eq_zero_or_pos m' with z | z
      · rw [z, Nat.mul_zero] at hm; omega
      · exact z
    have A0 : ∀ q : Nat, ((P * m' : Nat) : Int) ∣ (q : Int) * P ↔ ((P * m' : Nat) : Int) ∣ x * q := fun q => by
      have := A q 0 (by omega)
      simpa using this
    obtain ⟨c, ec⟩ := (A0 m').mp ⟨1, by rw [Int.natCast_mul]; grind⟩
    have hx : x = (P : Int) * c := by
      refine Int.eq_of_mul_eq_mul_left (show (m' : Int) ≠ 0 by omega) ?_
      rw [Int.natCast_mul] at ec
      grind
    subst hx
    have gx : Int.gcd c m' = 1 := cop_of hm' fun r hr ⟨e, ee⟩ => by
      obtain ⟨z, ez⟩ := (A0 r).mpr ⟨e, by rw [Int.natCast_mul]; grind⟩
      rw [Int.natCast_mul] at ez
      refine small_dvd (P := m') ⟨z, cancelP hP (by grind)⟩ hr
    refine ⟨c, m', rfl, rfl, cop_of (by omega) fun r hr ⟨z, ez⟩ => ?_, gx⟩
    obtain ⟨U, v, eU⟩ : ∃ U v : Int, U * c + v * m' = 1 := by
      obtain ⟨u, v, e⟩ := bezout c.natAbs m'
      rw [← gcd_natAbs, gx] at e
      rcases Int.natAbs_eq c with h | h
      · exact ⟨u, v, by rw [h]; exact e⟩
      · exact ⟨-u, v, by rw [h]; grind⟩
    have h0 : 0 ≤ (-(z * U)) % (m' : Int) := Int.emod_nonneg _ (by omega)
    have eq : (((-(z * U)) % (m' : Int)).toNat : Int) = -(z * U) - m' * ((-(z * U)) / m') := by
      rw [Int.toNat_of_nonneg h0, Int.emod_def]
    have hq := A ((-(z * U)) % (m' : Int)).toNat r hr
    rw [eq] at hq
    generalize (-(z * U)) / (m' : Int) = t at hq
    obtain ⟨w', ew⟩ := hq.mpr ⟨z * v - c * t, by rw [Int.natCast_mul]; grind⟩
    rw [Int.natCast_mul] at ew
    exact small_dvd (P := P) ⟨m' * w' - (-(z * U) - m' * t), by grind⟩ hr
  · left
    have r0 : 0 < m % P := by
      rcases Nat.eq_zero_or_pos (m % P) with z | z
      · exact absurd (Nat.dvd_of_mod_eq_zero z) hd
      · exact z
    have rP : m % P < P := Nat.mod_lt _ (by omega)
    have em : m = P * (m / P) + m % P := (Nat.div_add_mod m P).symm
    obtain ⟨c1, e1⟩ := (A (m / P) (m % P) rP).mp ⟨1, by
      have : (m : Int) = (P : Int) * ((m / P : Nat) : Int) + ((m % P : Nat) : Int) := by exact_mod_cast em
      grind⟩
    obtain ⟨j, j1, j2⟩ : ∃ j : Nat, P ≤ j * (m % P) ∧ j * (m % P) < P + m % P := by
      refine ⟨(P - 1) / (m % P) + 1, ?_, ?_⟩
      · have := Nat.div_add_mod (P - 1) (m % P)
        have := Nat.mod_lt (P - 1) r0
        rw [Nat.add_mul, Nat.one_mul, Nat.mul_comm]
        omega
      · have := Nat.div_mul_le_self (P - 1) (m % P)
        rw [Nat.add_mul, Nat.one_mul]
        omega
    obtain ⟨s, es⟩ := Nat.exists_eq_add_of_le j1
    obtain ⟨c2, e2⟩ := (A (j * (m / P) + 1) s (by omega)).mp ⟨j, by
      have h1 : (m : Int) = (P : Int) * ((m / P : Nat) : Int) + ((m % P : Nat) : Int) := by exact_mod_cast em
      have h2 : (j : Int) * ((m % P : Nat) : Int) = P + s := by exact_mod_cast es
      simp only [Int.natCast_add, Int.natCast_mul, Int.natCast_one]
      generalize ((m / P : Nat) : Int) = a at *
      generalize ((m % P : Nat) : Int) = b at *
      rw [h1]
      grind⟩
    have h1 : (m : Int) = (P : Int) * ((m / P : Nat) : Int) + ((m % P : Nat) : Int) := by exact_mod_cast em
    have h2 : (j : Int) * ((m % P : Nat) : Int) = P + s := by exact_mod_cast es
    simp only [Int.natCast_add, Int.natCast_mul, Int.natCast_one] at e2
    generalize ((m / P : Nat) : Int) = a at *
    generalize ((m % P : Nat) : Int) = b at *
    have hD : (m : Int) ∣ x - y * P := ⟨c2 - j * c1, by grind⟩
    refine ⟨hD, cop_of hm fun r hr h => ?_⟩
    have h3 : (r : Int) = (P : Int) * ((r / P : Nat) : Int) + ((r % P : Nat) : Int) := by
      have := (Nat.div_add_mod r P).symm
      exact_mod_cast this
    have h4 := A (r / P) (r % P) (Nat.mod_lt _ (by omega))
    obtain ⟨d1, ed1⟩ := hD
    obtain ⟨d2, ed2⟩ := h
    refine small_dvd (P := m) (r := r) ?_ hr
    rw [h3, Int.mul_comm]
    refine h4.mpr ⟨d1 * ((r / P : Nat) : Int) + d2, ?_⟩
    generalize ((r / P : Nat) : Int) = u at *
    generalize ((r % P : Nat) : Int) = w at *
    grind
theorem fold_thm {b k m : Nat} {x y : Int} (hb : 2 ≤ b) (hk : 1 ≤ k) (hm : 1 ≤ m) : FoldOk b k x y m ↔ inS b (.fold k x y) m = true := by
  have hP : 2 ≤ b ^ k := by
    have h1 : b ^ 1 ≤ b ^ k := Nat.pow_le_pow_right (by omega) hk
    rw [Nat.pow_one] at h1
    omega
  have key : FoldOk b k x y m ↔ (((m : Int) ∣ x - y * ((b ^ k : Nat) : Int) ∧ Int.gcd y m = 1) ∨ ∃ (x' : Int) (m' : Nat), x = ((b ^ k : Nat) : Int) * x' ∧ m = b ^ k * m' ∧ Int.gcd y ((b ^ k : Nat) : Int) = 1 ∧ Int.gcd x' m' = 1) := by
    constructor
    · exact fun F => fold_fwd hP hm (fold_all hP hm F)
    · intro h q _ r hr
      have := fold_back hP h q r hr
      rw [Int.dvd_iff_emod_eq_zero, Int.dvd_iff_emod_eq_zero] at this
      exact this
  rw [key, inS, inK_iff]
  have e1 : (m : Int) ∣ x - y * ((b ^ k : Nat) : Int) ↔ kN b (.fold k x y) % m = 0 := by
    rw [Int.ofNat_dvd_left]
    exact Nat.dvd_iff_mod_eq_zero
  have e2 : Int.gcd y m = Nat.gcd (kU (.fold k x y)) m := rfl
  rw [e1, e2]
  refine or_congr Iff.rfl ?_
  generalize hQ : b ^ k = P at *
  constructor
  · rintro ⟨x', m', rfl, rfl, hy, hx⟩
    have eo : foldOdd P ((P : Int) * x') y = true := by
      rw [foldOdd, decide_eq_true (by rw [Int.mul_emod_right]), decide_eq_true hy]; rfl
    have ep : kP b (.fold k ((P : Int) * x') y) = P := by simp only [kP, hQ, eo, if_true]
    have eq : kQ b (.fold k ((P : Int) * x') y) = x'.natAbs := by
      simp only [kQ, hQ, eo, if_true, Int.natAbs_mul, Int.natAbs_natCast]
      exact Nat.mul_div_cancel_left _ (by omega)
    rw [ep, eq]
    exact ⟨by omega, Nat.mul_mod_right _ _, by rw [Nat.mul_div_cancel_left _ (by omega)]; exact hx⟩
  · rintro ⟨h1, h2, h3⟩
    by_cases eo : foldOdd P x y = true
    · have ep : kP b (.fold k x y) = P := by simp only [kP, hQ, eo, if_true]
      have eq : kQ b (.fold k x y) = x.natAbs / P := by simp only [kQ, hQ, eo, if_true]
      rw [ep] at h1 h2 h3
      rw [eq] at h3
      rw [foldOdd, Bool.and_eq_true, decide_eq_true_eq, decide_eq_true_eq] at eo
      obtain ⟨x', rfl⟩ := Int.dvd_of_emod_eq_zero eo.1
      obtain ⟨m', rfl⟩ := Nat.dvd_of_mod_eq_zero h2
      refine ⟨x', m', rfl, rfl, eo.2, ?_⟩
      rw [Int.natAbs_mul, Int.natAbs_natCast, Nat.mul_div_cancel_left _ (by omega), Nat.mul_div_cancel_left _ (by omega)] at h3
      exact h3
    · have ep : kP b (.fold k x y) = 0 := by simp only [kP, hQ, if_neg eo]
      rw [ep] at h1
      omega

end Fold
namespace Fold
open PySem PySem.Spec PyProof.Rows L2
section
variable {P : Program} {w : World} {K : PySem.W.Frag} {mg : Str → Option Value} {base : Heap} {a : Ad}
theorem ok__law_common (T : Txt K mg a) : C0 P w K mg base 1 "_law_common" sp_common := by
  refine T.d__law_common.c0 sc__law_common (fun vs H Q E h => ?_) (fun f cdv A outer s H vs Q E hr h => ?_)
  · obtain ⟨i, j, rfl, _⟩ := h
    rfl
  · obtain ⟨i, j, rfl, k⟩ := h
    refine ⟨_, (pss_cons (ps_while PassesOwn.never (pt_cmpR op_ne (pv 1) pe_int (nomark _)) (pss_cons (ps_set (i := 2) sc__law_common.nd rfl (Or.inl rfl) (pe_op op_modN (pv 0) (pv 1)))
      (pss_cons (ps_set (i := 0) sc__law_common.nd rfl (Or.inl rfl) (pv 1))
      (pss_one (ps_set (i := 1) sc__law_common.nd rfl (Or.inl rfl) (pv 2))))))
      (pss_one (ps_ret (pe_callB call_abs (by rfl) T.n_abs b_abs (pa_cons (pv 0) pa_nil))))), ?_⟩
    refine g_seq ?_
    refine ⟨fun m σ H' => H' = H ∧ ∃ (x y : Int) (r : Option V), m = y.natAbs ∧ σ = [some (.int x), some (.int y), r] ∧ Int.gcd x y = Int.gcd i j, ⟨j.natAbs, rfl, i, j, none, rfl, rfl, rfl⟩, ?_⟩
    rintro m σ H' ⟨rfl, x, y, r, rfl, rfl, e⟩
    refine ⟨_, rfl, rfl, _, rfl, ?_⟩
    rw [dec_int]
    by_cases c : y = 0
    · subst c
      refine iteF' rfl ⟨_, rfl, _, rfl, q_eq k ?_⟩
      rw [abs_nat, ← e, Int.gcd_zero]
    · refine iteT' (by simpa using c) ⟨_, fun _ _ h => h, _, rfl, _, rfl, _, _, rfl, rfl, c, _, rfl, _, rfl, ?_⟩
      exact ⟨(x.fmod y).natAbs, fmod_less c, rfl, y, x.fmod y, some (.int (x.fmod y)), rfl, rfl, by rw [gcd_step, e]⟩
def sp_law_fold_keeps : Sp := fun vs H Q _ => ∃ (b : Nat) (p : Addr) (k : Nat) (x y : Int) (m : Nat), vs = [.int b, .ref p, .int m] ∧ (2 ≤ b ∧ b ≤ 12) ∧ H p = some (.tup [.str "fold", .int k, .int x, .int y]) ∧ OkS b (.fold k x y) ∧ 1 ≤ m ∧ m < 1000 ∧
  (FoldOk b k x y m → Q (.bl true) H) ∧ (¬ FoldOk b k x y m → Q (.bl false) H)
theorem ok__law_fold_keeps (T : Txt K mg a) : C0 P w K mg base 2 "_law_fold_keeps" sp_law_fold_keeps := by
  have c__law_power := ok__law_power (P := P) (w := w) (base := base) T
  refine T.d__law_fold_keeps.c0 sc__law_fold_keeps (fun vs H Q E h => ?_) (fun f cdv A outer s H vs Q E hr h => ?_)
  · obtain ⟨b, p, k, x, y, m, rfl, _⟩ := h
    rfl
  · obtain ⟨b, p, k, x, y, m, rfl, hb, hs, ⟨o1, o2, o3, o4, o5⟩, m1, m2, kT, kF⟩ := h
    refine ⟨_, (pss_cons (ps_set (i := 3) sc__law_fold_keeps.nd rfl (Or.inl rfl) (pe_0 c__law_power hr (by decide) (pa_cons (pv 0) (pa_cons (pe_ix ix_tup (pv 1) pe_int (fun _ _ => rfl)) pa_nil))))
      (pss_cons (ps_for PassesOwn.never rfl (pi_range1 (by rfl) T.n_range (pa_cons (pv 2) pa_nil)) (pg_name (i := 4) sc__law_fold_keeps.nd rfl (Or.inl rfl)) (pss_one (ps_for PassesOwn.never rfl (pi_range1 (by rfl) T.n_range (pa_cons (pv 3) pa_nil)) (pg_name (i := 5) sc__law_fold_keeps.nd rfl (Or.inl rfl)) (pss_cons (ps_set (i := 6) sc__law_fold_keeps.nd rfl (Or.inl rfl) (pe_cmpR op_eq (pe_op op_mod (pe_op op_add (pe_op op_mul (pv 4) (pv 3)) (pv 5)) (pv 2)) pe_int (nomark _)))
      (pss_one (ps_if (pt_cmpR op_ne (pv 6) (pe_cmpR op_eq (pe_op op_mod (pe_op op_add (pe_op op_mul (pe_ix ix_tup (pv 1) pe_int (fun _ _ => rfl)) (pv 4)) (pe_op op_mul (pe_ix ix_tup (pv 1) pe_int (fun _ _ => rfl)) (pv 5))) (pv 2)) pe_int (nomark _)) (nomark _)) (pss_one (ps_ret pe_bl)) pss_nil))))))
      (pss_one (ps_ret pe_bl)))), ?_⟩
    have hP : 0 < b ^ k := Nat.pow_pos (by omega)
    have mi : (0 : Int) < (m : Int) := by omega
    refine ⟨_, rfl, _, rfl, _, _, _, _, rfl, rfl, SqT.of hs, rfl, _, _, rfl, ⟨by omega, by omega⟩, ⟨by omega, by omega⟩, ?_⟩
    simp only [Int.toNat_natCast]
    refine ⟨_, rfl, _, rfl, by omega, by omega, for_range (fun i σ H' => H' = H ∧ (∃ v4 v5 v6, σ = [some (.int b), some (.ref p), some (.int m), some (.int ((b ^ k : Nat) : Int)), v4, v5, v6]) ∧ ∀ q : Nat, q < i → ∀ r : Nat, r < b ^ k → (((q : Int) * ((b ^ k : Nat) : Int) + r) % m = 0 ↔ (x * q + y * r) % m = 0)) ⟨rfl, ⟨_, _, _, rfl⟩, fun q h => by omega⟩ ?_ ?_⟩
    · rintro q σ H' hq ⟨rfl, ⟨v4, v5, v6, rfl⟩, hd⟩
      have hq' : q < m := by omega
      refine ⟨_, rfl, _, rfl, by omega, by omega, for_range (fun j σ H2 => H2 = H' ∧ (∃ (q2 : Int) (v5 v6 : Option V), q2 = q ∧ σ = [some (.int b), some (.ref p), some (.int m), some (.int ((b ^ k : Nat) : Int)), some (.int q2), v5, v6]) ∧ ∀ r : Nat, r < j → (((q : Int) * ((b ^ k : Nat) : Int) + r) % m = 0 ↔ (x * q + y * r) % m = 0)) ⟨rfl, ⟨_, v5, v6, ?_, rfl⟩, fun q h => by omega⟩ ?_ ?_⟩
      · omega
      · rintro r σ H2 hr2 ⟨rfl, ⟨_, v5, v6, rfl, rfl⟩, hd2⟩
        refine ⟨_, rfl, _, rfl, _, _, rfl, rfl, .inr ⟨by omega, by omega⟩, _, rfl, _, _, rfl, rfl, _, rfl, _, _, rfl, rfl, mi, rfl, ?_⟩
        refine ⟨_, rfl, _, rfl, _, _, _, _, rfl, rfl, SqT.of hs, rfl, _, rfl, _, _, rfl, rfl, .inl ⟨by omega, by omega⟩, _, rfl, _, _, _, _, rfl, rfl, SqT.of hs, rfl, _, rfl, _, _, rfl, rfl, .inl ⟨by omega, by omega⟩, _, _, rfl, rfl, _, rfl, _, _, rfl, rfl, mi, rfl, rfl, _, rfl, ?_⟩
        simp only [dec_int, Int.zero_add]
        by_cases c : (((q : Int) * ((b ^ k : Nat) : Int) + r) % m = 0 ↔ (x * q + y * r) % m = 0)
        · refine iteF' ?_ ?_
          · rw [Bool.not_eq_false', decide_eq_true_eq]
            congr 1
            exact decide_eq_decide.mpr c
          · refine ⟨rfl, ⟨_, _, _, rfl, rfl⟩, fun r' h' => ?_⟩
            by_cases e : r' = r
            · rw [e]; exact c
            · exact hd2 r' (by omega)
        · refine iteT' ?_ ?_
          · rw [Bool.not_eq_true', decide_eq_false_iff_not]
            intro e
            injection e with e
            exact c (decide_eq_decide.mp e)
          · exact kF fun z => c (z q hq' r (by omega))
      · rintro σ H2 ⟨rfl, ⟨_, v5, v6, rfl, rfl⟩, hd2⟩
        refine ⟨rfl, ⟨_, _, _, rfl⟩, fun q' h' r h2 => ?_⟩
        by_cases e : q' = q
        · rw [e]; exact hd2 r (by omega)
        · exact hd q' (by omega) r h2
    · rintro σ H2 ⟨rfl, _, hd⟩
      exact kT fun q hq r hr2 => hd q (by omega) r hr2
end

end Fold
namespace Fold
open PySem PySem.Spec PyProof.Rows L2
/-! ### the search of the law, in plain Lean -/
theorem nodup_bound : ∀ (N : Nat) (l : List Nat), l.Nodup → (∀ x ∈ l, x < N) → l.length ≤ N
  | 0, l, _, h => by
    cases l with
    | nil => exact Nat.le_refl _
    | cons x r => exact absurd (h x (by simp)) (Nat.not_lt_zero _)
  | N + 1, l, d, h => by
    have d' := d.erase N
    have h' : ∀ x ∈ l.erase N, x < N := fun x m => by
      obtain ⟨h1, h2⟩ := d.mem_erase_iff.mp m
      have := h x h2
      omega
    have ih := nodup_bound N (l.erase N) d' h'
    by_cases m : N ∈ l
    · rw [List.length_erase_of_mem m] at ih
      omega
    · rw [List.erase_of_not_mem m] at ih
      omega
structure Q4 where
  n : Int
  s : Int
  v : Int
  j : Nat
deriving DecidableEq
def keyQ (z : Q4) : List Key := [.inl z.n, .inl z.s, .inl z.v, .inl (z.j : Int)]
def valsQ (z : Q4) : List V := [.int z.n, .int z.s, .int z.v, .int (z.j : Int)]
theorem keyQ_vals (z : Q4) : (keyQ z).map kV = valsQ z := rfl
theorem keyQ_inj {y z : Q4} (h : keyQ y = keyQ z) : y = z := by
  obtain ⟨a, b, c, d⟩ := y
  obtain ⟨a', b', c', d'⟩ := z
  simp only [keyQ, List.cons.injEq, Sum.inl.injEq, and_true] at h
  obtain ⟨rfl, rfl, rfl, h4⟩ := h
  rw [Int.ofNat_inj.mp h4]
def nxQ (b m : Nat) (row : List Int) (z : Q4) (f : Nat) : Q4 := ⟨(z.n + f * z.v) % m, (z.s + f * row.getD z.j 0) % m, z.v * b % m, (z.j + 1) % row.length⟩
inductive Rch (b m : Nat) (row : List Int) : Q4 → Prop
  | start : Rch b m row ⟨0, 0, 1 % (m : Int), 0⟩
  | next {z : Q4} {f : Nat} : Rch b m row z → f < b → Rch b m row (nxQ b m row z f)
def goodQ (z : Q4) : Prop := z.n = 0 ↔ z.s = 0
def boxQ (m t : Nat) (z : Q4) : Prop := (0 ≤ z.n ∧ z.n < m) ∧ (0 ≤ z.s ∧ z.s < m) ∧ (0 ≤ z.v ∧ z.v < m) ∧ z.j < t
theorem box_nx {b m : Nat} {row : List Int} {z : Q4} {f : Nat} (hm : 1 ≤ m) (hl : 1 ≤ row.length) : boxQ m row.length (nxQ b m row z f) := by
  have mi : (0 : Int) < (m : Int) := by omega
  exact ⟨⟨Int.emod_nonneg _ (by omega), Int.emod_lt_of_pos _ mi⟩, ⟨Int.emod_nonneg _ (by omega), Int.emod_lt_of_pos _ mi⟩, ⟨Int.emod_nonneg _ (by omega), Int.emod_lt_of_pos _ mi⟩, Nat.mod_lt _ hl⟩
theorem box_start {m t : Nat} (hm : 1 ≤ m) (hl : 1 ≤ t) : boxQ m t ⟨0, 0, 1 % (m : Int), 0⟩ := by
  have mi : (0 : Int) < (m : Int) := by omega
  exact ⟨⟨Int.le_refl _, mi⟩, ⟨Int.le_refl _, mi⟩, ⟨Int.emod_nonneg _ (by omega), Int.emod_lt_of_pos _ mi⟩, hl⟩
def codeQ (m t : Nat) (z : Q4) : Nat := ((z.n.toNat * m + z.s.toNat) * m + z.v.toNat) * t + z.j
theorem two_inj {a b c d N : Nat} (hb : b < N) (hd : d < N) (h : a * N + b = c * N + d) : a = c ∧ b = d := by
  have h1 : (a * N + b) / N = a := by rw [Nat.mul_comm, Nat.mul_add_div (by omega), Nat.div_eq_of_lt hb, Nat.add_zero]
  have h2 : (c * N + d) / N = c := by rw [Nat.mul_comm, Nat.mul_add_div (by omega), Nat.div_eq_of_lt hd, Nat.add_zero]
  have e : a = c := by rw [← h1, ← h2, h]
  subst e
  exact ⟨rfl, by omega⟩
theorem code_inj {m t : Nat} {y z : Q4} (hy : boxQ m t y) (hz : boxQ m t z) (h : codeQ m t y = codeQ m t z) : y = z := by
  obtain ⟨a, b, c, d⟩ := y
  obtain ⟨a', b', c', d'⟩ := z
  obtain ⟨⟨y1, y2⟩, ⟨y3, y4⟩, ⟨y5, y6⟩, y7⟩ := hy
  obtain ⟨⟨z1, z2⟩, ⟨z3, z4⟩, ⟨z5, z6⟩, z7⟩ := hz
  obtain ⟨h, e4⟩ := two_inj y7 z7 h
  obtain ⟨h, e3⟩ := two_inj (by omega) (by omega) h
  obtain ⟨e1, e2⟩ := two_inj (by omega) (by omega) h
  simp only at e1 e2 e3 e4 y1 y3 y5 z1 z3 z5
  rw [show a = a' by omega, show b = b' by omega, show c = c' by omega, e4]
theorem code_lt {m t : Nat} {z : Q4} (hz : boxQ m t z) : codeQ m t z < m * m * m * t := by
  obtain ⟨⟨z1, z2⟩, ⟨z3, z4⟩, ⟨z5, z6⟩, z7⟩ := hz
  have h1 : z.n.toNat + 1 ≤ m := by omega
  have h2 : z.s.toNat + 1 ≤ m := by omega
  have h3 : z.v.toNat + 1 ≤ m := by omega
  have a1 : z.n.toNat * m + z.s.toNat + 1 ≤ m * m := by
    have := Nat.mul_le_mul_right m h1
    rw [Nat.add_mul] at this
    omega
  have a2 : (z.n.toNat * m + z.s.toNat) * m + z.v.toNat + 1 ≤ m * m * m := by
    have := Nat.mul_le_mul_right m a1
    rw [Nat.add_mul] at this
    omega
  have := Nat.mul_le_mul_right t a2
  rw [Nat.add_mul] at this
  unfold codeQ
  omega
theorem box_bound {m t : Nat} {l : List Q4} (d : l.Nodup) (h : ∀ z ∈ l, boxQ m t z) : l.length ≤ m * m * m * t := by
  rw [← List.length_map (f := codeQ m t)]
  refine nodup_bound _ _ ?_ fun x m' => ?_
  · induction l with
    | nil => exact List.nodup_nil
    | cons x r ih =>
      rw [List.nodup_cons] at d
      rw [List.map_cons, List.nodup_cons]
      refine ⟨fun c => ?_, ih d.2 fun z mz => h z (List.mem_cons_of_mem _ mz)⟩
      obtain ⟨y, my, e⟩ := List.mem_map.mp c
      rw [code_inj (h y (List.mem_cons_of_mem _ my)) (h x List.mem_cons_self) e] at my
      exact d.1 my
  · obtain ⟨z, mz, rfl⟩ := List.mem_map.mp m'
    exact code_lt (h z mz)
def seenD (ss : List Q4) : List (List Key × V) := ss.map fun z => (keyQ z, V.bl true)
theorem seen_val (z : Q4) : ∀ ss : List Q4, valV (seenD ss) (keyQ z) = if z ∈ ss then some (V.bl true) else none
  | [] => rfl
  | y :: r => by
    show valV ((keyQ y, V.bl true) :: seenD r) (keyQ z) = _
    by_cases e : y = z
    · subst e
      rw [valV_pos rfl, if_pos List.mem_cons_self]
    · rw [valV_neg (fun h => e (keyQ_inj h)), seen_val z r]
      by_cases c : z ∈ r
      · rw [if_pos c, if_pos (List.mem_cons_of_mem _ c)]
      · rw [if_neg c, if_neg]
        intro h
        rcases List.mem_cons.mp h with h | h
        · exact e h.symm
        · exact c h
theorem seen_put {z : Q4} {ss : List Q4} (h : z ∉ ss) : putK (seenD ss) (keyQ z) (V.bl true) = seenD (ss ++ [z]) := by
  rw [putK_new _ (by rw [seen_val, if_neg h]), seenD, seenD, List.map_append]; rfl
/-! ### the plain law of a weighing -/
theorem wnum_dvd {b m : Nat} {row : List Int} : ∀ i, m ∣ wnum b row i ↔ m ∣ b ^ row.length - 1 ∧ ∀ j, j < i → (m : Int) ∣ row.getD j 0 - row.getD 0 0 * ((b ^ j : Nat) : Int)
  | 0 => ⟨fun h => ⟨h, fun j hj => absurd hj (Nat.not_lt_zero _)⟩, fun h => h.1⟩
  | i + 1 => by
    show m ∣ Nat.gcd (wnum b row i) (row.getD i 0 - row.getD 0 0 * ((b ^ i : Nat) : Int)).natAbs ↔ _
    rw [Nat.dvd_gcd_iff, wnum_dvd i, ← Int.ofNat_dvd_left]
    constructor
    · rintro ⟨⟨h1, h2⟩, h3⟩
      refine ⟨h1, fun j hj => ?_⟩
      by_cases e : j = i
      · rw [e]; exact h3
      · exact h2 j (by omega)
    · rintro ⟨h1, h2⟩
      exact ⟨⟨h1, fun j hj => h2 j (by omega)⟩, h2 i (by omega)⟩
theorem pow_again (b m t : Nat) (hm : 1 ≤ m) (ht : 1 ≤ t) : ∃ p, 1 ≤ p ∧ t ∣ p ∧ b ^ (p + p) % m = b ^ p % m := by
  have hx : ∃ i j : Nat, i < j ∧ b ^ (t * i) % m = b ^ (t * j) % m := by
    refine Classical.byContradiction fun no => ?_
    have nd : ((List.range (m + 1)).map fun k => b ^ (t * k) % m).Nodup := by
      rw [List.Nodup, List.pairwise_map]
      exact List.pairwise_lt_range.imp fun {i j} h e => no ⟨i, j, h, e⟩
    have := nodup_bound m _ nd fun x hx => by
      obtain ⟨k, _, rfl⟩ := List.mem_map.mp hx
      exact Nat.mod_lt _ hm
    rw [List.length_map, List.length_range] at this
    omega
  obtain ⟨i, j, hij, e⟩ := hx
  obtain ⟨d, rfl⟩ : ∃ d, j = i + 1 + d := ⟨j - (i + 1), by omega⟩
  have step : ∀ a, t * i ≤ a → b ^ (a + t * (d + 1)) % m = b ^ a % m := fun a ha => by
    obtain ⟨c, rfl⟩ := Nat.exists_eq_add_of_le ha
    rw [show t * i + c + t * (d + 1) = t * (i + 1 + d) + c by grind, Nat.pow_add b (t * (i + 1 + d)), Nat.pow_add b (t * i), Nat.mul_mod, ← e, ← Nat.mul_mod]
  have many : ∀ n a, t * i ≤ a → b ^ (a + n * (t * (d + 1))) % m = b ^ a % m := fun n => by
    induction n with
    | zero => intro a _; rw [Nat.zero_mul, Nat.add_zero]
    | succ n ih =>
      intro a ha
      rw [show a + (n + 1) * (t * (d + 1)) = (a + n * (t * (d + 1))) + t * (d + 1) by grind, step _ (by omega), ih a ha]
  refine ⟨(i + 1) * (t * (d + 1)), ?_, ⟨(i + 1) * (d + 1), by grind⟩, many _ _ ?_⟩
  · exact Nat.mul_pos (by omega) (Nat.mul_pos ht (by omega))
  · have h1 : t * i ≤ t * (i + 1) := Nat.mul_le_mul_left _ (by omega)
    have h2 : t * (i + 1) * 1 ≤ t * (i + 1) * (d + 1) := Nat.mul_le_mul_left _ (by omega)
    have h3 : (i + 1) * (t * (d + 1)) = t * (i + 1) * (d + 1) := by grind
    omega
/-- a place i, the sums so far N, S (modulo m) -/
def Rc (b m : Nat) (row : List Int) (i : Nat) (N S : Int) : Prop := Rch b m row ⟨N % m, S % m, ((b ^ i : Nat) : Int) % m, i % row.length⟩
theorem Rc.zero {b m : Nat} {row : List Int} : Rc b m row 0 0 0 := by
  unfold Rc
  rw [Int.zero_emod, Nat.zero_mod, Nat.pow_zero]
  exact .start
theorem Rc.next {b m : Nat} {row : List Int} {i : Nat} {N S : Int} (h : Rc b m row i N S) {f : Nat} (hf : f < b) : Rc b m row (i + 1) (N + f * ((b ^ i : Nat) : Int)) (S + f * row.getD (i % row.length) 0) := by
  have := Rch.next h hf
  unfold Rc
  have e : nxQ b m row ⟨N % m, S % m, ((b ^ i : Nat) : Int) % m, i % row.length⟩ f = ⟨(N + f * ((b ^ i : Nat) : Int)) % m, (S + f * row.getD (i % row.length) 0) % m, ((b ^ (i + 1) : Nat) : Int) % m, (i + 1) % row.length⟩ := by
    simp only [nxQ]
    congr 1
    · rw [Int.emod_add_emod, Int.add_emod, Int.mul_emod, Int.emod_emod, ← Int.mul_emod, ← Int.add_emod]
    · rw [Int.emod_add_emod]
    · rw [Nat.pow_succ, Int.natCast_mul, Int.mul_emod, Int.emod_emod, ← Int.mul_emod]
    · rw [Nat.mod_add_mod]
  rw [← e]
  exact this
theorem Rc.congr {b m : Nat} {row : List Int} {i : Nat} {N S N' S' : Int} (h : Rc b m row i N S) (e1 : N % m = N' % m) (e2 : S % m = S' % m) : Rc b m row i N' S' := by
  unfold Rc at *
  rw [← e1, ← e2]
  exact h
theorem Rc.skip {b m : Nat} {row : List Int} (hb : 2 ≤ b) {i : Nat} {N S : Int} (h : Rc b m row i N S) : ∀ n, Rc b m row (i + n) N S
  | 0 => h
  | n + 1 => by
    have := (Rc.skip hb h n).next (f := 0) (by omega)
    have h2 : Rc b m row (i + n + 1) N S := by simpa using this
    exact h2
theorem Rc.copy {b m : Nat} {row : List Int} (hb : 2 ≤ b) {p : Nat} (p1 : 1 ≤ p) (pt : row.length ∣ p) (pe : ∀ k, b ^ ((k + 1) * p) % m = b ^ p % m) {i : Nat} {N S : Int} (h : Rc b m row i N S) : ∃ i', Rc b m row i' (N + ((b ^ p : Nat) : Int)) (S + row.getD 0 0) := by
  have hi : i ≤ (i + 1) * p := by
    have := Nat.mul_le_mul_left (i + 1) p1
    omega
  obtain ⟨n, en⟩ := Nat.exists_eq_add_of_le hi
  have h2 := (h.skip hb n).next (f := 1) (by omega)
  rw [← en] at h2
  have e0 : (i + 1) * p % row.length = 0 := Nat.mod_eq_zero_of_dvd (Nat.dvd_trans pt (Nat.dvd_mul_left _ _))
  rw [e0] at h2
  refine ⟨_, h2.congr ?_ (by simp)⟩
  have e1 : ((b ^ ((i + 1) * p) : Nat) : Int) % m = ((b ^ p : Nat) : Int) % m := by exact_mod_cast pe i
  rw [Int.natCast_one, Int.one_mul, Int.add_emod, e1, ← Int.add_emod]
theorem Rc.copies {b m : Nat} {row : List Int} (hb : 2 ≤ b) {p : Nat} (p1 : 1 ≤ p) (pt : row.length ∣ p) (pe : ∀ k, b ^ ((k + 1) * p) % m = b ^ p % m) {i : Nat} {N S : Int} (h : Rc b m row i N S) : ∀ c : Nat, ∃ i', Rc b m row i' (N + c * ((b ^ p : Nat) : Int)) (S + c * row.getD 0 0)
  | 0 => ⟨i, by simpa using h⟩
  | c + 1 => by
    obtain ⟨i', h'⟩ := Rc.copies hb p1 pt pe h c
    obtain ⟨i2, h2⟩ := h'.copy hb p1 pt pe
    refine ⟨i2, ?_⟩
    have e1 : N + (c : Int) * ((b ^ p : Nat) : Int) + ((b ^ p : Nat) : Int) = N + ((c + 1 : Nat) : Int) * ((b ^ p : Nat) : Int) := by simp only [Int.natCast_add, Int.natCast_one]; grind
    have e2 : S + (c : Int) * row.getD 0 0 + row.getD 0 0 = S + ((c + 1 : Nat) : Int) * row.getD 0 0 := by simp only [Int.natCast_add, Int.natCast_one]; grind
    rw [e1, e2] at h2
    exact h2
theorem weigh_fwd {b m : Nat} {row : List Int} (hb : 2 ≤ b) (hl : 1 ≤ row.length) (hm : 1 ≤ m) (G : ∀ z, Rch b m row z → goodQ z) : (m ∣ b ^ row.length - 1 ∧ ∀ j, j < row.length → (m : Int) ∣ row.getD j 0 - row.getD 0 0 * ((b ^ j : Nat) : Int)) ∧ Int.gcd (row.getD 0 0) m = 1 := by
  obtain ⟨p, p1, pt, pp⟩ := pow_again b m row.length hm hl
  have pe : ∀ k, b ^ ((k + 1) * p) % m = b ^ p % m := fun k => by
    induction k with
    | zero => rw [Nat.zero_add, Nat.one_mul]
    | succ k ih =>
      rw [Nat.add_mul (k + 1), Nat.one_mul, Nat.pow_add, Nat.mul_mod, ih, ← Nat.mul_mod, ← Nat.pow_add, pp]
  have gd : ∀ {i N S}, Rc b m row i N S → ((m : Int) ∣ N ↔ (m : Int) ∣ S) := fun {i N S} h => by
    have := G _ h
    rw [Int.dvd_iff_emod_eq_zero, Int.dvd_iff_emod_eq_zero]
    exact this
  have w1 : ∀ j : Nat, Rc b m row (j + 1) ((b ^ j : Nat) : Int) (row.getD (j % row.length) 0) := fun j => by
    have := ((Rc.zero (b := b) (m := m) (row := row)).skip hb j).next (f := 1) (by omega)
    simpa using this
  generalize hE : ((b ^ p : Nat) : Int) = E at *
  have hE1 : (m : Int) ∣ E - 1 := by
    obtain ⟨i, h⟩ := (w1 0).copies hb p1 pt pe (m - 1)
    rw [hE] at h
    have em : ((m - 1 : Nat) : Int) = (m : Int) - 1 := by omega
    rw [em, Nat.zero_mod, Nat.pow_zero] at h
    obtain ⟨c, ec⟩ := (gd h).mpr ⟨row.getD 0 0, by grind⟩
    exact ⟨E - c, by simp only [Int.natCast_one] at ec; grind⟩
  obtain ⟨u, eu⟩ := hE1
  have hg : Int.gcd (row.getD 0 0) m = 1 := cop_of hm fun r hr ⟨c, ec⟩ => by
    obtain ⟨i, h⟩ := (Rc.zero (b := b) (m := m) (row := row)).copies hb p1 pt pe r
    rw [hE] at h
    obtain ⟨d, ed⟩ := (gd h).mpr ⟨c, by grind⟩
    exact small_dvd (P := m) ⟨d - r * u, by grind⟩ hr
  have hj : ∀ j : Nat, (m : Int) ∣ row.getD (j % row.length) 0 - row.getD 0 0 * ((b ^ j : Nat) : Int) := fun j => by
    obtain ⟨i, h⟩ := (w1 j).copies hb p1 pt pe ((m - 1) * b ^ j)
    rw [hE] at h
    have em : (((m - 1) * b ^ j : Nat) : Int) = ((m : Int) - 1) * ((b ^ j : Nat) : Int) := by
      rw [Int.natCast_mul]; congr 1; omega
    rw [em] at h
    generalize ((b ^ j : Nat) : Int) = B at *
    obtain ⟨c, ec⟩ := (gd h).mp ⟨B + (m - 1) * B * u, by grind⟩
    exact ⟨c - B * row.getD 0 0, by grind⟩
  refine ⟨⟨?_, fun j hjl => ?_⟩, hg⟩
  · have h := hj row.length
    rw [Nat.mod_self] at h
    obtain ⟨c, ec⟩ := h
    have h2 := cop_dvd hg (n := 1 - ((b ^ row.length : Nat) : Int)) ⟨c, by grind⟩
    have hp : 0 < b ^ row.length := Nat.pow_pos (by omega)
    rw [Int.ofNat_dvd_left] at h2
    rw [show b ^ row.length - 1 = (1 - ((b ^ row.length : Nat) : Int)).natAbs by omega]
    exact h2
  · have h := hj j
    rw [Nat.mod_eq_of_lt hjl] at h
    exact h
theorem weigh_back {b m : Nat} {row : List Int} (hb : 2 ≤ b) (hl : 1 ≤ row.length) (hm : 1 ≤ m) (h1 : m ∣ b ^ row.length - 1) (h2 : ∀ j, j < row.length → (m : Int) ∣ row.getD j 0 - row.getD 0 0 * ((b ^ j : Nat) : Int)) (hg : Int.gcd (row.getD 0 0) m = 1) (z : Q4) (hz : Rch b m row z) : goodQ z := by
  have hp : 0 < b ^ row.length := Nat.pow_pos (by omega)
  obtain ⟨e1, ee1⟩ := h1
  have ee : ((b ^ row.length : Nat) : Int) = 1 + m * e1 := by
    have : b ^ row.length = 1 + m * e1 := by omega
    exact_mod_cast this
  have key : boxQ m row.length z ∧ (m : Int) ∣ z.v - ((b ^ z.j : Nat) : Int) ∧ (m : Int) ∣ z.s - row.getD 0 0 * z.n := by
    induction hz with
    | start =>
      refine ⟨box_start hm hl, ?_, ⟨0, by simp⟩⟩
      rw [Nat.pow_zero]
      exact ⟨-(1 / (m : Int)), by
        show 1 % (m : Int) - ((1 : Nat) : Int) = _
        rw [Int.emod_def, Int.natCast_one]; grind⟩
    | @next z f hz hf ih =>
      obtain ⟨⟨bn, bs, bv, bj⟩, ⟨c, ec⟩, ⟨d, ed⟩⟩ := ih
      refine ⟨box_nx hm hl, ?_, ?_⟩
      · show (m : Int) ∣ z.v * b % m - ((b ^ ((z.j + 1) % row.length) : Nat) : Int)
        rw [Int.emod_def]
        by_cases e : z.j + 1 = row.length
        · rw [e, Nat.mod_self, Nat.pow_zero]
          have h3 : ((b ^ row.length : Nat) : Int) = ((b ^ z.j : Nat) : Int) * b := by rw [← e, Nat.pow_succ, Int.natCast_mul]
          rw [h3] at ee
          generalize ((b ^ z.j : Nat) : Int) = B at *
          generalize z.v * (b : Int) / m = q
          exact ⟨c * b + e1 - q, by rw [Int.natCast_one]; grind⟩
        · rw [Nat.mod_eq_of_lt (by omega), Nat.pow_succ, Int.natCast_mul]
          generalize ((b ^ z.j : Nat) : Int) = B at *
          generalize z.v * (b : Int) / m = q
          exact ⟨c * b - q, by grind⟩
      · obtain ⟨g, eg⟩ := h2 z.j bj
        show (m : Int) ∣ (z.s + f * row.getD z.j 0) % m - row.getD 0 0 * ((z.n + f * z.v) % m)
        rw [Int.emod_def, Int.emod_def]
        generalize ((b ^ z.j : Nat) : Int) = B at *
        generalize (z.s + f * row.getD z.j 0) / (m : Int) = q1
        generalize (z.n + f * z.v) / (m : Int) = q2
        exact ⟨d + f * g - f * row.getD 0 0 * c - q1 + row.getD 0 0 * q2, by grind⟩
  obtain ⟨⟨bn, bs, bv, bj⟩, _, ⟨d, ed⟩⟩ := key
  have sm : ∀ v : Int, 0 ≤ v → v < m → (m : Int) ∣ v → v = 0 := fun v v0 v1 hv => by
    obtain ⟨k, rfl⟩ := Int.eq_ofNat_of_zero_le v0
    rw [small_dvd (P := m) hv (by omega)]; rfl
  constructor
  · intro h
    exact sm _ bs.1 bs.2 ⟨d, by rw [h] at ed; grind⟩
  · intro h
    exact sm _ bn.1 bn.2 (cop_dvd hg ⟨-d, by rw [h] at ed; grind⟩)
theorem weigh_thm {b m : Nat} {row : List Int} (hb : 2 ≤ b) (hl : 1 ≤ row.length) (hm : 1 ≤ m) : (∀ z, Rch b m row z → goodQ z) ↔ inS b (.weigh row) m = true := by
  rw [inS, inK_iff]
  have e : (kN b (.weigh row) % m = 0) ↔ m ∣ b ^ row.length - 1 ∧ ∀ j, j < row.length → (m : Int) ∣ row.getD j 0 - row.getD 0 0 * ((b ^ j : Nat) : Int) := by
    rw [← wnum_dvd]
    exact Nat.dvd_iff_mod_eq_zero.symm
  have e2 : Nat.gcd (kU (.weigh row)) m = Int.gcd (row.getD 0 0) m := rfl
  rw [e, e2]
  constructor
  · exact fun G => .inl (weigh_fwd hb hl hm G)
  · rintro (⟨⟨h1, h2⟩, hg⟩ | ⟨h1, _⟩)
    · exact weigh_back hb hl hm h1 h2 hg
    · exact absurd h1 (Nat.lt_irrefl 0)

end Fold
namespace Fold
open PySem PySem.Spec PyProof.Rows L2
section
variable {P : Program} {w : World} {K : PySem.W.Frag} {mg : Str → Option Value} {base : Heap} {a : Ad}
theorem none_upd {H : Hp} {t D : Addr} {o : HO} (h : upd H t o D = none) : D ≠ t ∧ H D = none := by
  by_cases e : D = t
  · subst e
    rw [upd_same] at h
    cases h
  · rw [upd_ne e] at h
    exact ⟨e, h⟩
/-- how the search stands -/
structure SWI (H H' : Hp) (b m : Nat) (row : List Int) (D L : Addr) (ss : List Q4) (ws : List (Addr × Q4)) : Prop where
  same : Same H H'
  hD : H D = none
  hL : H L = none
  ne : D ≠ L
  dD : H' D = some (.dT (seenD ss))
  dL : H' L = some (.lst (ws.map fun p => V.ref p.1))
  tup : ∀ p ∈ ws, H' p.1 = some (.tup (valsQ p.2))
  mem : ∀ p ∈ ws, p.2 ∈ ss
  nd : ss.Nodup
  box : ∀ z ∈ ss, boxQ m row.length z ∧ Rch b m row z
  st : (⟨0, 0, 1 % (m : Int), 0⟩ : Q4) ∈ ss
  len : ws.length ≤ ss.length
theorem SWI.new {H H' : Hp} {b m : Nat} {row : List Int} {D L : Addr} {ss : List Q4} {ws : List (Addr × Q4)} (W : SWI H H' b m row D L ss ws) {t : Addr} {o : HO} (ht : H' t = none) : SWI H (upd H' t o) b m row D L ss ws :=
  ⟨W.same.trans (same_new ht), W.hD, W.hL, W.ne, kept W.dD ht, kept W.dL ht, fun p mp => kept (W.tup p mp) ht, W.mem, W.nd, W.box, W.st, W.len⟩
theorem SWI.put {H H' : Hp} {b m : Nat} {row : List Int} {D L : Addr} {ss : List Q4} {ws : List (Addr × Q4)} (W : SWI H H' b m row D L ss ws) {t : Addr} {y : Q4} (ht : H' t = some (.tup (valsQ y))) (hy : y ∉ ss) (hb : boxQ m row.length y ∧ Rch b m row y) :
    SWI H (upd (upd H' D (.dT (seenD (ss ++ [y])))) L (.lst ((ws.map fun p => V.ref p.1) ++ [.ref t]))) b m row D L (ss ++ [y]) (ws ++ [(t, y)]) := by
  have tp : ∀ {q : Addr} {xs : List V}, H' q = some (.tup xs) → upd (upd H' D (.dT (seenD (ss ++ [y])))) L (.lst ((ws.map fun p => V.ref p.1) ++ [.ref t])) q = some (.tup xs) := fun {q xs} e => by
    rw [upd_ne (ne_of e W.dL (fun z => nomatch z)), upd_ne (ne_of e W.dD (fun z => nomatch z))]
    exact e
  refine ⟨fun c o e => ?_, W.hD, W.hL, W.ne, ?_, ?_, fun p mp => ?_, fun p mp => ?_, ?_, fun z mz => ?_, List.mem_append_left _ W.st, ?_⟩
  · rw [upd_ne (ne_of_none e W.hL), upd_ne (ne_of_none e W.hD)]
    exact W.same _ _ e
  · rw [upd_ne W.ne, upd_same]
  · rw [upd_same, List.map_append]; rfl
  · rcases List.mem_append.mp mp with mp | mp
    · exact tp (W.tup p mp)
    · rw [List.mem_singleton.mp mp]; exact tp ht
  · rcases List.mem_append.mp mp with mp | mp
    · exact List.mem_append_left _ (W.mem p mp)
    · rw [List.mem_singleton.mp mp]; exact List.mem_append_right _ (List.mem_singleton.mpr rfl)
  · rw [List.nodup_append]
    refine ⟨W.nd, List.nodup_cons.mpr ⟨List.not_mem_nil, List.nodup_nil⟩, fun x mx z mz e => ?_⟩
    rw [List.mem_singleton.mp mz] at e
    rw [e] at mx
    exact hy mx
  · rcases List.mem_append.mp mz with mz | mz
    · exact W.box z mz
    · rw [List.mem_singleton.mp mz]; exact hb
  · rw [List.length_append, List.length_append]
    exact Nat.add_le_add_right W.len 1
def sp_law_weigh_keeps : Sp := fun vs H Q _ => ∃ (b : Nat) (r : Addr) (row : List Int) (m : Nat), vs = [.int b, .ref r, .int m] ∧ (2 ≤ b ∧ b ≤ 12) ∧ H r = some (.tup (row.map V.int)) ∧ OkS b (.weigh row) ∧ 1 ≤ m ∧ m ≤ 60 ∧
  ((∀ z, Rch b m row z → goodQ z) → ∀ H', Same H H' → Q (.bl true) H') ∧ ((∃ z, Rch b m row z ∧ ¬ goodQ z) → ∀ H', Same H H' → Q (.bl false) H')
theorem ok__law_weigh_keeps (T : Txt K mg a) : C0 P w K mg base 1 "_law_weigh_keeps" sp_law_weigh_keeps := by
  refine T.d__law_weigh_keeps.c0 sc__law_weigh_keeps (fun vs H Q E h => ?_) (fun f cdv A outer s H vs Q E hr h => ?_)
  · obtain ⟨b, r, row, m, rfl, _⟩ := h
    rfl
  · obtain ⟨b, r, row, m, rfl, hb, h1, ⟨o1, o2, o3⟩, m1, m2, kT, kF⟩ := h
    refine ⟨_, (pss_cons (ps_set (i := 3) sc__law_weigh_keeps.nd rfl (Or.inl rfl) (pe_tup (pa_cons pe_int (pa_cons pe_int (pa_cons (pe_op op_mod pe_int (pv 2)) (pa_cons pe_int pa_nil))))))
      (pss_cons (ps_set (i := 4) sc__law_weigh_keeps.nd rfl (Or.inl rfl) (pe_disp1T (hu_of hr) (pv 3) pe_bl))
      (pss_cons (ps_set (i := 5) sc__law_weigh_keeps.nd rfl (Or.inl rfl) (pe_lst (pa_cons (pv 3) pa_nil)))
      (pss_cons (ps_while PassesOwn.never (pt_cmpR op_gt (pe_callB call_len_seq (by rfl) T.n_len b_len (pa_cons (pv 5) pa_nil)) pe_int (nomark _)) (pss_cons (ps_asg (pe_bm0 PySem.F.plainAttrs_list PySem.F.slot_list_pop PySem.F.type_list_pop mt_pop (pv 5)) (pg_tup rfl (pgs_cons (pg_name (i := 6) sc__law_weigh_keeps.nd rfl (Or.inl rfl)) (pgs_cons (pg_name (i := 7) sc__law_weigh_keeps.nd rfl (Or.inl rfl)) (pgs_cons (pg_name (i := 8) sc__law_weigh_keeps.nd rfl (Or.inl rfl)) (pgs_cons (pg_name (i := 9) sc__law_weigh_keeps.nd rfl (Or.inl rfl)) pgs_nil))))))
      (pss_cons (ps_if (pt_cmpR op_ne (pe_cmpR op_eq (pv 6) pe_int (nomark _)) (pe_cmpR op_eq (pv 7) pe_int (nomark _)) (nomark _)) (pss_one (ps_ret pe_bl)) pss_nil)
      (pss_one (ps_for PassesOwn.never rfl (pi_range1 (by rfl) T.n_range (pa_cons (pv 0) pa_nil)) (pg_name (i := 10) sc__law_weigh_keeps.nd rfl (Or.inl rfl)) (pss_cons (ps_set (i := 11) sc__law_weigh_keeps.nd rfl (Or.inl rfl) (pe_op op_mod (pe_op op_add (pv 6) (pe_op op_mul (pv 10) (pv 8))) (pv 2)))
      (pss_cons (ps_set (i := 12) sc__law_weigh_keeps.nd rfl (Or.inl rfl) (pe_op op_mod (pe_op op_add (pv 7) (pe_op op_mul (pv 10) (pe_ix ix_tup (pv 1) (pv 9) (fun _ _ => rfl)))) (pv 2)))
      (pss_cons (ps_set (i := 13) sc__law_weigh_keeps.nd rfl (Or.inl rfl) (pe_tup (pa_cons (pv 11) (pa_cons (pv 12) (pa_cons (pe_op op_mod (pe_op op_mul (pv 8) (pv 0)) (pv 2)) (pa_cons (pe_op op_mod (pe_op op_add (pv 9) pe_int) (pe_callB call_len_seq (by rfl) T.n_len b_len (pa_cons (pv 1) pa_nil))) pa_nil))))))
      (pss_one (ps_if (pt_cmp (pc_dnotin (hu_of hr) (pv 13) (pv 4))) (pss_cons (ps_dput (hu_of hr) (pv 4) (pv 13) pe_bl rfl)
      (pss_one (ps_expr (pe_bm PySem.F.plainAttrs_list PySem.F.slot_list_append PySem.F.type_list_append mt_append (pv 5) (pa_cons (pv 13) pa_nil))))) pss_nil))))))))))
      (pss_one (ps_ret pe_bl)))))), ?_⟩
    have mi : (0 : Int) < (m : Int) := by omega
    have r0 : 0 < row.length := o1
    have hN : m * m * m * row.length ≤ 2000000 := by
      have a1 : m * m ≤ 60 * 60 := Nat.mul_le_mul m2 m2
      have a2 : m * m * m ≤ 60 * 60 * 60 := Nat.mul_le_mul a1 m2
      have a3 : m * m * m * row.length ≤ 60 * 60 * 60 * 6 := Nat.mul_le_mul a2 o2
      omega
    refine ⟨_, rfl, _, _, rfl, rfl, mi, (by show 4 ≤ sizeLine; decide), fun t ht => ?_⟩
    refine fun D hD => ⟨_, rfl, upd_same, t, keyQ ⟨0, 0, 1 % (m : Int), 0⟩, rfl, kept upd_same hD, ?_⟩
    refine ⟨_, rfl, (by show 1 ≤ sizeLine; decide), fun L hL => ?_⟩
    rw [upd_upd] at hL ⊢
    obtain ⟨nDt, hD0⟩ := none_upd hD
    obtain ⟨nLD, hL1⟩ := none_upd hL
    obtain ⟨nLt, hL0⟩ := none_upd hL1
    have hs0 : SWI H (upd (upd (upd H t (.tup (valsQ ⟨0, 0, 1 % (m : Int), 0⟩))) D (.dT (seenD [⟨0, 0, 1 % (m : Int), 0⟩]))) L (.lst [.ref t])) b m row D L [⟨0, 0, 1 % (m : Int), 0⟩] [(t, ⟨0, 0, 1 % (m : Int), 0⟩)] :=
      ⟨(same_new ht).trans ((same_new hD).trans (same_new hL)), hD0, hL0, nLD.symm, by rw [upd_ne nLD.symm]; exact upd_same, upd_same,
        fun p mp => by rw [List.mem_singleton.mp mp]; exact kept (kept upd_same hD) hL, fun p mp => by rw [List.mem_singleton.mp mp]; exact List.mem_singleton.mpr rfl,
        List.nodup_cons.mpr ⟨List.not_mem_nil, List.nodup_nil⟩, fun z mz => by rw [List.mem_singleton.mp mz]; exact ⟨box_start m1 o1, .start⟩, List.mem_singleton.mpr rfl, Nat.le_refl 1⟩
    refine g_seq ?_
    refine ⟨fun mm σ H' => ∃ ss ws v6 v7 v8 v9 v10 v11 v12 v13, mm = ws.length + 2 * (m * m * m * row.length - ss.length) ∧ σ = [some (.int b), some (.ref r), some (.int m), some (.ref t), some (.ref D), some (.ref L), v6, v7, v8, v9, v10, v11, v12, v13] ∧ SWI H H' b m row D L ss ws ∧
      (∀ z ∈ ss, (∃ p ∈ ws, p.2 = z) ∨ (goodQ z ∧ ∀ f, f < b → nxQ b m row z f ∈ ss)), ⟨_, _, _, none, none, none, none, none, none, none, none, rfl, rfl, hs0, fun z mz => .inl ⟨(t, ⟨0, 0, 1 % (m : Int), 0⟩), List.mem_singleton.mpr rfl, (List.mem_singleton.mp mz).symm⟩⟩, ?_⟩
    rintro mm σ H' ⟨ss, ws, v6, v7, v8, v9, v10, v11, v12, v13, rfl, rfl, W, hw⟩
    refine ⟨_, rfl, L, _, rfl, .inl (SqL.of W.dL), _, _, rfl, rfl, _, rfl, ?_⟩
    rcases List.eq_nil_or_concat ws with rfl | ⟨w0, p, rfl⟩
    · refine iteF' rfl (kT (fun z hz => ?_) H' W.same)
      have dn : ∀ z ∈ ss, goodQ z ∧ ∀ f, f < b → nxQ b m row z f ∈ ss := fun z mz => by
        rcases hw z mz with ⟨p, mp, _⟩ | h
        · exact absurd mp List.not_mem_nil
        · exact h
      have all : z ∈ ss := by
        induction hz with
        | start => exact W.st
        | next hz hf ih => exact (dn _ ih).2 _ hf
      exact (dn z all).1
    · rw [List.concat_eq_append] at W hw ⊢
      obtain ⟨pa, z⟩ := p
      have hp := W.tup (pa, z) (by simp)
      have hz := W.mem (pa, z) (by simp)
      obtain ⟨⟨bn, bs, bv, bj⟩, hR⟩ := W.box z hz
      have lL : ((w0 ++ [(pa, z)]).map fun p => V.ref p.1)[((w0 ++ [(pa, z)]).map fun p => V.ref p.1).length - 1]? = some (.ref pa) := by
        rw [List.map_append, List.length_append]; simp
      have lD : ((w0 ++ [(pa, z)]).map fun p => V.ref p.1).dropLast = w0.map fun p => V.ref p.1 := by
        rw [List.map_append]; simp
      refine iteT' ?_ ?_
      · rw [decide_eq_true_eq, List.length_map, List.length_append]
        show (0 : Int) < ((w0.length + 1 : Nat) : Int)
        omega
      refine ⟨_, fun _ _ h => h, _, rfl, .inl ⟨rfl, _, SqL.of W.dL⟩, L, _, _, rfl, rfl, W.dL, lL, ?_⟩
      rw [lD]
      have nL : ∀ p o, H' p = some o → p ≠ L → upd H' L (.lst (w0.map fun p => V.ref p.1)) p = some o := fun p o e n => by rw [upd_ne n]; exact e
      have pL : ∀ p ∈ w0 ++ [(pa, z)], p.1 ≠ L := fun p mp => ne_of (W.tup p mp) W.dL (fun q => nomatch q)
      have W1 : SWI H (upd H' L (.lst (w0.map fun p => V.ref p.1))) b m row D L ss w0 :=
        ⟨fun c o e => nL _ _ (W.same _ _ e) (ne_of_none e W.hL), W.hD, W.hL, W.ne, nL _ _ W.dD W.ne, upd_same, fun p mp => nL _ _ (W.tup p (List.mem_append_left _ mp)) (pL p (List.mem_append_left _ mp)),
          fun p mp => W.mem p (List.mem_append_left _ mp), W.nd, W.box, W.st, by have := W.len; rw [List.length_append] at this; exact Nat.le_trans (Nat.le_add_right _ _) this⟩
      have hp1 := nL _ _ hp (pL (pa, z) (by simp))
      have hw1 : ∀ y ∈ ss, y = z ∨ (∃ p ∈ w0, p.2 = y) ∨ (goodQ y ∧ ∀ f, f < b → nxQ b m row y f ∈ ss) := fun y my => by
        rcases hw y my with ⟨p, mp, e⟩ | h
        · rcases List.mem_append.mp mp with mp | mp
          · exact .inr (.inl ⟨p, mp, e⟩)
          · rw [List.mem_singleton.mp mp] at e
            exact .inl e.symm
        · exact .inr (.inr h)
      revert hp1 W1
      generalize upd H' L (.lst (w0.map fun p => V.ref p.1)) = H1
      intro W1 hp1
      refine ⟨pa, _, rfl, SqT.of hp1, rfl, _, _, rfl, _, _, rfl, _, _, rfl, _, _, rfl, rfl, ?_⟩
      refine ⟨_, rfl, rfl, _, rfl, rfl, rfl, _, rfl, ?_⟩
      by_cases c : goodQ z
      · refine iteF' ?_ ?_
        · rw [Bool.not_eq_false', decide_eq_true_eq]
          congr 1
          simp only [dec_int]
          exact decide_eq_decide.mpr c
        refine g_next ?_
        refine ⟨_, rfl, _, rfl, by omega, by omega, for_range (fun f σ H2 => ∃ ss2 w2 v10 v11 v12 v13, σ = [some (.int b), some (.ref r), some (.int m), some (.ref t), some (.ref D), some (.ref L), some (.int z.n), some (.int z.s), some (.int z.v), some (.int (z.j : Int)), v10, v11, v12, v13] ∧ SWI H H2 b m row D L ss2 w2 ∧
          (∀ y ∈ ss2, y = z ∨ (∃ p ∈ w2, p.2 = y) ∨ (goodQ y ∧ ∀ f, f < b → nxQ b m row y f ∈ ss2)) ∧ (∀ f', f' < f → nxQ b m row z f' ∈ ss2) ∧ z ∈ ss2 ∧ w2.length + 2 * (m * m * m * row.length - ss2.length) ≤ w0.length + 2 * (m * m * m * row.length - ss.length)) ?_ ?_ ?_⟩
        · exact ⟨ss, w0, _, _, _, _, rfl, W1, hw1, fun f' h => by omega, hz, Nat.le_refl _⟩
        · rintro f σ H2 hf ⟨ss2, w2, v10, v11, v12, v13, rfl, W2, hw2, hd2, hz2, hm2⟩
          have hfi : f < b := by omega
          have hj : z.j < row.length := bj
          have rj := o3 _ (rowIn hj)
          have hr2 := W2.same _ _ h1
          refine ⟨_, rfl, _, rfl, _, rfl, _, _, rfl, rfl, .inl ⟨by omega, by omega⟩, _, _, rfl, rfl, _, rfl, _, _, rfl, rfl, mi, ?_⟩
          refine ⟨_, rfl, _, rfl, _, rfl, _, rfl, r, _, _, _, rfl, rfl, SqT.of hr2, at_of (j := z.j) rfl (rowAt hj), _, _, rfl, rfl, .inl ⟨by omega, by omega⟩, _, _, rfl, rfl, _, rfl, _, _, rfl, rfl, mi, ?_⟩
          refine ⟨_, rfl, _, rfl, _, rfl, _, rfl, _, _, rfl, rfl, .inl ⟨by omega, by omega⟩, _, rfl, _, _, rfl, rfl, mi, _, rfl, _, _, rfl, rfl, _, rfl, r, _, rfl, .inr (SqT.of hr2), _, _, rfl, rfl, ?_, (by show 4 ≤ sizeLine; decide), fun T' hT' => ?_⟩
          · rw [List.length_map]; show (0 : Int) < (row.length : Int); omega
          have hyR : Rch b m row (nxQ b m row z f) := hR.next hfi
          have hyB : boxQ m row.length (nxQ b m row z f) := box_nx m1 o1
          have eT : ([.int ((z.n + (0 + (f : Int)) * z.v) % (m : Int)), .int ((z.s + (0 + (f : Int)) * row.getD z.j 0) % (m : Int)), .int (z.v * (b : Int) % (m : Int)), .int (((z.j : Int) + 1) % ((row.map V.int).length : Int))] : List V) = valsQ (nxQ b m row z f) := by
            rw [List.length_map]
            simp only [valsQ, nxQ, Int.zero_add]
            rfl
          have W3 := W2.new (o := HO.tup [.int ((z.n + (0 + (f : Int)) * z.v) % (m : Int)), .int ((z.s + (0 + (f : Int)) * row.getD z.j 0) % (m : Int)), .int (z.v * (b : Int) % (m : Int)), .int (((z.j : Int) + 1) % ((row.map V.int).length : Int))]) hT'
          have hT3 : upd H2 T' (HO.tup [.int ((z.n + (0 + (f : Int)) * z.v) % (m : Int)), .int ((z.s + (0 + (f : Int)) * row.getD z.j 0) % (m : Int)), .int (z.v * (b : Int) % (m : Int)), .int (((z.j : Int) + 1) % ((row.map V.int).length : Int))]) T' = some (.tup (valsQ (nxQ b m row z f))) := by rw [upd_same, eT]
          have hL2 : ss2.length ≤ 2000000 := Nat.le_trans (box_bound W2.nd fun y my => (W2.box y my).1) hN
          refine ⟨_, rfl, _, rfl, D, _, rfl, DGet.t (k := keyQ (nxQ b m row z f)) W3.dD hT3, _, rfl, ?_⟩
          rw [seen_val]
          by_cases cy : nxQ b m row z f ∈ ss2
          · rw [if_pos cy]
            refine iteF' rfl ⟨ss2, w2, some (.int (0 + (f : Int))), some (.int ((z.n + (0 + (f : Int)) * z.v) % (m : Int))), some (.int ((z.s + (0 + (f : Int)) * row.getD z.j 0) % (m : Int))), some (.ref T'), rfl, W3, hw2, fun f' h' => ?_, hz2, hm2⟩
            · by_cases e : f' = f
              · rw [e]; exact cy
              · exact hd2 f' (by omega)
          · rw [if_neg cy]
            refine iteT' rfl ?_
            refine ⟨_, rfl, _, rfl, D, _, rfl, DPut.t (k := keyQ (nxQ b m row z f)) W3.dD hT3 ?_, ?_⟩
            · rw [seenD, List.length_map]; exact Nat.lt_of_le_of_lt hL2 (by decide)
            · rw [seen_put cy]
              have W4 := W3.put hT3 cy ⟨hyB, hyR⟩
              have eL : upd (upd H2 T' (HO.tup [.int ((z.n + (0 + (f : Int)) * z.v) % (m : Int)), .int ((z.s + (0 + (f : Int)) * row.getD z.j 0) % (m : Int)), .int (z.v * (b : Int) % (m : Int)), .int (((z.j : Int) + 1) % ((row.map V.int).length : Int))])) D (HO.dT (seenD (ss2 ++ [nxQ b m row z f]))) L = some (.lst (w2.map fun p => V.ref p.1)) := by
                rw [upd_ne W3.ne.symm]; exact W3.dL
              have bL : (w2.map fun p => V.ref p.1).length < sizeLine := by
                rw [List.length_map]; exact Nat.lt_of_le_of_lt (Nat.le_trans W2.len hL2) (by decide)
              refine ⟨_, rfl, .inl ⟨rfl, _, SqL.of eL⟩, _, rfl, L, _, _, rfl, rfl, eL, bL, ss2 ++ [nxQ b m row z f], w2 ++ [(T', nxQ b m row z f)], some (.int (0 + (f : Int))), some (.int ((z.n + (0 + (f : Int)) * z.v) % (m : Int))), some (.int ((z.s + (0 + (f : Int)) * row.getD z.j 0) % (m : Int))), some (.ref T'), rfl, W4, fun y my => ?_, fun f' h' => ?_, List.mem_append_left _ hz2, ?_⟩
              · rcases List.mem_append.mp my with my | my
                · rcases hw2 y my with h | ⟨p, mp, e⟩ | ⟨g, h⟩
                  · exact .inl h
                  · exact .inr (.inl ⟨p, List.mem_append_left _ mp, e⟩)
                  · exact .inr (.inr ⟨g, fun f hf => List.mem_append_left _ (h f hf)⟩)
                · exact .inr (.inl ⟨_, List.mem_append_right _ (List.mem_singleton.mpr rfl), (List.mem_singleton.mp my).symm⟩)
              · by_cases e : f' = f
                · rw [e]; exact List.mem_append_right _ (List.mem_singleton.mpr rfl)
                · exact List.mem_append_left _ (hd2 f' (by omega))
              · have b4 := box_bound W4.nd fun y my => (W4.box y my).1
                rw [List.length_append] at b4 ⊢
                rw [List.length_append]
                simp only [List.length_singleton] at b4 ⊢
                omega
        · rintro σ H2 ⟨ss2, w2, v10, v11, v12, v13, rfl, W2, hw2, hd2, hz2, hm2⟩
          refine ⟨_, ?_, ss2, w2, _, _, _, _, _, _, _, _, rfl, rfl, W2, fun y my => ?_⟩
          · rw [List.length_append]
            show _ < w0.length + 1 + _
            omega
          · rcases hw2 y my with rfl | h | h
            · exact .inr ⟨c, fun f hf => hd2 f (by omega)⟩
            · exact .inl h
            · exact .inr h
      · refine iteT' ?_ ?_
        · rw [Bool.not_eq_true', decide_eq_false_iff_not]
          intro e
          injection e with e
          simp only [dec_int] at e
          exact c (decide_eq_decide.mp e)
        · exact kF ⟨z, hR, c⟩ H1 W1.same
end

end Fold
namespace Fold
open PySem PySem.Spec PyProof.Rows L2
section
variable {P : Program} {w : World} {K : PySem.W.Frag} {mg : Str → Option Value} {base : Heap} {a : Ad}
def sp_law_keeps : Sp := fun vs H Q _ => ∃ (b : Nat) (p : Addr) (s : Stp) (m : Nat), vs = [.int b, .ref p, .int m] ∧ (2 ≤ b ∧ b ≤ 12) ∧ StepAt H p s ∧ OkS b s ∧ 1 ≤ m ∧ m < 1000 ∧ (∀ row, s = .weigh row → m ≤ 60) ∧ ∀ H', Same H H' → Q (.bl (inS b s m)) H'
theorem ok__law_keeps (T : Txt K mg a) : C0 P w K mg base 3 "_law_keeps" sp_law_keeps := by
  have c__law_weigh_keeps := ok__law_weigh_keeps (P := P) (w := w) (base := base) T; have c__law_fold_keeps := ok__law_fold_keeps (P := P) (w := w) (base := base) T
  refine T.d__law_keeps.c0 sc__law_keeps (fun vs H Q E h => ?_) (fun f cdv A outer s H vs Q E hr h => ?_)
  · obtain ⟨b, p, s, m, rfl, _⟩ := h
    rfl
  · obtain ⟨b, p, s, m, rfl, hb, hs, ho, m1, m2, m3, kk⟩ := h
    refine ⟨_, (pss_cons (ps_if (pt_cmpR op_eq (pe_ix ix_tup (pv 1) pe_int (fun _ _ => rfl)) pe_str (nomark _)) (pss_one (ps_ret (pe_0 c__law_fold_keeps hr (by decide) (pa_cons (pv 0) (pa_cons (pv 1) (pa_cons (pv 2) pa_nil)))))) pss_nil)
      (pss_one (ps_ret (pe_0 c__law_weigh_keeps hr (by decide) (pa_cons (pv 0) (pa_cons (pe_ix ix_tup (pv 1) pe_int (fun _ _ => rfl)) (pa_cons (pv 2) pa_nil))))))), ?_⟩
    cases s with
    | weigh row =>
      obtain ⟨r, h1, h2⟩ := hs
      have th := weigh_thm (b := b) (m := m) (row := row) hb.1 ho.1 m1
      refine ⟨_, rfl, _, _, _, _, rfl, rfl, SqT.of h1, rfl, rfl, _, rfl, iteF' (by decide +kernel) (g_next ⟨_, rfl, _, rfl, _, _, _, _, rfl, rfl, SqT.of h1, rfl, _, rfl, b, r, row, m, rfl, hb, h2, ho, m1, m3 row rfl, fun t H' s' => ?_, fun t H' s' => ?_⟩)⟩
      · exact q_eq (kk H' s') (by rw [th.mp t])
      · refine q_eq (kk H' s') ?_
        have e : inS b (.weigh row) m = false := by
          rw [Bool.eq_false_iff]
          intro c
          obtain ⟨z, hz, hg⟩ := t
          exact hg (th.mpr c z hz)
        rw [e]
    | fold k x y =>
      have h1 : H p = _ := hs
      have th := fold_thm (b := b) (k := k) (m := m) (x := x) (y := y) hb.1 ho.1 m1
      refine ⟨_, rfl, _, _, _, _, rfl, rfl, SqT.of h1, rfl, rfl, _, rfl, iteT' (by decide +kernel) ⟨_, rfl, _, rfl, _, rfl, b, p, k, x, y, m, rfl, hb, h1, ho, m1, m2, fun t => ?_, fun t => ?_⟩⟩
      · exact q_eq (kk H (Same.refl _)) (by rw [th.mp t])
      · refine q_eq (kk H (Same.refl _)) ?_
        have e : inS b (.fold k x y) m = false := by
          rw [Bool.eq_false_iff]
          exact fun c => t (th.mpr c)
        rw [e]
def sp_law_fields : Sp := fun vs H Q _ => ∃ (b : Nat) (p : Addr) (s : Stp), vs = [.int b, .ref p] ∧ (2 ≤ b ∧ b ≤ 12) ∧ StepAt H p s ∧ OkS b s ∧ ∀ D H', Same H H' → H' D = some (.lst [.int (kN b s : Nat), .int (kU s : Nat), .int (kP b s : Nat), .int (kQ b s : Nat)]) → Q (.ref D) H'
theorem ok__law_fields (T : Txt K mg a) : C0 P w K mg base 2 "_law_fields" sp_law_fields := by
  have c__law_power := ok__law_power (P := P) (w := w) (base := base) T; have c__law_common := ok__law_common (P := P) (w := w) (base := base) T
  refine T.d__law_fields.c0 sc__law_fields (fun vs H Q E h => ?_) (fun f cdv A outer s H vs Q E hr h => ?_)
  · obtain ⟨b, p, s, rfl, _⟩ := h
    rfl
  · obtain ⟨b, p, s, rfl, hb, hs, ho, kk⟩ := h
    refine ⟨_, (pss_cons (ps_if (pt_cmpR op_eq (pe_ix ix_tup (pv 1) pe_int (fun _ _ => rfl)) pe_str (nomark _)) (pss_cons (ps_set (i := 2) sc__law_fields.nd rfl (Or.inl rfl) (pe_op op_sub (pe_0 c__law_power hr (by decide) (pa_cons (pv 0) (pa_cons (pe_callB call_len_seq (by rfl) T.n_len b_len (pa_cons (pe_ix ix_tup (pv 1) pe_int (fun _ _ => rfl)) pa_nil)) pa_nil))) pe_int))
      (pss_cons (ps_for PassesOwn.never rfl (pi_range1 (by rfl) T.n_range (pa_cons (pe_callB call_len_seq (by rfl) T.n_len b_len (pa_cons (pe_ix ix_tup (pv 1) pe_int (fun _ _ => rfl)) pa_nil)) pa_nil)) (pg_name (i := 3) sc__law_fields.nd rfl (Or.inl rfl)) (pss_one (ps_set (i := 2) sc__law_fields.nd rfl (Or.inl rfl) (pe_0 c__law_common hr (by decide) (pa_cons (pv 2) (pa_cons (pe_op op_sub (pe_ix ix_tup (pe_ix ix_tup (pv 1) pe_int (fun _ _ => rfl)) (pv 3) (fun _ _ => rfl)) (pe_op op_mul (pe_ix ix_tup (pe_ix ix_tup (pv 1) pe_int (fun _ _ => rfl)) pe_int (fun _ _ => rfl)) (pe_0 c__law_power hr (by decide) (pa_cons (pv 0) (pa_cons (pv 3) pa_nil))))) pa_nil))))))
      (pss_one (ps_ret (pe_lst (pa_cons (pv 2) (pa_cons (pe_callB call_abs (by rfl) T.n_abs b_abs (pa_cons (pe_ix ix_tup (pe_ix ix_tup (pv 1) pe_int (fun _ _ => rfl)) pe_int (fun _ _ => rfl)) pa_nil)) (pa_cons pe_int (pa_cons pe_int pa_nil))))))))) pss_nil)
      (pss_cons (ps_set (i := 4) sc__law_fields.nd rfl (Or.inl rfl) (pe_0 c__law_power hr (by decide) (pa_cons (pv 0) (pa_cons (pe_ix ix_tup (pv 1) pe_int (fun _ _ => rfl)) pa_nil))))
      (C8.pss_cut (ps_set (i := 5) sc__law_fields.nd rfl (Or.inl rfl) (pe_and (pe_cmpR op_eq (pe_op op_mod (pe_ix ix_tup (pv 1) pe_int (fun _ _ => rfl)) (pv 4)) pe_int (nomark _)) (pe_one (pe_cmpR op_eq (pe_0 c__law_common hr (by decide) (pa_cons (pe_ix ix_tup (pv 1) pe_int (fun _ _ => rfl)) (pa_cons (pv 4) pa_nil))) pe_int (nomark _)))))
      (pss_one (ps_ret (pe_op op_cat (pe_lst (pa_cons (pe_callB call_abs (by rfl) T.n_abs b_abs (pa_cons (pe_op op_sub (pe_ix ix_tup (pv 1) pe_int (fun _ _ => rfl)) (pe_op op_mul (pe_ix ix_tup (pv 1) pe_int (fun _ _ => rfl)) (pv 4))) pa_nil)) (pa_cons (pe_callB call_abs (by rfl) T.n_abs b_abs (pa_cons (pe_ix ix_tup (pv 1) pe_int (fun _ _ => rfl)) pa_nil)) pa_nil))) (pe_ix ix_list (pe_lst (pa_cons (pe_lst (pa_cons pe_int (pa_cons pe_int pa_nil))) (pa_cons (pe_lst (pa_cons (pv 4) (pa_cons (pe_op op_fdivW (pe_callB call_abs (by rfl) T.n_abs b_abs (pa_cons (pe_ix ix_tup (pv 1) pe_int (fun _ _ => rfl)) pa_nil)) (pv 4)) pa_nil))) pa_nil))) (pe_callTy call_int1 (by rfl) T.n_int b_int (pa_cons (pv 5) pa_nil)) (fun _ _ => rfl)))))))), ?_⟩
    cases s with
    | weigh row =>
      obtain ⟨r, h1, h2⟩ := hs
      obtain ⟨o1, o2, o3⟩ := id ho
      have r0 : 0 < row.length := o1
      refine ⟨_, rfl, _, _, _, _, rfl, rfl, SqT.of h1, rfl, rfl, _, rfl, iteT' (by decide +kernel) ?_⟩
      refine ⟨_, rfl, _, rfl, _, _, _, _, rfl, rfl, SqT.of h1, rfl, r, _, rfl, .inr (SqT.of h2), _, _, rfl, ⟨by omega, by omega⟩, ⟨by rw [List.length_map]; omega, by rw [List.length_map]; omega⟩, _, _, rfl, rfl, ?_⟩
      have e0 : ((b : Int).toNat ^ ((row.map V.int).length : Int).toNat : Nat) - (1 : Int) = ((wnum b row 0 : Nat) : Int) := by
        rw [List.length_map, Int.toNat_natCast, Int.toNat_natCast, wnum]
        have : 0 < b ^ row.length := Nat.pow_pos (by omega)
        omega
      refine ⟨_, rfl, _, _, _, _, rfl, rfl, SqT.of h1, rfl, r, _, rfl, .inr (SqT.of h2), _, rfl, by omega, by rw [List.length_map]; omega, for_range (fun i σ H' => H' = H ∧ ∃ v3, σ = [some (.int b), some (.ref p), some (.int (wnum b row i : Nat)), v3, none, none]) ⟨rfl, none, ?_⟩ ?_ ?_⟩
      · show _ = [some (V.int (b : Int)), some (V.ref p), some (V.int ((wnum b row 0 : Nat) : Int)), none, none, none]
        rw [← e0]; rfl
      · rintro i σ H' hi ⟨rfl, v3, rfl⟩
        have hi' : i < row.length := by
          have := hi
          rw [List.length_map] at this
          omega
        have ri := o3 _ (rowIn hi')
        have r00 := o3 _ (rowIn r0)
        have z0 : (0 + (i : Int)) = (i : Int) := Int.zero_add _
        refine ⟨_, rfl, _, rfl, _, _, _, _, rfl, rfl, SqT.of h1, rfl, _, rfl, r, _, _, _, rfl, rfl, SqT.of h2, at_of (j := i) z0 (rowAt hi'), _, rfl, _, _, _, _, rfl, rfl, SqT.of h1, rfl, r, _, _, _, rfl, rfl, SqT.of h2, at_of (j := 0) rfl (rowAt r0), _, rfl, _, rfl, _, _, rfl, ⟨by omega, by omega⟩, ⟨by omega, by omega⟩, _, _, rfl, rfl, CMulS r00, _, _, rfl, rfl, _, _, rfl, rfl, some (.int (0 + (i : Int))), ?_⟩
        rw [z0]; rfl
      · rintro σ H' ⟨rfl, v3, rfl⟩
        refine ⟨_, rfl, _, rfl, _, _, _, _, rfl, rfl, SqT.of h1, rfl, r, _, _, _, rfl, rfl, SqT.of h2, at_of (j := 0) rfl (rowAt r0), _, rfl, (by show 4 ≤ sizeLine; decide), fun D hD => ?_⟩
        rw [abs_nat]
        refine kk D _ (same_new hD) ?_
        rw [upd_same]
        simp only [List.length_map]
        rfl
    | fold k x y =>
      have h1 : H p = _ := hs
      obtain ⟨o1, o2, o3, o4, o5⟩ := id ho
      have hP : 0 < b ^ k := Nat.pow_pos (by omega)
      have hPi : (0 : Int) < ((b ^ k : Nat) : Int) := by omega
      refine ⟨_, rfl, _, _, _, _, rfl, rfl, SqT.of h1, rfl, rfl, _, rfl, iteF' (by decide +kernel) (g_next ?_)⟩
      refine ⟨_, rfl, _, rfl, _, _, _, _, rfl, rfl, SqT.of h1, rfl, _, _, rfl, ⟨by omega, by omega⟩, ⟨by omega, by omega⟩, ?_⟩
      refine ⟨fun (σ' : L2.St) (H' : Hp) => H' = H ∧ σ' = [some (.int b), some (.ref p), none, none, some (.int ((b ^ k : Nat) : Int)), some (.bl (foldOdd (b ^ k) x y))], ?_, ?_⟩
      · refine ⟨_, rfl, _, _, _, _, rfl, rfl, SqT.of h1, rfl, _, rfl, _, _, rfl, rfl, hPi, rfl, _, rfl, ?_⟩
        simp only [Int.toNat_natCast, dec_int]
        by_cases c1 : x % ((b ^ k : Nat) : Int) = 0
        · refine iteT' (decide_eq_true c1) ⟨_, rfl, _, _, _, _, rfl, rfl, SqT.of h1, rfl, _, rfl, _, _, rfl, rfl, rfl, ?_⟩
          have e : foldOdd (b ^ k) x y = decide (((Int.gcd y ((b ^ k : Nat) : Int) : Nat) : Int) = 1) := by
            rw [foldOdd, decide_eq_true c1, Bool.true_and]
            exact decide_eq_decide.mpr ⟨fun h => by omega, fun h => by omega⟩
          rw [e]
          simp only [dec_int]
          rfl
        · refine iteF' (decide_eq_false c1) ⟨rfl, ?_⟩
          rw [foldOdd, decide_eq_false c1, Bool.false_and]; rfl
      · rintro σ' H' ⟨rfl, rfl⟩
        refine ⟨_, rfl, _, _, _, _, rfl, rfl, SqT.of h1, rfl, _, rfl, _, _, _, _, rfl, rfl, SqT.of h1, rfl, _, rfl, _, _, rfl, rfl, .inl ⟨by omega, by omega⟩, _, _, rfl, rfl, _, rfl, ?_⟩
        refine ⟨_, rfl, _, _, _, _, rfl, rfl, SqT.of h1, rfl, _, rfl, (by show 2 ≤ sizeLine; decide), fun D1 hD1 => ?_⟩
        have s1 := same_new (o := HO.lst [.int (if x - y * ((b ^ k : Nat) : Int) < 0 then -(x - y * ((b ^ k : Nat) : Int)) else x - y * ((b ^ k : Nat) : Int)), .int (if y < 0 then -y else y)]) hD1
        refine ⟨(by show 2 ≤ sizeLine; decide), fun D2 hD2 => ?_⟩
        have s2 := s1.trans (same_new (o := HO.lst [.int 0, .int 0]) hD2)
        have h2 := s2 _ _ h1
        refine ⟨_, rfl, _, rfl, _, _, _, _, rfl, rfl, SqT.of h2, rfl, _, rfl, _, rfl, _, _, rfl, rfl, wdiv hPi (by omega), (by show 2 ≤ sizeLine; decide), fun D3 hD3 => ⟨(by show 2 ≤ sizeLine; decide), fun D4 hD4 => ?_⟩⟩
        refine ⟨_, rfl, .inr ⟨_, rfl, ?_⟩⟩
        have a1 : (if x - y * ((b ^ k : Nat) : Int) < 0 then -(x - y * ((b ^ k : Nat) : Int)) else x - y * ((b ^ k : Nat) : Int)) = (((x - y * ((b ^ k : Nat) : Int)).natAbs : Nat) : Int) := abs_nat _
        have a2 : (if y < 0 then -y else y) = ((y.natAbs : Nat) : Int) := abs_nat _
        have a3 : (if x < 0 then -x else x) / ((b ^ k : Nat) : Int) = ((x.natAbs / b ^ k : Nat) : Int) := by rw [abs_nat]; rfl
        cases co : foldOdd (b ^ k) x y with
        | true =>
          refine ⟨D4, _, _, _, rfl, rfl, SqL.of upd_same, at_of (j := 1) rfl rfl, D1, D3, _, _, rfl, rfl, kept (kept (kept upd_same hD2) hD3) hD4, kept upd_same hD4, (by show 4 ≤ sizeLine; decide), fun D5 hD5 => ?_⟩
          refine kk D5 _ (((s2.trans (same_new hD3)).trans (same_new hD4)).trans (same_new hD5)) ?_
          rw [upd_same, a1, a2]
          dsimp only
          rw [a3]
          simp only [kN, kU, kP, kQ, co, if_true]
          rfl
        | false =>
          refine ⟨D4, _, _, _, rfl, rfl, SqL.of upd_same, at_of (j := 0) rfl rfl, D1, D2, _, _, rfl, rfl, kept (kept (kept upd_same hD2) hD3) hD4, kept (kept upd_same hD3) hD4, (by show 4 ≤ sizeLine; decide), fun D5 hD5 => ?_⟩
          refine kk D5 _ (((s2.trans (same_new hD3)).trans (same_new hD4)).trans (same_new hD5)) ?_
          rw [upd_same, a1, a2]
          simp only [kN, kU, kP, kQ, co, if_neg Bool.false_ne_true]
          rfl
end

end Fold
namespace Fold
open PySem PySem.Spec PyProof.Rows L2
/-- the law's promise -/
def spLaw (K : PySem.W.Frag) : Sp := fun vs H Q _ => ∃ (p : Addr) (ns : List Int), vs = [.ref p] ∧ SqL K H p (ns.map V.int) ∧ ns.length ≤ 63 ∧ ∀ H', Q (.bl true) H'

end Fold
namespace Fold
open PySem PySem.Spec PyProof.Rows L2
section
variable {P : Program} {w : World} {K : PySem.W.Frag} {mg : Str → Option Value} {base : Heap} {a : Ad}
theorem StepAt.updL {H : Hp} {p F : Addr} {s : Stp} {xs ys : List V} (hF : H F = some (.lst xs)) (h : StepAt H p s) : StepAt (upd H F (.lst ys)) p s := by
  have tp : ∀ {q : Addr} {zs : List V}, H q = some (.tup zs) → upd H F (.lst ys) q = some (.tup zs) := fun {q zs} e => by
    rw [upd_ne (ne_of e hF (fun z => nomatch z))]
    exact e
  cases s with
  | fold k x y => exact tp h
  | weigh row =>
    obtain ⟨r, e1, e2⟩ := h
    exact ⟨r, tp e1, tp e2⟩
theorem LotAt.updL {C : Addr} {H : Hp} {x F : Addr} {b : Nat} {s : Stp} {xs ys : List V} (hF : H F = some (.lst xs)) (h : LotAt C H x b s) : LotAt C (upd H F (.lst ys)) x b s := by
  obtain ⟨dx, e⟩ := h
  exact ⟨dx, by rw [upd_ne (ne_of e hF (fun z => nomatch z))]; exact e⟩
theorem inV'_pos {b : Nat} {s : Stp} {m : Nat} (h : 1 ≤ m) : inV' (kN b s) (kU s) (kP b s) (kQ b s) (.int (m : Int)) = inS b s m := by
  simp only [inV', inS, Int.toNat_natCast]
  rw [decide_eq_true (by omega), Bool.true_and]
def upS (b : Nat) (s : Stp) (N : Nat) : List V := upTo (kN b s) (kU s) (kP b s) (kQ b s) N
theorem upS_succ {b : Nat} {s : Stp} {i : Nat} : upS b s (i + 1) = if inS b s (i + 1) = true then upS b s i ++ [.int (1 + (i : Int))] else upS b s i := by
  simp only [upS, upTo, List.range_succ, List.filter_append, List.map_append]
  by_cases c : inK (kN b s) (kU s) (kP b s) (kQ b s) (i + 1) = true
  · have e : inS b s (i + 1) = true := c
    rw [if_pos e, List.filter_cons_of_pos (p := fun i => inK (kN b s) (kU s) (kP b s) (kQ b s) (i + 1)) c]; rfl
  · have e : ¬ inS b s (i + 1) = true := c
    rw [if_neg e, List.filter_cons_of_neg (p := fun i => inK (kN b s) (kU s) (kP b s) (kQ b s) (i + 1)) c]; simp
theorem upS_len {b : Nat} {s : Stp} {N : Nat} : (upS b s N).length ≤ N := by
  unfold upS upTo
  rw [List.length_map]
  refine Nat.le_trans (List.length_filter_le _ _) ?_
  rw [List.length_range]
  exact Nat.le_refl _
theorem upS_int {b : Nat} {s : Stp} {N : Nat} : upS b s N = (((List.range N).filter fun i => inK (kN b s) (kU s) (kP b s) (kQ b s) (i + 1)).map fun (i : Nat) => (1 + (i : Int))).map V.int := by
  rw [upS, upTo, List.map_map]; rfl
theorem law_fn {f : Addr} {fd : FuncData} (T : Txt K mg a) (F : Fun K "law" "law" s_law f fd) : FnOk P w K mg base CX0 7 f fd ["_law_script"] (spLaw K) := by
  have c__law_begin := ok__law_begin (P := P) (w := w) (base := base) T; have c__law_step := ok__law_step (P := P) (w := w) (base := base) T; have c_kept := ok_kept (P := P) (w := w) (base := base) T; have c__law_draw := ok__law_draw (P := P) (w := w) (base := base) T; have c__law_fields := ok__law_fields (P := P) (w := w) (base := base) T; have c__law_keeps := ok__law_keeps (P := P) (w := w) (base := base) T; have c__law_power := ok__law_power (P := P) (w := w) (base := base) T; have c_keeps := ok_keeps (P := P) (w := w) (base := base) T; have o_Kept_up_to := ok_Kept_up_to (P := P) (w := w) (base := base) T; have o_Kept___contains__ := ok_Kept___contains__ (P := P) (w := w) (base := base) T
  refine F.ok sc_law (fun vs H Q E h => ?_) (fun cdv A outer s H vs Q E hr h => ?_)
  · obtain ⟨p, ns, rfl, _⟩ := h
    rfl
  · obtain ⟨sp, ns, rfl, hp, hn, k⟩ := h
    refine ⟨_, (pss_cons (ps_set (i := 1) sc_law.nd rfl (Or.inl rfl) (pe_0 c__law_begin hr (by decide) (pa_cons (pv 0) pa_nil)))
      (pss_cons (ps_set (i := 2) sc_law.nd rfl (Or.inl rfl) (pe_op op_add pe_int (pe_0 c__law_draw hr (by decide) (pa_cons (pv 1) (pa_cons pe_int pa_nil)))))
      (pss_cons (ps_set (i := 3) sc_law.nd rfl (Or.inl rfl) (pe_0 c__law_step hr (by decide) (pa_cons (pv 1) (pa_cons (pv 2) pa_nil))))
      (pss_cons (ps_set (i := 4) sc_law.nd rfl (Or.inl rfl) (pe_10 c_kept hr (by decide) (pa_cons (pv 2) (pa_cons (pv 3) pa_nil))))
      (pss_cons (ps_if (pt_cmpR (op_neD (hu64 hr)) (pe_lst (pa_cons (pe_fld (pv 4) rfl) (pa_cons (pe_fld (pv 4) rfl) (pa_cons (pe_fld (pv 4) rfl) (pa_cons (pe_fld (pv 4) rfl) pa_nil))))) (pe_0 c__law_fields hr (by decide) (pa_cons (pv 2) (pa_cons (pv 3) pa_nil))) (nomark _)) (pss_one (ps_ret pe_bl)) pss_nil)
      (C8.pss_cut (ps_set (i := 5) sc_law.nd rfl (Or.inl rfl) (pe_ix ix_list (pe_lst (pa_cons pe_int (pa_cons pe_int pa_nil))) (pe_callTy call_int1 (by rfl) T.n_int b_int (pa_cons (pe_cmpR op_eq (pe_ix ix_tup (pv 3) pe_int (fun _ _ => rfl)) pe_str (nomark _)) pa_nil)) (fun _ _ => rfl)))
      (pss_cons (ps_set (i := 6) sc_law.nd rfl (Or.inl rfl) (pe_lst pa_nil))
      (pss_cons (ps_for PassesOwn.never rfl (pi_range2 (by rfl) T.n_range (pa_cons pe_int (pa_cons (pe_op op_add (pv 5) pe_int) pa_nil))) (pg_name (i := 7) sc_law.nd rfl (Or.inl rfl)) (pss_cons (ps_set (i := 8) sc_law.nd rfl (Or.inl rfl) (pe_0 c__law_keeps hr (by decide) (pa_cons (pv 2) (pa_cons (pv 3) (pa_cons (pv 7) pa_nil)))))
      (pss_cons (ps_if (pw_or (pt_cmpR op_ne (pe_10 c_keeps hr (by decide) (pa_cons (pv 2) (pa_cons (pv 3) (pa_cons (pv 7) pa_nil)))) (pv 8) (nomark _)) (pw_or1 (pt_cmpR op_ne (pe_cmpR (op_inOwn o_Kept___contains__ hr (by decide)) (pv 7) (pv 4) (by with_unfolding_all rfl)) (pv 8) (nomark _)))).pt (pss_one (ps_ret pe_bl)) pss_nil)
      (pss_one (ps_if (pt_val (pv 8)) (pss_one (ps_expr (pe_bm PySem.F.plainAttrs_list PySem.F.slot_list_append PySem.F.type_list_append mt_append (pv 6) (pa_cons (pv 7) pa_nil)))) pss_nil)))))
      (pss_cons (ps_for PassesOwn.never rfl (pi_list (pe_lst (pa_cons (pe_0 c__law_power hr (by decide) (pa_cons (pv 2) (pa_cons pe_int pa_nil))) (pa_cons (pe_op op_sub (pe_0 c__law_power hr (by decide) (pa_cons (pv 2) (pa_cons pe_int pa_nil))) pe_int) (pa_cons (pe_op op_mul pe_int (pv 2)) pa_nil))))) (pg_name (i := 7) sc_law.nd rfl (Or.inl rfl)) (pss_one (ps_if (pw_and (pt_cmpR op_eq (pe_ix ix_tup (pv 3) pe_int (fun _ _ => rfl)) pe_str (nomark _)) (pw_and1 (pt_cmpR op_ne (pe_10 c_keeps hr (by decide) (pa_cons (pv 2) (pa_cons (pv 3) (pa_cons (pv 7) pa_nil)))) (pe_0 c__law_keeps hr (by decide) (pa_cons (pv 2) (pa_cons (pv 3) (pa_cons (pv 7) pa_nil)))) (nomark _)))).pt (pss_one (ps_ret pe_bl)) pss_nil)))
      (pss_one (ps_ret (pe_and (pe_not (pe_10 c_keeps hr (by decide) (pa_cons (pv 2) (pa_cons (pv 3) (pa_cons pe_int pa_nil))))) (pe_one (pe_cmpR (op_eqD (hu64 hr)) (pe_o0 o_Kept_up_to hr (by decide) (pv 4) T.cl_Kept.cl (pa_cons (pv 5) pa_nil)) (pv 6) (nomark _))))))))))))))), ?_⟩
    refine ⟨_, rfl, sp, ns, rfl, hp, fun d l H1 d0 s1 hD1 => ?_⟩
    refine ⟨_, rfl, d, l, _, rfl, by decide, hD1, fun rb H2 b0 b1 hD2 u2 => ⟨_, _, rfl, rfl, ?_⟩⟩
    obtain ⟨rb, rfl⟩ := Int.eq_ofNat_of_zero_le b0
    show tSeq _ _ _ [some (V.ref sp), some (V.ref d), some (V.int (2 + (rb : Int))), none, none, none, none, none, none] H2
    have hb : 2 ≤ 2 + rb ∧ 2 + rb ≤ 12 := by omega
    rw [show (2 + (rb : Int)) = ((2 + rb : Nat) : Int) by omega]
    clear b0 b1
    revert hb
    generalize 2 + rb = b
    intro hb
    have hbi : (2 : Int) ≤ (b : Int) ∧ (b : Int) ≤ 12 := by omega
    refine ⟨_, rfl, _, rfl, d, l, _, rfl, hbi, hD2, fun p st H3 hp3 hS hO hL hD3 u3 => ?_⟩
    have hO' : OkS b st := hO
    refine ⟨_, rfl, _, rfl, _, _, rfl, ⟨_, .int _⟩, hS.known, fun _ => ⟨b, p, st, rfl, rfl, hb, hS, hO', fun x H4 hx s4 => ?_⟩, fun c => ?_⟩
    rotate_left
    · rw [hS.okI hbi hO] at c
      cases c
    have hS4 := hS.mono s4
    clear hS s4 u3 hD3 hp3 hL u2 hD2
    obtain ⟨dx, hx'⟩ := id hx
    refine ⟨_, rfl, x, a.Kept, dx, _, _, rfl, hx', T.cl_Kept.cl, T.cl_Kept.na.1, kf_number _ _ _ _, _, rfl, x, a.Kept, dx, _, _, rfl, hx', T.cl_Kept.cl, T.cl_Kept.na.2.1, kf_unit _ _ _ _, _, rfl, x, a.Kept, dx, _, _, rfl, hx', T.cl_Kept.cl, T.cl_Kept.na.2.2.1, kf_power _ _ _ _, _, rfl, x, a.Kept, dx, _, _, rfl, hx', T.cl_Kept.cl, T.cl_Kept.na.2.2.2.1, kf_part _ _ _ _, (by show 4 ≤ sizeLine; decide), fun D hD => ?_⟩
    have sD := same_new (o := HO.lst [.int (kN b st : Nat), .int (kU st : Nat), .int (kP b st : Nat), .int (kQ b st : Nat)]) hD
    have hDD : upd H4 D (HO.lst [.int (kN b st : Nat), .int (kU st : Nat), .int (kP b st : Nat), .int (kQ b st : Nat)]) D = some (.lst [.int (kN b st : Nat), .int (kU st : Nat), .int (kP b st : Nat), .int (kQ b st : Nat)]) := upd_same
    refine ⟨_, rfl, _, rfl, b, p, st, rfl, hb, hS4.mono sD, hO', fun D2 H5 s5 hD2 => ?_⟩
    refine ⟨_, _, iD_dp (ns := [(kN b st : Nat), (kU st : Nat), (kP b st : Nat), (kQ b st : Nat)]) (SqL.of (s5 _ _ hDD)), iD_dp (ns := [(kN b st : Nat), (kU st : Nat), (kP b st : Nat), (kQ b st : Nat)]) (SqL.of hD2), iD_shaped _, iD_shaped _, _, rfl, ?_⟩
    rw [iD_eqv, decide_eq_true rfl]
    refine iteF' rfl (g_next ?_)
    have hS5 := (hS4.mono sD).mono s5
    have hx5 := (hx.mono sD).mono s5
    clear hDD hD2 sD hx' hx hS4
    refine ⟨fun (σ' : L2.St) (H' : Hp) => ∃ top : Nat, 16 ≤ top ∧ top ≤ 40 ∧ (∀ row, st = .weigh row → top = 16) ∧ StepAt H' p st ∧ LotAt a.Kept H' x b st ∧ σ' = [some (.ref sp), some (.ref d), some (.int b), some (.ref p), some (.ref x), some (.int top), none, none, none], ?_, ?_⟩
    · refine ⟨(by show 2 ≤ sizeLine; decide), fun D3 hD3 => ?_⟩
      have hS6 := hS5.mono (same_new (o := HO.lst [.int 40, .int 16]) hD3)
      have hx6 := hx5.mono (same_new (o := HO.lst [.int 40, .int 16]) hD3)
      cases st with
      | weigh row =>
        obtain ⟨r, h1, h2⟩ := id hS6
        exact ⟨_, rfl, _, _, _, _, rfl, rfl, SqT.of h1, rfl, rfl, .inr ⟨_, rfl, D3, _, _, _, rfl, rfl, SqL.of upd_same, at_of (j := 1) rfl rfl, 16, by omega, by omega, fun _ _ => rfl, hS6, hx6, rfl⟩⟩
      | fold kk xx yy =>
        have h1 : upd H5 D3 _ p = _ := hS6
        exact ⟨_, rfl, _, _, _, _, rfl, rfl, SqT.of h1, rfl, rfl, .inr ⟨_, rfl, D3, _, _, _, rfl, rfl, SqL.of upd_same, at_of (j := 0) rfl rfl, 40, by omega, by omega, fun _ e => (nomatch e), hS6, hx6, rfl⟩⟩
    rintro σ' H6 ⟨top, t1, t2, t3, hS6, hx6, rfl⟩
    clear hS5 hx5 s5
    refine ⟨Nat.zero_le _, fun G hG => ?_⟩
    have hS7 := hS6.mono (same_new (o := HO.lst []) hG)
    have hx7 := hx6.mono (same_new (o := HO.lst []) hG)
    refine ⟨_, rfl, _, _, rfl, rfl, _, _, rfl, ⟨by omega, by omega, by omega, by omega⟩, for_range (fun i σ H' => StepAt H' p st ∧ LotAt a.Kept H' x b st ∧ H' G = some (.lst (upS b st i)) ∧ ∃ v7 v8, σ = [some (.ref sp), some (.ref d), some (.int b), some (.ref p), some (.ref x), some (.int top), some (.ref G), v7, v8]) ⟨hS7, hx7, upd_same, none, none, rfl⟩ ?_ ?_⟩
    · rintro i σ H' hi ⟨hS, hx, hG', v7, v8, rfl⟩
      have em : (1 + (i : Int)) = ((i + 1 : Nat) : Int) := by omega
      have hit : i < top := by omega
      have iv : inV' (kN b st) (kU st) (kP b st) (kQ b st) (.int (1 + (i : Int))) = inS b st (i + 1) := by rw [em]; exact inV'_pos (by omega)
      refine ⟨_, rfl, _, rfl, _, rfl, b, p, st, i + 1, by rw [← em]; rfl, hb, hS, hO', by omega, by omega, fun row e => by have := t3 row e; omega, fun H8 s8 => ?_⟩
      have hS8 := hS.mono s8
      refine ⟨_, rfl, _, rfl, _, rfl, _, _, _, rfl, ⟨_, .int _⟩, hS8.known, ⟨_, .int _⟩, fun j e => by injection e with e; omega, fun _ => ⟨b, p, st, rfl, rfl, hb, hS8, hO', fun H9 s9 => ?_⟩, fun c => ?_⟩
      rotate_left
      · rw [hS8.okI hbi hO] at c
        cases c
      have hx9 := (hx.mono s8).mono s9
      obtain ⟨dx9, hx9'⟩ := id hx9
      rw [iv]
      refine ⟨_, rfl, rfl, _, rfl, ?_⟩
      rw [decide_eq_true rfl]
      refine iteF' rfl ⟨_, rfl, _, rfl, x, dx9, _, rfl, hx9', x, _, _, _, _, _, rfl, hx9, ⟨_, .int _⟩, fun j e => by injection e with e; omega, kP_lt hO', _, rfl, _, rfl, rfl, _, rfl, ?_⟩
      rw [iv]
      refine iteF' ?_ (g_next ?_)
      · simp
      have hS9 := hS8.mono s9
      have hG9 := s9 _ _ (s8 _ _ hG')
      refine ⟨_, rfl, _, rfl, ?_⟩
      by_cases c : inS b st (i + 1) = true
      · refine iteT' c ?_
        refine ⟨_, rfl, .inl ⟨rfl, _, SqL.of hG9⟩, _, rfl, G, _, _, rfl, rfl, hG9, Nat.lt_of_le_of_lt (Nat.le_trans upS_len (by omega : i ≤ 1000)) (by decide), hS9.updL hG9, hx9.updL hG9, ?_, _, _, rfl⟩
        rw [upd_same, upS_succ, if_pos c]
      · refine iteF' (by simpa using c) ⟨hS9, hx9, ?_, _, _, rfl⟩
        rw [hG9, upS_succ, if_neg c]
    · rintro σ H' ⟨hS, hx, hG', v7, v8, rfl⟩
      rw [show ((top : Int) + 1 - 1).toNat = top by omega] at hG'
      have p2 : b ^ 2 ≤ 144 := by
        have := Nat.pow_le_pow_left hb.2 2
        omega
      have p2' : 4 ≤ b ^ 2 := by
        have := Nat.pow_le_pow_left hb.1 2
        omega
      refine ⟨_, rfl, _, _, rfl, ⟨by omega, by omega⟩, ⟨by omega, by omega⟩, _, rfl, _, _, rfl, ⟨by omega, by omega⟩, ⟨by omega, by omega⟩, _, _, rfl, rfl, _, rfl, _, _, rfl, rfl, .inr ⟨by omega, by omega⟩, (by show 3 ≤ sizeLine; decide), fun L3 hL3 => ?_⟩
      have s3 := same_new (o := HO.lst [.int ((Int.toNat (b : Int) ^ Int.toNat 2 : Nat) : Int), .int (((Int.toNat (b : Int) ^ Int.toNat 2 : Nat) : Int) - 1), .int (6 * (b : Int))]) hL3
      refine ⟨L3, rfl, ⟨_, SqL.of upd_same⟩, for_list (xs := [.int ((Int.toNat (b : Int) ^ Int.toNat 2 : Nat) : Int), .int (((Int.toNat (b : Int) ^ Int.toNat 2 : Nat) : Int) - 1), .int (6 * (b : Int))]) (fun i σ H' => StepAt H' p st ∧ LotAt a.Kept H' x b st ∧ H' G = some (.lst (upS b st top)) ∧ H' L3 = some (.lst [.int ((Int.toNat (b : Int) ^ Int.toNat 2 : Nat) : Int), .int (((Int.toNat (b : Int) ^ Int.toNat 2 : Nat) : Int) - 1), .int (6 * (b : Int))]) ∧ ∃ v7 v8, σ = [some (.ref sp), some (.ref d), some (.int b), some (.ref p), some (.ref x), some (.int top), some (.ref G), v7, v8]) ⟨hS.mono s3, hx.mono s3, s3 _ _ hG', upd_same, v7, v8, rfl⟩ ?_ ?_ ?_⟩
      · rintro i σ H' _ ⟨_, _, _, h, _⟩
        exact SqL.of h
      · rintro i v σ H' hv ⟨hS, hx, hG', hL', v7, v8, rfl⟩
        obtain ⟨M, rfl, M1, M2⟩ : ∃ M : Nat, v = .int (M : Int) ∧ 1 ≤ M ∧ M < 1000 := by
          have m := List.mem_of_getElem? hv
          have e2 : Int.toNat 2 = 2 := rfl
          rw [e2, Int.toNat_natCast] at m
          simp only [List.mem_cons, List.not_mem_nil, or_false] at m
          rcases m with rfl | rfl | rfl
          · exact ⟨b ^ 2, rfl, by omega, by omega⟩
          · exact ⟨b ^ 2 - 1, by congr 1; omega, by omega, by omega⟩
          · exact ⟨6 * b, by congr 1, by omega, by omega⟩
        cases st with
        | weigh row =>
          obtain ⟨r, h1, h2⟩ := id hS
          exact ⟨_, rfl, _, _, _, _, rfl, rfl, SqT.of h1, rfl, rfl, _, rfl, iteF' (by decide +kernel) (iteF ⟨hS, hx, hG', hL', _, _, rfl⟩)⟩
        | fold kk xx yy =>
          have h1 : H' p = _ := hS
          refine ⟨_, rfl, _, _, _, _, rfl, rfl, SqT.of h1, rfl, rfl, _, rfl, iteT' (by decide +kernel) ?_⟩
          refine ⟨_, rfl, _, rfl, _, rfl, _, _, _, rfl, ⟨_, .int _⟩, hS.known, ⟨_, .int _⟩, fun j e => by injection e with e; omega, fun _ => ⟨b, p, _, rfl, rfl, hb, hS, hO', fun H9 s9 => ?_⟩, fun c => ?_⟩
          rotate_left
          · rw [hS.okI hbi hO] at c
            cases c
          rw [inV'_pos M1]
          refine ⟨_, rfl, _, rfl, _, rfl, b, p, _, M, rfl, hb, hS.mono s9, hO', M1, M2, fun row e => (nomatch e), fun HA sA => ⟨rfl, _, rfl, ?_⟩⟩
          rw [decide_eq_true rfl]
          exact iteF' rfl ⟨(hS.mono s9).mono sA, (hx.mono s9).mono sA, sA _ _ (s9 _ _ hG'), sA _ _ (s9 _ _ hL'), _, _, rfl⟩
      · rintro σ H' ⟨hS, hx, hG', hL', v7, v8, rfl⟩
        refine ⟨_, rfl, _, rfl, _, _, _, rfl, ⟨_, .int _⟩, hS.known, ⟨_, .int _⟩, fun j e => by injection e with e; omega, fun _ => ⟨b, p, st, rfl, rfl, hb, hS, hO', fun H9 s9 => ?_⟩, fun c => ?_⟩
        rotate_left
        · rw [hS.okI hbi hO] at c
          cases c
        have hx9 := hx.mono s9
        obtain ⟨dx9, hx9'⟩ := id hx9
        have hG9 := s9 _ _ hG'
        refine ⟨_, rfl, _, rfl, iteT' rfl ?_⟩
        refine ⟨_, rfl, x, dx9, _, rfl, hx9', kf_no _ _ _ _ (by decide +kernel) (by decide +kernel) (by decide +kernel) (by decide +kernel), _, rfl, x, top, _, _, _, _, rfl, hx9, kP_lt hO', by omega, fun DD hDD => ?_⟩
        refine ⟨_, rfl, _, _, iD_dp (SqL.of (by rw [← upS_int]; exact upd_same)), iD_dp (SqL.of (by rw [← upS_int]; exact same_new (o := HO.lst (upS b st top)) hDD _ _ hG9)), iD_shaped _, iD_shaped _, ?_⟩
        rw [iD_eqv, decide_eq_true rfl]
        exact k _
end

end Fold
namespace Fold
open PySem PySem.Spec PyProof.Rows L2
theorem all_mk {l : PySem.W.OpenLaw} {w : World} {K : PySem.W.Frag} {h : Heap} {mg : Str → Option Value} {fa : Addr} (X : K.In h) (G : h.Ns mainGlobals mg) (hfa : mg "law" = some (.ref fa))
    {t_MOST_POWER : Tok}
    {t_MOST : Tok}
    {C_FoldError : Addr}
    {C_BadStep : Addr}
    {C_BadKept : Addr}
    {f_is_whole : Addr} {od_is_whole an_is_whole : Option Addr} {sl_is_whole : Array (Option Value)} {oc_is_whole kV_is_whole dc_is_whole pm_is_whole cd_is_whole ct_is_whole : Value}
    {f_power_of : Addr} {od_power_of an_power_of : Option Addr} {sl_power_of : Array (Option Value)} {oc_power_of kV_power_of dc_power_of pm_power_of cd_power_of ct_power_of : Value}
    {f_is_fold : Addr} {od_is_fold an_is_fold : Option Addr} {sl_is_fold : Array (Option Value)} {oc_is_fold kV_is_fold dc_is_fold pm_is_fold cd_is_fold ct_is_fold : Value}
    {f_is_weigh : Addr} {od_is_weigh an_is_weigh : Option Addr} {sl_is_weigh : Array (Option Value)} {oc_is_weigh kV_is_weigh dc_is_weigh pm_is_weigh cd_is_weigh ct_is_weigh : Value}
    {f_is_step : Addr} {od_is_step an_is_step : Option Addr} {sl_is_step : Array (Option Value)} {oc_is_step kV_is_step dc_is_step pm_is_step cd_is_step ct_is_step : Value}
    {f_check_step : Addr} {od_check_step an_check_step : Option Addr} {sl_check_step : Array (Option Value)} {oc_check_step kV_check_step dc_check_step pm_check_step cd_check_step ct_check_step : Value}
    {f_common : Addr} {od_common an_common : Option Addr} {sl_common : Array (Option Value)} {oc_common kV_common dc_common pm_common cd_common ct_common : Value}
    {f_is_number : Addr} {od_is_number an_is_number : Option Addr} {sl_is_number : Array (Option Value)} {oc_is_number kV_is_number dc_is_number pm_is_number cd_is_number ct_is_number : Value}
    {f_weigh_kept : Addr} {od_weigh_kept an_weigh_kept : Option Addr} {sl_weigh_kept : Array (Option Value)} {oc_weigh_kept kV_weigh_kept dc_weigh_kept pm_weigh_kept cd_weigh_kept ct_weigh_kept : Value}
    {f_fold_kept : Addr} {od_fold_kept an_fold_kept : Option Addr} {sl_fold_kept : Array (Option Value)} {oc_fold_kept kV_fold_kept dc_fold_kept pm_fold_kept cd_fold_kept ct_fold_kept : Value}
    {f_kept : Addr} {od_kept an_kept : Option Addr} {sl_kept : Array (Option Value)} {oc_kept kV_kept dc_kept pm_kept cd_kept ct_kept : Value}
    {f_keeps : Addr} {od_keeps an_keeps : Option Addr} {sl_keeps : Array (Option Value)} {oc_keeps kV_keeps dc_keeps pm_keeps cd_keeps ct_keeps : Value}
    {f__law_begin : Addr} {od__law_begin an__law_begin : Option Addr} {sl__law_begin : Array (Option Value)} {oc__law_begin kV__law_begin dc__law_begin pm__law_begin cd__law_begin ct__law_begin : Value}
    {f__law_draw : Addr} {od__law_draw an__law_draw : Option Addr} {sl__law_draw : Array (Option Value)} {oc__law_draw kV__law_draw dc__law_draw pm__law_draw cd__law_draw ct__law_draw : Value}
    {f__law_power : Addr} {od__law_power an__law_power : Option Addr} {sl__law_power : Array (Option Value)} {oc__law_power kV__law_power dc__law_power pm__law_power cd__law_power ct__law_power : Value}
    {f__law_step : Addr} {od__law_step an__law_step : Option Addr} {sl__law_step : Array (Option Value)} {oc__law_step kV__law_step dc__law_step pm__law_step cd__law_step ct__law_step : Value}
    {f__law_fold_keeps : Addr} {od__law_fold_keeps an__law_fold_keeps : Option Addr} {sl__law_fold_keeps : Array (Option Value)} {oc__law_fold_keeps kV__law_fold_keeps dc__law_fold_keeps pm__law_fold_keeps cd__law_fold_keeps ct__law_fold_keeps : Value}
    {f__law_weigh_keeps : Addr} {od__law_weigh_keeps an__law_weigh_keeps : Option Addr} {sl__law_weigh_keeps : Array (Option Value)} {oc__law_weigh_keeps kV__law_weigh_keeps dc__law_weigh_keeps pm__law_weigh_keeps cd__law_weigh_keeps ct__law_weigh_keeps : Value}
    {f__law_keeps : Addr} {od__law_keeps an__law_keeps : Option Addr} {sl__law_keeps : Array (Option Value)} {oc__law_keeps kV__law_keeps dc__law_keeps pm__law_keeps cd__law_keeps ct__law_keeps : Value}
    {f__law_common : Addr} {od__law_common an__law_common : Option Addr} {sl__law_common : Array (Option Value)} {oc__law_common kV__law_common dc__law_common pm__law_common cd__law_common ct__law_common : Value}
    {f__law_fields : Addr} {od__law_fields an__law_fields : Option Addr} {sl__law_fields : Array (Option Value)} {oc__law_fields kV__law_fields dc__law_fields pm__law_fields cd__law_fields ct__law_fields : Value}
    {f_law : Addr} {od_law an_law : Option Addr} {sl_law : Array (Option Value)} {oc_law kV_law dc_law pm_law cd_law ct_law : Value}
    {C_Kept : Addr}
    {f_Kept___init__ : Addr} {od_Kept___init__ an_Kept___init__ : Option Addr} {sl_Kept___init__ : Array (Option Value)} {oc_Kept___init__ kV_Kept___init__ dc_Kept___init__ pm_Kept___init__ cd_Kept___init__ ct_Kept___init__ : Value}
    {f_Kept___contains__ : Addr} {od_Kept___contains__ an_Kept___contains__ : Option Addr} {sl_Kept___contains__ : Array (Option Value)} {oc_Kept___contains__ kV_Kept___contains__ dc_Kept___contains__ pm_Kept___contains__ cd_Kept___contains__ ct_Kept___contains__ : Value}
    {f_Kept_up_to : Addr} {od_Kept_up_to an_Kept_up_to : Option Addr} {sl_Kept_up_to : Array (Option Value)} {oc_Kept_up_to kV_Kept_up_to dc_Kept_up_to pm_Kept_up_to cd_Kept_up_to ct_Kept_up_to : Value}
    (n_abs : PySem.W.nsIn K mainGlobals "abs" = some none)
    (n_all : PySem.W.nsIn K mainGlobals "all" = some none)
    (n_bool : PySem.W.nsIn K mainGlobals "bool" = some none)
    (n_enumerate : PySem.W.nsIn K mainGlobals "enumerate" = some none)
    (n_int : PySem.W.nsIn K mainGlobals "int" = some none)
    (n_isinstance : PySem.W.nsIn K mainGlobals "isinstance" = some none)
    (n_len : PySem.W.nsIn K mainGlobals "len" = some none)
    (n_list : PySem.W.nsIn K mainGlobals "list" = some none)
    (n_range : PySem.W.nsIn K mainGlobals "range" = some none)
    (n_str : PySem.W.nsIn K mainGlobals "str" = some none)
    (n_tuple : PySem.W.nsIn K mainGlobals "tuple" = some none)
    (g_MOST_POWER : PySem.W.nsIn K mainGlobals "MOST_POWER" = some (some (.int 60 t_MOST_POWER)))
    (g_MOST : PySem.W.nsIn K mainGlobals "MOST" = some (some (.int 12 t_MOST)))
    (gx_FoldError : PySem.W.nsIn K mainGlobals "FoldError" = some (some (.ref C_FoldError)))
    (xx_FoldError : PySem.W.excIn K C_FoldError veB "ValueError.__new__" = true)
    (kx_FoldError : PySem.W.keepIn K (.ref C_FoldError) = true)
    (bx_FoldError : PySem.W.subIn K (.ref C_FoldError) (.type "BaseException") = some true)
    (tx_FoldError : PySem.W.typeIn K (.ref C_FoldError) = some (.type "type"))
    (ix_FoldError : PySem.W.isClsIn K C_FoldError = true)
    (gx_BadStep : PySem.W.nsIn K mainGlobals "BadStep" = some (some (.ref C_BadStep)))
    (xx_BadStep : PySem.W.excIn K C_BadStep veB "ValueError.__new__" = true)
    (kx_BadStep : PySem.W.keepIn K (.ref C_BadStep) = true)
    (bx_BadStep : PySem.W.subIn K (.ref C_BadStep) (.type "BaseException") = some true)
    (tx_BadStep : PySem.W.typeIn K (.ref C_BadStep) = some (.type "type"))
    (ix_BadStep : PySem.W.isClsIn K C_BadStep = true)
    (gx_BadKept : PySem.W.nsIn K mainGlobals "BadKept" = some (some (.ref C_BadKept)))
    (xx_BadKept : PySem.W.excIn K C_BadKept veB "ValueError.__new__" = true)
    (kx_BadKept : PySem.W.keepIn K (.ref C_BadKept) = true)
    (bx_BadKept : PySem.W.subIn K (.ref C_BadKept) (.type "BaseException") = some true)
    (tx_BadKept : PySem.W.typeIn K (.ref C_BadKept) = some (.type "type"))
    (ix_BadKept : PySem.W.isClsIn K C_BadKept = true)
    (a_is_whole : PySem.W.nsIn K mainGlobals "is_whole" = some (some (.ref f_is_whole)))
    (l_is_whole : K.lookup f_is_whole = some ⟨oc_is_whole, od_is_whole, .func (PySem.W.fnOf "is_whole" "is_whole" (defArgs s_is_whole) (defBody s_is_whole) (defScope s_is_whole) .none kV_is_whole dc_is_whole pm_is_whole an_is_whole cd_is_whole ct_is_whole), sl_is_whole⟩)
    (c_is_whole : PySem.W.codeIn K cd_is_whole "is_whole" = true)
    (k_is_whole : PySem.W.keepIn K (.ref f_is_whole) = true)
    (a_power_of : PySem.W.nsIn K mainGlobals "power_of" = some (some (.ref f_power_of)))
    (l_power_of : K.lookup f_power_of = some ⟨oc_power_of, od_power_of, .func (PySem.W.fnOf "power_of" "power_of" (defArgs s_power_of) (defBody s_power_of) (defScope s_power_of) .none kV_power_of dc_power_of pm_power_of an_power_of cd_power_of ct_power_of), sl_power_of⟩)
    (c_power_of : PySem.W.codeIn K cd_power_of "power_of" = true)
    (k_power_of : PySem.W.keepIn K (.ref f_power_of) = true)
    (a_is_fold : PySem.W.nsIn K mainGlobals "is_fold" = some (some (.ref f_is_fold)))
    (l_is_fold : K.lookup f_is_fold = some ⟨oc_is_fold, od_is_fold, .func (PySem.W.fnOf "is_fold" "is_fold" (defArgs s_is_fold) (defBody s_is_fold) (defScope s_is_fold) .none kV_is_fold dc_is_fold pm_is_fold an_is_fold cd_is_fold ct_is_fold), sl_is_fold⟩)
    (c_is_fold : PySem.W.codeIn K cd_is_fold "is_fold" = true)
    (k_is_fold : PySem.W.keepIn K (.ref f_is_fold) = true)
    (a_is_weigh : PySem.W.nsIn K mainGlobals "is_weigh" = some (some (.ref f_is_weigh)))
    (l_is_weigh : K.lookup f_is_weigh = some ⟨oc_is_weigh, od_is_weigh, .func (PySem.W.fnOf "is_weigh" "is_weigh" (defArgs s_is_weigh) (defBody s_is_weigh) (defScope s_is_weigh) .none kV_is_weigh dc_is_weigh pm_is_weigh an_is_weigh cd_is_weigh ct_is_weigh), sl_is_weigh⟩)
    (c_is_weigh : PySem.W.codeIn K cd_is_weigh "is_weigh" = true)
    (k_is_weigh : PySem.W.keepIn K (.ref f_is_weigh) = true)
    (a_is_step : PySem.W.nsIn K mainGlobals "is_step" = some (some (.ref f_is_step)))
    (l_is_step : K.lookup f_is_step = some ⟨oc_is_step, od_is_step, .func (PySem.W.fnOf "is_step" "is_step" (defArgs s_is_step) (defBody s_is_step) (defScope s_is_step) .none kV_is_step dc_is_step pm_is_step an_is_step cd_is_step ct_is_step), sl_is_step⟩)
    (c_is_step : PySem.W.codeIn K cd_is_step "is_step" = true)
    (k_is_step : PySem.W.keepIn K (.ref f_is_step) = true)
    (a_check_step : PySem.W.nsIn K mainGlobals "check_step" = some (some (.ref f_check_step)))
    (l_check_step : K.lookup f_check_step = some ⟨oc_check_step, od_check_step, .func (PySem.W.fnOf "check_step" "check_step" (defArgs s_check_step) (defBody s_check_step) (defScope s_check_step) .none kV_check_step dc_check_step pm_check_step an_check_step cd_check_step ct_check_step), sl_check_step⟩)
    (c_check_step : PySem.W.codeIn K cd_check_step "check_step" = true)
    (k_check_step : PySem.W.keepIn K (.ref f_check_step) = true)
    (a_common : PySem.W.nsIn K mainGlobals "common" = some (some (.ref f_common)))
    (l_common : K.lookup f_common = some ⟨oc_common, od_common, .func (PySem.W.fnOf "common" "common" (defArgs s_common) (defBody s_common) (defScope s_common) .none kV_common dc_common pm_common an_common cd_common ct_common), sl_common⟩)
    (c_common : PySem.W.codeIn K cd_common "common" = true)
    (k_common : PySem.W.keepIn K (.ref f_common) = true)
    (a_is_number : PySem.W.nsIn K mainGlobals "is_number" = some (some (.ref f_is_number)))
    (l_is_number : K.lookup f_is_number = some ⟨oc_is_number, od_is_number, .func (PySem.W.fnOf "is_number" "is_number" (defArgs s_is_number) (defBody s_is_number) (defScope s_is_number) .none kV_is_number dc_is_number pm_is_number an_is_number cd_is_number ct_is_number), sl_is_number⟩)
    (c_is_number : PySem.W.codeIn K cd_is_number "is_number" = true)
    (k_is_number : PySem.W.keepIn K (.ref f_is_number) = true)
    (a_weigh_kept : PySem.W.nsIn K mainGlobals "weigh_kept" = some (some (.ref f_weigh_kept)))
    (l_weigh_kept : K.lookup f_weigh_kept = some ⟨oc_weigh_kept, od_weigh_kept, .func (PySem.W.fnOf "weigh_kept" "weigh_kept" (defArgs s_weigh_kept) (defBody s_weigh_kept) (defScope s_weigh_kept) .none kV_weigh_kept dc_weigh_kept pm_weigh_kept an_weigh_kept cd_weigh_kept ct_weigh_kept), sl_weigh_kept⟩)
    (c_weigh_kept : PySem.W.codeIn K cd_weigh_kept "weigh_kept" = true)
    (k_weigh_kept : PySem.W.keepIn K (.ref f_weigh_kept) = true)
    (a_fold_kept : PySem.W.nsIn K mainGlobals "fold_kept" = some (some (.ref f_fold_kept)))
    (l_fold_kept : K.lookup f_fold_kept = some ⟨oc_fold_kept, od_fold_kept, .func (PySem.W.fnOf "fold_kept" "fold_kept" (defArgs s_fold_kept) (defBody s_fold_kept) (defScope s_fold_kept) .none kV_fold_kept dc_fold_kept pm_fold_kept an_fold_kept cd_fold_kept ct_fold_kept), sl_fold_kept⟩)
    (c_fold_kept : PySem.W.codeIn K cd_fold_kept "fold_kept" = true)
    (k_fold_kept : PySem.W.keepIn K (.ref f_fold_kept) = true)
    (a_kept : PySem.W.nsIn K mainGlobals "kept" = some (some (.ref f_kept)))
    (l_kept : K.lookup f_kept = some ⟨oc_kept, od_kept, .func (PySem.W.fnOf "kept" "kept" (defArgs s_kept) (defBody s_kept) (defScope s_kept) .none kV_kept dc_kept pm_kept an_kept cd_kept ct_kept), sl_kept⟩)
    (c_kept : PySem.W.codeIn K cd_kept "kept" = true)
    (k_kept : PySem.W.keepIn K (.ref f_kept) = true)
    (a_keeps : PySem.W.nsIn K mainGlobals "keeps" = some (some (.ref f_keeps)))
    (l_keeps : K.lookup f_keeps = some ⟨oc_keeps, od_keeps, .func (PySem.W.fnOf "keeps" "keeps" (defArgs s_keeps) (defBody s_keeps) (defScope s_keeps) .none kV_keeps dc_keeps pm_keeps an_keeps cd_keeps ct_keeps), sl_keeps⟩)
    (c_keeps : PySem.W.codeIn K cd_keeps "keeps" = true)
    (k_keeps : PySem.W.keepIn K (.ref f_keeps) = true)
    (a__law_begin : PySem.W.nsIn K mainGlobals "_law_begin" = some (some (.ref f__law_begin)))
    (l__law_begin : K.lookup f__law_begin = some ⟨oc__law_begin, od__law_begin, .func (PySem.W.fnOf "_law_begin" "_law_begin" (defArgs s__law_begin) (defBody s__law_begin) (defScope s__law_begin) .none kV__law_begin dc__law_begin pm__law_begin an__law_begin cd__law_begin ct__law_begin), sl__law_begin⟩)
    (c__law_begin : PySem.W.codeIn K cd__law_begin "_law_begin" = true)
    (k__law_begin : PySem.W.keepIn K (.ref f__law_begin) = true)
    (a__law_draw : PySem.W.nsIn K mainGlobals "_law_draw" = some (some (.ref f__law_draw)))
    (l__law_draw : K.lookup f__law_draw = some ⟨oc__law_draw, od__law_draw, .func (PySem.W.fnOf "_law_draw" "_law_draw" (defArgs s__law_draw) (defBody s__law_draw) (defScope s__law_draw) .none kV__law_draw dc__law_draw pm__law_draw an__law_draw cd__law_draw ct__law_draw), sl__law_draw⟩)
    (c__law_draw : PySem.W.codeIn K cd__law_draw "_law_draw" = true)
    (k__law_draw : PySem.W.keepIn K (.ref f__law_draw) = true)
    (a__law_power : PySem.W.nsIn K mainGlobals "_law_power" = some (some (.ref f__law_power)))
    (l__law_power : K.lookup f__law_power = some ⟨oc__law_power, od__law_power, .func (PySem.W.fnOf "_law_power" "_law_power" (defArgs s__law_power) (defBody s__law_power) (defScope s__law_power) .none kV__law_power dc__law_power pm__law_power an__law_power cd__law_power ct__law_power), sl__law_power⟩)
    (c__law_power : PySem.W.codeIn K cd__law_power "_law_power" = true)
    (k__law_power : PySem.W.keepIn K (.ref f__law_power) = true)
    (a__law_step : PySem.W.nsIn K mainGlobals "_law_step" = some (some (.ref f__law_step)))
    (l__law_step : K.lookup f__law_step = some ⟨oc__law_step, od__law_step, .func (PySem.W.fnOf "_law_step" "_law_step" (defArgs s__law_step) (defBody s__law_step) (defScope s__law_step) .none kV__law_step dc__law_step pm__law_step an__law_step cd__law_step ct__law_step), sl__law_step⟩)
    (c__law_step : PySem.W.codeIn K cd__law_step "_law_step" = true)
    (k__law_step : PySem.W.keepIn K (.ref f__law_step) = true)
    (a__law_fold_keeps : PySem.W.nsIn K mainGlobals "_law_fold_keeps" = some (some (.ref f__law_fold_keeps)))
    (l__law_fold_keeps : K.lookup f__law_fold_keeps = some ⟨oc__law_fold_keeps, od__law_fold_keeps, .func (PySem.W.fnOf "_law_fold_keeps" "_law_fold_keeps" (defArgs s__law_fold_keeps) (defBody s__law_fold_keeps) (defScope s__law_fold_keeps) .none kV__law_fold_keeps dc__law_fold_keeps pm__law_fold_keeps an__law_fold_keeps cd__law_fold_keeps ct__law_fold_keeps), sl__law_fold_keeps⟩)
    (c__law_fold_keeps : PySem.W.codeIn K cd__law_fold_keeps "_law_fold_keeps" = true)
    (k__law_fold_keeps : PySem.W.keepIn K (.ref f__law_fold_keeps) = true)
    (a__law_weigh_keeps : PySem.W.nsIn K mainGlobals "_law_weigh_keeps" = some (some (.ref f__law_weigh_keeps)))
    (l__law_weigh_keeps : K.lookup f__law_weigh_keeps = some ⟨oc__law_weigh_keeps, od__law_weigh_keeps, .func (PySem.W.fnOf "_law_weigh_keeps" "_law_weigh_keeps" (defArgs s__law_weigh_keeps) (defBody s__law_weigh_keeps) (defScope s__law_weigh_keeps) .none kV__law_weigh_keeps dc__law_weigh_keeps pm__law_weigh_keeps an__law_weigh_keeps cd__law_weigh_keeps ct__law_weigh_keeps), sl__law_weigh_keeps⟩)
    (c__law_weigh_keeps : PySem.W.codeIn K cd__law_weigh_keeps "_law_weigh_keeps" = true)
    (k__law_weigh_keeps : PySem.W.keepIn K (.ref f__law_weigh_keeps) = true)
    (a__law_keeps : PySem.W.nsIn K mainGlobals "_law_keeps" = some (some (.ref f__law_keeps)))
    (l__law_keeps : K.lookup f__law_keeps = some ⟨oc__law_keeps, od__law_keeps, .func (PySem.W.fnOf "_law_keeps" "_law_keeps" (defArgs s__law_keeps) (defBody s__law_keeps) (defScope s__law_keeps) .none kV__law_keeps dc__law_keeps pm__law_keeps an__law_keeps cd__law_keeps ct__law_keeps), sl__law_keeps⟩)
    (c__law_keeps : PySem.W.codeIn K cd__law_keeps "_law_keeps" = true)
    (k__law_keeps : PySem.W.keepIn K (.ref f__law_keeps) = true)
    (a__law_common : PySem.W.nsIn K mainGlobals "_law_common" = some (some (.ref f__law_common)))
    (l__law_common : K.lookup f__law_common = some ⟨oc__law_common, od__law_common, .func (PySem.W.fnOf "_law_common" "_law_common" (defArgs s__law_common) (defBody s__law_common) (defScope s__law_common) .none kV__law_common dc__law_common pm__law_common an__law_common cd__law_common ct__law_common), sl__law_common⟩)
    (c__law_common : PySem.W.codeIn K cd__law_common "_law_common" = true)
    (k__law_common : PySem.W.keepIn K (.ref f__law_common) = true)
    (a__law_fields : PySem.W.nsIn K mainGlobals "_law_fields" = some (some (.ref f__law_fields)))
    (l__law_fields : K.lookup f__law_fields = some ⟨oc__law_fields, od__law_fields, .func (PySem.W.fnOf "_law_fields" "_law_fields" (defArgs s__law_fields) (defBody s__law_fields) (defScope s__law_fields) .none kV__law_fields dc__law_fields pm__law_fields an__law_fields cd__law_fields ct__law_fields), sl__law_fields⟩)
    (c__law_fields : PySem.W.codeIn K cd__law_fields "_law_fields" = true)
    (k__law_fields : PySem.W.keepIn K (.ref f__law_fields) = true)
    (a_law : PySem.W.nsIn K mainGlobals "law" = some (some (.ref f_law)))
    (l_law : K.lookup f_law = some ⟨oc_law, od_law, .func (PySem.W.fnOf "law" "law" (defArgs s_law) (defBody s_law) (defScope s_law) .none kV_law dc_law pm_law an_law cd_law ct_law), sl_law⟩)
    (c_law : PySem.W.codeIn K cd_law "law" = true)
    (k_law : PySem.W.keepIn K (.ref f_law) = true)
    (gc_Kept : PySem.W.nsIn K mainGlobals "Kept" = some (some (.ref C_Kept)))
    (pg_Kept : PySem.W.plainGet K C_Kept Str.empty = true)
    (hd_Kept : PySem.W.hasDictIn K C_Kept = true)
    (po_Kept : PySem.W.plainOver K C_Kept = true)
    (sa_Kept : PySem.W.findIn K (.ref C_Kept) "__setattr__" = some (some (.builtin "object.__setattr__")))
    (mk_Kept : PySem.W.makesIn K C_Kept = true)
    (kc_Kept : PySem.W.keepIn K (.ref C_Kept) = true)
    (na_Kept_number : PySem.W.findIn K (.ref C_Kept) "number" = some none)
    (na_Kept_unit : PySem.W.findIn K (.ref C_Kept) "unit" = some none)
    (na_Kept_power : PySem.W.findIn K (.ref C_Kept) "power" = some none)
    (na_Kept_part : PySem.W.findIn K (.ref C_Kept) "part" = some none)
    (a_Kept___init__ : PySem.W.findIn K (.ref C_Kept) "__init__" = some (some (.ref f_Kept___init__)))
    (l_Kept___init__ : K.lookup f_Kept___init__ = some ⟨oc_Kept___init__, od_Kept___init__, .func (PySem.W.fnOf "__init__" "Kept.__init__" (defArgs s_Kept___init__) (defBody s_Kept___init__) (defScope s_Kept___init__) .none kV_Kept___init__ dc_Kept___init__ pm_Kept___init__ an_Kept___init__ cd_Kept___init__ ct_Kept___init__), sl_Kept___init__⟩)
    (c_Kept___init__ : PySem.W.codeIn K cd_Kept___init__ "Kept.__init__" = true)
    (k_Kept___init__ : PySem.W.keepIn K (.ref f_Kept___init__) = true)
    (i_Kept___init__ : PySem.W.isFn K (.ref f_Kept___init__) = true)
    (a_Kept___contains__ : PySem.W.findIn K (.ref C_Kept) "__contains__" = some (some (.ref f_Kept___contains__)))
    (l_Kept___contains__ : K.lookup f_Kept___contains__ = some ⟨oc_Kept___contains__, od_Kept___contains__, .func (PySem.W.fnOf "__contains__" "Kept.__contains__" (defArgs s_Kept___contains__) (defBody s_Kept___contains__) (defScope s_Kept___contains__) .none kV_Kept___contains__ dc_Kept___contains__ pm_Kept___contains__ an_Kept___contains__ cd_Kept___contains__ ct_Kept___contains__), sl_Kept___contains__⟩)
    (c_Kept___contains__ : PySem.W.codeIn K cd_Kept___contains__ "Kept.__contains__" = true)
    (k_Kept___contains__ : PySem.W.keepIn K (.ref f_Kept___contains__) = true)
    (i_Kept___contains__ : PySem.W.isFn K (.ref f_Kept___contains__) = true)
    (a_Kept_up_to : PySem.W.findIn K (.ref C_Kept) "up_to" = some (some (.ref f_Kept_up_to)))
    (l_Kept_up_to : K.lookup f_Kept_up_to = some ⟨oc_Kept_up_to, od_Kept_up_to, .func (PySem.W.fnOf "up_to" "Kept.up_to" (defArgs s_Kept_up_to) (defBody s_Kept_up_to) (defScope s_Kept_up_to) .none kV_Kept_up_to dc_Kept_up_to pm_Kept_up_to an_Kept_up_to cd_Kept_up_to ct_Kept_up_to), sl_Kept_up_to⟩)
    (c_Kept_up_to : PySem.W.codeIn K cd_Kept_up_to "Kept.up_to" = true)
    (k_Kept_up_to : PySem.W.keepIn K (.ref f_Kept_up_to) = true)
    (i_Kept_up_to : PySem.W.isFn K (.ref f_Kept_up_to) = true) :
    ∃ fd : FuncData, (∀ (s : Shared) (v : Value), BindsTo s fd ⟨[v], []⟩ [("_law_script", v)]) ∧ ∀ base : Heap, K.In base → base.Ns mainGlobals mg → FnOk l.prog w K mg base CX0 7 fa fd ["_law_script"] (spLaw K) := by
  have e := hfa.symm.trans (PySem.W.mg_of X G a_law)
  cases e
  have T : Txt K mg ⟨C_FoldError, C_BadStep, C_BadKept, C_Kept⟩ := ⟨PySem.W.mg_none_of X G n_abs, PySem.W.mg_none_of X G n_all, PySem.W.mg_none_of X G n_bool, PySem.W.mg_none_of X G n_enumerate, PySem.W.mg_none_of X G n_int, PySem.W.mg_none_of X G n_isinstance, PySem.W.mg_none_of X G n_len, PySem.W.mg_none_of X G n_list, PySem.W.mg_none_of X G n_range, PySem.W.mg_none_of X G n_str, PySem.W.mg_none_of X G n_tuple, ⟨t_MOST_POWER, PySem.W.mg_of X G g_MOST_POWER⟩, ⟨t_MOST, PySem.W.mg_of X G g_MOST⟩, ⟨PySem.W.mg_of X G gx_FoldError, xx_FoldError, kx_FoldError, bx_FoldError, tx_FoldError, ix_FoldError⟩, ⟨PySem.W.mg_of X G gx_BadStep, xx_BadStep, kx_BadStep, bx_BadStep, tx_BadStep, ix_BadStep⟩, ⟨PySem.W.mg_of X G gx_BadKept, xx_BadKept, kx_BadKept, bx_BadKept, tx_BadKept, ix_BadKept⟩, ⟨_, _, fun_mk (st := s_is_whole) l_is_whole c_is_whole k_is_whole, PySem.W.mg_of X G a_is_whole, (fun_mk (st := s_is_whole) l_is_whole c_is_whole k_is_whole).binds (ps := ["thing", "least", "most"]) fun _ _ _ _ _ _ us hl => match us, hl with | [_, _, _], _ => rfl⟩, ⟨_, _, fun_mk (st := s_power_of) l_power_of c_power_of k_power_of, PySem.W.mg_of X G a_power_of, (fun_mk (st := s_power_of) l_power_of c_power_of k_power_of).binds (ps := ["base", "times"]) fun _ _ _ _ _ _ us hl => match us, hl with | [_, _], _ => rfl⟩, ⟨_, _, fun_mk (st := s_is_fold) l_is_fold c_is_fold k_is_fold, PySem.W.mg_of X G a_is_fold, (fun_mk (st := s_is_fold) l_is_fold c_is_fold k_is_fold).binds (ps := ["base", "thing"]) fun _ _ _ _ _ _ us hl => match us, hl with | [_, _], _ => rfl⟩, ⟨_, _, fun_mk (st := s_is_weigh) l_is_weigh c_is_weigh k_is_weigh, PySem.W.mg_of X G a_is_weigh, (fun_mk (st := s_is_weigh) l_is_weigh c_is_weigh k_is_weigh).binds (ps := ["thing"]) fun _ _ _ _ _ _ us hl => match us, hl with | [_], _ => rfl⟩, ⟨_, _, fun_mk (st := s_is_step) l_is_step c_is_step k_is_step, PySem.W.mg_of X G a_is_step, (fun_mk (st := s_is_step) l_is_step c_is_step k_is_step).binds (ps := ["base", "thing"]) fun _ _ _ _ _ _ us hl => match us, hl with | [_, _], _ => rfl⟩, ⟨_, _, fun_mk (st := s_check_step) l_check_step c_check_step k_check_step, PySem.W.mg_of X G a_check_step, (fun_mk (st := s_check_step) l_check_step c_check_step k_check_step).binds (ps := ["base", "step"]) fun _ _ _ _ _ _ us hl => match us, hl with | [_, _], _ => rfl⟩, ⟨_, _, fun_mk (st := s_common) l_common c_common k_common, PySem.W.mg_of X G a_common, (fun_mk (st := s_common) l_common c_common k_common).binds (ps := ["one", "other"]) fun _ _ _ _ _ _ us hl => match us, hl with | [_, _], _ => rfl⟩, ⟨_, _, fun_mk (st := s_is_number) l_is_number c_is_number k_is_number, PySem.W.mg_of X G a_is_number, (fun_mk (st := s_is_number) l_is_number c_is_number k_is_number).binds (ps := ["thing"]) fun _ _ _ _ _ _ us hl => match us, hl with | [_], _ => rfl⟩, ⟨_, _, fun_mk (st := s_weigh_kept) l_weigh_kept c_weigh_kept k_weigh_kept, PySem.W.mg_of X G a_weigh_kept, (fun_mk (st := s_weigh_kept) l_weigh_kept c_weigh_kept k_weigh_kept).binds (ps := ["base", "row"]) fun _ _ _ _ _ _ us hl => match us, hl with | [_, _], _ => rfl⟩, ⟨_, _, fun_mk (st := s_fold_kept) l_fold_kept c_fold_kept k_fold_kept, PySem.W.mg_of X G a_fold_kept, (fun_mk (st := s_fold_kept) l_fold_kept c_fold_kept k_fold_kept).binds (ps := ["base", "k", "x", "y"]) fun _ _ _ _ _ _ us hl => match us, hl with | [_, _, _, _], _ => rfl⟩, ⟨_, _, fun_mk (st := s_kept) l_kept c_kept k_kept, PySem.W.mg_of X G a_kept, (fun_mk (st := s_kept) l_kept c_kept k_kept).binds (ps := ["base", "step"]) fun _ _ _ _ _ _ us hl => match us, hl with | [_, _], _ => rfl⟩, ⟨_, _, fun_mk (st := s_keeps) l_keeps c_keeps k_keeps, PySem.W.mg_of X G a_keeps, (fun_mk (st := s_keeps) l_keeps c_keeps k_keeps).binds (ps := ["base", "step", "m"]) fun _ _ _ _ _ _ us hl => match us, hl with | [_, _, _], _ => rfl⟩, ⟨_, _, fun_mk (st := s__law_begin) l__law_begin c__law_begin k__law_begin, PySem.W.mg_of X G a__law_begin, (fun_mk (st := s__law_begin) l__law_begin c__law_begin k__law_begin).binds (ps := ["_law_script"]) fun _ _ _ _ _ _ us hl => match us, hl with | [_], _ => rfl⟩, ⟨_, _, fun_mk (st := s__law_draw) l__law_draw c__law_draw k__law_draw, PySem.W.mg_of X G a__law_draw, (fun_mk (st := s__law_draw) l__law_draw c__law_draw k__law_draw).binds (ps := ["_law_draws", "_law_size"]) fun _ _ _ _ _ _ us hl => match us, hl with | [_, _], _ => rfl⟩, ⟨_, _, fun_mk (st := s__law_power) l__law_power c__law_power k__law_power, PySem.W.mg_of X G a__law_power, (fun_mk (st := s__law_power) l__law_power c__law_power k__law_power).binds (ps := ["_law_base", "_law_times"]) fun _ _ _ _ _ _ us hl => match us, hl with | [_, _], _ => rfl⟩, ⟨_, _, fun_mk (st := s__law_step) l__law_step c__law_step k__law_step, PySem.W.mg_of X G a__law_step, (fun_mk (st := s__law_step) l__law_step c__law_step k__law_step).binds (ps := ["_law_draws", "_law_base"]) fun _ _ _ _ _ _ us hl => match us, hl with | [_, _], _ => rfl⟩, ⟨_, _, fun_mk (st := s__law_fold_keeps) l__law_fold_keeps c__law_fold_keeps k__law_fold_keeps, PySem.W.mg_of X G a__law_fold_keeps, (fun_mk (st := s__law_fold_keeps) l__law_fold_keeps c__law_fold_keeps k__law_fold_keeps).binds (ps := ["_law_base", "_law_step_here", "_law_m"]) fun _ _ _ _ _ _ us hl => match us, hl with | [_, _, _], _ => rfl⟩, ⟨_, _, fun_mk (st := s__law_weigh_keeps) l__law_weigh_keeps c__law_weigh_keeps k__law_weigh_keeps, PySem.W.mg_of X G a__law_weigh_keeps, (fun_mk (st := s__law_weigh_keeps) l__law_weigh_keeps c__law_weigh_keeps k__law_weigh_keeps).binds (ps := ["_law_base", "_law_row", "_law_m"]) fun _ _ _ _ _ _ us hl => match us, hl with | [_, _, _], _ => rfl⟩, ⟨_, _, fun_mk (st := s__law_keeps) l__law_keeps c__law_keeps k__law_keeps, PySem.W.mg_of X G a__law_keeps, (fun_mk (st := s__law_keeps) l__law_keeps c__law_keeps k__law_keeps).binds (ps := ["_law_base", "_law_step_here", "_law_m"]) fun _ _ _ _ _ _ us hl => match us, hl with | [_, _, _], _ => rfl⟩, ⟨_, _, fun_mk (st := s__law_common) l__law_common c__law_common k__law_common, PySem.W.mg_of X G a__law_common, (fun_mk (st := s__law_common) l__law_common c__law_common k__law_common).binds (ps := ["_law_one", "_law_other"]) fun _ _ _ _ _ _ us hl => match us, hl with | [_, _], _ => rfl⟩, ⟨_, _, fun_mk (st := s__law_fields) l__law_fields c__law_fields k__law_fields, PySem.W.mg_of X G a__law_fields, (fun_mk (st := s__law_fields) l__law_fields c__law_fields k__law_fields).binds (ps := ["_law_base", "_law_step_here"]) fun _ _ _ _ _ _ us hl => match us, hl with | [_, _], _ => rfl⟩, ⟨_, _, fun_mk (st := s_law) l_law c_law k_law, PySem.W.mg_of X G a_law, (fun_mk (st := s_law) l_law c_law k_law).binds (ps := ["_law_script"]) fun _ _ _ _ _ _ us hl => match us, hl with | [_], _ => rfl⟩, ⟨⟨pg_Kept, hd_Kept, po_Kept, sa_Kept⟩, PySem.W.mg_of X G gc_Kept, mk_Kept, kc_Kept, na_all ⟨na_Kept_number, na_Kept_unit, na_Kept_power, na_Kept_part, trivial⟩⟩, ⟨_, _, fun_mk (st := s_Kept___init__) l_Kept___init__ c_Kept___init__ k_Kept___init__, a_Kept___init__, i_Kept___init__, (fun_mk (st := s_Kept___init__) l_Kept___init__ c_Kept___init__ k_Kept___init__).binds (ps := ["self", "number", "unit", "power", "part"]) fun _ _ _ _ _ _ us hl => match us, hl with | [_, _, _, _, _], _ => rfl⟩, ⟨_, _, fun_mk (st := s_Kept___contains__) l_Kept___contains__ c_Kept___contains__ k_Kept___contains__, a_Kept___contains__, i_Kept___contains__, (fun_mk (st := s_Kept___contains__) l_Kept___contains__ c_Kept___contains__ k_Kept___contains__).binds (ps := ["self", "m"]) fun _ _ _ _ _ _ us hl => match us, hl with | [_, _], _ => rfl⟩, ⟨_, _, fun_mk (st := s_Kept_up_to) l_Kept_up_to c_Kept_up_to k_Kept_up_to, a_Kept_up_to, i_Kept_up_to, (fun_mk (st := s_Kept_up_to) l_Kept_up_to c_Kept_up_to k_Kept_up_to).binds (ps := ["self", "most"]) fun _ _ _ _ _ _ us hl => match us, hl with | [_, _], _ => rfl⟩⟩
  exact ⟨PySem.W.fnOf "law" "law" (defArgs s_law) (defBody s_law) (defScope s_law) .none kV_law dc_law pm_law an_law cd_law ct_law, fun s v => .of_eq rfl, fun base _ _ => law_fn T (fun_mk (st := s_law) l_law c_law k_law)⟩
theorem walk {l : PySem.W.OpenLaw} {q : Program} {loose : List Str} {XP : (Str → Option Value) → Heap → Prop} {YP : World → Heap → Prop} {d : DefRec} {K : Params → PySem.W.Frag} (hn : l.most = some 63) (hdf : d.params.defaults = [])
    (hY : ∀ (w : World) (h : Heap), YP w h → (K w.params).In h)
    (F : ∀ (w : World) (mg : Str → Option Value) (fa : Addr) (h : Heap), (K w.params).In h → h.Ns mainGlobals mg → mg d.name = some (.ref fa) →
      ∃ fd : FuncData, (∀ (s : Shared) (u : Value), BindsTo s fd ⟨[u], []⟩ [("_law_script", u)]) ∧ ∀ base : Heap, (K w.params).In base → base.Ns mainGlobals mg → FnOk l.prog w (K w.params) mg base CX0 7 fa fd ["_law_script"] (spLaw (K w.params))) :
    PySem.W.WalkO q loose XP YP l.row.toRowW d [] (fun f vs => PySem.call f vs) :=
  L2.walk_of (n := 63) (k := 7) (x := "_law_script") (CX := fun _ => CX0) (sp := fun w => spLaw (K w.params)) hn (by decide) hdf ⟨rfl, by decide, by decide⟩ hY F (fun _ _ a ns hl _ hS => ⟨a, ns, rfl, hS, hl, fun _ => rfl⟩) fun _ _ _ _ _ z => z
end Fold
open PySem PySem.W PyProof.Rows
set_option maxRecDepth 100000 in
set_option maxHeartbeats 0 in
theorem PySem.Challenge.cw_figurefolds_k02_whole_kept_moduli_holds : PySem.Challenge.rw_figurefolds_k02_whole_kept_moduli.Holds := by
  w_on; o_law; k_head; (case hw => w_witness2)
  k_fill
  refine Fold.walk (l := PySem.Challenge.rw_figurefolds_k02_whole_kept_moduli) rfl rfl (fun w h Y => PySem.W.kIn_of Y) ?F
  case F =>
    intro w mg fa h KX G hmg
    refine' Fold.all_mk KX G hmg ?n_abs ?n_all ?n_bool ?n_enumerate ?n_int ?n_isinstance ?n_len ?n_list ?n_range ?n_str ?n_tuple ?g_MOST_POWER ?g_MOST ?gx_FoldError ?xx_FoldError ?kx_FoldError ?bx_FoldError ?tx_FoldError ?ix_FoldError ?gx_BadStep ?xx_BadStep ?kx_BadStep ?bx_BadStep ?tx_BadStep ?ix_BadStep ?gx_BadKept ?xx_BadKept ?kx_BadKept ?bx_BadKept ?tx_BadKept ?ix_BadKept ?a_is_whole ?l_is_whole ?c_is_whole ?k_is_whole ?a_power_of ?l_power_of ?c_power_of ?k_power_of ?a_is_fold ?l_is_fold ?c_is_fold ?k_is_fold ?a_is_weigh ?l_is_weigh ?c_is_weigh ?k_is_weigh ?a_is_step ?l_is_step ?c_is_step ?k_is_step ?a_check_step ?l_check_step ?c_check_step ?k_check_step ?a_common ?l_common ?c_common ?k_common ?a_is_number ?l_is_number ?c_is_number ?k_is_number ?a_weigh_kept ?l_weigh_kept ?c_weigh_kept ?k_weigh_kept ?a_fold_kept ?l_fold_kept ?c_fold_kept ?k_fold_kept ?a_kept ?l_kept ?c_kept ?k_kept ?a_keeps ?l_keeps ?c_keeps ?k_keeps ?a__law_begin ?l__law_begin ?c__law_begin ?k__law_begin ?a__law_draw ?l__law_draw ?c__law_draw ?k__law_draw ?a__law_power ?l__law_power ?c__law_power ?k__law_power ?a__law_step ?l__law_step ?c__law_step ?k__law_step ?a__law_fold_keeps ?l__law_fold_keeps ?c__law_fold_keeps ?k__law_fold_keeps ?a__law_weigh_keeps ?l__law_weigh_keeps ?c__law_weigh_keeps ?k__law_weigh_keeps ?a__law_keeps ?l__law_keeps ?c__law_keeps ?k__law_keeps ?a__law_common ?l__law_common ?c__law_common ?k__law_common ?a__law_fields ?l__law_fields ?c__law_fields ?k__law_fields ?a_law ?l_law ?c_law ?k_law ?gc_Kept ?pg_Kept ?hd_Kept ?po_Kept ?sa_Kept ?mk_Kept ?kc_Kept ?na_Kept_number ?na_Kept_unit ?na_Kept_power ?na_Kept_part ?a_Kept___init__ ?l_Kept___init__ ?c_Kept___init__ ?k_Kept___init__ ?i_Kept___init__ ?a_Kept___contains__ ?l_Kept___contains__ ?c_Kept___contains__ ?k_Kept___contains__ ?i_Kept___contains__ ?a_Kept_up_to ?l_Kept_up_to ?c_Kept_up_to ?k_Kept_up_to ?i_Kept_up_to
    (case n_abs => k_is)
    (case n_all => k_is)
    (case n_bool => k_is)
    (case n_enumerate => k_is)
    (case n_int => k_is)
    (case n_isinstance => k_is)
    (case n_len => k_is)
    (case n_list => k_is)
    (case n_range => k_is)
    (case n_str => k_is)
    (case n_tuple => k_is)
    (case g_MOST_POWER => k_is)
    (case g_MOST => k_is)
    (case gx_FoldError => k_is)
    (case xx_FoldError => k_exc)
    (case kx_FoldError => k_is)
    (case bx_FoldError => k_is)
    (case tx_FoldError => k_is)
    (case ix_FoldError => k_is)
    (case gx_BadStep => k_is)
    (case xx_BadStep => k_exc)
    (case kx_BadStep => k_is)
    (case bx_BadStep => k_is)
    (case tx_BadStep => k_is)
    (case ix_BadStep => k_is)
    (case gx_BadKept => k_is)
    (case xx_BadKept => k_exc)
    (case kx_BadKept => k_is)
    (case bx_BadKept => k_is)
    (case tx_BadKept => k_is)
    (case ix_BadKept => k_is)
    (case a_is_whole => k_is)
    (case l_is_whole => k_is)
    (case c_is_whole => k_is)
    (case k_is_whole => k_is)
    (case a_power_of => k_is)
    (case l_power_of => k_is)
    (case c_power_of => k_is)
    (case k_power_of => k_is)
    (case a_is_fold => k_is)
    (case l_is_fold => k_is)
    (case c_is_fold => k_is)
    (case k_is_fold => k_is)
    (case a_is_weigh => k_is)
    (case l_is_weigh => k_is)
    (case c_is_weigh => k_is)
    (case k_is_weigh => k_is)
    (case a_is_step => k_is)
    (case l_is_step => k_is)
    (case c_is_step => k_is)
    (case k_is_step => k_is)
    (case a_check_step => k_is)
    (case l_check_step => k_is)
    (case c_check_step => k_is)
    (case k_check_step => k_is)
    (case a_common => k_is)
    (case l_common => k_is)
    (case c_common => k_is)
    (case k_common => k_is)
    (case a_is_number => k_is)
    (case l_is_number => k_is)
    (case c_is_number => k_is)
    (case k_is_number => k_is)
    (case a_weigh_kept => k_is)
    (case l_weigh_kept => k_is)
    (case c_weigh_kept => k_is)
    (case k_weigh_kept => k_is)
    (case a_fold_kept => k_is)
    (case l_fold_kept => k_is)
    (case c_fold_kept => k_is)
    (case k_fold_kept => k_is)
    (case a_kept => k_is)
    (case l_kept => k_is)
    (case c_kept => k_is)
    (case k_kept => k_is)
    (case a_keeps => k_is)
    (case l_keeps => k_is)
    (case c_keeps => k_is)
    (case k_keeps => k_is)
    (case a__law_begin => k_is)
    (case l__law_begin => k_is)
    (case c__law_begin => k_is)
    (case k__law_begin => k_is)
    (case a__law_draw => k_is)
    (case l__law_draw => k_is)
    (case c__law_draw => k_is)
    (case k__law_draw => k_is)
    (case a__law_power => k_is)
    (case l__law_power => k_is)
    (case c__law_power => k_is)
    (case k__law_power => k_is)
    (case a__law_step => k_is)
    (case l__law_step => k_is)
    (case c__law_step => k_is)
    (case k__law_step => k_is)
    (case a__law_fold_keeps => k_is)
    (case l__law_fold_keeps => k_is)
    (case c__law_fold_keeps => k_is)
    (case k__law_fold_keeps => k_is)
    (case a__law_weigh_keeps => k_is)
    (case l__law_weigh_keeps => k_is)
    (case c__law_weigh_keeps => k_is)
    (case k__law_weigh_keeps => k_is)
    (case a__law_keeps => k_is)
    (case l__law_keeps => k_is)
    (case c__law_keeps => k_is)
    (case k__law_keeps => k_is)
    (case a__law_common => k_is)
    (case l__law_common => k_is)
    (case c__law_common => k_is)
    (case k__law_common => k_is)
    (case a__law_fields => k_is)
    (case l__law_fields => k_is)
    (case c__law_fields => k_is)
    (case k__law_fields => k_is)
    (case a_law => k_is)
    (case l_law => k_is)
    (case c_law => k_is)
    (case k_law => k_is)
    (case gc_Kept => k_is)
    (case pg_Kept => k_is)
    (case hd_Kept => k_is)
    (case po_Kept => k_is)
    (case sa_Kept => k_is)
    (case mk_Kept => k_is)
    (case kc_Kept => k_is)
    (case na_Kept_number => k_is)
    (case na_Kept_unit => k_is)
    (case na_Kept_power => k_is)
    (case na_Kept_part => k_is)
    (case a_Kept___init__ => k_is)
    (case l_Kept___init__ => k_is)
    (case c_Kept___init__ => k_is)
    (case k_Kept___init__ => k_is)
    (case i_Kept___init__ => k_is)
    (case a_Kept___contains__ => k_is)
    (case l_Kept___contains__ => k_is)
    (case c_Kept___contains__ => k_is)
    (case k_Kept___contains__ => k_is)
    (case i_Kept___contains__ => k_is)
    (case a_Kept_up_to => k_is)
    (case l_Kept_up_to => k_is)
    (case c_Kept_up_to => k_is)
    (case k_Kept_up_to => k_is)
    (case i_Kept_up_to => k_is)
