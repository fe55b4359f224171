import PyProof.Rows.All
import Wide.All
import OpenK.AllK
import Wide.FinOn
import HandS.ForMost
import HandS.ForExc
import HandS.TryMany
import HandS.IsInst
import HandS.Wide
import HandS.WideBits
import HandS.Conv
import HandS.Codes
import HandS.TupAny
import HandS.TupMul
import HandS.NoneIn
import HandS.SortRule
import HandS.SortInts
import HandS.DictComp
import HandS.Zip
import HandS.Flow
import HandS.Style
import HandS.Deep
import HandS.Flt
import PySem.Challenge.RW_figurefolds_k03_whole_lots
set_option autoImplicit false
set_option Elab.async false
set_option linter.all false
set_option maxRecDepth 100000
set_option maxHeartbeats 4000000
namespace Fold
open PySem PySem.Spec PyProof.Rows L2
/-! ### a def that stands in the text, its promise -/
/-- a def of the text that the top has bound to its name -/
structure Df (K : PySem.W.Frag) (mg : Str → Option Value) (x : Str) (st : Stmt) (ps : List Str) : Prop where
  ex : ∃ f fd, Fun K x x st f fd ∧ mg x = some (.ref f) ∧ Binds K fd ps []
/-- a promise, by name: no exception leaves / one may leave -/
structure C0 (P : Program) (w : World) (K : PySem.W.Frag) (mg : Str → Option Value) (base : Heap) (k : Nat) (x : Str) (sp : Sp) : Prop where
  ex : ∃ f fd ps, FnOk P w K mg base CX0 k f fd ps sp ∧ mg x = some (.ref f) ∧ PySem.W.keepIn K (.ref f) = true ∧ Binds K fd ps []
structure C1 (P : Program) (w : World) (K : PySem.W.Frag) (mg : Str → Option Value) (base : Heap) (k : Nat) (x : Str) (sp : Sp) : Prop where
  ex : ∃ f fd ps, FnOk P w K mg base (L2.CX P w) k f fd ps sp ∧ mg x = some (.ref f) ∧ PySem.W.keepIn K (.ref f) = true ∧ Binds K fd ps []
section
variable {P : Program} {w : World} {K : PySem.W.Frag} {mg : Str → Option Value} {base : Heap} {x : Str} {st : Stmt} {N ps : List Str} {k : Nat} {sp : Sp}
theorem Df.c0 (F : Df K mg x st ps) (S : FnScope N ps (defScope st)) (len : ∀ vs H Q E, sp vs H Q E → vs.length = ps.length)
    (hbody : ∀ (f : Addr) (cdv : Value) (A : Around) (outer : List Env) (s : Shared) (H : Hp) (vs : List V) (Q : VK) (E : XK), Room k (A.deeper (envOfC x (defScope st) s.heap.objs.size f cdv)) → sp vs H Q E →
      ∃ t, PSs (cxOf CX0 P w K mg base N x (defScope st) f cdv A outer s H E).nox (defBody st) t ∧ t { nx := fun _ H' => Q .non H', rt := Q } (start N vs) H) : C0 P w K mg base (k + 1) x sp := by
  obtain ⟨f, fd, F1, hm, b⟩ := F.ex
  exact ⟨f, fd, ps, F1.ok S len (fun cdv A outer s H vs Q E => hbody f cdv A outer s H vs Q E), hm, F1.kp, b⟩
theorem Df.c1 (F : Df K mg x st ps) (S : FnScope N ps (defScope st)) (len : ∀ vs H Q E, sp vs H Q E → vs.length = ps.length)
    (hbody : ∀ (f : Addr) (cdv : Value) (A : Around) (outer : List Env) (s : Shared) (H : Hp) (vs : List V) (Q : VK) (E : XK), Room k (A.deeper (envOfC x (defScope st) s.heap.objs.size f cdv)) → sp vs H Q E →
      ∃ t, PSs (cxOf (L2.CX P w) P w K mg base N x (defScope st) f cdv A outer s H E) (defBody st) t ∧ t { nx := fun _ H' => Q .non H', rt := Q } (start N vs) H) : C1 P w K mg base (k + 1) x sp := by
  obtain ⟨f, fd, F1, hm, b⟩ := F.ex
  exact ⟨f, fd, ps, F1.okX S len (fun cdv A outer s H vs Q E => hbody f cdv A outer s H vs Q E), hm, F1.kp, b⟩
theorem C0.imp {sp' : Sp} (c : C0 P w K mg base k x sp) (h : ∀ vs H Q E, sp' vs H Q E → sp vs H Q E) : C0 P w K mg base k x sp' := by
  obtain ⟨f, fd, ps, F, hm, kp, b⟩ := c.ex
  exact ⟨f, fd, ps, F.imp h, hm, kp, b⟩
theorem C1.imp {sp' : Sp} (c : C1 P w K mg base k x sp) (h : ∀ vs H Q E, sp' vs H Q E → sp vs H Q E) : C1 P w K mg base k x sp' := by
  obtain ⟨f, fd, ps, F, hm, kp, b⟩ := c.ex
  exact ⟨f, fd, ps, F.imp h, hm, kp, b⟩
end
section
variable {X : Cx} {k j : Nat} {x : Str} {sp : Sp} {p pos : Pos} {e : Expr} {es : List Expr} {t : TA} {W : WX}
theorem pe_0 (c : C0 X.prog X.w X.K X.mg X.base k x sp) (hr : Room j X.A) (hk : k ≤ j) (ha : PA X (e :: es) t) (hg : Gl X x := by rfl)
    (hdb : (x == ("__debug__" : Str)) = false := by decide) (he : starEach (e :: es) X.env = (false, eval e X.env) :: starEach es X.env := by rfl) (hpl : (backTo pos (starEach es X.env)).any (·.1) = false := by rfl) :
    PE X (.Call (.Name x p) (e :: es) [] pos) (tCall sp [] E0 t) := by
  obtain ⟨f, fd, ps, F, hm, kp, b⟩ := c.ex
  exact pe_call F (hr.mono hk) hg hm kp b .nil pass0 ha hdb he hpl
theorem pe_10 (c : C1 X.prog X.w X.K X.mg X.base k x sp) (hr : Room j X.A) (hk : k ≤ j) (ha : PA X (e :: es) t) (hg : Gl X x := by rfl)
    (hdb : (x == ("__debug__" : Str)) = false := by decide) (he : starEach (e :: es) X.env = (false, eval e X.env) :: starEach es X.env := by rfl) (hpl : (backTo pos (starEach es X.env)).any (·.1) = false := by rfl) :
    PE X (.Call (.Name x p) (e :: es) [] pos) (tCall sp [] E0 t) := by
  obtain ⟨f, fd, ps, F, hm, kp, b⟩ := c.ex
  exact pe_call F (hr.mono hk) hg hm kp b .nil passL ha hdb he hpl
theorem pe_1 (c : C1 X.prog X.w X.K X.mg X.base k x sp) (hr : Room j X.A) (hk : k ≤ j) (tk : Takes X W) (ha : PA X (e :: es) t) (hg : Gl X x := by rfl)
    (hdb : (x == ("__debug__" : Str)) = false := by decide) (he : starEach (e :: es) X.env = (false, eval e X.env) :: starEach es X.env := by rfl) (hpl : (backTo pos (starEach es X.env)).any (·.1) = false := by rfl) :
    PE X (.Call (.Name x p) (e :: es) [] pos) (tCallS sp (WE W) t) := by
  obtain ⟨f, fd, ps, F, hm, kp, b⟩ := c.ex
  exact pe_callS F (hr.mono hk) hg hm kp b (fun σ => passAt tk σ) ha hdb he hpl
end
theorem hu64 {A : Around} {k : Nat} (hr : Room k A) : A.units + 64 < cLine := hr.units

/-! ### own exceptions -/
abbrev veB : List Value := [.type "ValueError", .type "Exception", .type "BaseException", .type "object"]
/-- an own exception class (no __init__) at C -/
structure Xc (K : PySem.W.Frag) (mg : Str → Option Value) (C : Addr) (x : Str) : Prop where
  gC : mg x = some (.ref C)
  xC : PySem.W.excIn K C veB "ValueError.__new__" = true
  kC : PySem.W.keepIn K (.ref C) = true
  bC : PySem.W.subIn K (.ref C) (.type "BaseException") = some true
  tC : PySem.W.typeIn K (.ref C) = some (.type "type")
  iC : PySem.W.isClsIn K C = true
section
variable {X : Cx} {C : Addr} {x : Str}
theorem Xc.pmk {p pos : Pos} (T : Xc X.K X.mg C x) (hg : Gl X x := by rfl) (hdb : (x == ("__debug__" : Str)) = false := by decide) : PMk X (.Call (.Name x p) [] [] pos) (fun _ H Q => Q (.ref C) none H) := by
  intro pins s σ H Q I h
  refine wpAny_Call_Name_kw (ld_glob I hg T.gC ?_ hdb)
  refine PySem.W.callWith_K0 (first := []) I.kIn T.kC ?_
  show wpAny _ _ (call (.ref C) []) _ _ _
  obtain ⟨bm, N, nm, qn, bs, hdct, sn, sub, ab, col, dd, k0, k1, k2, k3, k5, mN, hC, hN, hni, TT⟩ := exc_obj I.kIn T.xC
  refine PySem.wpAny_call_exc_subT PySem.F.excBase_ValueError TT hC hN hni (fun h' e hm => ?_) (Nat.zero_le _)
  exact mk_of I hm (raises_own T.bC T.tC) h (I.hok.gone hm.new)
theorem Xc.names (T : Xc X.K X.mg C x) (hg : Gl X x := by rfl) (hdb : (x == ("__debug__" : Str)) = false := by decide) : Names X x (.ref C) := ⟨hg, hdb, .inl T.gC⟩
end
/-- whether an error of the class at C is met by «except D» -/
theorem Xc.exm {K : PySem.W.Frag} {mg mg' : Str → Option Value} {C D : Addr} {x y : Str} {b : Bool} (T : Xc K mg C x) (U : Xc K mg' D y) (s : PySem.W.subIn K (.ref C) (.ref D) = some b) : PySem.W.exmOne K (.ref C) (.ref D) = some b := by
  have e1 : (PySem.W.subIn K (.ref C) (.type "BaseException") == some true) = true := by rw [T.bC] <;> rfl
  have u1 : (PySem.W.subIn K (.ref D) (.type "BaseException") == some true) = true := by rw [U.bC] <;> rfl
  have e2 : ((PySem.W.clsIn K D).isSome && PySem.W.typeIn K (.ref D) == some (.type "type")) = true := by
    have h2' : (PySem.W.clsIn K D).isSome = true := U.iC
    rw [h2', U.tC] <;> rfl
  show (if (PySem.W.subIn K (.ref D) (.type "BaseException") == some true) = true then (if ((PySem.W.clsIn K D).isSome && PySem.W.typeIn K (.ref D) == some (.type "type")) = true then PySem.W.subIn K (.ref C) (.ref D) else none) else none) = some b
  rw [if_pos u1, if_pos e2]
  exact s

/-! ### what a value is -/
inductive Kn (H : Hp) : V → String → Prop
  | non : Kn H .non "NoneType"
  | bl (b : Bool) : Kn H (.bl b) "bool"
  | int (i : Int) : Kn H (.int i) "int"
  | str (z : Str) : Kn H (.str z) "str"
  | lst {a : Addr} {xs : List V} (e : H a = some (.lst xs)) : Kn H (.ref a) "list"
  | tup {a : Addr} {xs : List V} (e : H a = some (.tup xs)) : Kn H (.ref a) "tuple"
theorem Kn.ty {K : PySem.W.Frag} {H : Hp} {v : V} {t : String} (k : Kn H v t) : TyX K H v (.type t) := by
  cases k with
  | non => exact .base .non
  | bl b => exact .base (.bl b)
  | int i => exact .base (.int i)
  | str z => exact .base (.str z)
  | lst e => exact .base (.lst e)
  | tup e => exact .base (.tup e)
/-- isinstance(v, c), c a built-in type -/
def isA (v : String) (c : String) : Bool := (kitB v c).getD false
theorem isA_int : ∀ {H : Hp} {v : V} {t : String}, Kn H v t → kitB t "int" = some (decide (t = "int" ∨ t = "bool"))
  | _, _, _, .non => by decide +kernel
  | _, _, _, .bl _ => by decide +kernel
  | _, _, _, .int _ => by decide +kernel
  | _, _, _, .str _ => by decide +kernel
  | _, _, _, .lst _ => by decide +kernel
  | _, _, _, .tup _ => by decide +kernel
theorem isA_bool : ∀ {H : Hp} {v : V} {t : String}, Kn H v t → kitB t "bool" = some (decide (t = "bool"))
  | _, _, _, .non => by decide +kernel
  | _, _, _, .bl _ => by decide +kernel
  | _, _, _, .int _ => by decide +kernel
  | _, _, _, .str _ => by decide +kernel
  | _, _, _, .lst _ => by decide +kernel
  | _, _, _, .tup _ => by decide +kernel
theorem isA_tuple : ∀ {H : Hp} {v : V} {t : String}, Kn H v t → kitB t "tuple" = some (decide (t = "tuple"))
  | _, _, _, .non => by decide +kernel
  | _, _, _, .bl _ => by decide +kernel
  | _, _, _, .int _ => by decide +kernel
  | _, _, _, .str _ => by decide +kernel
  | _, _, _, .lst _ => by decide +kernel
  | _, _, _, .tup _ => by decide +kernel
theorem isA_str : ∀ {H : Hp} {v : V} {t : String}, Kn H v t → kitB t "str" = some (decide (t = "str"))
  | _, _, _, .non => by decide +kernel
  | _, _, _, .bl _ => by decide +kernel
  | _, _, _, .int _ => by decide +kernel
  | _, _, _, .str _ => by decide +kernel
  | _, _, _, .lst _ => by decide +kernel
  | _, _, _, .tup _ => by decide +kernel
theorem Kn.mono {H H' : Hp} (s : Same H H') {v : V} {t : String} (k : Kn H v t) : Kn H' v t := by
  cases k with
  | non => exact .non
  | bl b => exact .bl b
  | int i => exact .int i
  | str z => exact .str z
  | lst e => exact .lst (s _ _ e)
  | tup e => exact .tup (s _ _ e)

/-! ### small words -/
theorem b_len : bootBuiltins "len" = some (.builtin "len") := PySem.boot_len
theorem b_abs : bootBuiltins "abs" = some (.builtin "abs") := by decide +kernel
theorem b_isinstance : bootBuiltins "isinstance" = some (.builtin "isinstance") := by decide +kernel
theorem b_all : bootBuiltins "all" = some (.builtin "all") := by decide +kernel
theorem b_min : bootBuiltins "min" = some (.builtin "min") := by decide +kernel
theorem b_max : bootBuiltins "max" = some (.builtin "max") := by decide +kernel
theorem b_sorted : bootBuiltins "sorted" = some (.builtin "sorted") := by decide +kernel
theorem b_int : bootBuiltins "int" = some (.type "int") := by decide +kernel
theorem b_str : bootBuiltins "str" = some (.type "str") := by decide +kernel
theorem b_bool : bootBuiltins "bool" = some (.type "bool") := by decide +kernel
theorem b_list : bootBuiltins "list" = some (.type "list") := by decide +kernel
theorem b_tuple : bootBuiltins "tuple" = some (.type "tuple") := by decide +kernel
theorem b_dict : bootBuiltins "dict" = some (.type "dict") := by decide +kernel
theorem same_upd {H H' : Hp} {p : Addr} {o : HO} (s : Same H H') (h : H' p = none) : Same H (L2.upd H' p o) := fun b u e => by
  rw [upd_ne (ne_of_none (s b u e) h)]
  exact s b u e
theorem same_new {H : Hp} {p : Addr} {o : HO} (h : H p = none) : Same H (L2.upd H p o) := same_upd (Same.refl H) h
/-- all but what stands at a is as it was -/
def But (a : Addr) (H H' : Hp) : Prop := ∀ b o, b ≠ a → H b = some o → H' b = some o
theorem But.refl (a : Addr) (H : Hp) : But a H H := fun _ _ _ h => h
theorem But.trans {a : Addr} {H H1 H2 : Hp} (x : But a H H1) (y : But a H1 H2) : But a H H2 := fun b o n e => y b o n (x b o n e)
theorem But.of {a : Addr} {H H' : Hp} (s : Same H H') : But a H H' := fun b o _ e => s b o e
theorem But.same {a : Addr} {H H' : Hp} (x : But a H H') (h : H a = none) : Same H H' := fun b o e => x b o (ne_of_none e h) e
theorem But.upd {a : Addr} {H : Hp} {o : HO} : But a H (L2.upd H a o) := fun b u n e => by rw [upd_ne n]; exact e
theorem But.new {a p : Addr} {H H' : Hp} {o : HO} (x : But a H H') (h : H' p = none) : But a H (L2.upd H' p o) := fun b u n e => by
  have q := x b u n e
  rw [upd_ne (ne_of_none q h)]
  exact q
theorem pe_gi {X : Cx} {x : Str} {pos : Pos} {i : Int} (hg : Gl X x) (h : ∃ t, X.mg x = some (.int i t)) (hd : (x == ("__debug__" : Str)) = false := by decide) : PE X (.Name x pos) (tC (.int i)) := by
  obtain ⟨t, e⟩ := h
  exact pe_glob hg e ⟨t, rfl⟩ hd
theorem pe_gs {X : Cx} {x z : Str} {pos : Pos} (hg : Gl X x) (h : ∃ t, X.mg x = some (.str z t)) (hd : (x == ("__debug__" : Str)) = false := by decide) : PE X (.Name x pos) (tC (.str z)) := by
  obtain ⟨t, e⟩ := h
  exact pe_glob hg e ⟨t, rfl⟩ hd
theorem q_eq {Q : VK} {x y : V} {H : Hp} (q : Q x H) (e : y = x) : Q y H := by rw [e]; exact q
theorem bf {b : Bool} (h : ¬ b = true) : b = false := by cases b <;> simp_all
theorem iteT' {c : Bool} {A B : Prop} (hc : c = true) (h : A) : if c = true then A else B := by rw [if_pos hc]; exact h
theorem iteF' {c : Bool} {A B : Prop} (hc : c = false) (h : B) : if c = true then A else B := by rw [hc, if_neg Bool.false_ne_true]; exact h
theorem iteB {c : Bool} {A B : Prop} (h1 : c = true → A) (h2 : c = false → B) : if c = true then A else B := by
  cases c
  · exact iteF (h2 rfl)
  · exact iteT (h1 rfl)
theorem dec_int {i j : Int} : decide (V.int i = V.int j) = decide (i = j) := by
  by_cases e : i = j
  · subst e; simp
  · rw [decide_eq_false e, decide_eq_false (fun q => e (by injection q))]
theorem dec_str {i j : Str} : decide (V.str i = V.str j) = decide (i = j) := by
  by_cases e : i = j
  · subst e; simp
  · rw [decide_eq_false e, decide_eq_false (fun q => e (by injection q))]
/-- the number in a slot -/
def sN (σ : L2.St) (i : Nat) : Nat := match σ[i]? with
  | some (some (V.int m)) => m.toNat
  | _ => 0
/-! ### steps of a reading that ask nothing -/
theorem g_seq {t u : TS} {D : Ends} {σ : L2.St} {H : Hp} (h : t { D with nx := u D } σ H) : tSeq t u D σ H := h
theorem g_setC {v : V} {i : Nat} {u : TS} {D : Ends} {σ : L2.St} {H : Hp} (h : u D (σ.set i (some v)) H) : tSeq (tAsg (tC v) (gName i)) u D σ H := h
theorem g_next {D : Ends} {σ : L2.St} {H : Hp} (h : D.nx σ H) : tNext D σ H := h
theorem kept {H : Hp} {a p : Addr} {o u : HO} (h : H a = some o) (hp : H p = none) : upd H p u a = some o := by rw [upd_ne (ne_of_none h hp)]; exact h
theorem keptN {H : Hp} {a p : Addr} {o u : HO} (h : H a = some o) (hp : a ≠ p) : upd H p u a = some o := by rw [upd_ne hp]; exact h
theorem But.free {a p : Addr} {H H' : Hp} (b : But a H H') (ha : ∃ o, H' a = some o) (hp : H' p = none) : H p = none := by
  cases e : H p with
  | none => rfl
  | some o =>
    by_cases c : p = a
    · subst c
      obtain ⟨u, hu⟩ := ha
      rw [hp] at hu
      cases hu
    · have := b p o c e
      rw [hp] at this
      cases this
theorem nodup_none {H : Hp} {p q : Addr} {o : HO} (h : upd H q o p = none) : H p = none := by
  unfold upd at h
  split at h
  · cases h
  · exact h

end Fold
namespace Fold
open PySem PySem.Spec PyProof.Rows L2
/-! ### comprehensions whose element is reckoned without a change of the heap -/
theorem take_snoc {α : Type} {xs : List α} {i : Nat} {x : α} (h : xs[i]? = some x) : xs.take (i + 1) = xs.take i ++ [x] := by
  rw [List.take_add_one, h]; rfl
theorem idx_lt {α : Type} {xs : List α} {i : Nat} {x : α} (h : xs[i]? = some x) : i < xs.length := (List.getElem?_eq_some_iff.mp h).1
/-- a tuple or a list walked; tests g? -/
theorem lc_tupM {K : PySem.W.Frag} {p : Addr} {xs : List V} {j : Nat} {te : TE} {vs : List Nat} {σ : L2.St} {H1 : Hp} {D : Addr} {Qd : Hp → Prop} (g : V → V) (hp : H1 p = some (.tup xs)) (hD : H1 D = none) (hl : xs.length < sizeLine)
    (hw : ∀ x, wipe ((wipe σ vs).set j (some x)) vs = wipe σ vs)
    (ev : ∀ (i : Nat) (x : V), xs[i]? = some x → ∀ (H' : Hp) (Q : VK), Same H1 H' → Q (g x) H' → te ((wipe σ vs).set j (some x)) H' Q) (hd : Qd (upd H1 D (.lst (xs.map g)))) :
    ∃ W : Nat → Nat → Hp → Prop, (∃ m, W 0 m (upd H1 D (.lst []))) ∧ ∀ i m H, W i m H →
      ((Itt K p).stop i H ∧ Qd H) ∨ ((Itt K p).go i H ∧ ∃ Nx : Hp → Prop, (∀ H', Nx H' → ∃ m', m' < m ∧ W (i + 1) m' H') ∧ ∀ x H', (Itt K p).yld i H x H' → gName j x (wipe σ vs) H' fun σ2 H2 => wipe σ2 vs = wipe σ vs ∧ tYes σ2 H2 fun b H3 =>
        if b = true then te σ2 H3 fun y H4 => ∃ acc, H4 D = some (.lst acc) ∧ acc.length < sizeLine ∧ Nx (upd H4 D (.lst (acc ++ [y]))) else Nx H3) := by
  refine lc_tup (xs := xs) (fun i H' => H' = upd H1 D (.lst ((xs.take i).map g))) rfl ?_ ?_ ?_
  · rintro i H' _ rfl
    exact SqT.of (by rw [upd_ne (ne_of_none hp hD)]; exact hp)
  · rintro i x H' hi rfl
    refine ⟨hw x, ?_⟩
    unfold tYes
    dsimp only
    rw [if_pos rfl]
    refine ev i x hi _ _ (same_new hD) ⟨_, upd_same, ?_, ?_⟩
    · rw [List.length_map, List.length_take]; omega
    · rw [upd_upd, take_snoc hi, List.map_append]; rfl
  · rintro H' rfl
    rw [List.take_length]
    exact hd
theorem lc_listM {K : PySem.W.Frag} {p : Addr} {xs : List V} {j : Nat} {te : TE} {vs : List Nat} {σ : L2.St} {H1 : Hp} {D : Addr} {Qd : Hp → Prop} (g : V → V) (hp : H1 p = some (.lst xs)) (hD : H1 D = none) (hl : xs.length < sizeLine)
    (hw : ∀ x, wipe ((wipe σ vs).set j (some x)) vs = wipe σ vs)
    (ev : ∀ (i : Nat) (x : V), xs[i]? = some x → ∀ (H' : Hp) (Q : VK), Same H1 H' → Q (g x) H' → te ((wipe σ vs).set j (some x)) H' Q) (hd : Qd (upd H1 D (.lst (xs.map g)))) :
    ∃ W : Nat → Nat → Hp → Prop, (∃ m, W 0 m (upd H1 D (.lst []))) ∧ ∀ i m H, W i m H →
      ((Itl K p).stop i H ∧ Qd H) ∨ ((Itl K p).go i H ∧ ∃ Nx : Hp → Prop, (∀ H', Nx H' → ∃ m', m' < m ∧ W (i + 1) m' H') ∧ ∀ x H', (Itl K p).yld i H x H' → gName j x (wipe σ vs) H' fun σ2 H2 => wipe σ2 vs = wipe σ vs ∧ tYes σ2 H2 fun b H3 =>
        if b = true then te σ2 H3 fun y H4 => ∃ acc, H4 D = some (.lst acc) ∧ acc.length < sizeLine ∧ Nx (upd H4 D (.lst (acc ++ [y]))) else Nx H3) := by
  refine lc_list (xs := xs) (fun i H' => H' = upd H1 D (.lst ((xs.take i).map g))) rfl ?_ ?_ ?_
  · rintro i H' _ rfl
    exact SqL.of (by rw [upd_ne (ne_of_none hp hD)]; exact hp)
  · rintro i x H' hi rfl
    refine ⟨hw x, ?_⟩
    unfold tYes
    dsimp only
    rw [if_pos rfl]
    refine ev i x hi _ _ (same_new hD) ⟨_, upd_same, ?_, ?_⟩
    · rw [List.length_map, List.length_take]; omega
    · rw [upd_upd, take_snoc hi, List.map_append]; rfl
  · rintro H' rfl
    rw [List.take_length]
    exact hd
theorem lc_rangeM {lo : Int} {n : Nat} {j : Nat} {te : TE} {vs : List Nat} {σ : L2.St} {H1 : Hp} {D : Addr} {Qd : Hp → Prop} (g : Nat → V) (hD : H1 D = none) (hl : n < sizeLine)
    (hw : ∀ x, wipe ((wipe σ vs).set j (some x)) vs = wipe σ vs)
    (ev : ∀ i, i < n → ∀ (H' : Hp) (Q : VK), Same H1 H' → Q (g i) H' → te ((wipe σ vs).set j (some (.int (lo + i)))) H' Q) (hd : Qd (upd H1 D (.lst ((List.range n).map g)))) :
    ∃ W : Nat → Nat → Hp → Prop, (∃ m, W 0 m (upd H1 D (.lst []))) ∧ ∀ i m H, W i m H →
      ((Itr lo n).stop i H ∧ Qd H) ∨ ((Itr lo n).go i H ∧ ∃ Nx : Hp → Prop, (∀ H', Nx H' → ∃ m', m' < m ∧ W (i + 1) m' H') ∧ ∀ x H', (Itr lo n).yld i H x H' → gName j x (wipe σ vs) H' fun σ2 H2 => wipe σ2 vs = wipe σ vs ∧ tYes σ2 H2 fun b H3 =>
        if b = true then te σ2 H3 fun y H4 => ∃ acc, H4 D = some (.lst acc) ∧ acc.length < sizeLine ∧ Nx (upd H4 D (.lst (acc ++ [y]))) else Nx H3) := by
  refine lc_range (fun i H' => H' = upd H1 D (.lst ((List.range i).map g))) rfl ?_ ?_
  · rintro i H' hi rfl
    refine ⟨hw _, ?_⟩
    unfold tYes
    dsimp only
    rw [if_pos rfl]
    refine ev i hi _ _ (same_new hD) ⟨_, upd_same, ?_, ?_⟩
    · rw [List.length_map, List.length_range]; omega
    · rw [upd_upd, List.range_succ, List.map_append]; rfl
  · rintro H' rfl
    exact hd
theorem lc_rangeF {lo : Int} {n : Nat} {j : Nat} {te : TE} {tt : TT} {vs : List Nat} {σ : L2.St} {H1 : Hp} {D : Addr} {Qd : Hp → Prop} (b : Nat → Bool) (g : Nat → V) (hD : H1 D = none) (hl : n < sizeLine)
    (hw : ∀ x, wipe ((wipe σ vs).set j (some x)) vs = wipe σ vs)
    (et : ∀ (i : Nat), i < n → ∀ (H' : Hp) (Q : Bool → Hp → Prop), Same H1 H' → Q (b i) H' → tt ((wipe σ vs).set j (some (.int (lo + i)))) H' Q)
    (ev : ∀ (i : Nat), i < n → ∀ (H' : Hp) (Q : VK), Same H1 H' → Q (g i) H' → te ((wipe σ vs).set j (some (.int (lo + i)))) H' Q) (hd : Qd (upd H1 D (.lst (((List.range n).filter b).map g)))) :
    ∃ W : Nat → Nat → Hp → Prop, (∃ m, W 0 m (upd H1 D (.lst []))) ∧ ∀ i m H, W i m H →
      ((Itr lo n).stop i H ∧ Qd H) ∨ ((Itr lo n).go i H ∧ ∃ Nx : Hp → Prop, (∀ H', Nx H' → ∃ m', m' < m ∧ W (i + 1) m' H') ∧ ∀ x H', (Itr lo n).yld i H x H' → gName j x (wipe σ vs) H' fun σ2 H2 => wipe σ2 vs = wipe σ vs ∧ tt σ2 H2 fun b H3 =>
        if b = true then te σ2 H3 fun y H4 => ∃ acc, H4 D = some (.lst acc) ∧ acc.length < sizeLine ∧ Nx (upd H4 D (.lst (acc ++ [y]))) else Nx H3) := by
  refine lc_range (fun i H' => H' = upd H1 D (.lst (((List.range i).filter b).map g))) rfl ?_ ?_
  · rintro i H' hi rfl
    refine ⟨hw _, et i hi _ _ (same_new hD) ?_⟩
    cases c : b i with
    | true =>
      rw [if_pos rfl]
      refine ev i hi _ _ (same_new hD) ⟨_, upd_same, ?_, ?_⟩
      · rw [List.length_map]
        have := List.length_filter_le b (List.range i)
        rw [List.length_range] at this
        omega
      · rw [upd_upd, List.range_succ, List.filter_append, List.map_append, List.filter_cons_of_pos c]; rfl
    | false =>
      rw [if_neg Bool.false_ne_true, List.range_succ, List.filter_append, List.filter_cons_of_neg (by rw [c]; exact Bool.false_ne_true), List.filter_nil, List.append_nil]
  · rintro H' rfl
    exact hd
/-- a list walked, with a test -/
theorem lc_listF {K : PySem.W.Frag} {p : Addr} {xs : List V} {j : Nat} {te : TE} {tt : TT} {vs : List Nat} {σ : L2.St} {H1 : Hp} {D : Addr} {Qd : Hp → Prop} (b : V → Bool) (g : V → V) (hp : H1 p = some (.lst xs)) (hD : H1 D = none) (hl : xs.length < sizeLine)
    (hw : ∀ x, wipe ((wipe σ vs).set j (some x)) vs = wipe σ vs)
    (et : ∀ (i : Nat) (x : V), xs[i]? = some x → ∀ (H' : Hp) (Q : Bool → Hp → Prop), Same H1 H' → Q (b x) H' → tt ((wipe σ vs).set j (some x)) H' Q)
    (ev : ∀ (i : Nat) (x : V), xs[i]? = some x → ∀ (H' : Hp) (Q : VK), Same H1 H' → Q (g x) H' → te ((wipe σ vs).set j (some x)) H' Q) (hd : Qd (upd H1 D (.lst ((xs.filter b).map g)))) :
    ∃ W : Nat → Nat → Hp → Prop, (∃ m, W 0 m (upd H1 D (.lst []))) ∧ ∀ i m H, W i m H →
      ((Itl K p).stop i H ∧ Qd H) ∨ ((Itl K p).go i H ∧ ∃ Nx : Hp → Prop, (∀ H', Nx H' → ∃ m', m' < m ∧ W (i + 1) m' H') ∧ ∀ x H', (Itl K p).yld i H x H' → gName j x (wipe σ vs) H' fun σ2 H2 => wipe σ2 vs = wipe σ vs ∧ tt σ2 H2 fun b H3 =>
        if b = true then te σ2 H3 fun y H4 => ∃ acc, H4 D = some (.lst acc) ∧ acc.length < sizeLine ∧ Nx (upd H4 D (.lst (acc ++ [y]))) else Nx H3) := by
  refine lc_list (xs := xs) (fun i H' => H' = upd H1 D (.lst (((xs.take i).filter b).map g))) rfl ?_ ?_ ?_
  · rintro i H' _ rfl
    exact SqL.of (by rw [upd_ne (ne_of_none hp hD)]; exact hp)
  · rintro i x H' hi rfl
    refine ⟨hw x, et i x hi _ _ (same_new hD) ?_⟩
    cases c : b x with
    | true =>
      rw [if_pos rfl]
      refine ev i x hi _ _ (same_new hD) ⟨_, upd_same, ?_, ?_⟩
      · rw [List.length_map]
        have := List.length_filter_le b (xs.take i)
        rw [List.length_take] at this
        omega
      · rw [upd_upd, take_snoc hi, List.filter_append, List.map_append, List.filter_cons_of_pos c]; rfl
    | false =>
      rw [if_neg Bool.false_ne_true, take_snoc hi, List.filter_append, List.filter_cons_of_neg (by rw [c]; exact Bool.false_ne_true), List.filter_nil, List.append_nil]
  · rintro H' rfl
    rw [List.take_length]
    exact hd
theorem small6 {n : Nat} (h : n ≤ 6) : n < sizeLine := Nat.lt_of_le_of_lt h (by decide)

end Fold
namespace Fold
open PySem PySem.Spec PyProof.Rows L2
/-! ### classes of the text -/
def NaAll (K : PySem.W.Frag) (C : Addr) : List Str → Prop
  | [] => True
  | f :: r => NoAttr K C f ∧ NaAll K C r
theorem na_all {p : Prop} (h : p) : p := h
structure Cl (K : PySem.W.Frag) (mg : Str → Option Value) (C : Addr) (x : Str) (fs : List Str) : Prop where
  cl : Cls K C
  g : mg x = some (.ref C)
  mkC : PySem.W.makesIn K C = true
  kC : PySem.W.keepIn K (.ref C) = true
  na : NaAll K C fs
/-- a method of the text -/
structure Dm (K : PySem.W.Frag) (C : Addr) (m qual : Str) (st : Stmt) (ps : List Str) : Prop where
  ex : ∃ f fd, Fun K m qual st f fd ∧ PySem.W.findIn K (.ref C) m = some (some (.ref f)) ∧ PySem.W.isFn K (.ref f) = true ∧ Binds K fd ps []
/-- a method's promise (CX0: nothing is raised out of it) -/
structure Mt (CX : CXT) (P : Program) (w : World) (K : PySem.W.Frag) (mg : Str → Option Value) (base : Heap) (k : Nat) (C : Addr) (m : Str) (sp : Sp) : Prop where
  ex : ∃ f fd ps, FnOk P w K mg base CX k f fd ps sp ∧ Meth K C m f ∧ Binds K fd ps []
abbrev Mt0 := Mt CX0
abbrev Mt1 (P : Program) (w : World) := Mt (L2.CX P w) P w
/-- what the call of a class promises -/
structure In (CX : CXT) (P : Program) (w : World) (K : PySem.W.Frag) (mg : Str → Option Value) (base : Heap) (k : Nat) (C : Addr) (x : Str) (sp : Sp) : Prop where
  ex : ∃ f fd ps, FnOk P w K mg base CX k f fd ps sp ∧ Mk K C f ∧ mg x = some (.ref C) ∧ Binds K fd ps []
section
variable {P : Program} {w : World} {K : PySem.W.Frag} {mg : Str → Option Value} {base : Heap} {x m qual : Str} {st : Stmt} {N ps fs : List Str} {k : Nat} {sp : Sp} {C : Addr}
theorem Dm.m0 (F : Dm K C m qual st ps) (S : FnScope N ps (defScope st)) (len : ∀ vs H Q E, sp vs H Q E → vs.length = ps.length)
    (hbody : ∀ (f : Addr) (cdv : Value) (A : Around) (outer : List Env) (s : Shared) (H : Hp) (vs : List V) (Q : VK) (E : XK), Room k (A.deeper (envOfC qual (defScope st) s.heap.objs.size f cdv)) → sp vs H Q E →
      ∃ t, PSs (cxOf CX0 P w K mg base N qual (defScope st) f cdv A outer s H E).nox (defBody st) t ∧ t { nx := fun _ H' => Q .non H', rt := Q } (start N vs) H) : Mt CX0 P w K mg base (k + 1) C m sp := by
  obtain ⟨f, fd, F1, hm, hi, b⟩ := F.ex
  exact ⟨f, fd, ps, F1.ok S len (fun cdv A outer s H vs Q E => hbody f cdv A outer s H vs Q E), ⟨hm, hi, F1.kp⟩, b⟩
theorem Dm.m1 (F : Dm K C m qual st ps) (S : FnScope N ps (defScope st)) (len : ∀ vs H Q E, sp vs H Q E → vs.length = ps.length)
    (hbody : ∀ (f : Addr) (cdv : Value) (A : Around) (outer : List Env) (s : Shared) (H : Hp) (vs : List V) (Q : VK) (E : XK), Room k (A.deeper (envOfC qual (defScope st) s.heap.objs.size f cdv)) → sp vs H Q E →
      ∃ t, PSs (cxOf (L2.CX P w) P w K mg base N qual (defScope st) f cdv A outer s H E) (defBody st) t ∧ t { nx := fun _ H' => Q .non H', rt := Q } (start N vs) H) : Mt (L2.CX P w) P w K mg base (k + 1) C m sp := by
  obtain ⟨f, fd, F1, hm, hi, b⟩ := F.ex
  exact ⟨f, fd, ps, F1.okX S len (fun cdv A outer s H vs Q E => hbody f cdv A outer s H vs Q E), ⟨hm, hi, F1.kp⟩, b⟩
theorem Mt.make {CX : CXT} (M : Mt CX P w K mg base k C "__init__" sp) (T : Cl K mg C x fs) : In CX P w K mg base k C x sp := by
  obtain ⟨f, fd, ps, F, ⟨h1, h2, _⟩, b⟩ := M.ex
  exact ⟨f, fd, ps, F, ⟨T.mkC, h1, h2, T.kC⟩, T.g, b⟩
end
section
variable {X : Cx} {CX : CXT} {k j : Nat} {x m : Str} {sp : Sp} {p pos apos : Pos} {e o : Expr} {es : List Expr} {t : TA} {ta : TE} {W : WX} {C f : Addr} {fd : FuncData} {ps : List Str} {E : XK}
/-- C(..), what is raised wished for at the slots -/
theorem run_makeS {pins : List (Addr × Obj)} {σ : L2.St} {H : Hp} {s : Shared} {Q : VK} {us : List Value} {vs : List V} (M : Mk X.K C f) (F : FnOk X.prog X.w X.K X.mg X.base CX k f fd ps sp) (hr : Room (k + 1) X.A) (hb : Binds X.K fd ps [])
    (hx : PassesAt CX X σ E) (I : Inv X pins σ H s) (r : Vals vs us)
    (h : ∀ x dx, H x = none → H dx = none → dx ≠ x → sp (.ref x :: vs) (upd (upd H dx (.own x)) x (.ins C dx [])) (fun v H2 => v = .non ∧ Q (.ref x) H2) E) :
    wpAny (model X.prog X.w) X.A (call (.ref C) us) (EP X pins σ Q) X.xe s := by
  have hq := h (s.heap.objs.size + 1) s.heap.objs.size (I.hok.fresh (Nat.le_succ _)) (I.hok.fresh (Nat.le_refl _)) (Nat.ne_of_lt (Nat.lt_succ_self _))
  have I2 := Inv.made (C := C) I
  have r2 : Vals (V.ref (s.heap.objs.size + 1) :: vs) (Value.ref (s.heap.objs.size + 1) :: us) := .cons rfl r
  have hl : (Value.ref (s.heap.objs.size + 1) :: us).length = ps.length := by
    have e := r2.length
    rw [F.len _ _ _ _ hq] at e
    exact e.symm
  have b := hb _ (Value.ref (s.heap.objs.size + 1) :: us) I2.kIn (by rw [List.append_nil]; exact hl)
  rw [List.append_nil] at b
  refine wpAny_call (make_map (f := f) I.kIn M.makes M.init (beq_iff_eq.mp M.fn) (codeAny_mono (F.run _ X.stack _ _ ⟨Value.ref (s.heap.objs.size + 1) :: us, []⟩ (Value.ref (s.heap.objs.size + 1) :: us) _ _ E (hr.make C us [])
    (I2.env0.make C us []) b r2 hq) fun r s' hq' => ?_))
  cases r with
  | error e => exact hx pins _ _ e s' I2 hq'
  | ok fl =>
    cases fl with
    | ret u =>
      obtain ⟨v, H', I3, rv, ev, q3⟩ := I2.after hq'
      subst ev
      exact ⟨rv, ⟨V.ref (s.heap.objs.size + 1), H', I3, rfl, q3⟩⟩
    | next => exact False.elim hq'
    | brk => exact False.elim hq'
    | cont => exact False.elim hq'
def tMakeS (C : Addr) (sp : Sp) (E : L2.St → XK) (t : TA) : TE := fun σ H Q => t σ H fun vs H1 => ∀ x dx, H1 x = none → H1 dx = none → dx ≠ x →
  sp (.ref x :: vs) (upd (upd H1 dx (.own x)) x (.ins C dx [])) (fun v H2 => v = .non ∧ Q (.ref x) H2) (E σ)
theorem pe_m1 (c : In (L2.CX X.prog X.w) X.prog X.w X.K X.mg X.base k C x sp) (hr : Room j X.A) (hk : k + 1 ≤ j) (tk : Takes X W) (ha : PA X (e :: es) t) (hg : Gl X x := by rfl)
    (hdb : (x == ("__debug__" : Str)) = false := by decide) (he : starEach (e :: es) X.env = (false, eval e X.env) :: starEach es X.env := by rfl) (hpl : (backTo pos (starEach es X.env)).any (·.1) = false := by rfl) :
    PE X (.Call (.Name x p) (e :: es) [] pos) (tMakeS C sp (WE W) t) := by
  obtain ⟨f, fd, ps, F, M, hm, b⟩ := c.ex
  refine ⟨fun pins s σ H Q I h => ?_⟩
  refine wpAny_Call_Name_kw (ld_glob I hg hm ?_ hdb)
  refine PySem.W.callWith_K (h₀ := X.base) I.ok.mod.kin M.kp (thn (ha.run pos pins s σ H _ I h) fun us s1 ⟨vs, H1, I1, r, q⟩ => ⟨I1.kIn, ?_⟩) he hpl
  exact run_makeS M F (hr.mono hk) b (passAt tk σ) I1 r q
theorem pe_m10 (c : In (L2.CX X.prog X.w) X.prog X.w X.K X.mg X.base k C x sp) (hr : Room j X.A) (hk : k + 1 ≤ j) (ha : PA X (e :: es) t) (hg : Gl X x := by rfl)
    (hdb : (x == ("__debug__" : Str)) = false := by decide) (he : starEach (e :: es) X.env = (false, eval e X.env) :: starEach es X.env := by rfl) (hpl : (backTo pos (starEach es X.env)).any (·.1) = false := by rfl) :
    PE X (.Call (.Name x p) (e :: es) [] pos) (tMake C sp [] E0 t) := by
  obtain ⟨f, fd, ps, F, M, hm, b⟩ := c.ex
  exact pe_make M F (hr.mono hk) hg hm b .nil passL ha hdb he hpl
theorem pe_m0 (c : In CX0 X.prog X.w X.K X.mg X.base k C x sp) (hr : Room j X.A) (hk : k + 1 ≤ j) (ha : PA X (e :: es) t) (hg : Gl X x := by rfl)
    (hdb : (x == ("__debug__" : Str)) = false := by decide) (he : starEach (e :: es) X.env = (false, eval e X.env) :: starEach es X.env := by rfl) (hpl : (backTo pos (starEach es X.env)).any (·.1) = false := by rfl) :
    PE X (.Call (.Name x p) (e :: es) [] pos) (tMake C sp [] E0 t) := by
  obtain ⟨f, fd, ps, F, M, hm, b⟩ := c.ex
  exact pe_make M F (hr.mono hk) hg hm b .nil pass0 ha hdb he hpl
/-- o.m(e, ..) -/
theorem pe_o0 {pl : Sem Bool} (c : Mt CX0 X.prog X.w X.K X.mg X.base k C m sp) (hr : Room j X.A) (hk : k ≤ j) (he : PE X o ta) (cl : Cls X.K C) (ha : PA X (e :: es) t)
    (hst : starEach (e :: es) X.env = (false, eval e X.env) :: starEach es X.env := by rfl) (hpl : (backTo pos (starEach es X.env)).any (·.1) = false := by rfl)
    (ht : eval (.Call (.Attribute o m apos) (e :: es) [] pos) X.env = (do
      let ov ← eval o X.env
      standAt apos.atName
      let (f, first) ← holding [ov] (getMethod ov m pl)
      callWith pos f first (backTo pos (starEach (e :: es) X.env)) (backToKw pos (keywordEach [] X.env))) := by rfl) :
    PE X (.Call (.Attribute o m apos) (e :: es) [] pos) (tMeth C m sp [] E0 ta t) := by
  obtain ⟨f, fd, ps, F, M, b⟩ := c.ex
  exact pe_meth he cl M F (hr.mono hk) b .nil pass0 ha hst hpl ht
theorem pe_o00 {pl : Sem Bool} (c : Mt CX0 X.prog X.w X.K X.mg X.base k C m sp) (hr : Room j X.A) (hk : k ≤ j) (he : PE X o ta) (cl : Cls X.K C)
    (ht : eval (.Call (.Attribute o m apos) [] [] pos) X.env = (do
      let ov ← eval o X.env
      standAt apos.atName
      let (f, first) ← holding [ov] (getMethod ov m pl)
      callWith pos f first (backTo pos (starEach [] X.env)) (backToKw pos (keywordEach [] X.env))) := by rfl) :
    PE X (.Call (.Attribute o m apos) [] [] pos) (tMeth C m sp [] E0 ta tNil) := by
  obtain ⟨f, fd, ps, F, M, b⟩ := c.ex
  exact pe_meth0 he cl M F (hr.mono hk) b .nil pass0 ht
theorem pe_o100 {pl : Sem Bool} (c : Mt (L2.CX X.prog X.w) X.prog X.w X.K X.mg X.base k C m sp) (hr : Room j X.A) (hk : k ≤ j) (he : PE X o ta) (cl : Cls X.K C)
    (ht : eval (.Call (.Attribute o m apos) [] [] pos) X.env = (do
      let ov ← eval o X.env
      standAt apos.atName
      let (f, first) ← holding [ov] (getMethod ov m pl)
      callWith pos f first (backTo pos (starEach [] X.env)) (backToKw pos (keywordEach [] X.env))) := by rfl) :
    PE X (.Call (.Attribute o m apos) [] [] pos) (tMeth C m sp [] E0 ta tNil) := by
  obtain ⟨f, fd, ps, F, M, b⟩ := c.ex
  exact pe_meth0 he cl M F (hr.mono hk) b .nil passL ht
/-- .. what is raised wished for at the slots -/
def tMethS (C : Addr) (m : Str) (sp : Sp) (E : L2.St → XK) (ta : TE) (t : TA) : TE := fun σ H Q => ta σ H fun x H1 => ∃ a dx fs, x = .ref a ∧ H1 a = some (.ins C dx fs) ∧ fs.lookup m = none ∧
  t σ H1 fun vs H2 => sp (x :: vs) H2 Q (E σ)
theorem pe_o10 {pl : Sem Bool} (c : Mt (L2.CX X.prog X.w) X.prog X.w X.K X.mg X.base k C m sp) (hr : Room j X.A) (hk : k ≤ j) (tk : Takes X W) (he : PE X o ta) (cl : Cls X.K C)
    (ht : eval (.Call (.Attribute o m apos) [] [] pos) X.env = (do
      let ov ← eval o X.env
      standAt apos.atName
      let (f, first) ← holding [ov] (getMethod ov m pl)
      callWith pos f first (backTo pos (starEach [] X.env)) (backToKw pos (keywordEach [] X.env))) := by rfl) :
    PE X (.Call (.Attribute o m apos) [] [] pos) (tMethS C m sp (WE W) ta tNil) := by
  obtain ⟨f, fd, ps, F, hm, b⟩ := c.ex
  refine ⟨fun pins s σ H Q I h => ?_⟩
  refine PySem.W.methodCall_KW (pl := pl) (thn (he.run pins s σ H _ I h) fun u s1 ⟨x, H1, I1, rx, a, dx, fs, ex, ea, l, q⟩ => ?_) ht
  subst ex
  obtain rfl : u = Value.ref a := rx
  refine getmeth_ok I1 ea cl hm l ?_
  exact PySem.W.callWith_K0 (first := [.ref a]) I1.kIn hm.kp (run_fnS (us := [.ref a]) (vs := [.ref a]) F (hr.mono hk) b (passAt tk σ) I1 (.cons rfl .nil) q)
end
/-! ### x in o, o of an own class with __contains__ -/
section
variable {X : Cx} {k j : Nat} {sp : Sp} {C : Addr}
def rInOwn (C : Addr) (sp : Sp) (neg : Bool) : R2 := fun x y H Q => ∃ a dx fs, y = .ref a ∧ H a = some (.ins C dx fs) ∧ sp [y, x] H (fun v H' => ∃ b, v = .bl b ∧ Q (.bl (if neg then !b else b)) H') E0
theorem contains_own {pins : List (Addr × Obj)} {s : Shared} {σ : L2.St} {H : Hp} {x : V} {v : Value} {a dx : Addr} {fs : List (Str × V)} {Q : Bool → Shared → Prop} {Qw : VK} (c : Mt CX0 X.prog X.w X.K X.mg X.base k C "__contains__" sp) (hr : Room j X.A) (hk : k ≤ j)
    (I : Inv X pins σ H s) (rx : RelV x v) (ha : H a = some (.ins C dx fs)) (hs : sp [.ref a, x] H Qw E0) (hQ : ∀ y H' s', Inv X pins σ H' s' → Qw y H' → ∃ b, y = .bl b ∧ Q b s') :
    wpAny (model X.prog X.w) X.A (contains (.ref a) v) Q X.xe s := by
  obtain ⟨f, fd, ps, F, M, hb⟩ := c.ex
  obtain ⟨mA, J, _⟩ := ins_get I.hok ha
  obtain ⟨od, J, _⟩ := J.look
  unfold contains
  refine wpAny_holding ?_
  rw [stdlibNamesSay?_ref]
  show wpAny _ _ (specialOf (.ref a) "__contains__" >>= _) _ _ _
  have sp1 : PySem.W.Looks (model X.prog X.w) s.heap (specialOf (.ref a) "__contains__") (some (.ref f)) := J.type.andThen (PySem.W.looks_findIn I.kIn M.at_)
  refine wpAny_bind (sp1.here ?_)
  show wpAny _ _ (if (some (Value.ref f) == some Value.none) = true then _ else _) _ _ _
  rw [if_neg (by simp)]
  unfold callSpecialUnlessNone?
  refine wpAny_bind (wpAny_bind (sp1.here ?_))
  refine wpAny_holding (wpAny_bind ((PySem.W.bind_fn I.kIn _ (beq_iff_eq.mp M.fn)).here ?_))
  show wpAny _ _ (if (Value.ref f == Value.none) = true then _ else _) _ _ _
  rw [if_neg (by simp)]
  refine wpAny_bind (wpAny_mono (run_fn (us := [.ref a, v]) (vs := [.ref a, x]) (dvs := []) (ds := []) (E := E0) F (hr.mono hk) hb .nil pass0 I (.cons rfl (.cons rx .nil)) hs) (fun u s' hq => ?_) fun _ _ z => z)
  obtain ⟨y, H', I', ry, q⟩ := hq
  obtain ⟨b, ey, q2⟩ := hQ y H' s' I' q
  subst ey
  cases ry
  refine wpAny_pure ?_
  exact wpAny_truthy_bool q2
theorem op_inOwn (c : Mt CX0 X.prog X.w X.K X.mg X.base k C "__contains__" sp) (hr : Room j X.A) (hk : k ≤ j) : OpR X (compareOp .In) (rInOwn C sp false) := by
  intro pins s σ H x y v u Q I rx ry h
  obtain ⟨a, dx, fs, rfl, ha, hs⟩ := h
  cases ry
  show wpAny _ _ (contains (.ref a) v >>= fun b => (pure (Value.bool b) : Sem Value)) _ _ _
  refine wpAny_bind (contains_own c hr hk I rx ha hs fun y H' s' I' q => ?_)
  obtain ⟨b, rfl, q⟩ := q
  exact ⟨b, rfl, wpAny_pure ⟨.bl b, H', I', rfl, q⟩⟩
theorem op_notInOwn (c : Mt CX0 X.prog X.w X.K X.mg X.base k C "__contains__" sp) (hr : Room j X.A) (hk : k ≤ j) : OpR X (compareOp .NotIn) (rInOwn C sp true) := by
  intro pins s σ H x y v u Q I rx ry h
  obtain ⟨a, dx, fs, rfl, ha, hs⟩ := h
  cases ry
  show wpAny _ _ (contains (.ref a) v >>= fun b => (pure (Value.bool (!b)) : Sem Value)) _ _ _
  refine wpAny_bind (contains_own c hr hk I rx ha hs fun y H' s' I' q => ?_)
  obtain ⟨b, rfl, q⟩ := q
  exact ⟨b, rfl, wpAny_pure ⟨.bl (!b), H', I', rfl, q⟩⟩
end

end Fold
namespace Fold
open PySem PySem.Spec PyProof.Rows L2
def topS (i : Nat) : Stmt := PySem.Challenge.pw_figurefolds_k03_whole_lots.main.body.getD i (.Pass ⟨0, 0, 0, 0⟩)
abbrev s_common : Stmt := topS 4
theorem sc_common : FnScope ["one", "other"] ["one", "other"] (defScope s_common) := ⟨rfl, rfl, rfl, by decide +kernel, rfl, by decide +kernel, by decide +kernel⟩
abbrev s_is_number : Stmt := topS 5
theorem sc_is_number : FnScope ["thing"] ["thing"] (defScope s_is_number) := ⟨rfl, rfl, rfl, by decide +kernel, rfl, by decide +kernel, by decide +kernel⟩
abbrev s_Kept___init__ : Stmt := inClass (topS 6) 0
theorem sc_Kept___init__ : FnScope ["self", "number", "unit", "power", "part", "one"] ["self", "number", "unit", "power", "part"] (defScope s_Kept___init__) := ⟨rfl, rfl, rfl, by decide +kernel, rfl, by decide +kernel, by decide +kernel⟩
abbrev s_Kept___contains__ : Stmt := inClass (topS 6) 1
theorem sc_Kept___contains__ : FnScope ["self", "m"] ["self", "m"] (defScope s_Kept___contains__) := ⟨rfl, rfl, rfl, by decide +kernel, rfl, by decide +kernel, by decide +kernel⟩
abbrev s_Kept_up_to : Stmt := inClass (topS 6) 2
theorem sc_Kept_up_to : FnScope ["self", "most", "m"] ["self", "most"] (defScope s_Kept_up_to) := ⟨rfl, rfl, rfl, by decide +kernel, rfl, by decide +kernel, by decide +kernel⟩
abbrev s_Kept_least_out : Stmt := inClass (topS 6) 3
theorem sc_Kept_least_out : FnScope ["self", "round_size", "m"] ["self"] (defScope s_Kept_least_out) := ⟨rfl, rfl, rfl, by decide +kernel, rfl, by decide +kernel, by decide +kernel⟩
abbrev s_Kept_is_finite : Stmt := inClass (topS 6) 4
theorem sc_Kept_is_finite : FnScope ["self"] ["self"] (defScope s_Kept_is_finite) := ⟨rfl, rfl, rfl, by decide +kernel, rfl, by decide +kernel, by decide +kernel⟩
abbrev s__law_begin : Stmt := topS 8
theorem sc__law_begin : FnScope ["_law_script"] ["_law_script"] (defScope s__law_begin) := ⟨rfl, rfl, rfl, by decide +kernel, rfl, by decide +kernel, by decide +kernel⟩
abbrev s__law_draw : Stmt := topS 9
theorem sc__law_draw : FnScope ["_law_draws", "_law_size", "_law_cell", "_law_found"] ["_law_draws", "_law_size"] (defScope s__law_draw) := ⟨rfl, rfl, rfl, by decide +kernel, rfl, by decide +kernel, by decide +kernel⟩
abbrev s__law_common : Stmt := topS 10
theorem sc__law_common : FnScope ["_law_one", "_law_other", "_law_rest"] ["_law_one", "_law_other"] (defScope s__law_common) := ⟨rfl, rfl, rfl, by decide +kernel, rfl, by decide +kernel, by decide +kernel⟩
abbrev s__law_in : Stmt := topS 11
theorem sc__law_in : FnScope ["_law_fields", "_law_m", "_law_number", "_law_unit", "_law_power", "_law_part"] ["_law_fields", "_law_m"] (defScope s__law_in) := ⟨rfl, rfl, rfl, by decide +kernel, rfl, by decide +kernel, by decide +kernel⟩
abbrev s__law_bad : Stmt := topS 12
theorem sc__law_bad : FnScope ["_law_fields", "_law_told"] ["_law_fields"] (defScope s__law_bad) := ⟨rfl, rfl, rfl, by decide +kernel, rfl, by decide +kernel, by decide +kernel⟩
abbrev s_law : Stmt := topS 13
theorem sc_law : FnScope ["_law_script", "_law_draws", "_law_some", "_law_fields", "_law_rows", "_law_lot", "_law_due", "_law_out", "_law_odd", "_law_at", "_law_k", "_law_m"] ["_law_script"] (defScope s_law) := ⟨rfl, rfl, rfl, by decide +kernel, rfl, by decide +kernel, by decide +kernel⟩
/-- where the classes stand -/
structure Ad where
  FoldError : Addr
  BadKept : Addr
  Kept : Addr
/-- what the top has written -/
structure Txt (K : PySem.W.Frag) (mg : Str → Option Value) (a : Ad) : Prop where
  n_abs : mg "abs" = none
  n_all : mg "all" = none
  n_bool : mg "bool" = none
  n_int : mg "int" = none
  n_isinstance : mg "isinstance" = none
  n_len : mg "len" = none
  n_list : mg "list" = none
  n_max : mg "max" = none
  n_range : mg "range" = none
  x_FoldError : Xc K mg a.FoldError "FoldError"
  x_BadKept : Xc K mg a.BadKept "BadKept"
  sub_FoldError_BadKept : PySem.W.subIn K (.ref a.FoldError) (.ref a.BadKept) = some false
  sub_BadKept_BadKept : PySem.W.subIn K (.ref a.BadKept) (.ref a.BadKept) = some true
  d_common : Df K mg "common" s_common ["one", "other"]
  d_is_number : Df K mg "is_number" s_is_number ["thing"]
  d__law_begin : Df K mg "_law_begin" s__law_begin ["_law_script"]
  d__law_draw : Df K mg "_law_draw" s__law_draw ["_law_draws", "_law_size"]
  d__law_common : Df K mg "_law_common" s__law_common ["_law_one", "_law_other"]
  d__law_in : Df K mg "_law_in" s__law_in ["_law_fields", "_law_m"]
  d__law_bad : Df K mg "_law_bad" s__law_bad ["_law_fields"]
  d_law : Df K mg "law" s_law ["_law_script"]
  cl_Kept : Cl K mg a.Kept "Kept" ["number", "unit", "power", "part"]
  d_Kept___init__ : Dm K a.Kept "__init__" "Kept.__init__" s_Kept___init__ ["self", "number", "unit", "power", "part"]
  d_Kept___contains__ : Dm K a.Kept "__contains__" "Kept.__contains__" s_Kept___contains__ ["self", "m"]
  d_Kept_up_to : Dm K a.Kept "up_to" "Kept.up_to" s_Kept_up_to ["self", "most"]
  d_Kept_least_out : Dm K a.Kept "least_out" "Kept.least_out" s_Kept_least_out ["self"]
  d_Kept_is_finite : Dm K a.Kept "is_finite" "Kept.is_finite" s_Kept_is_finite ["self"]


end Fold
namespace Fold
open PySem PySem.Spec PyProof.Rows L2
theorem abs_nat (i : Int) : (if i < 0 then -i else i) = (i.natAbs : Int) := by split <;> omega
theorem wdiv {i j : Int} (h : 0 < j) (h2 : j < 18446744073709551616) : CDivW i j := wide_div (b := 64) h (by omega) (by decide) (by decide)
theorem cutV_take {xs : List V} {k : Nat} : cutV xs none (some (k : Int)) = xs.take k := by
  unfold cutV
  rw [HT.sIx_none, HT.sIx_nat, Nat.sub_zero, List.drop_zero]
  rcases Nat.le_total k xs.length with h | h
  · rw [Nat.min_eq_left h]
  · rw [Nat.min_eq_right h, List.take_length, List.take_of_length_le h]
theorem cutV_drop {xs : List V} {k : Nat} : cutV xs (some (k : Int)) none = xs.drop k := by
  unfold cutV
  rw [HT.sIx_none, HT.sIx_nat]
  rcases Nat.le_total k xs.length with h | h
  · rw [Nat.min_eq_left h, List.take_of_length_le (by rw [List.length_drop]; omega)]
  · rw [Nat.min_eq_right h, List.drop_length, Nat.sub_self, List.drop_of_length_le h]; rfl
/-! ### lists of ints as data -/
def iD (ns : List Int) : PyData := .list (ns.map PyData.int)
theorem iDs_lay : ∀ ns : List Int, PyData.canLayAll0 (ns.map PyData.int) = true
  | [] => by simp [PyData.canLayAll0]
  | z :: zs => by simp [PyData.canLayAll0, PyData.canLay0, iDs_lay zs]
theorem iDs_depth : ∀ ns : List Int, PyData.depthAll (ns.map PyData.int) ≤ 1
  | [] => by simp [PyData.depthAll]
  | z :: zs => by
    have h1 := iDs_depth zs
    simp only [List.map_cons, PyData.depthAll, PyData.depth]
    omega
theorem iD_shaped (ns : List Int) : SeqAt.shaped (iD ns) = true := by
  have h1 := iDs_depth ns
  have h2 : PyData.depth (iD ns) ≤ 64 := by
    simp only [iD, PyData.depth]
    omega
  show (PyData.canLay0 (iD ns) && decide (PyData.depth (iD ns) ≤ 64)) = true
  rw [Bool.and_eq_true]
  exact ⟨by simp only [iD, PyData.canLay0]; exact iDs_lay ns, decide_eq_true h2⟩
theorem iD_eqv (ns ms : List Int) : PyData.eqv (iD ns) (iD ms) = decide (ns = ms) := by
  simp only [iD, PyData.eqv]
  induction ns generalizing ms with
  | nil => cases ms <;> simp [PyData.eqvAll]
  | cons n ns ih =>
    cases ms with
    | nil => simp [PyData.eqvAll]
    | cons m ms =>
      simp only [List.map_cons, PyData.eqvAll, PyData.eqv, ih]
      rw [Bool.eq_iff_iff]
      simp
theorem iD_all {K : PySem.W.Frag} {H : Hp} : ∀ ns : List Int, DpAll K H (ns.map V.int) (ns.map PyData.int)
  | [] => .nil
  | n :: ns => .cons (.int n) (iD_all ns)
theorem iD_dp {K : PySem.W.Frag} {H : Hp} {l : Addr} {ns : List Int} (h : SqL K H l (ns.map V.int)) : Dp K H (.ref l) (iD ns) := .lst h (iD_all ns)
theorem ix_listK {X : Cx} {K : PySem.W.Frag} (h : X.K = K) : IxR X (rIxL K) := h ▸ ix_list
theorem op_in_seqK {X : Cx} {K : PySem.W.Frag} (h : X.K = K) : OpR X (compareOp .In) (rIn K false) := h ▸ op_in_seq
theorem op_notIn_seqK {X : Cx} {K : PySem.W.Frag} (h : X.K = K) : OpR X (compareOp .NotIn) (rIn K true) := h ▸ op_notIn_seq
theorem ix_tupK {X : Cx} {K : PySem.W.Frag} (h : X.K = K) : IxR X (rIxT K) := h ▸ ix_tup

end Fold
namespace Fold
open PySem PySem.Spec PyProof.Rows L2
/-! ### lots of moduli -/
section
variable {P : Program} {w : World} {K : PySem.W.Frag} {mg : Str → Option Value} {base : Heap} {a : Ad}
theorem gcd_step (i j : Int) : Int.gcd j (i.fmod j) = Int.gcd i j := by
  rw [Int.fmod_def, Int.gcd_sub_mul_left_right, Int.gcd_comm]
theorem fmod_less {i j : Int} (h : j ≠ 0) : (i.fmod j).natAbs < j.natAbs := by
  rcases Int.lt_or_gt_of_ne h with c | c
  · have h1 := Int.fmod_nonneg_of_pos (-i) (b := -j) (by omega)
    have h2 := Int.fmod_lt_of_pos (-i) (b := -j) (by omega)
    have e : (-i).fmod (-j) = -(i.fmod j) := by rw [Int.neg_fmod_neg]
    omega
  · have h1 := Int.fmod_nonneg_of_pos i c
    have h2 := Int.fmod_lt_of_pos i c
    omega
def sp_common : Sp := fun vs H Q _ => ∃ (i j : Int), vs = [.int i, .int j] ∧ Q (.int (Int.gcd i j : Nat)) H
theorem ok_common (T : Txt K mg a) : C0 P w K mg base 1 "common" sp_common := by
  refine T.d_common.c0 sc_common (fun vs H Q E h => ?_) (fun f cdv A outer s H vs Q E hr h => ?_)
  · obtain ⟨i, j, rfl, _⟩ := h
    rfl
  · obtain ⟨i, j, rfl, k⟩ := h
    refine ⟨_, (pss_cons (ps_while PassesOwn.never (pt_truth (pv 1) (fun _ => rfl)) (pss_one (ps_par (i := 0) (j := 1) rfl sc_common.nd rfl rfl (by decide) rfl rfl (pa_cons (pv 1) (pa_cons (pe_op op_modN (pv 0) (pv 1)) pa_nil)) (by first | rfl | with_unfolding_all rfl))))
      (pss_one (ps_ret (pe_callB call_abs (by rfl) T.n_abs b_abs (pa_cons (pv 0) pa_nil))))), ?_⟩
    refine g_seq ?_
    refine ⟨fun m σ H' => H' = H ∧ ∃ x y : Int, m = y.natAbs ∧ σ = [some (.int x), some (.int y)] ∧ Int.gcd x y = Int.gcd i j, ⟨j.natAbs, rfl, i, j, rfl, rfl, rfl⟩, ?_⟩
    rintro m σ H' ⟨rfl, x, y, rfl, rfl, e⟩
    refine ⟨_, rfl, _, rfl, ?_⟩
    by_cases c : y = 0
    · subst c
      refine iteF' rfl ⟨_, rfl, _, rfl, q_eq k ?_⟩
      rw [abs_nat, ← e, Int.gcd_zero]
    · refine iteT' (by simpa using c) ⟨_, fun _ _ h => h, _, rfl, _, rfl, _, rfl, _, _, rfl, rfl, c, _, _, rfl, ?_⟩
      exact ⟨(x.fmod y).natAbs, fmod_less c, rfl, y, x.fmod y, rfl, rfl, by rw [gcd_step, e]⟩
def numB : V → Bool
  | .int i => decide (0 ≤ i)
  | _ => false
def sp_is_number : Sp := fun vs H Q _ => ∃ (v : V), vs = [v] ∧ (∃ t, Kn H v t) ∧ Q (.bl (numB v)) H
theorem ok_is_number (T : Txt K mg a) : C0 P w K mg base 1 "is_number" sp_is_number := by
  refine T.d_is_number.c0 sc_is_number (fun vs H Q E h => ?_) (fun f cdv A outer s H vs Q E hr h => ?_)
  · obtain ⟨v, rfl, _⟩ := h
    rfl
  · obtain ⟨v, rfl, ⟨t, hv⟩, k⟩ := h
    refine ⟨_, (pss_one (ps_ret (pe_and (pe_callB call_isi (by rfl) T.n_isinstance b_isinstance (pa_cons (pv 0) (pa_cons (pe_bltn (v := .ty "int") (by rfl) T.n_int b_int rfl) pa_nil))) (pe_and (pe_not (pe_callB call_isi (by rfl) T.n_isinstance b_isinstance (pa_cons (pv 0) (pa_cons (pe_bltn (v := .ty "bool") (by rfl) T.n_bool b_bool rfl) pa_nil)))) (pe_one (pe_cmpR op_ge (pv 0) pe_int (nomark _))))))), ?_⟩
    refine ⟨_, rfl, _, _, _, _, _, rfl, .ty _, hv.ty, kit_ty (isA_int hv), _, rfl, ?_⟩
    cases hv with
    | int i =>
      refine iteT ⟨_, rfl, _, _, _, _, _, rfl, .ty _, (Kn.int i).ty, kit_ty (isA_bool (Kn.int (H := H) i)), _, rfl, _, rfl, ?_⟩
      exact iteT ⟨_, rfl, _, _, rfl, rfl, k⟩
    | bl b => exact iteT ⟨_, rfl, _, _, _, _, _, rfl, .ty _, (Kn.bl b).ty, kit_ty (isA_bool (Kn.bl (H := H) b)), _, rfl, _, rfl, iteF k⟩
    | non => exact iteF k
    | str z => exact iteF k
    | lst e => exact iteF k
    | tup e => exact iteF k
/-- the fields of a lot -/
def kf (n u p q : Nat) : List (Str × V) := putF "part" (.int q) (putF "power" (.int p) (putF "unit" (.int u) (putF "number" (.int n) [])))
theorem nu1 : ¬ (("number" : Str) = "part") := by decide +kernel
theorem nu2 : ¬ (("number" : Str) = "power") := by decide +kernel
theorem nu3 : ¬ (("number" : Str) = "unit") := by decide +kernel
theorem un1 : ¬ (("unit" : Str) = "part") := by decide +kernel
theorem un2 : ¬ (("unit" : Str) = "power") := by decide +kernel
theorem po1 : ¬ (("power" : Str) = "part") := by decide +kernel
theorem kf_number (n u p q : Nat) : (kf n u p q).lookup ("number" : Str) = some (.int n) := by
  unfold kf; rw [lookup_putF, if_neg nu1, lookup_putF, if_neg nu2, lookup_putF, if_neg nu3, lookup_putF, if_pos rfl]
theorem kf_unit (n u p q : Nat) : (kf n u p q).lookup ("unit" : Str) = some (.int u) := by
  unfold kf; rw [lookup_putF, if_neg un1, lookup_putF, if_neg un2, lookup_putF, if_pos rfl]
theorem kf_power (n u p q : Nat) : (kf n u p q).lookup ("power" : Str) = some (.int p) := by
  unfold kf; rw [lookup_putF, if_neg po1, lookup_putF, if_pos rfl]
theorem kf_part (n u p q : Nat) : (kf n u p q).lookup ("part" : Str) = some (.int q) := by
  unfold kf; rw [lookup_putF, if_pos rfl]
theorem kf_no (n u p q : Nat) {m : Str} (h1 : ¬ m = "part") (h2 : ¬ m = "power") (h3 : ¬ m = "unit") (h4 : ¬ m = "number") : (kf n u p q).lookup m = none := by
  unfold kf; rw [lookup_putF, if_neg h1, lookup_putF, if_neg h2, lookup_putF, if_neg h3, lookup_putF, if_neg h4]; rfl
theorem putF_len (f : Str) (v : V) : ∀ fs : List (Str × V), (putF f v fs).length ≤ fs.length + 1
  | [] => Nat.le_refl _
  | (g, u) :: r => by
    unfold putF
    split
    · exact Nat.le_succ _
    · rw [List.length_cons, List.length_cons]
      have := putF_len f v r
      omega
/-- a lot stands at p -/
def KeptAt (C : Addr) (H : Hp) (x : Addr) (n u p q : Nat) : Prop := ∃ dx, H x = some (.ins C dx (kf n u p q))
theorem KeptAt.mono {C : Addr} {H H' : Hp} {x : Addr} {n u p q : Nat} (s : Same H H') (h : KeptAt C H x n u p q) : KeptAt C H' x n u p q := by
  obtain ⟨dx, h⟩ := h
  exact ⟨dx, s _ _ h⟩
def sp_Kept_init (a : Ad) : Sp := fun vs H Q E => ∃ (x dx : Addr) (v1 v2 v3 v4 : V), vs = [.ref x, v1, v2, v3, v4] ∧ H x = some (.ins a.Kept dx []) ∧ (∃ t, Kn H v1 t) ∧ (∃ t, Kn H v2 t) ∧ (∃ t, Kn H v3 t) ∧ (∃ t, Kn H v4 t) ∧
  ((numB v1 && numB v2 && numB v3 && numB v4) = true → ∃ n u p q : Nat, v1 = .int n ∧ v2 = .int u ∧ v3 = .int p ∧ v4 = .int q ∧ ∀ H', KeptAt a.Kept H' x n u p q → But x H H' → Q .non H') ∧
  ((numB v1 && numB v2 && numB v3 && numB v4) = false → ∀ H', Same H H' → E (.ref a.BadKept) none H')
theorem ok_Kept___init__ (T : Txt K mg a) : Mt (L2.CX P w) P w K mg base 2 a.Kept "__init__" (sp_Kept_init a) := by
  have c_is_number := ok_is_number (P := P) (w := w) (base := base) T
  refine T.d_Kept___init__.m1 sc_Kept___init__ (fun vs H Q E h => ?_) (fun f cdv A outer s H vs Q E hr h => ?_)
  · obtain ⟨x, dx, v1, v2, v3, v4, rfl, _⟩ := h
    rfl
  · obtain ⟨x, dx, v1, v2, v3, v4, rfl, hx, k1, k2, k3, k4, kY, kN⟩ := h
    have tk := takes_of (X := cxOf (L2.CX P w) P w K mg base ["self", "number", "unit", "power", "part", "one"] "Kept.__init__" (defScope s_Kept___init__) f cdv A outer s H E) rfl rfl rfl rfl
    refine ⟨_, (pss_cons (ps_if (pt_not (pt_val (pe_callB (cr_all rfl) (by rfl) T.n_all b_all (pa_cons (pe_lc (own := [("one", 5)]) (g := gName 5) rfl sc_Kept___init__.nd (pi_tup (pe_tup (pa_cons (pv 1) (pa_cons (pv 2) (pa_cons (pv 3) (pa_cons (pv 4) pa_nil)))))) (blkOk_by (N := ["self", "number", "unit", "power", "part", "one"]) (sc := defScope s_Kept___init__) (by decide +kernel)) (fun _ _ _ _ _ => (pg_name (i := 5) sc_Kept___init__.nd rfl (Or.inl rfl))) (fun _ _ _ _ _ => pts_nil) (fun _ _ _ _ _ => (pe_0 c_is_number hr (by decide) (pa_cons (pv 5) pa_nil)))) pa_nil)))) (pss_one (ps_raise rfl tk T.x_BadKept.pmk)) pss_nil)
      (pss_cons (ps_fld (pv 0) (pv 1) rfl)
      (pss_cons (ps_fld (pv 0) (pv 2) rfl)
      (pss_cons (ps_fld (pv 0) (pv 3) rfl)
      (pss_one (ps_fld (pv 0) (pv 4) rfl)))))), ?_⟩
    refine ⟨_, rfl, _, rfl, _, rfl, _, rfl, (by show 4 ≤ sizeLine; decide), fun t ht => ⟨t, rfl, ⟨_, SqT.of upd_same⟩, fun D hD => lc_tupM (fun v => .bl (numB v)) upd_same hD (by show 4 < sizeLine; decide) (fun _ => rfl) ?_ ?_⟩⟩
    · intro i v hi H' Q' s' q
      refine ⟨_, rfl, v, rfl, ?_, q⟩
      have m : v ∈ [v1, v2, v3, v4] := List.mem_of_getElem? hi
      have s2 : Same H H' := (same_new ht).trans s'
      simp only [List.mem_cons, List.not_mem_nil, or_false] at m
      rcases m with rfl | rfl | rfl | rfl
      · exact k1.imp fun t k => k.mono s2
      · exact k2.imp fun t k => k.mono s2
      · exact k3.imp fun t k => k.mono s2
      · exact k4.imp fun t k => k.mono s2
    · refine ⟨D, [numB v1, numB v2, numB v3, numB v4], rfl, SqL.of upd_same, _, rfl, ?_⟩
      have e : [numB v1, numB v2, numB v3, numB v4].all id = (numB v1 && numB v2 && numB v3 && numB v4) := by simp [Bool.and_assoc]
      rw [e]
      have s2 : Same H _ := same_upd (o := HO.lst [.bl (numB v1), .bl (numB v2), .bl (numB v3), .bl (numB v4)]) (same_new (o := HO.tup [v1, v2, v3, v4]) ht) hD
      cases c : (numB v1 && numB v2 && numB v3 && numB v4) with
      | false => exact iteT (kN c _ s2)
      | true =>
        obtain ⟨n, u, p, q, rfl, rfl, rfl, rfl, kk⟩ := kY c
        refine iteF (g_next ?_)
        have hx2 := s2 _ _ hx
        refine ⟨_, rfl, _, rfl, x, a.Kept, dx, [], rfl, hx2, T.cl_Kept.cl, T.cl_Kept.na.1, (by decide), _, rfl, _, rfl, x, a.Kept, dx, _, rfl, upd_same, T.cl_Kept.cl, T.cl_Kept.na.2.1, Nat.lt_of_le_of_lt (putF_len _ _ _) (by decide), ?_⟩
        refine ⟨_, rfl, _, rfl, x, a.Kept, dx, _, rfl, upd_same, T.cl_Kept.cl, T.cl_Kept.na.2.2.1, Nat.lt_of_le_of_lt (putF_len _ _ _) (Nat.lt_of_le_of_lt (Nat.succ_le_succ (putF_len _ _ _)) (by decide)),
          _, rfl, _, rfl, x, a.Kept, dx, _, rfl, upd_same, T.cl_Kept.cl, T.cl_Kept.na.2.2.2.1, Nat.lt_of_le_of_lt (putF_len _ _ _) (Nat.lt_of_le_of_lt (Nat.succ_le_succ (Nat.le_trans (putF_len _ _ _) (Nat.succ_le_succ (putF_len _ _ _)))) (by decide)), ?_⟩
        refine kk _ ⟨dx, upd_same⟩ fun b o nb e => ?_
        rw [upd_ne nb, upd_ne nb, upd_ne nb, upd_ne nb]
        exact s2 b o e
/-- whether a modulus is in a lot -/
def inK (n u p q m : Nat) : Bool := (decide (n % m = 0) && decide (Nat.gcd u m = 1)) || (decide (0 < p) && (decide (m % p = 0) && decide (Nat.gcd q (m / p) = 1)))
def inV' (n u p q : Nat) : V → Bool
  | .int m => decide (1 ≤ m) && inK n u p q m.toNat
  | _ => false
def sp_Kept_contains (a : Ad) : Sp := fun vs H Q _ => ∃ (x : Addr) (v : V) (n u p q : Nat), vs = [.ref x, v] ∧ KeptAt a.Kept H x n u p q ∧ (∃ t, Kn H v t) ∧ (∀ m, v = .int m → m < 1000000) ∧ p < 1000000 ∧ Q (.bl (inV' n u p q v)) H
theorem ok_Kept___contains__ (T : Txt K mg a) : Mt CX0 P w K mg base 2 a.Kept "__contains__" (sp_Kept_contains a) := by
  have c_is_number := ok_is_number (P := P) (w := w) (base := base) T; have c_common := ok_common (P := P) (w := w) (base := base) T
  refine T.d_Kept___contains__.m0 sc_Kept___contains__ (fun vs H Q E h => ?_) (fun f cdv A outer s H vs Q E hr h => ?_)
  · obtain ⟨x, v, n, u, p, q, rfl, _⟩ := h
    rfl
  · obtain ⟨x, v, n, u, p, q, rfl, ⟨dx, hx⟩, kv, hm, hp, k⟩ := h
    refine ⟨_, (pss_cons (ps_if (pw_or (pt_not (pt_val (pe_0 c_is_number hr (by decide) (pa_cons (pv 1) pa_nil)))) (pw_or1 (pt_cmpR op_lt (pv 1) pe_int (nomark _)))).pt (pss_one (ps_ret pe_bl)) pss_nil)
      (C8.pss_cut (ps_if (pw_and (pt_cmpR op_eq (pe_op op_mod (pe_fld (pv 0) rfl) (pv 1)) pe_int (nomark _)) (pw_and1 (pt_cmpR op_eq (pe_0 c_common hr (by decide) (pa_cons (pe_fld (pv 0) rfl) (pa_cons (pv 1) pa_nil))) pe_int (nomark _)))).pt (pss_one (ps_ret pe_bl)) pss_nil)
      (pss_one (ps_ret (pe_and (pe_cmpR op_gt (pe_fld (pv 0) rfl) pe_int (nomark _)) (pe_and (pe_cmpR op_eq (pe_op op_mod (pv 1) (pe_fld (pv 0) rfl)) pe_int (nomark _)) (pe_one (pe_cmpR op_eq (pe_0 c_common hr (by decide) (pa_cons (pe_fld (pv 0) rfl) (pa_cons (pe_op op_fdivW (pv 1) (pe_fld (pv 0) rfl)) pa_nil))) pe_int (nomark _))))))))), ?_⟩
    refine ⟨_, rfl, v, rfl, kv, _, rfl, ?_⟩
    by_cases c : numB v = true
    · obtain ⟨m, rfl, m0⟩ : ∃ m, v = .int m ∧ 0 ≤ m := by
        cases v <;> simp only [numB, Bool.false_eq_true, decide_eq_true_eq] at c
        exact ⟨_, rfl, c⟩
      obtain ⟨m, rfl⟩ := Int.eq_ofNat_of_zero_le m0
      refine iteF' (by rw [c]; rfl) ⟨_, rfl, _, _, rfl, rfl, _, rfl, ?_⟩
      by_cases c1 : m = 0
      · subst c1
        exact iteT' (by decide) (q_eq k rfl)
      · have m1 : 0 < m := by omega
        have mi : (0 : Int) < (m : Int) := by omega
        have hm' := hm _ rfl
        refine iteF' (decide_eq_false (by omega)) ?_
        have K1 : Q (.bl (inK n u p q m)) H := q_eq k (by simp only [inV', Int.toNat_natCast, decide_eq_true (show (1 : Int) ≤ (m : Int) by omega), Bool.true_and])
        refine g_next ?_
        refine ⟨fun σ' H' => H' = H ∧ σ' = [some (.ref x), some (.int m)] ∧ ¬ (n % m = 0 ∧ Nat.gcd u m = 1), ?_, ?_⟩
        · refine ⟨_, rfl, x, a.Kept, dx, _, _, rfl, hx, T.cl_Kept.cl, T.cl_Kept.na.1, kf_number _ _ _ _, _, rfl, _, _, rfl, rfl, mi, rfl, _, rfl, ?_⟩
          rw [dec_int]
          by_cases c2 : n % m = 0
          · refine iteT' (decide_eq_true (by rw [← Int.natCast_emod, c2]; rfl)) ⟨_, rfl, x, a.Kept, dx, _, _, rfl, hx, T.cl_Kept.cl, T.cl_Kept.na.2.1, kf_unit _ _ _ _, _, rfl, _, _, rfl, rfl, _, rfl, ?_⟩
            rw [dec_int]
            by_cases c3 : Nat.gcd u m = 1
            · refine iteT' (decide_eq_true (by show ((Nat.gcd u m : Nat) : Int) = 1; omega)) (q_eq K1 ?_)
              simp only [inK, c2, c3, decide_true, Bool.and_self, Bool.true_or]
            · exact iteF' (decide_eq_false (by show ¬ ((Nat.gcd u m : Nat) : Int) = 1; omega)) ⟨rfl, rfl, fun h => c3 h.2⟩
          · exact iteF' (decide_eq_false (fun h => c2 (by omega))) (iteF ⟨rfl, rfl, fun h => c2 h.1⟩)
        · rintro σ' H' ⟨rfl, rfl, no⟩
          have e0 : (decide (n % m = 0) && decide (Nat.gcd u m = 1)) = false := by
            rw [Bool.and_eq_false_imp]
            intro h1
            rw [decide_eq_true_eq] at h1
            exact decide_eq_false fun h2 => no ⟨h1, h2⟩
          refine ⟨_, rfl, x, a.Kept, dx, _, _, rfl, hx, T.cl_Kept.cl, T.cl_Kept.na.2.2.1, kf_power _ _ _ _, _, _, rfl, rfl, _, rfl, ?_⟩
          by_cases p0 : p = 0
          · subst p0
            exact iteF' (by decide) (q_eq K1 (by simp only [inK, e0, Bool.false_or]; rfl))
          · have p1 : (0 : Int) < (p : Int) := by omega
            have e1 : decide (0 < p) = true := decide_eq_true (by omega)
            refine iteT' (decide_eq_true p1) ⟨_, rfl, _, rfl, x, a.Kept, dx, _, _, rfl, hx, T.cl_Kept.cl, T.cl_Kept.na.2.2.1, kf_power _ _ _ _, _, _, rfl, rfl, p1, rfl, _, rfl, ?_⟩
            rw [dec_int]
            by_cases c3 : m % p = 0
            · refine iteT' (decide_eq_true (by rw [← Int.natCast_emod, c3]; rfl)) ⟨_, rfl, x, a.Kept, dx, _, _, rfl, hx, T.cl_Kept.cl, T.cl_Kept.na.2.2.2.1, kf_part _ _ _ _, _, rfl, _, rfl, x, a.Kept, dx, _, _, rfl, hx, T.cl_Kept.cl, T.cl_Kept.na.2.2.1, kf_power _ _ _ _, _, _, rfl, rfl, wdiv p1 (by omega), _, _, rfl, rfl, ?_⟩
              refine q_eq K1 ?_
              simp only [inK, e0, e1, c3, Bool.false_or, decide_true, Bool.true_and]
              rw [dec_int]
              congr 1
              exact decide_eq_decide.mpr ⟨fun h => by exact_mod_cast h, fun h => by exact_mod_cast h⟩
            · refine iteF' (decide_eq_false (fun h => c3 (by omega))) (q_eq K1 ?_)
              simp only [inK, e0, e1, c3, Bool.false_or, decide_false, Bool.false_and, Bool.and_false]
    · exact iteT' (by rw [bf c]; rfl) (iteT (q_eq k (by
        cases v <;> simp only [numB, decide_eq_true_eq] at c <;> try rfl
        simp only [inV']
        rw [decide_eq_false (by omega), Bool.false_and])))
end

end Fold
namespace Fold
open PySem PySem.Spec PyProof.Rows L2
section
variable {P : Program} {w : World} {K : PySem.W.Frag} {mg : Str → Option Value} {base : Heap} {a : Ad}
/-- the moduli up to a number -/
def upTo (n u p q N : Nat) : List V := ((List.range N).filter fun i => inK n u p q (i + 1)).map fun (i : Nat) => V.int (1 + (i : Int))
theorem inV'_nat {n u p q i : Nat} : inV' n u p q (.int (1 + (i : Int))) = inK n u p q (i + 1) := by
  have e : (1 + (i : Int)).toNat = i + 1 := by omega
  simp only [inV', e]
  rw [decide_eq_true (by omega), Bool.true_and]
def sp_Kept_up_to (a : Ad) : Sp := fun vs H Q _ => ∃ (x : Addr) (N n u p q : Nat), vs = [.ref x, .int N] ∧ KeptAt a.Kept H x n u p q ∧ p < 1000000 ∧ N < 100000 ∧ ∀ D, H D = none → Q (.ref D) (upd H D (.lst (upTo n u p q N)))
theorem ok_Kept_up_to (T : Txt K mg a) : Mt CX0 P w K mg base 3 a.Kept "up_to" (sp_Kept_up_to a) := by
  have o_Kept___contains__ := ok_Kept___contains__ (P := P) (w := w) (base := base) T
  refine T.d_Kept_up_to.m0 sc_Kept_up_to (fun vs H Q E h => ?_) (fun f cdv A outer s H vs Q E hr h => ?_)
  · obtain ⟨x, N, n, u, p, q, rfl, _⟩ := h
    rfl
  · obtain ⟨x, N, n, u, p, q, rfl, hx, hp, hN, k⟩ := h
    refine ⟨_, (pss_one (ps_ret (pe_lc (own := [("m", 2)]) (g := gName 2) rfl sc_Kept_up_to.nd (pi_range2 (by rfl) T.n_range (pa_cons pe_int (pa_cons (pe_op op_add (pv 1) pe_int) pa_nil))) (blkOk_by (N := ["self", "most", "m"]) (sc := defScope s_Kept_up_to) (by decide +kernel)) (fun _ _ _ _ _ => (pg_name (i := 2) sc_Kept_up_to.nd rfl (Or.inl rfl))) (fun _ _ _ _ _ => (pts_one (pt_cmpR (op_inOwn o_Kept___contains__ hr (by decide)) (pv 2) (pv 0) (by with_unfolding_all rfl)))) (fun _ _ _ _ _ => (pv 2))))), ?_⟩
    have eN : ((N : Int) + 1 - 1).toNat = N := by omega
    refine ⟨_, rfl, _, _, rfl, rfl, _, _, rfl, ⟨by omega, by omega, by omega, by omega⟩, fun D hD => ?_⟩
    refine lc_rangeF (fun i => inK n u p q (i + 1)) (fun i => V.int (1 + (i : Int))) hD (by rw [eN]; exact Nat.lt_of_lt_of_le hN (by decide)) (fun _ => rfl) ?_ ?_ ?_
    · intro i hi H' Q' s' qq
      obtain ⟨dx, hx'⟩ := hx.mono s'
      exact ⟨_, rfl, _, rfl, x, dx, _, rfl, hx', x, _, n, u, p, q, rfl, ⟨dx, hx'⟩, ⟨_, .int _⟩, fun m e => by injection e with e; omega, hp, _, rfl, _, rfl, by rw [inV'_nat]; exact qq⟩
    · intro i hi H' Q' s' qq
      exact ⟨_, rfl, qq⟩
    · rw [eN]
      exact k D hD
/-- behind it all comes round -/
def rnd (n u p q : Nat) : Nat := max 1 (max n p) + max 1 u * max 1 p * max 1 q
theorem max_int (u : Nat) : (if (u : Int) > 1 then (u : Int) else 1) = ((max 1 u : Nat) : Int) := by split <;> omega
def LeastOk (n u p q : Nat) (H : Hp) (Q : VK) : Prop := (∀ m : Nat, 1 ≤ m → m ≤ rnd n u p q → inK n u p q m = false → (∀ j, 1 ≤ j → j < m → inK n u p q j = true) → Q (.int m) H) ∧ ((∀ j, 1 ≤ j → j ≤ rnd n u p q → inK n u p q j = true) → Q .non H)
def sp_Kept_least_out (a : Ad) : Sp := fun vs H Q _ => ∃ (x : Addr) (n u p q : Nat), vs = [.ref x] ∧ KeptAt a.Kept H x n u p q ∧ (n < 1000 ∧ u < 1000 ∧ p < 1000 ∧ q < 1000) ∧ rnd n u p q < 900000 ∧ LeastOk n u p q H Q
theorem ok_Kept_least_out (T : Txt K mg a) : Mt CX0 P w K mg base 3 a.Kept "least_out" (sp_Kept_least_out a) := by
  have o_Kept___contains__ := ok_Kept___contains__ (P := P) (w := w) (base := base) T
  refine T.d_Kept_least_out.m0 sc_Kept_least_out (fun vs H Q E h => ?_) (fun f cdv A outer s H vs Q E hr h => ?_)
  · obtain ⟨x, n, u, p, q, rfl, _⟩ := h
    rfl
  · obtain ⟨x, n, u, p, q, rfl, ⟨dx, hx⟩, ⟨bn, bu, bp, bq⟩, hR, k1, k2⟩ := h
    refine ⟨_, (pss_cons (ps_set (i := 1) sc_Kept_least_out.nd rfl (Or.inl rfl) (pe_op op_mul (pe_op op_mul (pe_callB (call_max2 rfl) (by rfl) T.n_max b_max (pa_cons pe_int (pa_cons (pe_fld (pv 0) rfl) pa_nil))) (pe_callB (call_max2 rfl) (by rfl) T.n_max b_max (pa_cons pe_int (pa_cons (pe_fld (pv 0) rfl) pa_nil)))) (pe_callB (call_max2 rfl) (by rfl) T.n_max b_max (pa_cons pe_int (pa_cons (pe_fld (pv 0) rfl) pa_nil)))))
      (pss_cons (ps_for PassesOwn.never rfl (pi_range2 (by rfl) T.n_range (pa_cons pe_int (pa_cons (pe_op op_add (pe_op op_add (pe_callB (call_max3Nu rfl) (by rfl) T.n_max b_max (pa_cons pe_int (pa_cons (pe_fld (pv 0) rfl) (pa_cons (pe_fld (pv 0) rfl) pa_nil)))) (pv 1)) pe_int) pa_nil))) (pg_name (i := 2) sc_Kept_least_out.nd rfl (Or.inl rfl)) (pss_one (ps_if (pt_cmpR (op_notInOwn o_Kept___contains__ hr (by decide)) (pv 2) (pv 0) (by with_unfolding_all rfl)) (pss_one (ps_ret (pv 2))) pss_nil)))
      (pss_one (ps_ret pe_non)))), ?_⟩
    have mu : -(2 ^ 64) < ((max 1 p : Nat) : Int) ∧ ((max 1 p : Nat) : Int) < 2 ^ 64 := ⟨by omega, by omega⟩
    have mq : -(2 ^ 64) < ((max 1 q : Nat) : Int) ∧ ((max 1 q : Nat) : Int) < 2 ^ 64 := ⟨by omega, by omega⟩
    have em : nuMax3 (.int 1) (.int n) (.int p) = some (.int ((max 1 (max n p) : Nat) : Int)) := by
      simp only [nuMax3, nuMax2, nuLt, nuCB, Option.map_some, Option.bind_some]
      by_cases c1 : (1 : Int) < n
      · rw [decide_eq_true c1, if_pos rfl]
        simp only [nuCB, Option.map_some]
        by_cases c2 : (n : Int) < p
        · rw [decide_eq_true c2, if_pos rfl]; congr 2; omega
        · rw [decide_eq_false c2, if_neg Bool.false_ne_true]; congr 2; omega
      · rw [decide_eq_false c1, if_neg Bool.false_ne_true]
        simp only [nuCB, Option.map_some]
        by_cases c2 : (1 : Int) < p
        · rw [decide_eq_true c2, if_pos rfl]; congr 2; omega
        · rw [decide_eq_false c2, if_neg Bool.false_ne_true]; congr 2; omega
    refine ⟨_, rfl, x, a.Kept, dx, _, _, rfl, hx, T.cl_Kept.cl, T.cl_Kept.na.2.1, kf_unit _ _ _ _, _, _, rfl, ?_⟩
    rw [max_int]
    refine ⟨_, rfl, x, a.Kept, dx, _, _, rfl, hx, T.cl_Kept.cl, T.cl_Kept.na.2.2.1, kf_power _ _ _ _, _, _, rfl, ?_⟩
    rw [max_int]
    refine ⟨_, _, rfl, rfl, .inr mu, _, rfl, x, a.Kept, dx, _, _, rfl, hx, T.cl_Kept.cl, T.cl_Kept.na.2.2.2.1, kf_part _ _ _ _, _, _, rfl, ?_⟩
    rw [max_int]
    refine ⟨_, _, rfl, rfl, .inr mq, ?_⟩
    refine ⟨_, rfl, x, a.Kept, dx, _, _, rfl, hx, T.cl_Kept.cl, T.cl_Kept.na.1, kf_number _ _ _ _, _, rfl, x, a.Kept, dx, _, _, rfl, hx, T.cl_Kept.cl, T.cl_Kept.na.2.2.1, kf_power _ _ _ _, _, _, _, _, rfl, em, _, rfl, _, _, rfl, rfl, _, _, rfl, rfl, ?_⟩
    have er : ((max 1 (max n p) : Nat) : Int) + ((max 1 u : Nat) : Int) * ((max 1 p : Nat) : Int) * ((max 1 q : Nat) : Int) + 1 = ((rnd n u p q : Nat) : Int) + 1 := by
      simp only [rnd, Int.natCast_add, Int.natCast_mul]
    have eN : ((rnd n u p q : Int) + 1 - 1).toNat = rnd n u p q := by omega
    refine ⟨1, ((rnd n u p q : Nat) : Int) + 1, by rw [← er], ⟨by omega, by omega, by omega, by omega⟩, for_range (fun i σ H' => H' = H ∧ (∃ r v, σ = [some (.ref x), r, v]) ∧ ∀ j, 1 ≤ j → j ≤ i → inK n u p q j = true) ⟨rfl, ⟨_, _, rfl⟩, fun j h1 h2 => by omega⟩ ?_ ?_⟩
    · rintro i σ H' hi ⟨rfl, ⟨r, v, rfl⟩, hj⟩
      refine ⟨_, rfl, _, rfl, x, dx, _, rfl, hx, x, _, n, u, p, q, rfl, ⟨dx, hx⟩, ⟨_, .int _⟩, fun m e => by injection e with e; omega, by omega, _, rfl, _, rfl, ?_⟩
      rw [inV'_nat]
      cases c : inK n u p q (i + 1) with
      | true =>
        refine iteF' rfl ⟨rfl, ⟨_, _, rfl⟩, fun j h1 h2 => ?_⟩
        by_cases e : j = i + 1
        · rw [e]; exact c
        · exact hj j h1 (by omega)
      | false =>
        refine iteT' rfl ⟨_, rfl, ?_⟩
        refine q_eq (k1 (i + 1) (by omega) (by omega) c fun j h1 h2 => hj j h1 (by omega)) ?_
        congr 1
        omega
    · rintro σ H' ⟨rfl, _, hj⟩
      exact k2 fun j h1 h2 => hj j h1 (by rw [eN]; exact h2)
def finB (n u p q : Nat) : Bool := (decide (0 < n) || decide (u = 0)) && (decide (p = 0) || decide (q = 0))
def sp_Kept_is_finite (a : Ad) : Sp := fun vs H Q _ => ∃ (x : Addr) (n u p q : Nat), vs = [.ref x] ∧ KeptAt a.Kept H x n u p q ∧ Q (.bl (finB n u p q)) H
theorem dz (n : Nat) : decide ((n : Int) = 0) = decide (n = 0) := decide_eq_decide.mpr ⟨fun h => by omega, fun h => by omega⟩
theorem dp (n : Nat) : decide ((0 : Int) < n) = decide (0 < n) := decide_eq_decide.mpr ⟨fun h => by omega, fun h => by omega⟩
theorem ok_Kept_is_finite (T : Txt K mg a) : Mt CX0 P w K mg base 1 a.Kept "is_finite" (sp_Kept_is_finite a) := by
  refine T.d_Kept_is_finite.m0 sc_Kept_is_finite (fun vs H Q E h => ?_) (fun f cdv A outer s H vs Q E hr h => ?_)
  · obtain ⟨x, n, u, p, q, rfl, _⟩ := h
    rfl
  · obtain ⟨x, n, u, p, q, rfl, ⟨dx, hx⟩, k⟩ := h
    refine ⟨_, (pss_one (ps_ret (pe_and (pe_or (pe_cmpR op_gt (pe_fld (pv 0) rfl) pe_int (nomark _)) (pe_one (pe_cmpR op_eq (pe_fld (pv 0) rfl) pe_int (nomark _)))) (pe_one (pe_or (pe_cmpR op_eq (pe_fld (pv 0) rfl) pe_int (nomark _)) (pe_one (pe_cmpR op_eq (pe_fld (pv 0) rfl) pe_int (nomark _)))))))), ?_⟩
    have second : (decide (0 < n) || decide (u = 0)) = true → tOrV (tOp rEq (tFld K (tVar 0) "power") (tC (.int 0))) (tOp rEq (tFld K (tVar 0) "part") (tC (.int 0))) [some (.ref x)] H Q := by
      intro e
      refine ⟨_, rfl, x, a.Kept, dx, _, _, rfl, hx, T.cl_Kept.cl, T.cl_Kept.na.2.2.1, kf_power _ _ _ _, rfl, _, rfl, ?_⟩
      rw [dec_int, dz]
      cases c : decide (p = 0) with
      | true => exact iteT' rfl (q_eq k (by simp only [finB, e, c, Bool.true_or, Bool.and_self]))
      | false =>
        refine iteF' rfl ⟨_, rfl, x, a.Kept, dx, _, _, rfl, hx, T.cl_Kept.cl, T.cl_Kept.na.2.2.2.1, kf_part _ _ _ _, rfl, ?_⟩
        rw [dec_int, dz]
        exact q_eq k (by simp only [finB, e, c, Bool.false_or, Bool.true_and])
    refine ⟨_, rfl, x, a.Kept, dx, _, _, rfl, hx, T.cl_Kept.cl, T.cl_Kept.na.1, kf_number _ _ _ _, _, _, rfl, rfl, _, rfl, ?_⟩
    rw [dp]
    cases c : decide (0 < n) with
    | true => exact iteT' rfl ⟨_, rfl, iteT' rfl (second (by rw [c]; rfl))⟩
    | false =>
      refine iteF' rfl ⟨_, rfl, x, a.Kept, dx, _, _, rfl, hx, T.cl_Kept.cl, T.cl_Kept.na.2.1, kf_unit _ _ _ _, rfl, _, rfl, ?_⟩
      rw [dec_int, dz]
      cases c2 : decide (u = 0) with
      | true => exact iteT' rfl (second (by rw [c, c2]; rfl))
      | false => exact iteF' rfl (q_eq k (by simp only [finB, c, c2, Bool.or_self, Bool.false_and]))
end

end Fold
namespace Fold
open PySem PySem.Spec PyProof.Rows L2
/-! ### the law's own helpers -/
section
variable {P : Program} {w : World} {K : PySem.W.Frag} {mg : Str → Option Value} {base : Heap} {a : Ad}
/-- the drawing list stands at d -/
def DrawsAt (H : Hp) (d l : Addr) : Prop := ∃ (ns : List Int) (i : Nat) (g e : Int), H d = some (.lst [.ref l, .int i, .int g, .int e]) ∧ H l = some (.lst (ns.map V.int))
theorem DrawsAt.ne {H : Hp} {d l : Addr} {ns : List Int} {i : Nat} {g e : Int} (h : H d = some (.lst [.ref l, .int i, .int g, .int e])) (h' : H l = some (.lst (ns.map V.int))) : l ≠ d := by
  refine ne_of h' h fun q => ?_
  injection q with q
  cases ns with
  | nil => cases q
  | cons x r => cases q
theorem DrawsAt.mono {H H' : Hp} {d l : Addr} (s : Same H H') (h : DrawsAt H d l) : DrawsAt H' d l := by
  obtain ⟨ns, i, g, e, h1, h2⟩ := h
  exact ⟨ns, i, g, e, s _ _ h1, s _ _ h2⟩
theorem DrawsAt.there {H : Hp} {d l : Addr} (h : DrawsAt H d l) : ∃ o, H d = some o := by
  obtain ⟨ns, i, g, e, h1, h2⟩ := h
  exact ⟨_, h1⟩
theorem p31 : (0 : Int) < 2147483647 := by decide
theorem p29 : (0 : Int) < 2147483629 := by decide
def sp_law_begin (K : PySem.W.Frag) : Sp := fun vs H Q _ => ∃ (p : Addr) (ns : List Int), vs = [.ref p] ∧ SqL K H p (ns.map V.int) ∧ ∀ d l H', H d = none → Same H H' → DrawsAt H' d l → Q (.ref d) H'
theorem ok__law_begin (T : Txt K mg a) : C0 P w K mg base 1 "_law_begin" (sp_law_begin K) := by
  skip
  refine T.d__law_begin.c0 sc__law_begin (fun vs H Q E h => ?_) (fun f cdv A outer s H vs Q E hr h => ?_)
  · obtain ⟨p, ns, rfl, _⟩ := h
    rfl
  · obtain ⟨p, ns, rfl, hp, k⟩ := h
    refine ⟨_, (pss_one (ps_ret (pe_lst (pa_cons (pe_callTy call_list_of (by rfl) T.n_list b_list (pa_cons (pv 0) pa_nil)) (pa_cons pe_int (pa_cons pe_int (pa_cons pe_int pa_nil))))))), ?_⟩
    refine ⟨_, rfl, p, _, rfl, .inl hp, fun l hl => ⟨by show 4 ≤ sizeLine; decide, fun d hd => ?_⟩⟩
    have nd : l ≠ d := ne_of_none upd_same hd
    have hd0 : H d = none := by rw [upd_ne nd.symm] at hd; exact hd
    exact k d l _ hd0 (same_upd (same_new hl) hd) ⟨ns, 0, 0, 7, upd_same, by rw [upd_ne nd]; exact upd_same⟩
def sp_law_draw : Sp := fun vs H Q _ => ∃ (d l : Addr) (z : Int), vs = [.ref d, .int z] ∧ (0 < z ∧ z < 9223372036854775808) ∧ DrawsAt H d l ∧ ∀ r H', 0 ≤ r → r < z → DrawsAt H' d l → But d H H' → Q (.int r) H'
theorem ok__law_draw (T : Txt K mg a) : C0 P w K mg base 1 "_law_draw" sp_law_draw := by
  skip
  refine T.d__law_draw.c0 sc__law_draw (fun vs H Q E h => ?_) (fun f cdv A outer s H vs Q E hr h => ?_)
  · obtain ⟨d, l, z, rfl, _⟩ := h
    rfl
  · obtain ⟨d, l, z, rfl, hz, hD, k⟩ := h
    refine ⟨_, (C8.pss_cut (ps_if (pt_cmpR op_eq (pe_ix ix_list (pv 0) pe_int (fun _ _ => rfl)) pe_int (nomark _)) (pss_one (ps_if (pt_cmpR op_lt (pe_ix ix_list (pv 0) pe_int (fun _ _ => rfl)) (pe_callB call_len_seq (by rfl) T.n_len b_len (pa_cons (pe_ix ix_list (pv 0) pe_int (fun _ _ => rfl)) pa_nil)) (nomark _)) (pss_cons (ps_set (i := 2) sc__law_draw.nd rfl (Or.inl rfl) (pe_ix ix_list (pe_ix ix_list (pv 0) pe_int (fun _ _ => rfl)) (pe_ix ix_list (pv 0) pe_int (fun _ _ => rfl)) (fun _ _ => rfl)))
      (pss_cons (ps_asg (pe_op op_add (pe_ix ix_list (pv 0) pe_int (fun _ _ => rfl)) pe_int) (pg_sub (pv 0) pe_int set_list))
      (pss_one (ps_if (pt_cmpR op_ge (pv 2) (pe_op op_pow pe_int pe_int) (nomark _)) (pss_one (ps_asg (pv 2) (pg_sub (pv 0) pe_int set_list))) (pss_one (ps_asg (pe_op op_mod (pe_callTy call_int1 (by rfl) T.n_int b_int (pa_cons (pe_op op_add (pe_op op_add (pe_op op_mul (pe_ix ix_list (pv 0) pe_int (fun _ _ => rfl)) pe_int) (pe_op op_mul (pv 2) pe_int)) pe_int) pa_nil)) pe_int) (pg_sub (pv 0) pe_int set_list))))))) (pss_one (ps_asg (pe_op op_mod (pe_callTy call_int1 (by rfl) T.n_int b_int (pa_cons (pe_op op_add (pe_op op_mul (pe_ix ix_list (pv 0) pe_int (fun _ _ => rfl)) pe_int) pe_int) pa_nil)) pe_int) (pg_sub (pv 0) pe_int set_list))))) pss_nil)
      (pss_cons (ps_if (pt_cmpR op_gt (pe_ix ix_list (pv 0) pe_int (fun _ _ => rfl)) pe_int (nomark _)) (pss_cons (ps_set (i := 3) sc__law_draw.nd rfl (Or.inl rfl) (pe_op op_mod (pe_callTy call_int1 (by rfl) T.n_int b_int (pa_cons (pe_ix ix_list (pv 0) pe_int (fun _ _ => rfl)) pa_nil)) (pv 1)))
      (pss_cons (ps_asg (pe_op op_fdivW (pe_ix ix_list (pv 0) pe_int (fun _ _ => rfl)) (pv 1)) (pg_sub (pv 0) pe_int set_list))
      (pss_one (ps_ret (pv 3))))) pss_nil)
      (pss_one (ps_ret (pe_op op_mod (pe_op op_mod (pe_callTy call_int1 (by rfl) T.n_int b_int (pa_cons (pe_op op_mul (pe_ix ix_list (pv 0) pe_int (fun _ _ => rfl)) pe_int) pa_nil)) pe_int) (pv 1)))))), ?_⟩
    refine ⟨fun σ H' => DrawsAt H' d l ∧ But d H H' ∧ ∃ c, σ = [some (.ref d), some (.int z), c, none], ?_, ?_⟩
    · obtain ⟨ns, i, g, e, h1, h2⟩ := id hD
      have nl : l ≠ d := DrawsAt.ne h1 h2
      refine ⟨_, rfl, _, _, _, _, rfl, rfl, SqL.of h1, rfl, rfl, _, rfl, ?_⟩
      rw [dec_int]
      refine iteB (fun c => ?_) (fun c => ⟨hD, But.refl _ _, _, rfl⟩)
      refine ⟨_, rfl, _, _, _, _, rfl, rfl, SqL.of h1, rfl, _, rfl, _, _, _, _, rfl, rfl, SqL.of h1, rfl, l, _, rfl, .inl (SqL.of h2), _, _, rfl, rfl, _, rfl, ?_⟩
      rw [List.length_map]
      refine iteB (fun c2 => ?_) (fun c2 => ?_)
      · have hi : i < ns.length := by simpa using c2
        refine ⟨_, rfl, _, _, _, _, rfl, rfl, SqL.of h1, rfl, _, rfl, _, _, _, _, rfl, rfl, SqL.of h1, rfl, l, _, _, _, rfl, rfl, SqL.of h2, at_of (j := i) (v := V.int ns[i]) rfl (by rw [List.getElem?_map, List.getElem?_eq_getElem hi]; rfl), ?_⟩
        refine ⟨_, rfl, _, _, _, _, rfl, rfl, SqL.of h1, rfl, _, _, rfl, rfl, _, rfl, d, _, _, _, rfl, rfl, h1, rfl, ?_⟩
        refine ⟨_, rfl, _, _, rfl, rfl, ⟨by decide, by decide, by decide⟩, _, _, rfl, rfl, _, rfl, ?_⟩
        refine iteB (fun c3 => ?_) (fun c3 => ?_)
        · refine ⟨_, rfl, _, rfl, d, _, _, _, rfl, rfl, upd_same, rfl, ⟨ns, i + 1, _, e, upd_same, ?_⟩, But.trans But.upd But.upd, _, rfl⟩
          rw [upd_ne nl, upd_ne nl]; exact h2
        · refine ⟨_, rfl, _, _, _, _, rfl, rfl, SqL.of upd_same, rfl, _, _, rfl, rfl, .inr ⟨by decide, by decide⟩, _, rfl, _, _, rfl, rfl, .inr ⟨by decide, by decide⟩, _, _, rfl, rfl, _, _, rfl, rfl, .inl ⟨_, rfl, _, _, rfl, rfl, p31, _, rfl, d, _, _, _, rfl, rfl, upd_same, rfl, ⟨ns, i + 1, g, _, upd_same, ?_⟩, But.trans But.upd But.upd, _, rfl⟩⟩
          rw [upd_ne nl, upd_ne nl]; exact h2
      · refine ⟨_, rfl, _, _, _, _, rfl, rfl, SqL.of h1, rfl, _, _, rfl, rfl, .inr ⟨by decide, by decide⟩, _, _, rfl, rfl, .inl ⟨_, rfl, _, _, rfl, rfl, p31, _, rfl, d, _, _, _, rfl, rfl, h1, rfl, ⟨ns, i, g, _, upd_same, ?_⟩, But.upd, _, rfl⟩⟩
        rw [upd_ne nl]; exact h2
    · rintro σ H1 ⟨hD1, hB, c, rfl⟩
      obtain ⟨ns, i, g, e, h1, h2⟩ := id hD1
      have nl : l ≠ d := DrawsAt.ne h1 h2
      refine ⟨_, rfl, _, _, _, _, rfl, rfl, SqL.of h1, rfl, _, _, rfl, rfl, _, rfl, ?_⟩
      refine iteB (fun c => ?_) (fun c => ?_)
      · refine ⟨_, rfl, _, _, _, _, rfl, rfl, SqL.of h1, rfl, .inl ⟨_, rfl, _, rfl, _, _, rfl, rfl, hz.1, ?_⟩⟩
        refine ⟨_, rfl, _, _, _, _, rfl, rfl, SqL.of h1, rfl, _, rfl, _, _, rfl, rfl, wdiv hz.1 (by omega), _, rfl, d, _, _, _, rfl, rfl, h1, rfl, _, rfl, ?_⟩
        refine k _ _ (Int.emod_nonneg _ (by omega)) (Int.emod_lt_of_pos _ hz.1) ⟨ns, i, _, e, upd_same, ?_⟩ (hB.trans But.upd)
        rw [upd_ne nl]; exact h2
      · refine ⟨_, rfl, _, _, _, _, rfl, rfl, SqL.of h1, rfl, _, _, rfl, rfl, .inr ⟨by decide, by decide⟩, .inl ⟨_, rfl, _, _, rfl, rfl, p29, _, rfl, _, _, rfl, rfl, hz.1, ?_⟩⟩
        exact k _ _ (Int.emod_nonneg _ (by omega)) (Int.emod_lt_of_pos _ hz.1) hD1 hB
theorem DrawsAt.there2 {H : Hp} {d l : Addr} (h : DrawsAt H d l) : ∃ o, H l = some o := by
  obtain ⟨ns, i, g, e, h1, h2⟩ := h
  exact ⟨_, h2⟩
theorem DrawsAt.updO {H : Hp} {d l D : Addr} {o : HO} (h : DrawsAt H d l) (h1 : D ≠ d) (h2 : D ≠ l) : DrawsAt (upd H D o) d l := by
  obtain ⟨ns, i, g, e, e1, e2⟩ := h
  exact ⟨ns, i, g, e, keptN e1 h1.symm, keptN e2 h2.symm⟩
theorem DrawsAt.neL {H : Hp} {d l x : Addr} {xs : List V} (h : DrawsAt H d l) (e : H x = some (.lst xs)) (hx : ∀ v ∈ xs, ∀ r, v ≠ .ref r) : x ≠ d := by
  obtain ⟨ns, i, g, e', e1, e2⟩ := h
  refine ne_of e e1 fun q => ?_
  injection q with q
  rw [q] at hx
  exact hx _ List.mem_cons_self _ rfl
theorem noRef {l : List Nat} : ∀ v ∈ l.map (fun (z : Nat) => V.int z), ∀ r, v ≠ .ref r := by
  intro v m r
  obtain ⟨z, _, rfl⟩ := List.mem_map.mp m
  exact fun q => nomatch q
theorem DrawsAt.new1 {H : Hp} {d l D : Addr} (h : DrawsAt H d l) (hD : H D = none) : D ≠ d := fun q => by
  obtain ⟨o, ho⟩ := h.there
  rw [q, ho] at hD
  cases hD
theorem DrawsAt.new2 {H : Hp} {d l D : Addr} (h : DrawsAt H d l) (hD : H D = none) : D ≠ l := fun q => by
  obtain ⟨o, ho⟩ := h.there2
  rw [q, ho] at hD
  cases hD
end

end Fold
namespace Fold
open PySem PySem.Spec PyProof.Rows L2
section
variable {P : Program} {w : World} {K : PySem.W.Frag} {mg : Str → Option Value} {base : Heap} {a : Ad}
def sp_law_common : Sp := fun vs H Q _ => ∃ (i j : Nat), vs = [.int i, .int j] ∧ Q (.int (Nat.gcd i j : Nat)) H
theorem ok__law_common (T : Txt K mg a) : C0 P w K mg base 1 "_law_common" sp_law_common := by
  refine T.d__law_common.c0 sc__law_common (fun vs H Q E h => ?_) (fun f cdv A outer s H vs Q E hr h => ?_)
  · obtain ⟨i, j, rfl, _⟩ := h
    rfl
  · obtain ⟨i, j, rfl, k⟩ := h
    refine ⟨_, (pss_cons (ps_while PassesOwn.never (pt_cmpR op_ne (pv 1) pe_int (nomark _)) (pss_cons (ps_set (i := 2) sc__law_common.nd rfl (Or.inl rfl) (pe_op op_mod (pv 0) (pv 1)))
      (pss_cons (ps_set (i := 0) sc__law_common.nd rfl (Or.inl rfl) (pv 1))
      (pss_one (ps_set (i := 1) sc__law_common.nd rfl (Or.inl rfl) (pv 2))))))
      (pss_one (ps_ret (pv 0)))), ?_⟩
    refine g_seq ?_
    refine ⟨fun m σ H' => H' = H ∧ ∃ (x y : Nat) (r : Option V), m = y ∧ σ = [some (.int x), some (.int y), r] ∧ Nat.gcd x y = Nat.gcd i j, ⟨j, rfl, i, j, none, rfl, rfl, rfl⟩, ?_⟩
    rintro m σ H' ⟨rfl, x, y, r, rfl, rfl, e⟩
    refine ⟨_, rfl, rfl, _, rfl, ?_⟩
    rw [dec_int]
    by_cases c : m = 0
    · subst c
      refine iteF' rfl ⟨_, rfl, q_eq k ?_⟩
      rw [← e, Nat.gcd_zero_right]
    · refine iteT' (by simpa using c) ⟨_, fun _ _ h => h, _, rfl, _, rfl, _, _, rfl, rfl, (show (0 : Int) < (m : Int) by omega), _, rfl, _, rfl, ?_⟩
      exact ⟨x % m, Nat.mod_lt _ (by omega), rfl, m, x % m, some (.int ((x % m : Nat) : Int)), rfl, by simp only [List.set_cons_zero, List.set_cons_succ, ← Int.natCast_emod], by rw [← e, Nat.gcd_comm m, ← Nat.gcd_rec, Nat.gcd_comm]⟩
def sp_law_in (K : PySem.W.Frag) : Sp := fun vs H Q _ => ∃ (l : Addr) (n u p q m : Nat), vs = [.ref l, .int m] ∧ SqL K H l [.int n, .int u, .int p, .int q] ∧ 1 ≤ m ∧ m < 1000000 ∧ p < 1000000 ∧ Q (.bl (inK n u p q m)) H
theorem ok__law_in (T : Txt K mg a) : C0 P w K mg base 2 "_law_in" (sp_law_in K) := by
  have c__law_common := ok__law_common (P := P) (w := w) (base := base) T
  refine T.d__law_in.c0 sc__law_in (fun vs H Q E h => ?_) (fun f cdv A outer s H vs Q E hr h => ?_)
  · obtain ⟨l, n, u, p, q, m, rfl, _⟩ := h
    rfl
  · obtain ⟨l, n, u, p, q, m, rfl, hl, m1, hm, hp, K1⟩ := h
    refine ⟨_, (pss_cons (ps_asg (pv 0) (pg_unl rfl (pgs_cons (pg_name (i := 2) sc__law_in.nd rfl (Or.inl rfl)) (pgs_cons (pg_name (i := 3) sc__law_in.nd rfl (Or.inl rfl)) (pgs_cons (pg_name (i := 4) sc__law_in.nd rfl (Or.inl rfl)) (pgs_cons (pg_name (i := 5) sc__law_in.nd rfl (Or.inl rfl)) pgs_nil))))))
      (C8.pss_cut (ps_if (pw_and (pt_cmpR op_eq (pe_op op_mod (pv 2) (pv 1)) pe_int (nomark _)) (pw_and1 (pt_cmpR op_eq (pe_0 c__law_common hr (by decide) (pa_cons (pv 3) (pa_cons (pv 1) pa_nil))) pe_int (nomark _)))).pt (pss_one (ps_ret pe_bl)) pss_nil)
      (pss_one (ps_ret (pe_and (pe_cmpR op_gt (pv 4) pe_int (nomark _)) (pe_and (pe_cmpR op_eq (pe_op op_mod (pv 1) (pv 4)) pe_int (nomark _)) (pe_one (pe_cmpR op_eq (pe_0 c__law_common hr (by decide) (pa_cons (pv 5) (pa_cons (pe_op op_fdivW (pv 1) (pv 4)) pa_nil))) pe_int (nomark _))))))))), ?_⟩
    have mi : (0 : Int) < (m : Int) := by omega
    refine ⟨_, rfl, l, _, rfl, hl, rfl, _, _, rfl, _, _, rfl, _, _, rfl, _, _, rfl, rfl, ?_⟩
    refine ⟨fun (σ' : L2.St) (H' : Hp) => H' = H ∧ σ' = [some (.ref l), some (.int m), some (.int n), some (.int u), some (.int p), some (.int q)] ∧ ¬ (n % m = 0 ∧ Nat.gcd u m = 1), ?_, ?_⟩
    · refine ⟨_, rfl, _, rfl, _, _, rfl, rfl, mi, rfl, _, rfl, ?_⟩
      rw [dec_int]
      by_cases c2 : n % m = 0
      · refine iteT' (decide_eq_true (by rw [← Int.natCast_emod, c2]; rfl)) ⟨_, rfl, _, rfl, u, m, rfl, rfl, _, rfl, ?_⟩
        rw [dec_int]
        by_cases c3 : Nat.gcd u m = 1
        · refine iteT' (decide_eq_true (by omega)) (q_eq K1 ?_)
          simp only [inK, c2, c3, decide_true, Bool.and_self, Bool.true_or]
        · exact iteF' (decide_eq_false (by omega)) ⟨rfl, rfl, fun h => c3 h.2⟩
      · exact iteF' (decide_eq_false (fun h => c2 (by omega))) (iteF ⟨rfl, rfl, fun h => c2 h.1⟩)
    · rintro σ' H' ⟨rfl, rfl, no⟩
      have e0 : (decide (n % m = 0) && decide (Nat.gcd u m = 1)) = false := by
        rw [Bool.and_eq_false_imp]
        intro h1
        rw [decide_eq_true_eq] at h1
        exact decide_eq_false fun h2 => no ⟨h1, h2⟩
      refine ⟨_, rfl, _, _, rfl, rfl, _, rfl, ?_⟩
      by_cases p0 : p = 0
      · subst p0
        exact iteF' (by decide) (q_eq K1 (by simp only [inK, e0, Bool.false_or]; rfl))
      · have p1 : (0 : Int) < (p : Int) := by omega
        have e1 : decide (0 < p) = true := decide_eq_true (by omega)
        refine iteT' (decide_eq_true p1) ⟨_, rfl, _, rfl, _, _, rfl, rfl, p1, rfl, _, rfl, ?_⟩
        rw [dec_int]
        by_cases c3 : m % p = 0
        · refine iteT' (decide_eq_true (by rw [← Int.natCast_emod, c3]; rfl)) ⟨_, rfl, _, rfl, _, rfl, _, _, rfl, rfl, wdiv p1 (by omega), q, m / p, rfl, ?_⟩
          refine ⟨rfl, ?_⟩
          refine q_eq K1 ?_
          simp only [inK, e0, e1, c3, Bool.false_or, decide_true, Bool.true_and]
          rw [dec_int]
          congr 1
          exact decide_eq_decide.mpr ⟨fun h => by exact_mod_cast h, fun h => by exact_mod_cast h⟩
        · refine iteF' (decide_eq_false (fun h => c3 (by omega))) (q_eq K1 ?_)
          simp only [inK, e0, e1, c3, Bool.false_or, decide_false, Bool.false_and, Bool.and_false]
def sp_law_bad (K : PySem.W.Frag) : Sp := fun vs H Q _ => ∃ (l : Addr) (v1 v2 v3 v4 : V), vs = [.ref l] ∧ SqL K H l [v1, v2, v3, v4] ∧ (∃ t, Kn H v1 t) ∧ (∃ t, Kn H v2 t) ∧ (∃ t, Kn H v3 t) ∧ (∃ t, Kn H v4 t) ∧ (numB v1 && numB v2 && numB v3 && numB v4) = false ∧ ∀ H', Same H H' → Q (.bl true) H'
theorem ok__law_bad (T : Txt K mg a) : C0 P w K mg base 4 "_law_bad" (sp_law_bad K) := by
  have m_Kept := (ok_Kept___init__ (P := P) (w := w) (base := base) T).make T.cl_Kept
  refine T.d__law_bad.c0 sc__law_bad (fun vs H Q E h => ?_) (fun f cdv A outer s H vs Q E hr h => ?_)
  · obtain ⟨l, v1, v2, v3, v4, rfl, _⟩ := h
    rfl
  · obtain ⟨l, v1, v2, v3, v4, rfl, hl, k1, k2, k3, k4, c0, k⟩ := h
    refine ⟨_, (pss_cons (ps_set (i := 1) sc__law_bad.nd rfl (Or.inl rfl) pe_bl)
      (pss_cons (ps_try_only rfl rfl T.x_BadKept.names takes0 (fun W pn xe tkb po => (pss_one (ps_expr (pe_m1 m_Kept hr (by decide) tkb (by exact (pa_cons (pe_ix (ix_listK (K := K) rfl) (pv 0) pe_int (fun _ _ => rfl)) (pa_cons (pe_ix (ix_listK (K := K) rfl) (pv 0) pe_int (fun _ _ => rfl)) (pa_cons (pe_ix (ix_listK (K := K) rfl) (pv 0) pe_int (fun _ _ => rfl)) (pa_cons (pe_ix (ix_listK (K := K) rfl) (pv 0) pe_int (fun _ _ => rfl)) pa_nil))))))))) (fun _ _ _ _ _ _ _ => (pss_one (ps_set (i := 1) sc__law_bad.nd rfl (Or.inl rfl) pe_bl))))
      (pss_one (ps_ret (pv 1))))), ?_⟩
    refine g_setC ?_
    refine ⟨_, rfl, l, _, _, _, rfl, rfl, hl, rfl, _, rfl, l, _, _, _, rfl, rfl, hl, rfl, _, rfl, l, _, _, _, rfl, rfl, hl, rfl, _, rfl, l, _, _, _, rfl, rfl, hl, rfl, fun x dx hx hdx nx => ?_⟩
    have s2 : Same H _ := same_upd (o := HO.ins a.Kept dx []) (same_new (o := HO.own x) hdx) (by rw [upd_ne nx.symm]; exact hx)
    refine ⟨x, dx, v1, v2, v3, v4, rfl, upd_same, k1.imp fun t z => z.mono s2, k2.imp fun t z => z.mono s2, k3.imp fun t z => z.mono s2, k4.imp fun t z => z.mono s2, fun c => ?_, fun _ H' s' => ⟨true, T.x_BadKept.exm T.x_BadKept T.sub_BadKept_BadKept, fun _ e _ => ⟨_, rfl, k H' (s2.trans s')⟩, fun q => nomatch q⟩⟩
    rw [c0] at c
    cases c
end

end Fold
namespace Fold
open PySem PySem.Spec PyProof.Rows L2
def S8 : List Nat := [0, 1, 2, 3, 4, 6, 12, 30]
def allC (n u p q : Nat) : Bool := (decide (n = 0) && decide (u = 1)) || (decide (p = 1) && decide (q = 1)) || (decide (n = 0) && decide (p = 2) && decide (q = 1) && (decide (u = 2) || decide (u = 4))) || (decide (n = 0) && decide (p = 3) && decide (q = 1) && decide (u = 3))
theorem inK_iff {n u p q m : Nat} : inK n u p q m = true ↔ (n % m = 0 ∧ Nat.gcd u m = 1) ∨ (0 < p ∧ m % p = 0 ∧ Nat.gcd q (m / p) = 1) := by
  simp only [inK, Bool.or_eq_true, Bool.and_eq_true, decide_eq_true_eq]
theorem allC_in {n u p q : Nat} (h : allC n u p q = true) (m : Nat) : inK n u p q m = true := by
  rw [inK_iff]
  simp only [allC, Bool.or_eq_true, Bool.and_eq_true, decide_eq_true_eq] at h
  rcases h with ((⟨rfl, rfl⟩ | ⟨rfl, rfl⟩) | ⟨⟨⟨rfl, rfl⟩, rfl⟩, h⟩) | ⟨⟨⟨rfl, rfl⟩, rfl⟩, rfl⟩
  · exact .inl ⟨Nat.zero_mod _, Nat.gcd_one_left _⟩
  · exact .inr ⟨by decide, Nat.mod_one _, Nat.gcd_one_left _⟩
  · by_cases c : m % 2 = 0
    · exact .inr ⟨by decide, c, Nat.gcd_one_left _⟩
    · refine .inl ⟨Nat.zero_mod _, ?_⟩
      rcases h with rfl | rfl
      · rw [Nat.gcd_rec, show m % 2 = 1 by omega]; decide
      · rw [Nat.gcd_rec]
        have : m % 4 = 1 ∨ m % 4 = 3 := by omega
        rcases this with e | e <;> rw [e] <;> decide
  · by_cases c : m % 3 = 0
    · exact .inr ⟨by decide, c, Nat.gcd_one_left _⟩
    · refine .inl ⟨Nat.zero_mod _, ?_⟩
      rw [Nat.gcd_rec]
      have : m % 3 = 1 ∨ m % 3 = 2 := by omega
      rcases this with e | e <;> rw [e] <;> decide
def outs (n u p q : Nat) : Bool := (List.range 64).any fun m => decide (1 ≤ m) && decide (m ≤ rnd n u p q) && !inK n u p q m
theorem outs_all : (S8.all fun n => S8.all fun u => S8.all fun p => S8.all fun q => allC n u p q || outs n u p q) = true := by decide +kernel
theorem fins_all : (S8.all fun n => S8.all fun u => S8.all fun p => S8.all fun q => finB n u p q || [361, 722, 507, 388, 582, 444, 510].any (inK n u p q)) = true := by decide +kernel
theorem S8_le {n : Nat} (h : n ∈ S8) : n ≤ 30 := by
  simp only [S8, List.mem_cons, List.not_mem_nil, or_false] at h
  omega
theorem S8_rnd {n u p q : Nat} (hn : n ∈ S8) (hu : u ∈ S8) (hp : p ∈ S8) (hq : q ∈ S8) : rnd n u p q < 900000 := by
  have a := S8_le hn
  have b := S8_le hu
  have c := S8_le hp
  have d := S8_le hq
  have x1 : max 1 u * max 1 p ≤ 30 * 30 := Nat.mul_le_mul (by omega) (by omega)
  have x2 : max 1 u * max 1 p * max 1 q ≤ 30 * 30 * 30 := Nat.mul_le_mul x1 (by omega)
  unfold rnd
  omega
/-- the first number out, or none at all -/
theorem out_law {n u p q : Nat} (hn : n ∈ S8) (hu : u ∈ S8) (hp : p ∈ S8) (hq : q ∈ S8) :
    (∀ m, 1 ≤ m → inK n u p q m = true) ∨ ∃ m, 1 ≤ m ∧ m < 64 ∧ m ≤ rnd n u p q ∧ inK n u p q m = false ∧ ∀ j, 1 ≤ j → j < m → inK n u p q j = true := by
  have h := List.all_eq_true.mp (List.all_eq_true.mp (List.all_eq_true.mp (List.all_eq_true.mp outs_all n hn) u hu) p hp) q hq
  rw [Bool.or_eq_true] at h
  rcases h with h | h
  · exact .inl fun m _ => allC_in h m
  · obtain ⟨m, h1, h2⟩ := List.any_eq_true.mp h
    rw [List.mem_range] at h1
    simp only [Bool.and_eq_true, decide_eq_true_eq, Bool.not_eq_true'] at h2
    right
    have key : ∀ k m, m ≤ k → 1 ≤ m → m < 64 → m ≤ rnd n u p q → inK n u p q m = false → ∃ m, 1 ≤ m ∧ m < 64 ∧ m ≤ rnd n u p q ∧ inK n u p q m = false ∧ ∀ j, 1 ≤ j → j < m → inK n u p q j = true := by
      intro k
      induction k with
      | zero => intro m a b; omega
      | succ k ih =>
        intro m a b c d e
        by_cases z : ∃ j, 1 ≤ j ∧ j < m ∧ inK n u p q j = false
        · obtain ⟨j, j1, j2, j3⟩ := z
          exact ih j (by omega) j1 (by omega) (by omega) j3
        · refine ⟨m, b, c, d, e, fun j j1 j2 => ?_⟩
          cases f : inK n u p q j with
          | true => rfl
          | false => exact absurd ⟨j, j1, j2, f⟩ z
    exact key m m (Nat.le_refl _) h2.1.1 h1 h2.1.2 h2.2
theorem fin_small {n u p q m : Nat} (hn : n ≤ 30) (hp : p ≤ 30) (h : finB n u p q = true) (hm : inK n u p q m = true) : m ≤ 360 := by
  rw [inK_iff] at hm
  simp only [finB, Bool.or_eq_true, Bool.and_eq_true, decide_eq_true_eq] at h
  rcases hm with ⟨h1, h2⟩ | ⟨h1, h2, h3⟩
  · rcases h.1 with c | c
    · have := Nat.le_of_dvd c (Nat.dvd_of_mod_eq_zero h1)
      omega
    · subst c
      rw [Nat.gcd_zero_left] at h2
      omega
  · rcases h.2 with c | c
    · omega
    · subst c
      rw [Nat.gcd_zero_left] at h3
      have := Nat.div_add_mod m p
      rw [h3, h2] at this
      omega
/-- due > 360 is nothing just for a finite lot -/
theorem fin_law {n u p q : Nat} (hn : n ∈ S8) (hu : u ∈ S8) (hp : p ∈ S8) (hq : q ∈ S8) : finB n u p q = true ↔ ((List.range 1000).filter fun i => inK n u p q (i + 1) && decide (360 < i + 1)) = [] := by
  constructor
  · intro h
    rw [List.filter_eq_nil_iff]
    intro i _ c
    rw [Bool.and_eq_true, decide_eq_true_eq] at c
    have := fin_small (S8_le hn) (S8_le hp) h c.1
    omega
  · intro h
    have g := List.all_eq_true.mp (List.all_eq_true.mp (List.all_eq_true.mp (List.all_eq_true.mp fins_all n hn) u hu) p hp) q hq
    rw [Bool.or_eq_true] at g
    rcases g with g | g
    · exact g
    · obtain ⟨m, m1, m2⟩ := List.any_eq_true.mp g
      rw [List.filter_eq_nil_iff] at h
      have b : 360 < m ∧ m ≤ 1000 := by
        simp only [List.mem_cons, List.not_mem_nil, or_false] at m1
        omega
      refine absurd ?_ (h (m - 1) (List.mem_range.mpr (by omega)))
      rw [show m - 1 + 1 = m by omega, m2, Bool.true_and, decide_eq_true_eq]
      exact b.1
/-! ### the law's lists -/
theorem due_in {n u p q i : Nat} (h : i < 1000) : inV (.int (1 + (i : Int))) (upTo n u p q 1000) = inK n u p q (i + 1) := by
  rw [Bool.eq_iff_iff]
  simp only [inV, upTo, List.any_eq_true, List.mem_map, List.mem_filter, List.mem_range]
  constructor
  · rintro ⟨v, ⟨j, ⟨h1, h2⟩, rfl⟩, e⟩
    have e' : (1 + (j : Int)) = 1 + (i : Int) := by simpa only [eqV, beq_iff_eq] using e
    rw [show i = j by omega]
    exact h2
  · intro h2
    exact ⟨_, ⟨i, ⟨h, h2⟩, rfl⟩, by simp only [eqV, beq_self_eq_true]⟩
theorem due_flat {n u p q : Nat} : (upTo n u p q 1000).all flatV = true := by
  rw [List.all_eq_true]
  intro v m
  obtain ⟨i, _, rfl⟩ := List.mem_map.mp m
  rfl
def outL (n u p q : Nat) : List V := ((List.range 1000).filter fun i => !inK n u p q (i + 1)).map fun (i : Nat) => V.int (1 + (i : Int))
/-- what least_out and the law's own account find -/
theorem least_law {n u p q : Nat} (hn : n ∈ S8) (hu : u ∈ S8) (hp : p ∈ S8) (hq : q ∈ S8) : ∃ ov : V, scal ov ov = true ∧ (outL n u p q ++ [.non])[0]? = some ov ∧
    ∀ (Q : VK) (H : Hp), Q ov H → LeastOk n u p q H Q := by
  rcases out_law hn hu hp hq with h | ⟨m, m1, m2, m3, m4, m5⟩
  · refine ⟨.non, rfl, ?_, fun Q H k => ⟨fun m a _ b _ => ?_, fun _ => k⟩⟩
    · have e : outL n u p q = [] := by
        rw [outL, List.map_eq_nil_iff, List.filter_eq_nil_iff]
        intro i _
        rw [h (i + 1) (by omega)]
        exact Bool.false_ne_true
      rw [e]; rfl
    · rw [h m a] at b
      cases b
  · refine ⟨.int m, rfl, ?_, fun Q H k => ⟨fun z a _ b c => ?_, fun a => ?_⟩⟩
    · have e : ((List.range 1000).filter fun i => !inK n u p q (i + 1)).head? = some (m - 1) := by
        rw [List.head?_filter, List.find?_range_eq_some]
        refine ⟨?_, List.mem_range.mpr (by omega), fun j hj => ?_⟩
        · rw [show m - 1 + 1 = m by omega, m4]; rfl
        · rw [m5 (j + 1) (by omega) (by omega)]; rfl
      unfold outL
      cases c : (List.range 1000).filter fun i => !inK n u p q (i + 1) with
      | nil => rw [c] at e; cases e
      | cons x r =>
        rw [c] at e
        cases e
        show some (V.int (1 + ((m - 1 : Nat) : Int))) = some (V.int m)
        rw [show (1 + ((m - 1 : Nat) : Int)) = (m : Int) by omega]
    · have : z = m := by
        rcases Nat.lt_trichotomy z m with e | e | e
        · rw [m5 z a e] at b; cases b
        · exact e
        · rw [c m m1 e] at m4; cases m4
      rw [this]; exact k
    · rw [a m m1 m3] at m4
      cases m4
def over (k : Int) : V → Bool
  | .int i => decide (k < i)
  | _ => false
theorem due_over {n u p q : Nat} (hn : n ∈ S8) (hu : u ∈ S8) (hp : p ∈ S8) (hq : q ∈ S8) : decide (((((upTo n u p q 1000).filter (over 360)).map id).length : Int) = 0) = finB n u p q := by
  rw [Bool.eq_iff_iff, fin_law hn hu hp hq, List.map_id, upTo, List.filter_map, List.filter_filter, List.length_map, decide_eq_true_eq]
  have e : (fun i => (over 360 ∘ fun (i : Nat) => V.int (1 + (i : Int))) i && inK n u p q (i + 1)) = fun i => inK n u p q (i + 1) && decide (360 < i + 1) := by
    funext i
    rw [Bool.and_comm]
    congr 1
    exact decide_eq_decide.mpr ⟨fun h => by omega, fun h => by omega⟩
  rw [e]
  constructor
  · intro h
    exact List.length_eq_zero_iff.mp (by omega)
  · intro h
    rw [h]; rfl
theorem odds_in {n u p q : Nat} : (([.int 0, .int (-1), .non, .bl true, .str "1"] : List V).filter (inV' n u p q)).map id = [] := by
  simp [inV']

end Fold
namespace Fold
open PySem PySem.Spec PyProof.Rows L2
/-- the law's promise -/
def spLaw (K : PySem.W.Frag) : Sp := fun vs H Q _ => ∃ (p : Addr) (ns : List Int), vs = [.ref p] ∧ SqL K H p (ns.map V.int) ∧ ns.length ≤ 63 ∧ ∀ H', Q (.bl true) H'

end Fold
namespace Fold
open PySem PySem.Spec PyProof.Rows L2
section
variable {P : Program} {w : World} {K : PySem.W.Frag} {mg : Str → Option Value} {base : Heap} {a : Ad}
def rowV (n u p q : Nat) : List V := [.int n, .int u, .int p, .int q]
def rows03 : List (List Nat) := [[0, 2, 2, 1], [0, 1, 0, 0], [0, 0, 0, 0], [0, 3, 3, 1], [12, 0, 1, 1], [0, 6, 2, 1], [0, 2, 2, 3]]
theorem law_fn {f : Addr} {fd : FuncData} (T : Txt K mg a) (F : Fun K "law" "law" s_law f fd) : FnOk P w K mg base CX0 5 f fd ["_law_script"] (spLaw K) := by
  have c__law_begin := ok__law_begin (P := P) (w := w) (base := base) T; have m_Kept := (ok_Kept___init__ (P := P) (w := w) (base := base) T).make T.cl_Kept; have c__law_draw := ok__law_draw (P := P) (w := w) (base := base) T; have c__law_bad := ok__law_bad (P := P) (w := w) (base := base) T; have o_Kept_least_out := ok_Kept_least_out (P := P) (w := w) (base := base) T; have o_Kept_is_finite := ok_Kept_is_finite (P := P) (w := w) (base := base) T; have c__law_in := ok__law_in (P := P) (w := w) (base := base) T; have o_Kept_up_to := ok_Kept_up_to (P := P) (w := w) (base := base) T; have o_Kept___contains__ := ok_Kept___contains__ (P := P) (w := w) (base := base) T
  refine F.ok sc_law (fun vs H Q E h => ?_) (fun cdv A outer s H vs Q E hr h => ?_)
  · obtain ⟨p, ns, rfl, _⟩ := h
    rfl
  · obtain ⟨sp, ns, rfl, hp, hn, k⟩ := h
    refine ⟨_, (pss_cons (ps_set (i := 1) sc_law.nd rfl (Or.inr rfl) (pe_0 c__law_begin hr (by decide) (pa_cons (pv 0) pa_nil)))
      (pss_cons (ps_set (i := 2) sc_law.nd rfl (Or.inr rfl) (pe_lst (pa_cons pe_int (pa_cons pe_int (pa_cons pe_int (pa_cons pe_int (pa_cons pe_int (pa_cons pe_int (pa_cons pe_int (pa_cons pe_int pa_nil))))))))))
      (pss_cons (ps_set (i := 3) sc_law.nd rfl (Or.inr rfl) (pe_lc (own := [("_law_k", 10)]) (g := gName 10) rfl sc_law.nd (pi_range1 (by rfl) T.n_range (pa_cons pe_int pa_nil)) (blkOk_by (N := ["_law_script", "_law_draws", "_law_some", "_law_fields", "_law_rows", "_law_lot", "_law_due", "_law_out", "_law_odd", "_law_at", "_law_k", "_law_m"]) (sc := defScope s_law) (by decide +kernel)) (fun _ _ _ _ _ => (pg_name (i := 10) sc_law.nd rfl (Or.inl rfl))) (fun _ _ _ _ _ => pts_nil) (fun _ _ _ _ _ => (pe_ix (ix_listK (K := K) rfl) (pv 2) (pe_0 c__law_draw hr (by decide) (pa_cons (pv 1) (pa_cons pe_int pa_nil))) (fun _ _ => rfl)))))
      (C8.pss_cut (ps_if (pt_cmpR op_eq (pe_0 c__law_draw hr (by decide) (pa_cons (pv 1) (pa_cons pe_int pa_nil))) pe_int (nomark _)) (pss_cons (ps_set (i := 4) sc_law.nd rfl (Or.inl rfl) (pe_lst (pa_cons (pe_lst (pa_cons pe_int (pa_cons pe_int (pa_cons pe_int (pa_cons pe_int pa_nil))))) (pa_cons (pe_lst (pa_cons pe_int (pa_cons pe_int (pa_cons pe_int (pa_cons pe_int pa_nil))))) (pa_cons (pe_lst (pa_cons pe_int (pa_cons pe_int (pa_cons pe_int (pa_cons pe_int pa_nil))))) (pa_cons (pe_lst (pa_cons pe_int (pa_cons pe_int (pa_cons pe_int (pa_cons pe_int pa_nil))))) (pa_cons (pe_lst (pa_cons pe_int (pa_cons pe_int (pa_cons pe_int (pa_cons pe_int pa_nil))))) (pa_cons (pe_lst (pa_cons pe_int (pa_cons pe_int (pa_cons pe_int (pa_cons pe_int pa_nil))))) (pa_cons (pe_lst (pa_cons pe_int (pa_cons pe_int (pa_cons pe_int (pa_cons pe_int pa_nil))))) pa_nil)))))))))
      (pss_one (ps_set (i := 3) sc_law.nd rfl (Or.inr rfl) (pe_ix ix_list (pv 4) (pe_0 c__law_draw hr (by decide) (pa_cons (pv 1) (pa_cons pe_int pa_nil))) (fun _ _ => rfl))))) pss_nil)
      (pss_cons (ps_set (i := 5) sc_law.nd rfl (Or.inr rfl) (pe_m10 m_Kept hr (by decide) (pa_cons (pe_ix ix_list (pv 3) pe_int (fun _ _ => rfl)) (pa_cons (pe_ix ix_list (pv 3) pe_int (fun _ _ => rfl)) (pa_cons (pe_ix ix_list (pv 3) pe_int (fun _ _ => rfl)) (pa_cons (pe_ix ix_list (pv 3) pe_int (fun _ _ => rfl)) pa_nil))))))
      (pss_cons (ps_set (i := 6) sc_law.nd rfl (Or.inr rfl) (pe_lc (own := [("_law_m", 11)]) (g := gName 11) rfl sc_law.nd (pi_range2 (by rfl) T.n_range (pa_cons pe_int (pa_cons pe_int pa_nil))) (blkOk_by (N := ["_law_script", "_law_draws", "_law_some", "_law_fields", "_law_rows", "_law_lot", "_law_due", "_law_out", "_law_odd", "_law_at", "_law_k", "_law_m"]) (sc := defScope s_law) (by decide +kernel)) (fun _ _ _ _ _ => (pg_name (i := 11) sc_law.nd rfl (Or.inl rfl))) (fun _ _ _ _ _ => (pts_one (pt_val (pe_0 c__law_in hr (by decide) (pa_cons (pv 3) (pa_cons (pv 11) pa_nil)))))) (fun _ _ _ _ _ => (pv 11))))
      (pss_cons (ps_if (pw_or (pt_cmpR (op_neD (hu64 hr)) (pe_o0 o_Kept_up_to hr (by decide) (pv 5) T.cl_Kept.cl (pa_cons pe_int pa_nil)) (pv 6) (nomark _)) (pw_or1 (pt_cmpR op_gt (pe_callB call_len_seq (by rfl) T.n_len b_len (pa_cons (pe_lc (own := [("_law_m", 11)]) (g := gName 11) rfl sc_law.nd (pi_list (pe_lst (pa_cons pe_int (pa_cons (pe_un un_neg pe_int) (pa_cons pe_non (pa_cons pe_bl (pa_cons pe_str pa_nil))))))) (blkOk_by (N := ["_law_script", "_law_draws", "_law_some", "_law_fields", "_law_rows", "_law_lot", "_law_due", "_law_out", "_law_odd", "_law_at", "_law_k", "_law_m"]) (sc := defScope s_law) (by decide +kernel)) (fun _ _ _ _ _ => (pg_name (i := 11) sc_law.nd rfl (Or.inl rfl))) (fun _ _ _ _ _ => (pts_one (pt_cmpR (op_inOwn o_Kept___contains__ hr (by decide)) (pv 11) (pv 5) (by with_unfolding_all rfl)))) (fun _ _ _ _ _ => (pv 11))) pa_nil)) pe_int (nomark _)))).pt (pss_one (ps_ret pe_bl)) pss_nil)
      (pss_cons (ps_setLc (i := 7) (own := [("_law_m", 11)]) (g := gName 11) rfl sc_law.nd rfl rfl (sw_true rfl rfl rfl (by decide +kernel)) (pi_range2 (by rfl) T.n_range (pa_cons pe_int (pa_cons pe_int pa_nil))) (blkOk_by (N := ["_law_script", "_law_draws", "_law_some", "_law_fields", "_law_rows", "_law_lot", "_law_due", "_law_out", "_law_odd", "_law_at", "_law_k", "_law_m"]) (sc := defScope s_law) (by decide +kernel)) (fun _ _ _ _ _ => (pg_name (i := 11) sc_law.nd rfl (Or.inl rfl))) (fun _ _ _ _ _ => (pts_one (pt_cmpR (op_notIn_seqK (K := K) rfl) (pv 11) (pv 6) (by with_unfolding_all rfl)))) (fun _ _ _ _ _ => (pv 11)))
      (pss_cons (ps_if (pt_cmpR op_ne (pe_o00 o_Kept_least_out hr (by decide) (pv 5) T.cl_Kept.cl) (pe_ix ix_list (pe_op op_cat (pv 7) (pe_lst (pa_cons pe_non pa_nil))) pe_int (fun _ _ => rfl)) (nomark _)) (pss_one (ps_ret pe_bl)) pss_nil)
      (pss_cons (ps_if (pt_cmpR op_ne (pe_o00 o_Kept_is_finite hr (by decide) (pv 5) T.cl_Kept.cl) (pe_cmpR op_eq (pe_callB call_len_seq (by rfl) T.n_len b_len (pa_cons (pe_lc (own := [("_law_m", 11)]) (g := gName 11) rfl sc_law.nd (pi_list (pv 6)) (blkOk_by (N := ["_law_script", "_law_draws", "_law_some", "_law_fields", "_law_rows", "_law_lot", "_law_due", "_law_out", "_law_odd", "_law_at", "_law_k", "_law_m"]) (sc := defScope s_law) (by decide +kernel)) (fun _ _ _ _ _ => (pg_name (i := 11) sc_law.nd rfl (Or.inl rfl))) (fun _ _ _ _ _ => (pts_one (pt_cmpR op_gt (pv 11) pe_int (nomark _)))) (fun _ _ _ _ _ => (pv 11))) pa_nil)) pe_int (nomark _)) (nomark _)) (pss_one (ps_ret pe_bl)) pss_nil)
      (pss_cons (ps_set (i := 8) sc_law.nd rfl (Or.inl rfl) (pe_ix ix_list (pe_lst (pa_cons (pe_un un_neg pe_int) (pa_cons pe_non (pa_cons pe_bl (pa_cons pe_str (pa_cons (pe_tup (pa_cons pe_int pa_nil)) pa_nil)))))) (pe_0 c__law_draw hr (by decide) (pa_cons (pv 1) (pa_cons pe_int pa_nil))) (fun _ _ => rfl)))
      (pss_cons (ps_set (i := 9) sc_law.nd rfl (Or.inl rfl) (pe_0 c__law_draw hr (by decide) (pa_cons (pv 1) (pa_cons pe_int pa_nil))))
      (pss_one (ps_ret (pe_0 c__law_bad hr (by decide) (pa_cons (pe_op op_cat (pe_op op_cat (pe_slice sl_list (pv 3) po_none (po_some (pv 9))) (pe_lst (pa_cons (pv 8) pa_nil))) (pe_slice sl_list (pv 3) (po_some (pe_op op_add (pv 9) pe_int)) po_none)) pa_nil)))))))))))))))), ?_⟩
    refine ⟨_, rfl, sp, ns, rfl, hp, fun d l H1 d0 s1 hD1 => ?_⟩
    refine ⟨by show 8 ≤ sizeLine; decide, fun l8 h8 => ?_⟩
    have hD2 := hD1.mono (same_new (o := HO.lst [.int 0, .int 1, .int 2, .int 3, .int 4, .int 6, .int 12, .int 30]) h8)
    refine ⟨_, rfl, by decide, by decide, fun D hD0 => lc_range (fun i H' => ∃ row : List Nat, row.length = i ∧ (∀ v ∈ row, v ∈ S8) ∧ H' D = some (.lst (row.map fun (z : Nat) => V.int z)) ∧ H' l8 = some (.lst (S8.map fun (z : Nat) => V.int z)) ∧ DrawsAt H' d l)
      ⟨[], rfl, fun _ m => (nomatch m), upd_same, kept upd_same hD0, hD2.mono (same_new hD0)⟩ ?_ ?_⟩
    · rintro i H' hi ⟨row, hl, hv, hDl, h8', hDr⟩
      refine ⟨rfl, ?_⟩
      unfold tYes
      dsimp only
      rw [if_pos rfl]
      refine ⟨_, rfl, _, rfl, d, l, _, rfl, by decide, hDr, fun r H'' r0 r1 hDr' hB' => ?_⟩
      obtain ⟨r, rfl⟩ := Int.eq_ofNat_of_zero_le r0
      have hr8 : r < S8.length := by show r < 8; omega
      have b8 := hB' l8 _ (hDr.neL h8' noRef) h8'
      have bD := hB' D _ (hDr.neL hDl noRef) hDl
      refine ⟨l8, _, _, .int S8[r], rfl, rfl, SqL.of b8, at_of (j := r) rfl (by rw [List.getElem?_map, List.getElem?_eq_getElem hr8]; rfl), _, bD, ?_, row ++ [S8[r]], ?_, ?_, ?_, ?_, ?_⟩
      · rw [List.length_map]; exact small6 (by omega)
      · rw [List.length_append, hl]; rfl
      · intro v m
        rcases List.mem_append.mp m with m | m
        · exact hv v m
        · rw [List.mem_singleton.mp m]; exact List.getElem_mem hr8
      · rw [upd_same, List.map_append]; rfl
      · exact keptN b8 (ne_of_none upd_same hD0)
      · exact hDr'.updO (hD2.new1 hD0) (hD2.new2 hD0)
    · rintro H' ⟨row, hl, hv, hDl, h8', hDr⟩
      obtain ⟨n, u, p, q, rfl⟩ : ∃ n u p q, row = [n, u, p, q] := by
        match row, hl with
        | [n, u, p, q], _ => exact ⟨n, u, p, q, rfl⟩
      refine ⟨fun (σ' : L2.St) (H' : Hp) => DrawsAt H' d l ∧ ∃ (F : Addr) (n u p q : Nat) (v4 : Option V), (n ∈ S8 ∧ u ∈ S8 ∧ p ∈ S8 ∧ q ∈ S8) ∧ H' F = some (.lst [.int n, .int u, .int p, .int q]) ∧ σ' = [some (.ref sp), some (.ref d), some (.ref l8), some (.ref F), v4, none, none, none, none, none, none, none], ?_, ?_⟩
      · refine ⟨_, rfl, d, l, _, rfl, by decide, hDr, fun r2 H2 _ _ hD3 u3 => ⟨rfl, _, rfl, iteB (fun _ => ?_) (fun _ => ?_)⟩⟩
        · refine ⟨(by show 4 ≤ sizeLine; decide), fun a0 h0 => ⟨(by show 4 ≤ sizeLine; decide), fun a1 h1 => ⟨(by show 4 ≤ sizeLine; decide), fun a2 h2 => ⟨(by show 4 ≤ sizeLine; decide), fun a3 h3 => ⟨(by show 4 ≤ sizeLine; decide), fun a4 h4 => ⟨(by show 4 ≤ sizeLine; decide), fun a5 h5 => ⟨(by show 4 ≤ sizeLine; decide), fun a6 h6 => ⟨(by show 7 ≤ sizeLine; decide), fun R hR => ⟨_, rfl, _, rfl, d, l, _, rfl, by decide, ?_, fun r H4 r0 r1 hD4 u4 => ?_⟩⟩⟩⟩⟩⟩⟩⟩⟩
          · exact (((((((hD3.mono (same_new h0)).mono (same_new h1)).mono (same_new h2)).mono (same_new h3)).mono (same_new h4)).mono (same_new h5)).mono (same_new h6)).mono (same_new hR)
          · have hDR := hD3.mono ((same_new (o := HO.lst [.int 0, .int 2, .int 2, .int 1]) h0).trans ((same_new (o := HO.lst [.int 0, .int 1, .int 0, .int 0]) h1).trans ((same_new (o := HO.lst [.int 0, .int 0, .int 0, .int 0]) h2).trans ((same_new (o := HO.lst [.int 0, .int 3, .int 3, .int 1]) h3).trans ((same_new (o := HO.lst [.int 12, .int 0, .int 1, .int 1]) h4).trans ((same_new (o := HO.lst [.int 0, .int 6, .int 2, .int 1]) h5).trans ((same_new (o := HO.lst [.int 0, .int 2, .int 2, .int 3]) h6).trans (same_new (o := HO.lst [.ref a0, .ref a1, .ref a2, .ref a3, .ref a4, .ref a5, .ref a6]) hR))))))))
            obtain ⟨r, rfl⟩ := Int.eq_ofNat_of_zero_le r0
            have nr : ∀ (n u p q : Int), ∀ v ∈ [V.int n, V.int u, V.int p, V.int q], ∀ b, v ≠ V.ref b := by
              intro n u p q v m b
              simp only [List.mem_cons, List.not_mem_nil, or_false] at m
              rcases m with rfl | rfl | rfl | rfl <;> exact fun z => nomatch z
            have eR := u4 R _ ((hD3.mono ((same_new h0).trans ((same_new h1).trans ((same_new h2).trans ((same_new h3).trans ((same_new h4).trans ((same_new h5).trans ((same_new h6))))))))).new1 hR) upd_same
            have all : ∃ (b : Addr) (n u p q : Nat), ([.ref a0, .ref a1, .ref a2, .ref a3, .ref a4, .ref a5, .ref a6] : List V)[r]? = some (.ref b) ∧ (n ∈ S8 ∧ u ∈ S8 ∧ p ∈ S8 ∧ q ∈ S8) ∧ H4 b = some (.lst [.int n, .int u, .int p, .int q]) := by
              match r, r1 with
              | 0, _ => exact ⟨a0, 0, 2, 2, 1, rfl, by decide, u4 _ _ (hDR.neL (kept (kept (kept (kept (kept (kept (kept upd_same h1) h2) h3) h4) h5) h6) hR) (nr _ _ _ _)) (kept (kept (kept (kept (kept (kept (kept upd_same h1) h2) h3) h4) h5) h6) hR)⟩
              | 1, _ => exact ⟨a1, 0, 1, 0, 0, rfl, by decide, u4 _ _ (hDR.neL (kept (kept (kept (kept (kept (kept upd_same h2) h3) h4) h5) h6) hR) (nr _ _ _ _)) (kept (kept (kept (kept (kept (kept upd_same h2) h3) h4) h5) h6) hR)⟩
              | 2, _ => exact ⟨a2, 0, 0, 0, 0, rfl, by decide, u4 _ _ (hDR.neL (kept (kept (kept (kept (kept upd_same h3) h4) h5) h6) hR) (nr _ _ _ _)) (kept (kept (kept (kept (kept upd_same h3) h4) h5) h6) hR)⟩
              | 3, _ => exact ⟨a3, 0, 3, 3, 1, rfl, by decide, u4 _ _ (hDR.neL (kept (kept (kept (kept upd_same h4) h5) h6) hR) (nr _ _ _ _)) (kept (kept (kept (kept upd_same h4) h5) h6) hR)⟩
              | 4, _ => exact ⟨a4, 12, 0, 1, 1, rfl, by decide, u4 _ _ (hDR.neL (kept (kept (kept upd_same h5) h6) hR) (nr _ _ _ _)) (kept (kept (kept upd_same h5) h6) hR)⟩
              | 5, _ => exact ⟨a5, 0, 6, 2, 1, rfl, by decide, u4 _ _ (hDR.neL (kept (kept upd_same h6) hR) (nr _ _ _ _)) (kept (kept upd_same h6) hR)⟩
              | 6, _ => exact ⟨a6, 0, 2, 2, 3, rfl, by decide, u4 _ _ (hDR.neL (kept upd_same hR) (nr _ _ _ _)) (kept upd_same hR)⟩
              | r + 7, z => omega
            obtain ⟨b, n, u, p, q, e1, e2, e3⟩ := all
            exact ⟨R, _, _, .ref b, rfl, rfl, SqL.of eR, at_of (j := r) rfl e1, hD4, b, n, u, p, q, _, e2, e3, rfl⟩
        · exact ⟨hD3, D, n, u, p, q, none, ⟨hv n (by simp), hv u (by simp), hv p (by simp), hv q (by simp)⟩, u3 D _ (hDr.neL hDl noRef) hDl, rfl⟩
      · rintro σ' H2 ⟨hD3, F, n, u, p, q, v4, ⟨mn, mu, mp, mq⟩, hF, rfl⟩
        have bn := S8_le mn
        have bu := S8_le mu
        have bp := S8_le mp
        have bq := S8_le mq
        refine ⟨_, rfl, F, _, _, _, rfl, rfl, SqL.of hF, rfl, _, rfl, F, _, _, _, rfl, rfl, SqL.of hF, rfl, _, rfl, F, _, _, _, rfl, rfl, SqL.of hF, rfl, _, rfl, F, _, _, _, rfl, rfl, SqL.of hF, rfl, fun x dx hx hdx nx => ?_⟩
        refine ⟨x, dx, _, _, _, _, rfl, upd_same, ⟨_, .int _⟩, ⟨_, .int _⟩, ⟨_, .int _⟩, ⟨_, .int _⟩, fun _ => ⟨n, u, p, q, rfl, rfl, rfl, rfl, fun H3 hK hb => ⟨rfl, ?_⟩⟩, fun c => ?_⟩
        rotate_left
        · simp [numB] at c
        have s3 : Same H2 H3 := fun b o e => by
          have n1 := ne_of_none e hx
          have n2 := ne_of_none e hdx
          refine hb b o n1 ?_
          rw [upd_ne n1, upd_ne n2]
          exact e
        have hD4 := hD3.mono s3
        have hF4 := s3 _ _ hF
        refine ⟨_, _, rfl, ⟨by decide, by decide, by decide, by decide⟩, fun D hD => ?_⟩
        refine lc_rangeF (n := 1000) (fun i => inK n u p q (i + 1)) (fun i => V.int (1 + (i : Int))) hD (by decide) (fun _ => rfl) ?_ ?_ ?_
        · intro i hi H' Q' s' qq
          have em : (1 + (i : Int)) = ((i + 1 : Nat) : Int) := by omega
          refine ⟨_, rfl, _, rfl, F, n, u, p, q, i + 1, by rw [← em]; rfl, SqL.of (s' _ _ hF4), by omega, by omega, by omega, _, rfl, qq⟩
        · intro i hi H' Q' s' qq
          exact ⟨_, rfl, qq⟩
        have s4 := same_new (o := HO.lst (upTo n u p q 1000)) hD
        have hK4 := hK.mono s4
        have hDu : upd H3 D (HO.lst (upTo n u p q 1000)) D = some (.lst (upTo n u p q 1000)) := upd_same
        have hF5 := s4 _ _ hF4
        have hD5 := hD4.mono s4
        obtain ⟨dx', hx'⟩ := id hK4
        show tSeq _ _ _ _ (upd H3 D (HO.lst (upTo n u p q 1000)))
        revert hK4 hDu hF5 hD5 hx'
        generalize upd H3 D (HO.lst (upTo n u p q 1000)) = H4
        intro hK4 hDu hF5 hD5 hx'
        have nf : ∀ m : Str, ¬ m = "part" → ¬ m = "power" → ¬ m = "unit" → ¬ m = "number" → (kf n u p q).lookup m = none := fun m => kf_no n u p q
        refine ⟨_, rfl, x, dx', _, rfl, hx', nf _ (by decide +kernel) (by decide +kernel) (by decide +kernel) (by decide +kernel), x, 1000, n, u, p, q, rfl, hK4, by omega, by omega, fun D2 hD2 => ?_⟩
        have hU : upTo n u p q 1000 = (((List.range 1000).filter fun i => inK n u p q (i + 1)).map fun (i : Nat) => (1 + (i : Int))).map V.int := by
          rw [upTo, List.map_map]; rfl
        have hDu2 := same_new (o := HO.lst (upTo n u p q 1000)) hD2 _ _ hDu
        refine ⟨_, rfl, _, _, iD_dp (SqL.of (by rw [← hU]; exact upd_same)), iD_dp (SqL.of (by rw [← hU]; exact hDu2)), iD_shaped _, iD_shaped _, _, rfl, ?_⟩
        rw [iD_eqv, decide_eq_true rfl]
        refine iteF' rfl ?_
        have s5 := same_new (o := HO.lst (upTo n u p q 1000)) hD2
        have hK5 := hK4.mono s5
        have hF6 := s5 _ _ hF5
        have hD6 := hD5.mono s5
        have hx6 := s5 _ _ hx'
        revert hK5 hDu2 hF6 hD6 hx6
        generalize upd H4 D2 (HO.lst (upTo n u p q 1000)) = H5
        intro hDu2 hK5 hF6 hD6 hx6
        refine ⟨_, rfl, (by show 5 ≤ sizeLine; decide), fun t ht => ⟨t, rfl, ⟨_, SqL.of upd_same⟩, fun D3 hD3 => lc_listF (inV' n u p q) id upd_same hD3 (by show 5 < sizeLine; decide) (fun _ => rfl) ?_ ?_ ?_⟩⟩
        · intro i v hi H' Q' s' qq
          have m : v ∈ ([.int 0, .int (-1), .non, .bl true, .str "1"] : List V) := List.mem_of_getElem? hi
          simp only [List.mem_cons, List.not_mem_nil, or_false] at m
          have kv : (∃ t, Kn H' v t) ∧ ∀ j, v = .int j → j < 1000000 := by
            rcases m with rfl | rfl | rfl | rfl | rfl
            · exact ⟨⟨_, .int _⟩, fun j e => by injection e with e; omega⟩
            · exact ⟨⟨_, .int _⟩, fun j e => by injection e with e; omega⟩
            · exact ⟨⟨_, .non⟩, fun j e => nomatch e⟩
            · exact ⟨⟨_, .bl _⟩, fun j e => nomatch e⟩
            · exact ⟨⟨_, .str _⟩, fun j e => nomatch e⟩
          have hk := (hK5.mono (same_new ht)).mono s'
          exact ⟨_, rfl, _, rfl, x, dx', _, rfl, s' _ _ (same_new ht _ _ hx6), x, v, n, u, p, q, rfl, hk, kv.1, kv.2, by omega, _, rfl, _, rfl, qq⟩
        · intro i v hi H' Q' s' qq
          exact ⟨_, rfl, qq⟩
        rw [odds_in]
        refine ⟨D3, _, rfl, .inl (SqL.of upd_same), _, _, rfl, rfl, _, rfl, iteF' rfl ?_⟩
        have s6 : Same H5 _ := same_upd (o := HO.lst []) (same_new (o := HO.lst [.int 0, .int (-1), .non, .bl true, .str "1"]) ht) hD3
        have hK7 := hK5.mono s6
        have hF7 := s6 _ _ hF6
        have hD7 := hD6.mono s6
        have hx7 := s6 _ _ hx6
        have hDu7 := s6 _ _ hDu2
        refine g_next ?_
        revert hK7 hDu7 hF7 hD7 hx7
        generalize upd (upd H5 t (HO.lst [.int 0, .int (-1), .non, .bl true, .str "1"])) D3 (HO.lst []) = H6
        intro hK7 hF7 hD7 hx7 hDu7
        refine ⟨_, _, rfl, ⟨by decide, by decide, by decide, by decide⟩, fun D4 hD4 => ?_⟩
        refine lc_rangeF (n := 1000) (fun i => !inK n u p q (i + 1)) (fun i => V.int (1 + (i : Int))) hD4 (by decide) (fun _ => rfl) ?_ ?_ ?_
        · intro i hi H' Q' s' qq
          exact ⟨_, rfl, _, rfl, D, _, rfl, .inl (SqL.of (s' _ _ hDu7)), rfl, due_flat, _, rfl, by rw [if_pos rfl, due_in hi]; exact qq⟩
        · intro i hi H' Q' s' qq
          exact ⟨_, rfl, qq⟩
        have s8 := same_new (o := HO.lst (outL n u p q)) hD4
        have hK8 := hK7.mono s8
        have hF8 := s8 _ _ hF7
        have hD8 := hD7.mono s8
        have hx8 := s8 _ _ hx7
        have hDu8 := s8 _ _ hDu7
        have hO8 : upd H6 D4 (HO.lst (outL n u p q)) D4 = some (.lst (outL n u p q)) := upd_same
        show tSeq _ _ _ _ (upd H6 D4 (HO.lst (outL n u p q)))
        revert hK8 hDu8 hF8 hD8 hx8 hO8
        generalize upd H6 D4 (HO.lst (outL n u p q)) = H7
        intro hK8 hF8 hD8 hx8 hDu8 hO8
        obtain ⟨ov, sc1, at1, sp1⟩ := least_law mn mu mp mq
        refine ⟨_, rfl, x, dx', _, rfl, hx8, nf _ (by decide +kernel) (by decide +kernel) (by decide +kernel) (by decide +kernel), x, n, u, p, q, rfl, hK8, ⟨by omega, by omega, by omega, by omega⟩, S8_rnd mn mu mp mq, sp1 _ H7 ?_⟩
        have ol : (outL n u p q).length ≤ 1000 := by
          unfold outL
          rw [List.length_map]
          refine Nat.le_trans (List.length_filter_le _ _) ?_
          rw [List.length_range]
          exact Nat.le_refl _
        refine ⟨_, rfl, (by show 1 ≤ sizeLine; decide), fun t9 ht9 => ⟨D4, t9, _, _, rfl, rfl, kept hO8 ht9, upd_same, (by show _ + 1 ≤ sizeLine; exact Nat.le_trans (Nat.succ_le_succ ol) (by decide)), fun t10 ht10 => ⟨t10, _, _, ov, rfl, rfl, SqL.of upd_same, at_of (j := 0) rfl at1, sc1, _, rfl, ?_⟩⟩⟩
        rw [decide_eq_true rfl]
        refine iteF' rfl (g_next ?_)
        have s9 : Same H7 _ := same_upd (o := HO.lst (outL n u p q ++ [.non])) (same_new (o := HO.lst [.non]) ht9) ht10
        have hK10 := hK8.mono s9
        have hF10 := s9 _ _ hF8
        have hD10 := hD8.mono s9
        have hx10 := s9 _ _ hx8
        have hDu10 := s9 _ _ hDu8
        revert hK10 hDu10 hF10 hD10 hx10
        generalize upd (upd H7 t9 (HO.lst [.non])) t10 (HO.lst (outL n u p q ++ [.non])) = H8
        intro hK10 hF10 hD10 hx10 hDu10
        refine ⟨_, rfl, x, dx', _, rfl, hx10, nf _ (by decide +kernel) (by decide +kernel) (by decide +kernel) (by decide +kernel), x, n, u, p, q, rfl, hK10, ?_⟩
        have ul : (upTo n u p q 1000).length ≤ 1000 := by
          unfold upTo
          rw [List.length_map]
          refine Nat.le_trans (List.length_filter_le _ _) ?_
          rw [List.length_range]
          exact Nat.le_refl _
        refine ⟨_, rfl, D, rfl, ⟨_, SqL.of hDu10⟩, fun D5 hD5' => lc_listF (over 360) id hDu10 hD5' (Nat.lt_of_le_of_lt ul (by decide)) (fun _ => rfl) ?_ ?_ ?_⟩
        · intro i v hi H' Q' s' qq
          obtain ⟨j, _, rfl⟩ := List.mem_map.mp (List.mem_of_getElem? hi)
          exact ⟨_, rfl, _, _, rfl, rfl, _, rfl, qq⟩
        · intro i v hi H' Q' s' qq
          exact ⟨_, rfl, qq⟩
        refine ⟨D5, _, rfl, .inl (SqL.of upd_same), rfl, rfl, _, rfl, ?_⟩
        refine iteF' ?_ (g_next ?_)
        · rw [dec_int, due_over mn mu mp mq, decide_eq_true rfl]; rfl
        have s11 := same_new (o := HO.lst (((upTo n u p q 1000).filter (over 360)).map id)) hD5'
        have hF11 := s11 _ _ hF10
        have hD11 := hD10.mono s11
        revert hF11 hD11
        generalize upd H8 D5 (HO.lst (((upTo n u p q 1000).filter (over 360)).map id)) = H9
        intro hF11 hD11
        refine ⟨_, rfl, (by show 1 ≤ sizeLine; decide), fun tt htt => ⟨(by show 5 ≤ sizeLine; decide), fun L hL => ⟨_, rfl, d, l, _, rfl, by decide, (hD11.mono (same_new htt)).mono (same_new hL), fun r HA r0 r1 hDA uA => ?_⟩⟩⟩
        obtain ⟨r, rfl⟩ := Int.eq_ofNat_of_zero_le r0
        have eL := uA L _ ((hD11.mono (same_new htt)).new1 hL) upd_same
        have et := uA tt _ (hD11.new1 htt) (kept upd_same hL)
        have eF := uA F _ (hD11.neL hF11 (by simp)) (kept (kept hF11 htt) hL)
        have hr5 : r < ([.int (-1), .non, .bl true, .str "3", .ref tt] : List V).length := by show r < 5; omega
        have od : ∀ v ∈ ([.int (-1), .non, .bl true, .str "3", .ref tt] : List V), numB v = false ∧ ∀ H, (H tt = some (.tup [.int 1])) → ∃ t, Kn H v t := by
          intro v m
          simp only [List.mem_cons, List.not_mem_nil, or_false] at m
          rcases m with rfl | rfl | rfl | rfl | rfl
          · exact ⟨rfl, fun H _ => ⟨_, .int _⟩⟩
          · exact ⟨rfl, fun H _ => ⟨_, .non⟩⟩
          · exact ⟨rfl, fun H _ => ⟨_, .bl _⟩⟩
          · exact ⟨rfl, fun H _ => ⟨_, .str _⟩⟩
          · exact ⟨rfl, fun H e => ⟨_, .tup e⟩⟩
        obtain ⟨o1, o2⟩ := od _ (List.getElem_mem hr5)
        refine ⟨L, _, _, _, rfl, rfl, SqL.of eL, at_of (j := r) rfl (List.getElem?_eq_getElem hr5), ?_⟩
        generalize ([.int (-1), .non, .bl true, .str "3", .ref tt] : List V)[r] = ov2 at o1 o2
        refine ⟨_, rfl, d, l, _, rfl, by decide, hDA, fun r2 HB q0 q1 hDB uB => ?_⟩
        obtain ⟨r2, rfl⟩ := Int.eq_ofNat_of_zero_le q0
        have eFB := uB F _ (hDA.neL eF (by simp)) eF
        have etB : HB tt = some (.tup [.int 1]) := uB tt _ (fun z => by
          obtain ⟨ns', i', g', e', h1', h2'⟩ := hDA
          rw [z, h1'] at et
          cases et) et
        refine ⟨_, rfl, _, rfl, _, rfl, F, _, rfl, SqL.of eFB, fun p1 hp1 => ⟨_, rfl, (by show 1 ≤ sizeLine; decide), fun p2 hp2 => ⟨p1, p2, _, _, rfl, rfl, kept upd_same hp2, upd_same, ?_, fun p3 hp3 => ⟨_, rfl, _, rfl, _, _, rfl, rfl, _, rfl, F, _, rfl, SqL.of (kept (kept (kept eFB hp1) hp2) hp3), fun p4 hp4 => ⟨p3, p4, _, _, rfl, rfl, kept upd_same hp4, upd_same, ?_, fun p5 hp5 => ?_⟩⟩⟩⟩⟩
        · rw [cutV_take, List.length_take]
          show _ + 1 ≤ _
          exact Nat.le_trans (Nat.succ_le_succ (Nat.min_le_right _ _)) (show 5 ≤ sizeLine by decide)
        · rw [cutV_take, show (r2 : Int) + 1 = ((r2 + 1 : Nat) : Int) by omega, cutV_drop, List.length_append, List.length_take, List.length_drop]
          show min r2 4 + 1 + (4 - (r2 + 1)) ≤ _
          exact Nat.le_trans (show _ ≤ 9 by omega) (by decide)
        · have sB : Same HB _ := (((same_new hp1).trans (same_new hp2)).trans (same_new hp3)).trans ((same_new hp4).trans (same_new (o := HO.lst (cutV [.int (n : Int), .int u, .int p, .int q] none (some (r2 : Int)) ++ [ov2] ++ cutV [.int (n : Int), .int u, .int p, .int q] (some ((r2 : Int) + 1)) none)) hp5))
          have kt := o2 _ (sB _ _ etB)
          have cs : ∃ v1 v2 v3 v4 : V, cutV [.int (n : Int), .int u, .int p, .int q] none (some (r2 : Int)) ++ [ov2] ++ cutV [.int (n : Int), .int u, .int p, .int q] (some ((r2 : Int) + 1)) none = [v1, v2, v3, v4] ∧ (v1 = ov2 ∨ ∃ i, v1 = .int i) ∧ (v2 = ov2 ∨ ∃ i, v2 = .int i) ∧ (v3 = ov2 ∨ ∃ i, v3 = .int i) ∧ (v4 = ov2 ∨ ∃ i, v4 = .int i) ∧ (numB v1 && numB v2 && numB v3 && numB v4) = false := by
            rw [cutV_take, show (r2 : Int) + 1 = ((r2 + 1 : Nat) : Int) by omega, cutV_drop]
            match r2, q1 with
            | 0, _ => exact ⟨_, _, _, _, rfl, .inl rfl, .inr ⟨_, rfl⟩, .inr ⟨_, rfl⟩, .inr ⟨_, rfl⟩, by rw [o1]; rfl⟩
            | 1, _ => exact ⟨_, _, _, _, rfl, .inr ⟨_, rfl⟩, .inl rfl, .inr ⟨_, rfl⟩, .inr ⟨_, rfl⟩, by rw [o1, Bool.and_false]; rfl⟩
            | 2, _ => exact ⟨_, _, _, _, rfl, .inr ⟨_, rfl⟩, .inr ⟨_, rfl⟩, .inl rfl, .inr ⟨_, rfl⟩, by rw [o1, Bool.and_false]; rfl⟩
            | 3, _ => exact ⟨_, _, _, _, rfl, .inr ⟨_, rfl⟩, .inr ⟨_, rfl⟩, .inr ⟨_, rfl⟩, .inl rfl, by rw [o1, Bool.and_false]⟩
            | z + 4, h => omega
          obtain ⟨v1, v2, v3, v4, ec, c1, c2, c3, c4, cn⟩ := cs
          have kn : ∀ v, (v = ov2 ∨ ∃ i, v = V.int i) → ∃ t, Kn _ v t := fun v c => by
            rcases c with rfl | ⟨i, rfl⟩
            · exact kt
            · exact ⟨_, .int _⟩
          exact ⟨p5, v1, v2, v3, v4, rfl, SqL.of (by rw [← ec]; exact upd_same), kn _ c1, kn _ c2, kn _ c3, kn _ c4, cn, fun H' _ => k H'⟩
end

end Fold
namespace Fold
open PySem PySem.Spec PyProof.Rows L2
theorem all_mk {l : PySem.W.OpenLaw} {w : World} {K : PySem.W.Frag} {h : Heap} {mg : Str → Option Value} {fa : Addr} (X : K.In h) (G : h.Ns mainGlobals mg) (hfa : mg "law" = some (.ref fa))
    {C_FoldError : Addr}
    {C_BadKept : Addr}
    {f_common : Addr} {od_common an_common : Option Addr} {sl_common : Array (Option Value)} {oc_common kV_common dc_common pm_common cd_common ct_common : Value}
    {f_is_number : Addr} {od_is_number an_is_number : Option Addr} {sl_is_number : Array (Option Value)} {oc_is_number kV_is_number dc_is_number pm_is_number cd_is_number ct_is_number : Value}
    {f__law_begin : Addr} {od__law_begin an__law_begin : Option Addr} {sl__law_begin : Array (Option Value)} {oc__law_begin kV__law_begin dc__law_begin pm__law_begin cd__law_begin ct__law_begin : Value}
    {f__law_draw : Addr} {od__law_draw an__law_draw : Option Addr} {sl__law_draw : Array (Option Value)} {oc__law_draw kV__law_draw dc__law_draw pm__law_draw cd__law_draw ct__law_draw : Value}
    {f__law_common : Addr} {od__law_common an__law_common : Option Addr} {sl__law_common : Array (Option Value)} {oc__law_common kV__law_common dc__law_common pm__law_common cd__law_common ct__law_common : Value}
    {f__law_in : Addr} {od__law_in an__law_in : Option Addr} {sl__law_in : Array (Option Value)} {oc__law_in kV__law_in dc__law_in pm__law_in cd__law_in ct__law_in : Value}
    {f__law_bad : Addr} {od__law_bad an__law_bad : Option Addr} {sl__law_bad : Array (Option Value)} {oc__law_bad kV__law_bad dc__law_bad pm__law_bad cd__law_bad ct__law_bad : Value}
    {f_law : Addr} {od_law an_law : Option Addr} {sl_law : Array (Option Value)} {oc_law kV_law dc_law pm_law cd_law ct_law : Value}
    {C_Kept : Addr}
    {f_Kept___init__ : Addr} {od_Kept___init__ an_Kept___init__ : Option Addr} {sl_Kept___init__ : Array (Option Value)} {oc_Kept___init__ kV_Kept___init__ dc_Kept___init__ pm_Kept___init__ cd_Kept___init__ ct_Kept___init__ : Value}
    {f_Kept___contains__ : Addr} {od_Kept___contains__ an_Kept___contains__ : Option Addr} {sl_Kept___contains__ : Array (Option Value)} {oc_Kept___contains__ kV_Kept___contains__ dc_Kept___contains__ pm_Kept___contains__ cd_Kept___contains__ ct_Kept___contains__ : Value}
    {f_Kept_up_to : Addr} {od_Kept_up_to an_Kept_up_to : Option Addr} {sl_Kept_up_to : Array (Option Value)} {oc_Kept_up_to kV_Kept_up_to dc_Kept_up_to pm_Kept_up_to cd_Kept_up_to ct_Kept_up_to : Value}
    {f_Kept_least_out : Addr} {od_Kept_least_out an_Kept_least_out : Option Addr} {sl_Kept_least_out : Array (Option Value)} {oc_Kept_least_out kV_Kept_least_out dc_Kept_least_out pm_Kept_least_out cd_Kept_least_out ct_Kept_least_out : Value}
    {f_Kept_is_finite : Addr} {od_Kept_is_finite an_Kept_is_finite : Option Addr} {sl_Kept_is_finite : Array (Option Value)} {oc_Kept_is_finite kV_Kept_is_finite dc_Kept_is_finite pm_Kept_is_finite cd_Kept_is_finite ct_Kept_is_finite : Value}
    (n_abs : PySem.W.nsIn K mainGlobals "abs" = some none)
    (n_all : PySem.W.nsIn K mainGlobals "all" = some none)
    (n_bool : PySem.W.nsIn K mainGlobals "bool" = some none)
    (n_int : PySem.W.nsIn K mainGlobals "int" = some none)
    (n_isinstance : PySem.W.nsIn K mainGlobals "isinstance" = some none)
    (n_len : PySem.W.nsIn K mainGlobals "len" = some none)
    (n_list : PySem.W.nsIn K mainGlobals "list" = some none)
    (n_max : PySem.W.nsIn K mainGlobals "max" = some none)
    (n_range : PySem.W.nsIn K mainGlobals "range" = some none)
    (gx_FoldError : PySem.W.nsIn K mainGlobals "FoldError" = some (some (.ref C_FoldError)))
    (xx_FoldError : PySem.W.excIn K C_FoldError veB "ValueError.__new__" = true)
    (kx_FoldError : PySem.W.keepIn K (.ref C_FoldError) = true)
    (bx_FoldError : PySem.W.subIn K (.ref C_FoldError) (.type "BaseException") = some true)
    (tx_FoldError : PySem.W.typeIn K (.ref C_FoldError) = some (.type "type"))
    (ix_FoldError : PySem.W.isClsIn K C_FoldError = true)
    (gx_BadKept : PySem.W.nsIn K mainGlobals "BadKept" = some (some (.ref C_BadKept)))
    (xx_BadKept : PySem.W.excIn K C_BadKept veB "ValueError.__new__" = true)
    (kx_BadKept : PySem.W.keepIn K (.ref C_BadKept) = true)
    (bx_BadKept : PySem.W.subIn K (.ref C_BadKept) (.type "BaseException") = some true)
    (tx_BadKept : PySem.W.typeIn K (.ref C_BadKept) = some (.type "type"))
    (ix_BadKept : PySem.W.isClsIn K C_BadKept = true)
    (sub_FoldError_BadKept : PySem.W.subIn K (.ref C_FoldError) (.ref C_BadKept) = some false)
    (sub_BadKept_BadKept : PySem.W.subIn K (.ref C_BadKept) (.ref C_BadKept) = some true)
    (a_common : PySem.W.nsIn K mainGlobals "common" = some (some (.ref f_common)))
    (l_common : K.lookup f_common = some ⟨oc_common, od_common, .func (PySem.W.fnOf "common" "common" (defArgs s_common) (defBody s_common) (defScope s_common) .none kV_common dc_common pm_common an_common cd_common ct_common), sl_common⟩)
    (c_common : PySem.W.codeIn K cd_common "common" = true)
    (k_common : PySem.W.keepIn K (.ref f_common) = true)
    (a_is_number : PySem.W.nsIn K mainGlobals "is_number" = some (some (.ref f_is_number)))
    (l_is_number : K.lookup f_is_number = some ⟨oc_is_number, od_is_number, .func (PySem.W.fnOf "is_number" "is_number" (defArgs s_is_number) (defBody s_is_number) (defScope s_is_number) .none kV_is_number dc_is_number pm_is_number an_is_number cd_is_number ct_is_number), sl_is_number⟩)
    (c_is_number : PySem.W.codeIn K cd_is_number "is_number" = true)
    (k_is_number : PySem.W.keepIn K (.ref f_is_number) = true)
    (a__law_begin : PySem.W.nsIn K mainGlobals "_law_begin" = some (some (.ref f__law_begin)))
    (l__law_begin : K.lookup f__law_begin = some ⟨oc__law_begin, od__law_begin, .func (PySem.W.fnOf "_law_begin" "_law_begin" (defArgs s__law_begin) (defBody s__law_begin) (defScope s__law_begin) .none kV__law_begin dc__law_begin pm__law_begin an__law_begin cd__law_begin ct__law_begin), sl__law_begin⟩)
    (c__law_begin : PySem.W.codeIn K cd__law_begin "_law_begin" = true)
    (k__law_begin : PySem.W.keepIn K (.ref f__law_begin) = true)
    (a__law_draw : PySem.W.nsIn K mainGlobals "_law_draw" = some (some (.ref f__law_draw)))
    (l__law_draw : K.lookup f__law_draw = some ⟨oc__law_draw, od__law_draw, .func (PySem.W.fnOf "_law_draw" "_law_draw" (defArgs s__law_draw) (defBody s__law_draw) (defScope s__law_draw) .none kV__law_draw dc__law_draw pm__law_draw an__law_draw cd__law_draw ct__law_draw), sl__law_draw⟩)
    (c__law_draw : PySem.W.codeIn K cd__law_draw "_law_draw" = true)
    (k__law_draw : PySem.W.keepIn K (.ref f__law_draw) = true)
    (a__law_common : PySem.W.nsIn K mainGlobals "_law_common" = some (some (.ref f__law_common)))
    (l__law_common : K.lookup f__law_common = some ⟨oc__law_common, od__law_common, .func (PySem.W.fnOf "_law_common" "_law_common" (defArgs s__law_common) (defBody s__law_common) (defScope s__law_common) .none kV__law_common dc__law_common pm__law_common an__law_common cd__law_common ct__law_common), sl__law_common⟩)
    (c__law_common : PySem.W.codeIn K cd__law_common "_law_common" = true)
    (k__law_common : PySem.W.keepIn K (.ref f__law_common) = true)
    (a__law_in : PySem.W.nsIn K mainGlobals "_law_in" = some (some (.ref f__law_in)))
    (l__law_in : K.lookup f__law_in = some ⟨oc__law_in, od__law_in, .func (PySem.W.fnOf "_law_in" "_law_in" (defArgs s__law_in) (defBody s__law_in) (defScope s__law_in) .none kV__law_in dc__law_in pm__law_in an__law_in cd__law_in ct__law_in), sl__law_in⟩)
    (c__law_in : PySem.W.codeIn K cd__law_in "_law_in" = true)
    (k__law_in : PySem.W.keepIn K (.ref f__law_in) = true)
    (a__law_bad : PySem.W.nsIn K mainGlobals "_law_bad" = some (some (.ref f__law_bad)))
    (l__law_bad : K.lookup f__law_bad = some ⟨oc__law_bad, od__law_bad, .func (PySem.W.fnOf "_law_bad" "_law_bad" (defArgs s__law_bad) (defBody s__law_bad) (defScope s__law_bad) .none kV__law_bad dc__law_bad pm__law_bad an__law_bad cd__law_bad ct__law_bad), sl__law_bad⟩)
    (c__law_bad : PySem.W.codeIn K cd__law_bad "_law_bad" = true)
    (k__law_bad : PySem.W.keepIn K (.ref f__law_bad) = true)
    (a_law : PySem.W.nsIn K mainGlobals "law" = some (some (.ref f_law)))
    (l_law : K.lookup f_law = some ⟨oc_law, od_law, .func (PySem.W.fnOf "law" "law" (defArgs s_law) (defBody s_law) (defScope s_law) .none kV_law dc_law pm_law an_law cd_law ct_law), sl_law⟩)
    (c_law : PySem.W.codeIn K cd_law "law" = true)
    (k_law : PySem.W.keepIn K (.ref f_law) = true)
    (gc_Kept : PySem.W.nsIn K mainGlobals "Kept" = some (some (.ref C_Kept)))
    (pg_Kept : PySem.W.plainGet K C_Kept Str.empty = true)
    (hd_Kept : PySem.W.hasDictIn K C_Kept = true)
    (po_Kept : PySem.W.plainOver K C_Kept = true)
    (sa_Kept : PySem.W.findIn K (.ref C_Kept) "__setattr__" = some (some (.builtin "object.__setattr__")))
    (mk_Kept : PySem.W.makesIn K C_Kept = true)
    (kc_Kept : PySem.W.keepIn K (.ref C_Kept) = true)
    (na_Kept_number : PySem.W.findIn K (.ref C_Kept) "number" = some none)
    (na_Kept_unit : PySem.W.findIn K (.ref C_Kept) "unit" = some none)
    (na_Kept_power : PySem.W.findIn K (.ref C_Kept) "power" = some none)
    (na_Kept_part : PySem.W.findIn K (.ref C_Kept) "part" = some none)
    (a_Kept___init__ : PySem.W.findIn K (.ref C_Kept) "__init__" = some (some (.ref f_Kept___init__)))
    (l_Kept___init__ : K.lookup f_Kept___init__ = some ⟨oc_Kept___init__, od_Kept___init__, .func (PySem.W.fnOf "__init__" "Kept.__init__" (defArgs s_Kept___init__) (defBody s_Kept___init__) (defScope s_Kept___init__) .none kV_Kept___init__ dc_Kept___init__ pm_Kept___init__ an_Kept___init__ cd_Kept___init__ ct_Kept___init__), sl_Kept___init__⟩)
    (c_Kept___init__ : PySem.W.codeIn K cd_Kept___init__ "Kept.__init__" = true)
    (k_Kept___init__ : PySem.W.keepIn K (.ref f_Kept___init__) = true)
    (i_Kept___init__ : PySem.W.isFn K (.ref f_Kept___init__) = true)
    (a_Kept___contains__ : PySem.W.findIn K (.ref C_Kept) "__contains__" = some (some (.ref f_Kept___contains__)))
    (l_Kept___contains__ : K.lookup f_Kept___contains__ = some ⟨oc_Kept___contains__, od_Kept___contains__, .func (PySem.W.fnOf "__contains__" "Kept.__contains__" (defArgs s_Kept___contains__) (defBody s_Kept___contains__) (defScope s_Kept___contains__) .none kV_Kept___contains__ dc_Kept___contains__ pm_Kept___contains__ an_Kept___contains__ cd_Kept___contains__ ct_Kept___contains__), sl_Kept___contains__⟩)
    (c_Kept___contains__ : PySem.W.codeIn K cd_Kept___contains__ "Kept.__contains__" = true)
    (k_Kept___contains__ : PySem.W.keepIn K (.ref f_Kept___contains__) = true)
    (i_Kept___contains__ : PySem.W.isFn K (.ref f_Kept___contains__) = true)
    (a_Kept_up_to : PySem.W.findIn K (.ref C_Kept) "up_to" = some (some (.ref f_Kept_up_to)))
    (l_Kept_up_to : K.lookup f_Kept_up_to = some ⟨oc_Kept_up_to, od_Kept_up_to, .func (PySem.W.fnOf "up_to" "Kept.up_to" (defArgs s_Kept_up_to) (defBody s_Kept_up_to) (defScope s_Kept_up_to) .none kV_Kept_up_to dc_Kept_up_to pm_Kept_up_to an_Kept_up_to cd_Kept_up_to ct_Kept_up_to), sl_Kept_up_to⟩)
    (c_Kept_up_to : PySem.W.codeIn K cd_Kept_up_to "Kept.up_to" = true)
    (k_Kept_up_to : PySem.W.keepIn K (.ref f_Kept_up_to) = true)
    (i_Kept_up_to : PySem.W.isFn K (.ref f_Kept_up_to) = true)
    (a_Kept_least_out : PySem.W.findIn K (.ref C_Kept) "least_out" = some (some (.ref f_Kept_least_out)))
    (l_Kept_least_out : K.lookup f_Kept_least_out = some ⟨oc_Kept_least_out, od_Kept_least_out, .func (PySem.W.fnOf "least_out" "Kept.least_out" (defArgs s_Kept_least_out) (defBody s_Kept_least_out) (defScope s_Kept_least_out) .none kV_Kept_least_out dc_Kept_least_out pm_Kept_least_out an_Kept_least_out cd_Kept_least_out ct_Kept_least_out), sl_Kept_least_out⟩)
    (c_Kept_least_out : PySem.W.codeIn K cd_Kept_least_out "Kept.least_out" = true)
    (k_Kept_least_out : PySem.W.keepIn K (.ref f_Kept_least_out) = true)
    (i_Kept_least_out : PySem.W.isFn K (.ref f_Kept_least_out) = true)
    (a_Kept_is_finite : PySem.W.findIn K (.ref C_Kept) "is_finite" = some (some (.ref f_Kept_is_finite)))
    (l_Kept_is_finite : K.lookup f_Kept_is_finite = some ⟨oc_Kept_is_finite, od_Kept_is_finite, .func (PySem.W.fnOf "is_finite" "Kept.is_finite" (defArgs s_Kept_is_finite) (defBody s_Kept_is_finite) (defScope s_Kept_is_finite) .none kV_Kept_is_finite dc_Kept_is_finite pm_Kept_is_finite an_Kept_is_finite cd_Kept_is_finite ct_Kept_is_finite), sl_Kept_is_finite⟩)
    (c_Kept_is_finite : PySem.W.codeIn K cd_Kept_is_finite "Kept.is_finite" = true)
    (k_Kept_is_finite : PySem.W.keepIn K (.ref f_Kept_is_finite) = true)
    (i_Kept_is_finite : PySem.W.isFn K (.ref f_Kept_is_finite) = true) :
    ∃ fd : FuncData, (∀ (s : Shared) (v : Value), BindsTo s fd ⟨[v], []⟩ [("_law_script", v)]) ∧ ∀ base : Heap, K.In base → base.Ns mainGlobals mg → FnOk l.prog w K mg base CX0 5 fa fd ["_law_script"] (spLaw K) := by
  have e := hfa.symm.trans (PySem.W.mg_of X G a_law)
  cases e
  have T : Txt K mg ⟨C_FoldError, C_BadKept, C_Kept⟩ := ⟨PySem.W.mg_none_of X G n_abs, PySem.W.mg_none_of X G n_all, PySem.W.mg_none_of X G n_bool, PySem.W.mg_none_of X G n_int, PySem.W.mg_none_of X G n_isinstance, PySem.W.mg_none_of X G n_len, PySem.W.mg_none_of X G n_list, PySem.W.mg_none_of X G n_max, PySem.W.mg_none_of X G n_range, ⟨PySem.W.mg_of X G gx_FoldError, xx_FoldError, kx_FoldError, bx_FoldError, tx_FoldError, ix_FoldError⟩, ⟨PySem.W.mg_of X G gx_BadKept, xx_BadKept, kx_BadKept, bx_BadKept, tx_BadKept, ix_BadKept⟩, sub_FoldError_BadKept, sub_BadKept_BadKept, ⟨_, _, fun_mk (st := s_common) l_common c_common k_common, PySem.W.mg_of X G a_common, (fun_mk (st := s_common) l_common c_common k_common).binds (ps := ["one", "other"]) fun _ _ _ _ _ _ us hl => match us, hl with | [_, _], _ => rfl⟩, ⟨_, _, fun_mk (st := s_is_number) l_is_number c_is_number k_is_number, PySem.W.mg_of X G a_is_number, (fun_mk (st := s_is_number) l_is_number c_is_number k_is_number).binds (ps := ["thing"]) fun _ _ _ _ _ _ us hl => match us, hl with | [_], _ => rfl⟩, ⟨_, _, fun_mk (st := s__law_begin) l__law_begin c__law_begin k__law_begin, PySem.W.mg_of X G a__law_begin, (fun_mk (st := s__law_begin) l__law_begin c__law_begin k__law_begin).binds (ps := ["_law_script"]) fun _ _ _ _ _ _ us hl => match us, hl with | [_], _ => rfl⟩, ⟨_, _, fun_mk (st := s__law_draw) l__law_draw c__law_draw k__law_draw, PySem.W.mg_of X G a__law_draw, (fun_mk (st := s__law_draw) l__law_draw c__law_draw k__law_draw).binds (ps := ["_law_draws", "_law_size"]) fun _ _ _ _ _ _ us hl => match us, hl with | [_, _], _ => rfl⟩, ⟨_, _, fun_mk (st := s__law_common) l__law_common c__law_common k__law_common, PySem.W.mg_of X G a__law_common, (fun_mk (st := s__law_common) l__law_common c__law_common k__law_common).binds (ps := ["_law_one", "_law_other"]) fun _ _ _ _ _ _ us hl => match us, hl with | [_, _], _ => rfl⟩, ⟨_, _, fun_mk (st := s__law_in) l__law_in c__law_in k__law_in, PySem.W.mg_of X G a__law_in, (fun_mk (st := s__law_in) l__law_in c__law_in k__law_in).binds (ps := ["_law_fields", "_law_m"]) fun _ _ _ _ _ _ us hl => match us, hl with | [_, _], _ => rfl⟩, ⟨_, _, fun_mk (st := s__law_bad) l__law_bad c__law_bad k__law_bad, PySem.W.mg_of X G a__law_bad, (fun_mk (st := s__law_bad) l__law_bad c__law_bad k__law_bad).binds (ps := ["_law_fields"]) fun _ _ _ _ _ _ us hl => match us, hl with | [_], _ => rfl⟩, ⟨_, _, fun_mk (st := s_law) l_law c_law k_law, PySem.W.mg_of X G a_law, (fun_mk (st := s_law) l_law c_law k_law).binds (ps := ["_law_script"]) fun _ _ _ _ _ _ us hl => match us, hl with | [_], _ => rfl⟩, ⟨⟨pg_Kept, hd_Kept, po_Kept, sa_Kept⟩, PySem.W.mg_of X G gc_Kept, mk_Kept, kc_Kept, na_all ⟨na_Kept_number, na_Kept_unit, na_Kept_power, na_Kept_part, trivial⟩⟩, ⟨_, _, fun_mk (st := s_Kept___init__) l_Kept___init__ c_Kept___init__ k_Kept___init__, a_Kept___init__, i_Kept___init__, (fun_mk (st := s_Kept___init__) l_Kept___init__ c_Kept___init__ k_Kept___init__).binds (ps := ["self", "number", "unit", "power", "part"]) fun _ _ _ _ _ _ us hl => match us, hl with | [_, _, _, _, _], _ => rfl⟩, ⟨_, _, fun_mk (st := s_Kept___contains__) l_Kept___contains__ c_Kept___contains__ k_Kept___contains__, a_Kept___contains__, i_Kept___contains__, (fun_mk (st := s_Kept___contains__) l_Kept___contains__ c_Kept___contains__ k_Kept___contains__).binds (ps := ["self", "m"]) fun _ _ _ _ _ _ us hl => match us, hl with | [_, _], _ => rfl⟩, ⟨_, _, fun_mk (st := s_Kept_up_to) l_Kept_up_to c_Kept_up_to k_Kept_up_to, a_Kept_up_to, i_Kept_up_to, (fun_mk (st := s_Kept_up_to) l_Kept_up_to c_Kept_up_to k_Kept_up_to).binds (ps := ["self", "most"]) fun _ _ _ _ _ _ us hl => match us, hl with | [_, _], _ => rfl⟩, ⟨_, _, fun_mk (st := s_Kept_least_out) l_Kept_least_out c_Kept_least_out k_Kept_least_out, a_Kept_least_out, i_Kept_least_out, (fun_mk (st := s_Kept_least_out) l_Kept_least_out c_Kept_least_out k_Kept_least_out).binds (ps := ["self"]) fun _ _ _ _ _ _ us hl => match us, hl with | [_], _ => rfl⟩, ⟨_, _, fun_mk (st := s_Kept_is_finite) l_Kept_is_finite c_Kept_is_finite k_Kept_is_finite, a_Kept_is_finite, i_Kept_is_finite, (fun_mk (st := s_Kept_is_finite) l_Kept_is_finite c_Kept_is_finite k_Kept_is_finite).binds (ps := ["self"]) fun _ _ _ _ _ _ us hl => match us, hl with | [_], _ => rfl⟩⟩
  exact ⟨PySem.W.fnOf "law" "law" (defArgs s_law) (defBody s_law) (defScope s_law) .none kV_law dc_law pm_law an_law cd_law ct_law, fun s v => .of_eq rfl, fun base _ _ => law_fn T (fun_mk (st := s_law) l_law c_law k_law)⟩
theorem walk {l : PySem.W.OpenLaw} {q : Program} {loose : List Str} {XP : (Str → Option Value) → Heap → Prop} {YP : World → Heap → Prop} {d : DefRec} {K : Params → PySem.W.Frag} (hn : l.most = some 63) (hdf : d.params.defaults = [])
    (hY : ∀ (w : World) (h : Heap), YP w h → (K w.params).In h)
    (F : ∀ (w : World) (mg : Str → Option Value) (fa : Addr) (h : Heap), (K w.params).In h → h.Ns mainGlobals mg → mg d.name = some (.ref fa) →
      ∃ fd : FuncData, (∀ (s : Shared) (u : Value), BindsTo s fd ⟨[u], []⟩ [("_law_script", u)]) ∧ ∀ base : Heap, (K w.params).In base → base.Ns mainGlobals mg → FnOk l.prog w (K w.params) mg base CX0 5 fa fd ["_law_script"] (spLaw (K w.params))) :
    PySem.W.WalkO q loose XP YP l.row.toRowW d [] (fun f vs => PySem.call f vs) :=
  L2.walk_of (n := 63) (k := 5) (x := "_law_script") (CX := fun _ => CX0) (sp := fun w => spLaw (K w.params)) hn (by decide) hdf ⟨rfl, by decide, by decide⟩ hY F (fun _ _ a ns hl _ hS => ⟨a, ns, rfl, hS, hl, fun _ => rfl⟩) fun _ _ _ _ _ z => z
end Fold
open PySem PySem.W PyProof.Rows
set_option maxRecDepth 100000 in
set_option maxHeartbeats 0 in
theorem PySem.Challenge.cw_figurefolds_k03_whole_lots_holds : PySem.Challenge.rw_figurefolds_k03_whole_lots.Holds := by
  w_on; o_law; k_head; (case hw => w_witness2)
  k_fill
  refine Fold.walk (l := PySem.Challenge.rw_figurefolds_k03_whole_lots) rfl rfl (fun w h Y => PySem.W.kIn_of Y) ?F
  case F =>
    intro w mg fa h KX G hmg
    refine' Fold.all_mk KX G hmg ?n_abs ?n_all ?n_bool ?n_int ?n_isinstance ?n_len ?n_list ?n_max ?n_range ?gx_FoldError ?xx_FoldError ?kx_FoldError ?bx_FoldError ?tx_FoldError ?ix_FoldError ?gx_BadKept ?xx_BadKept ?kx_BadKept ?bx_BadKept ?tx_BadKept ?ix_BadKept ?sub_FoldError_BadKept ?sub_BadKept_BadKept ?a_common ?l_common ?c_common ?k_common ?a_is_number ?l_is_number ?c_is_number ?k_is_number ?a__law_begin ?l__law_begin ?c__law_begin ?k__law_begin ?a__law_draw ?l__law_draw ?c__law_draw ?k__law_draw ?a__law_common ?l__law_common ?c__law_common ?k__law_common ?a__law_in ?l__law_in ?c__law_in ?k__law_in ?a__law_bad ?l__law_bad ?c__law_bad ?k__law_bad ?a_law ?l_law ?c_law ?k_law ?gc_Kept ?pg_Kept ?hd_Kept ?po_Kept ?sa_Kept ?mk_Kept ?kc_Kept ?na_Kept_number ?na_Kept_unit ?na_Kept_power ?na_Kept_part ?a_Kept___init__ ?l_Kept___init__ ?c_Kept___init__ ?k_Kept___init__ ?i_Kept___init__ ?a_Kept___contains__ ?l_Kept___contains__ ?c_Kept___contains__ ?k_Kept___contains__ ?i_Kept___contains__ ?a_Kept_up_to ?l_Kept_up_to ?c_Kept_up_to ?k_Kept_up_to ?i_Kept_up_to ?a_Kept_least_out ?l_Kept_least_out ?c_Kept_least_out ?k_Kept_least_out ?i_Kept_least_out ?a_Kept_is_finite ?l_Kept_is_finite ?c_Kept_is_finite ?k_Kept_is_finite ?i_Kept_is_finite
    (case n_abs => k_is)
    (case n_all => k_is)
    (case n_bool => k_is)
    (case n_int => k_is)
    (case n_isinstance => k_is)
    (case n_len => k_is)
    (case n_list => k_is)
    (case n_max => k_is)
    (case n_range => k_is)
    (case gx_FoldError => k_is)
    (case xx_FoldError => k_exc)
    (case kx_FoldError => k_is)
    (case bx_FoldError => k_is)
    (case tx_FoldError => k_is)
    (case ix_FoldError => k_is)
    (case gx_BadKept => k_is)
    (case xx_BadKept => k_exc)
    (case kx_BadKept => k_is)
    (case bx_BadKept => k_is)
    (case tx_BadKept => k_is)
    (case ix_BadKept => k_is)
    (case sub_FoldError_BadKept => first | rfl | k_is)
    (case sub_BadKept_BadKept => first | rfl | k_is)
    (case a_common => k_is)
    (case l_common => k_is)
    (case c_common => k_is)
    (case k_common => k_is)
    (case a_is_number => k_is)
    (case l_is_number => k_is)
    (case c_is_number => k_is)
    (case k_is_number => k_is)
    (case a__law_begin => k_is)
    (case l__law_begin => k_is)
    (case c__law_begin => k_is)
    (case k__law_begin => k_is)
    (case a__law_draw => k_is)
    (case l__law_draw => k_is)
    (case c__law_draw => k_is)
    (case k__law_draw => k_is)
    (case a__law_common => k_is)
    (case l__law_common => k_is)
    (case c__law_common => k_is)
    (case k__law_common => k_is)
    (case a__law_in => k_is)
    (case l__law_in => k_is)
    (case c__law_in => k_is)
    (case k__law_in => k_is)
    (case a__law_bad => k_is)
    (case l__law_bad => k_is)
    (case c__law_bad => k_is)
    (case k__law_bad => k_is)
    (case a_law => k_is)
    (case l_law => k_is)
    (case c_law => k_is)
    (case k_law => k_is)
    (case gc_Kept => k_is)
    (case pg_Kept => k_is)
    (case hd_Kept => k_is)
    (case po_Kept => k_is)
    (case sa_Kept => k_is)
    (case mk_Kept => k_is)
    (case kc_Kept => k_is)
    (case na_Kept_number => k_is)
    (case na_Kept_unit => k_is)
    (case na_Kept_power => k_is)
    (case na_Kept_part => k_is)
    (case a_Kept___init__ => k_is)
    (case l_Kept___init__ => k_is)
    (case c_Kept___init__ => k_is)
    (case k_Kept___init__ => k_is)
    (case i_Kept___init__ => k_is)
    (case a_Kept___contains__ => k_is)
    (case l_Kept___contains__ => k_is)
    (case c_Kept___contains__ => k_is)
    (case k_Kept___contains__ => k_is)
    (case i_Kept___contains__ => k_is)
    (case a_Kept_up_to => k_is)
    (case l_Kept_up_to => k_is)
    (case c_Kept_up_to => k_is)
    (case k_Kept_up_to => k_is)
    (case i_Kept_up_to => k_is)
    (case a_Kept_least_out => k_is)
    (case l_Kept_least_out => k_is)
    (case c_Kept_least_out => k_is)
    (case k_Kept_least_out => k_is)
    (case i_Kept_least_out => k_is)
    (case a_Kept_is_finite => k_is)
    (case l_Kept_is_finite => k_is)
    (case c_Kept_is_finite => k_is)
    (case k_Kept_is_finite => k_is)
    (case i_Kept_is_finite => k_is)
