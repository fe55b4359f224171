import PyProof.Rows.All
import Wide.All
import OpenK.AllK
import Wide.FinOn
import HandS.ForMost
import HandS.ForExc
import HandS.TryMany
import HandS.IsInst
import HandS.Wide
import HandS.WideBits
import HandS.Conv
import HandS.Codes
import HandS.TupAny
import HandS.TupMul
import HandS.NoneIn
import HandS.SortRule
import HandS.SortInts
import HandS.DictComp
import HandS.Zip
import HandS.Flow
import HandS.Style
import HandS.Deep
import HandS.Flt
import HandS.Walk
import HandS.NamedTupSort
import KE.LtSeq
import PySem.Challenge.RW_figurefolds_k06_whole_right_ways
set_option autoImplicit false
set_option Elab.async false
set_option linter.all false
set_option maxRecDepth 100000
set_option maxHeartbeats 4000000
namespace Fold
open PySem PySem.Spec PyProof.Rows L2
/-! ### a def that stands in the text, its promise -/
/-- a def of the text that the top has bound to its name -/
structure Df (K : PySem.W.Frag) (mg : Str → Option Value) (x : Str) (st : Stmt) (ps : List Str) : Prop where
  ex : ∃ f fd, Fun K x x st f fd ∧ mg x = some (.ref f) ∧ Binds K fd ps []
/-- a promise, by name: no exception leaves / one may leave -/
structure C0 (P : Program) (w : World) (K : PySem.W.Frag) (mg : Str → Option Value) (base : Heap) (k : Nat) (x : Str) (sp : Sp) : Prop where
  ex : ∃ f fd ps, FnOk P w K mg base CX0 k f fd ps sp ∧ mg x = some (.ref f) ∧ PySem.W.keepIn K (.ref f) = true ∧ Binds K fd ps []
structure C1 (P : Program) (w : World) (K : PySem.W.Frag) (mg : Str → Option Value) (base : Heap) (k : Nat) (x : Str) (sp : Sp) : Prop where
  ex : ∃ f fd ps, FnOk P w K mg base (L2.CX P w) k f fd ps sp ∧ mg x = some (.ref f) ∧ PySem.W.keepIn K (.ref f) = true ∧ Binds K fd ps []
section
variable {P : Program} {w : World} {K : PySem.W.Frag} {mg : Str → Option Value} {base : Heap} {x : Str} {st : Stmt} {N ps : List Str} {k : Nat} {sp : Sp}
theorem Df.c0 (F : Df K mg x st ps) (S : FnScope N ps (defScope st)) (len : ∀ vs H Q E, sp vs H Q E → vs.length = ps.length)
    (hbody : ∀ (f : Addr) (cdv : Value) (A : Around) (outer : List Env) (s : Shared) (H : Hp) (vs : List V) (Q : VK) (E : XK), Room k (A.deeper (envOfC x (defScope st) s.heap.objs.size f cdv)) → sp vs H Q E →
      ∃ t, PSs (cxOf CX0 P w K mg base N x (defScope st) f cdv A outer s H E).nox (defBody st) t ∧ t { nx := fun _ H' => Q .non H', rt := Q } (start N vs) H) : C0 P w K mg base (k + 1) x sp := by
  obtain ⟨f, fd, F1, hm, b⟩ := F.ex
  exact ⟨f, fd, ps, F1.ok S len (fun cdv A outer s H vs Q E => hbody f cdv A outer s H vs Q E), hm, F1.kp, b⟩
theorem Df.c1 (F : Df K mg x st ps) (S : FnScope N ps (defScope st)) (len : ∀ vs H Q E, sp vs H Q E → vs.length = ps.length)
    (hbody : ∀ (f : Addr) (cdv : Value) (A : Around) (outer : List Env) (s : Shared) (H : Hp) (vs : List V) (Q : VK) (E : XK), Room k (A.deeper (envOfC x (defScope st) s.heap.objs.size f cdv)) → sp vs H Q E →
      ∃ t, PSs (cxOf (L2.CX P w) P w K mg base N x (defScope st) f cdv A outer s H E) (defBody st) t ∧ t { nx := fun _ H' => Q .non H', rt := Q } (start N vs) H) : C1 P w K mg base (k + 1) x sp := by
  obtain ⟨f, fd, F1, hm, b⟩ := F.ex
  exact ⟨f, fd, ps, F1.okX S len (fun cdv A outer s H vs Q E => hbody f cdv A outer s H vs Q E), hm, F1.kp, b⟩
theorem C0.imp {sp' : Sp} (c : C0 P w K mg base k x sp) (h : ∀ vs H Q E, sp' vs H Q E → sp vs H Q E) : C0 P w K mg base k x sp' := by
  obtain ⟨f, fd, ps, F, hm, kp, b⟩ := c.ex
  exact ⟨f, fd, ps, F.imp h, hm, kp, b⟩
theorem C1.imp {sp' : Sp} (c : C1 P w K mg base k x sp) (h : ∀ vs H Q E, sp' vs H Q E → sp vs H Q E) : C1 P w K mg base k x sp' := by
  obtain ⟨f, fd, ps, F, hm, kp, b⟩ := c.ex
  exact ⟨f, fd, ps, F.imp h, hm, kp, b⟩
end
section
variable {X : Cx} {k j : Nat} {x : Str} {sp : Sp} {p pos : Pos} {e : Expr} {es : List Expr} {t : TA} {W : WX}
theorem pe_0 (c : C0 X.prog X.w X.K X.mg X.base k x sp) (hr : Room j X.A) (hk : k ≤ j) (ha : PA X (e :: es) t) (hg : Gl X x := by rfl)
    (hdb : (x == ("__debug__" : Str)) = false := by decide) (he : starEach (e :: es) X.env = (false, eval e X.env) :: starEach es X.env := by rfl) (hpl : (backTo pos (starEach es X.env)).any (·.1) = false := by rfl) :
    PE X (.Call (.Name x p) (e :: es) [] pos) (tCall sp [] E0 t) := by
  obtain ⟨f, fd, ps, F, hm, kp, b⟩ := c.ex
  exact pe_call F (hr.mono hk) hg hm kp b .nil pass0 ha hdb he hpl
theorem pe_10 (c : C1 X.prog X.w X.K X.mg X.base k x sp) (hr : Room j X.A) (hk : k ≤ j) (ha : PA X (e :: es) t) (hg : Gl X x := by rfl)
    (hdb : (x == ("__debug__" : Str)) = false := by decide) (he : starEach (e :: es) X.env = (false, eval e X.env) :: starEach es X.env := by rfl) (hpl : (backTo pos (starEach es X.env)).any (·.1) = false := by rfl) :
    PE X (.Call (.Name x p) (e :: es) [] pos) (tCall sp [] E0 t) := by
  obtain ⟨f, fd, ps, F, hm, kp, b⟩ := c.ex
  exact pe_call F (hr.mono hk) hg hm kp b .nil passL ha hdb he hpl
theorem pe_1 (c : C1 X.prog X.w X.K X.mg X.base k x sp) (hr : Room j X.A) (hk : k ≤ j) (tk : Takes X W) (ha : PA X (e :: es) t) (hg : Gl X x := by rfl)
    (hdb : (x == ("__debug__" : Str)) = false := by decide) (he : starEach (e :: es) X.env = (false, eval e X.env) :: starEach es X.env := by rfl) (hpl : (backTo pos (starEach es X.env)).any (·.1) = false := by rfl) :
    PE X (.Call (.Name x p) (e :: es) [] pos) (tCallS sp (WE W) t) := by
  obtain ⟨f, fd, ps, F, hm, kp, b⟩ := c.ex
  exact pe_callS F (hr.mono hk) hg hm kp b (fun σ => passAt tk σ) ha hdb he hpl
end
theorem hu64 {A : Around} {k : Nat} (hr : Room k A) : A.units + 64 < cLine := hr.units

/-! ### own exceptions -/
abbrev veB : List Value := [.type "ValueError", .type "Exception", .type "BaseException", .type "object"]
/-- an own exception class (no __init__) at C -/
structure Xc (K : PySem.W.Frag) (mg : Str → Option Value) (C : Addr) (x : Str) : Prop where
  gC : mg x = some (.ref C)
  xC : PySem.W.excIn K C veB "ValueError.__new__" = true
  kC : PySem.W.keepIn K (.ref C) = true
  bC : PySem.W.subIn K (.ref C) (.type "BaseException") = some true
  tC : PySem.W.typeIn K (.ref C) = some (.type "type")
  iC : PySem.W.isClsIn K C = true
section
variable {X : Cx} {C : Addr} {x : Str}
theorem Xc.pmk {p pos : Pos} (T : Xc X.K X.mg C x) (hg : Gl X x := by rfl) (hdb : (x == ("__debug__" : Str)) = false := by decide) : PMk X (.Call (.Name x p) [] [] pos) (fun _ H Q => Q (.ref C) none H) := by
  intro pins s σ H Q I h
  refine wpAny_Call_Name_kw (ld_glob I hg T.gC ?_ hdb)
  refine PySem.W.callWith_K0 (first := []) I.kIn T.kC ?_
  show wpAny _ _ (call (.ref C) []) _ _ _
  obtain ⟨bm, N, nm, qn, bs, hdct, sn, sub, ab, col, dd, k0, k1, k2, k3, k5, mN, hC, hN, hni, TT⟩ := exc_obj I.kIn T.xC
  refine PySem.wpAny_call_exc_subT PySem.F.excBase_ValueError TT hC hN hni (fun h' e hm => ?_) (Nat.zero_le _)
  exact mk_of I hm (raises_own T.bC T.tC) h (I.hok.gone hm.new)
theorem Xc.names (T : Xc X.K X.mg C x) (hg : Gl X x := by rfl) (hdb : (x == ("__debug__" : Str)) = false := by decide) : Names X x (.ref C) := ⟨hg, hdb, .inl T.gC⟩
end
/-- whether an error of the class at C is met by «except D» -/
theorem Xc.exm {K : PySem.W.Frag} {mg mg' : Str → Option Value} {C D : Addr} {x y : Str} {b : Bool} (T : Xc K mg C x) (U : Xc K mg' D y) (s : PySem.W.subIn K (.ref C) (.ref D) = some b) : PySem.W.exmOne K (.ref C) (.ref D) = some b := by
  have e1 : (PySem.W.subIn K (.ref C) (.type "BaseException") == some true) = true := by rw [T.bC] <;> rfl
  have u1 : (PySem.W.subIn K (.ref D) (.type "BaseException") == some true) = true := by rw [U.bC] <;> rfl
  have e2 : ((PySem.W.clsIn K D).isSome && PySem.W.typeIn K (.ref D) == some (.type "type")) = true := by
    have h2' : (PySem.W.clsIn K D).isSome = true := U.iC
    rw [h2', U.tC] <;> rfl
  show (if (PySem.W.subIn K (.ref D) (.type "BaseException") == some true) = true then (if ((PySem.W.clsIn K D).isSome && PySem.W.typeIn K (.ref D) == some (.type "type")) = true then PySem.W.subIn K (.ref C) (.ref D) else none) else none) = some b
  rw [if_pos u1, if_pos e2]
  exact s

/-! ### what a value is -/
inductive Kn (H : Hp) : V → String → Prop
  | non : Kn H .non "NoneType"
  | bl (b : Bool) : Kn H (.bl b) "bool"
  | int (i : Int) : Kn H (.int i) "int"
  | str (z : Str) : Kn H (.str z) "str"
  | lst {a : Addr} {xs : List V} (e : H a = some (.lst xs)) : Kn H (.ref a) "list"
  | tup {a : Addr} {xs : List V} (e : H a = some (.tup xs)) : Kn H (.ref a) "tuple"
theorem Kn.ty {K : PySem.W.Frag} {H : Hp} {v : V} {t : String} (k : Kn H v t) : TyX K H v (.type t) := by
  cases k with
  | non => exact .base .non
  | bl b => exact .base (.bl b)
  | int i => exact .base (.int i)
  | str z => exact .base (.str z)
  | lst e => exact .base (.lst e)
  | tup e => exact .base (.tup e)
/-- isinstance(v, c), c a built-in type -/
def isA (v : String) (c : String) : Bool := (kitB v c).getD false
theorem isA_int : ∀ {H : Hp} {v : V} {t : String}, Kn H v t → kitB t "int" = some (decide (t = "int" ∨ t = "bool"))
  | _, _, _, .non => by decide +kernel
  | _, _, _, .bl _ => by decide +kernel
  | _, _, _, .int _ => by decide +kernel
  | _, _, _, .str _ => by decide +kernel
  | _, _, _, .lst _ => by decide +kernel
  | _, _, _, .tup _ => by decide +kernel
theorem isA_bool : ∀ {H : Hp} {v : V} {t : String}, Kn H v t → kitB t "bool" = some (decide (t = "bool"))
  | _, _, _, .non => by decide +kernel
  | _, _, _, .bl _ => by decide +kernel
  | _, _, _, .int _ => by decide +kernel
  | _, _, _, .str _ => by decide +kernel
  | _, _, _, .lst _ => by decide +kernel
  | _, _, _, .tup _ => by decide +kernel
theorem isA_tuple : ∀ {H : Hp} {v : V} {t : String}, Kn H v t → kitB t "tuple" = some (decide (t = "tuple"))
  | _, _, _, .non => by decide +kernel
  | _, _, _, .bl _ => by decide +kernel
  | _, _, _, .int _ => by decide +kernel
  | _, _, _, .str _ => by decide +kernel
  | _, _, _, .lst _ => by decide +kernel
  | _, _, _, .tup _ => by decide +kernel
theorem isA_str : ∀ {H : Hp} {v : V} {t : String}, Kn H v t → kitB t "str" = some (decide (t = "str"))
  | _, _, _, .non => by decide +kernel
  | _, _, _, .bl _ => by decide +kernel
  | _, _, _, .int _ => by decide +kernel
  | _, _, _, .str _ => by decide +kernel
  | _, _, _, .lst _ => by decide +kernel
  | _, _, _, .tup _ => by decide +kernel
theorem Kn.mono {H H' : Hp} (s : Same H H') {v : V} {t : String} (k : Kn H v t) : Kn H' v t := by
  cases k with
  | non => exact .non
  | bl b => exact .bl b
  | int i => exact .int i
  | str z => exact .str z
  | lst e => exact .lst (s _ _ e)
  | tup e => exact .tup (s _ _ e)

/-! ### small words -/
theorem b_len : bootBuiltins "len" = some (.builtin "len") := PySem.boot_len
theorem b_abs : bootBuiltins "abs" = some (.builtin "abs") := by decide +kernel
theorem b_isinstance : bootBuiltins "isinstance" = some (.builtin "isinstance") := by decide +kernel
theorem b_all : bootBuiltins "all" = some (.builtin "all") := by decide +kernel
theorem b_min : bootBuiltins "min" = some (.builtin "min") := by decide +kernel
theorem b_max : bootBuiltins "max" = some (.builtin "max") := by decide +kernel
theorem b_sorted : bootBuiltins "sorted" = some (.builtin "sorted") := by decide +kernel
theorem b_int : bootBuiltins "int" = some (.type "int") := by decide +kernel
theorem b_str : bootBuiltins "str" = some (.type "str") := by decide +kernel
theorem b_bool : bootBuiltins "bool" = some (.type "bool") := by decide +kernel
theorem b_list : bootBuiltins "list" = some (.type "list") := by decide +kernel
theorem b_tuple : bootBuiltins "tuple" = some (.type "tuple") := by decide +kernel
theorem b_dict : bootBuiltins "dict" = some (.type "dict") := by decide +kernel
theorem same_upd {H H' : Hp} {p : Addr} {o : HO} (s : Same H H') (h : H' p = none) : Same H (L2.upd H' p o) := fun b u e => by
  rw [upd_ne (ne_of_none (s b u e) h)]
  exact s b u e
theorem same_new {H : Hp} {p : Addr} {o : HO} (h : H p = none) : Same H (L2.upd H p o) := same_upd (Same.refl H) h
/-- all but what stands at a is as it was -/
def But (a : Addr) (H H' : Hp) : Prop := ∀ b o, b ≠ a → H b = some o → H' b = some o
theorem But.refl (a : Addr) (H : Hp) : But a H H := fun _ _ _ h => h
theorem But.trans {a : Addr} {H H1 H2 : Hp} (x : But a H H1) (y : But a H1 H2) : But a H H2 := fun b o n e => y b o n (x b o n e)
theorem But.of {a : Addr} {H H' : Hp} (s : Same H H') : But a H H' := fun b o _ e => s b o e
theorem But.same {a : Addr} {H H' : Hp} (x : But a H H') (h : H a = none) : Same H H' := fun b o e => x b o (ne_of_none e h) e
theorem But.upd {a : Addr} {H : Hp} {o : HO} : But a H (L2.upd H a o) := fun b u n e => by rw [upd_ne n]; exact e
theorem But.new {a p : Addr} {H H' : Hp} {o : HO} (x : But a H H') (h : H' p = none) : But a H (L2.upd H' p o) := fun b u n e => by
  have q := x b u n e
  rw [upd_ne (ne_of_none q h)]
  exact q
theorem pe_gi {X : Cx} {x : Str} {pos : Pos} {i : Int} (hg : Gl X x) (h : ∃ t, X.mg x = some (.int i t)) (hd : (x == ("__debug__" : Str)) = false := by decide) : PE X (.Name x pos) (tC (.int i)) := by
  obtain ⟨t, e⟩ := h
  exact pe_glob hg e ⟨t, rfl⟩ hd
theorem pe_gs {X : Cx} {x z : Str} {pos : Pos} (hg : Gl X x) (h : ∃ t, X.mg x = some (.str z t)) (hd : (x == ("__debug__" : Str)) = false := by decide) : PE X (.Name x pos) (tC (.str z)) := by
  obtain ⟨t, e⟩ := h
  exact pe_glob hg e ⟨t, rfl⟩ hd
theorem q_eq {Q : VK} {x y : V} {H : Hp} (q : Q x H) (e : y = x) : Q y H := by rw [e]; exact q
theorem bf {b : Bool} (h : ¬ b = true) : b = false := by cases b <;> simp_all
theorem iteT' {c : Bool} {A B : Prop} (hc : c = true) (h : A) : if c = true then A else B := by rw [if_pos hc]; exact h
theorem iteF' {c : Bool} {A B : Prop} (hc : c = false) (h : B) : if c = true then A else B := by rw [hc, if_neg Bool.false_ne_true]; exact h
theorem iteB {c : Bool} {A B : Prop} (h1 : c = true → A) (h2 : c = false → B) : if c = true then A else B := by
  cases c
  · exact iteF (h2 rfl)
  · exact iteT (h1 rfl)
theorem dec_int {i j : Int} : decide (V.int i = V.int j) = decide (i = j) := by
  by_cases e : i = j
  · subst e; simp
  · rw [decide_eq_false e, decide_eq_false (fun q => e (by injection q))]
theorem dec_str {i j : Str} : decide (V.str i = V.str j) = decide (i = j) := by
  by_cases e : i = j
  · subst e; simp
  · rw [decide_eq_false e, decide_eq_false (fun q => e (by injection q))]
/-- the number in a slot -/
def sN (σ : L2.St) (i : Nat) : Nat := match σ[i]? with
  | some (some (V.int m)) => m.toNat
  | _ => 0
/-! ### steps of a reading that ask nothing -/
theorem g_seq {t u : TS} {D : Ends} {σ : L2.St} {H : Hp} (h : t { D with nx := u D } σ H) : tSeq t u D σ H := h
theorem g_setC {v : V} {i : Nat} {u : TS} {D : Ends} {σ : L2.St} {H : Hp} (h : u D (σ.set i (some v)) H) : tSeq (tAsg (tC v) (gName i)) u D σ H := h
theorem g_next {D : Ends} {σ : L2.St} {H : Hp} (h : D.nx σ H) : tNext D σ H := h
theorem kept {H : Hp} {a p : Addr} {o u : HO} (h : H a = some o) (hp : H p = none) : upd H p u a = some o := by rw [upd_ne (ne_of_none h hp)]; exact h
theorem keptN {H : Hp} {a p : Addr} {o u : HO} (h : H a = some o) (hp : a ≠ p) : upd H p u a = some o := by rw [upd_ne hp]; exact h
theorem But.free {a p : Addr} {H H' : Hp} (b : But a H H') (ha : ∃ o, H' a = some o) (hp : H' p = none) : H p = none := by
  cases e : H p with
  | none => rfl
  | some o =>
    by_cases c : p = a
    · subst c
      obtain ⟨u, hu⟩ := ha
      rw [hp] at hu
      cases hu
    · have := b p o c e
      rw [hp] at this
      cases this
theorem nodup_none {H : Hp} {p q : Addr} {o : HO} (h : upd H q o p = none) : H p = none := by
  unfold upd at h
  split at h
  · cases h
  · exact h

end Fold
namespace Fold
open PySem PySem.Spec PyProof.Rows L2
/-! ### comprehensions whose element is reckoned without a change of the heap -/
theorem take_snoc {α : Type} {xs : List α} {i : Nat} {x : α} (h : xs[i]? = some x) : xs.take (i + 1) = xs.take i ++ [x] := by
  rw [List.take_add_one, h]; rfl
theorem idx_lt {α : Type} {xs : List α} {i : Nat} {x : α} (h : xs[i]? = some x) : i < xs.length := (List.getElem?_eq_some_iff.mp h).1
/-- a tuple or a list walked; tests g? -/
theorem lc_tupM {K : PySem.W.Frag} {p : Addr} {xs : List V} {j : Nat} {te : TE} {vs : List Nat} {σ : L2.St} {H1 : Hp} {D : Addr} {Qd : Hp → Prop} (g : V → V) (hp : H1 p = some (.tup xs)) (hD : H1 D = none) (hl : xs.length < sizeLine)
    (hw : ∀ x, wipe ((wipe σ vs).set j (some x)) vs = wipe σ vs)
    (ev : ∀ (i : Nat) (x : V), xs[i]? = some x → ∀ (H' : Hp) (Q : VK), Same H1 H' → Q (g x) H' → te ((wipe σ vs).set j (some x)) H' Q) (hd : Qd (upd H1 D (.lst (xs.map g)))) :
    ∃ W : Nat → Nat → Hp → Prop, (∃ m, W 0 m (upd H1 D (.lst []))) ∧ ∀ i m H, W i m H →
      ((Itt K p).stop i H ∧ Qd H) ∨ ((Itt K p).go i H ∧ ∃ Nx : Hp → Prop, (∀ H', Nx H' → ∃ m', m' < m ∧ W (i + 1) m' H') ∧ ∀ x H', (Itt K p).yld i H x H' → gName j x (wipe σ vs) H' fun σ2 H2 => wipe σ2 vs = wipe σ vs ∧ tYes σ2 H2 fun b H3 =>
        if b = true then te σ2 H3 fun y H4 => ∃ acc, H4 D = some (.lst acc) ∧ acc.length < sizeLine ∧ Nx (upd H4 D (.lst (acc ++ [y]))) else Nx H3) := by
  refine lc_tup (xs := xs) (fun i H' => H' = upd H1 D (.lst ((xs.take i).map g))) rfl ?_ ?_ ?_
  · rintro i H' _ rfl
    exact SqT.of (by rw [upd_ne (ne_of_none hp hD)]; exact hp)
  · rintro i x H' hi rfl
    refine ⟨hw x, ?_⟩
    unfold tYes
    dsimp only
    rw [if_pos rfl]
    refine ev i x hi _ _ (same_new hD) ⟨_, upd_same, ?_, ?_⟩
    · rw [List.length_map, List.length_take]; omega
    · rw [upd_upd, take_snoc hi, List.map_append]; rfl
  · rintro H' rfl
    rw [List.take_length]
    exact hd
theorem lc_listM {K : PySem.W.Frag} {p : Addr} {xs : List V} {j : Nat} {te : TE} {vs : List Nat} {σ : L2.St} {H1 : Hp} {D : Addr} {Qd : Hp → Prop} (g : V → V) (hp : H1 p = some (.lst xs)) (hD : H1 D = none) (hl : xs.length < sizeLine)
    (hw : ∀ x, wipe ((wipe σ vs).set j (some x)) vs = wipe σ vs)
    (ev : ∀ (i : Nat) (x : V), xs[i]? = some x → ∀ (H' : Hp) (Q : VK), Same H1 H' → Q (g x) H' → te ((wipe σ vs).set j (some x)) H' Q) (hd : Qd (upd H1 D (.lst (xs.map g)))) :
    ∃ W : Nat → Nat → Hp → Prop, (∃ m, W 0 m (upd H1 D (.lst []))) ∧ ∀ i m H, W i m H →
      ((Itl K p).stop i H ∧ Qd H) ∨ ((Itl K p).go i H ∧ ∃ Nx : Hp → Prop, (∀ H', Nx H' → ∃ m', m' < m ∧ W (i + 1) m' H') ∧ ∀ x H', (Itl K p).yld i H x H' → gName j x (wipe σ vs) H' fun σ2 H2 => wipe σ2 vs = wipe σ vs ∧ tYes σ2 H2 fun b H3 =>
        if b = true then te σ2 H3 fun y H4 => ∃ acc, H4 D = some (.lst acc) ∧ acc.length < sizeLine ∧ Nx (upd H4 D (.lst (acc ++ [y]))) else Nx H3) := by
  refine lc_list (xs := xs) (fun i H' => H' = upd H1 D (.lst ((xs.take i).map g))) rfl ?_ ?_ ?_
  · rintro i H' _ rfl
    exact SqL.of (by rw [upd_ne (ne_of_none hp hD)]; exact hp)
  · rintro i x H' hi rfl
    refine ⟨hw x, ?_⟩
    unfold tYes
    dsimp only
    rw [if_pos rfl]
    refine ev i x hi _ _ (same_new hD) ⟨_, upd_same, ?_, ?_⟩
    · rw [List.length_map, List.length_take]; omega
    · rw [upd_upd, take_snoc hi, List.map_append]; rfl
  · rintro H' rfl
    rw [List.take_length]
    exact hd
theorem lc_rangeM {lo : Int} {n : Nat} {j : Nat} {te : TE} {vs : List Nat} {σ : L2.St} {H1 : Hp} {D : Addr} {Qd : Hp → Prop} (g : Nat → V) (hD : H1 D = none) (hl : n < sizeLine)
    (hw : ∀ x, wipe ((wipe σ vs).set j (some x)) vs = wipe σ vs)
    (ev : ∀ i, i < n → ∀ (H' : Hp) (Q : VK), Same H1 H' → Q (g i) H' → te ((wipe σ vs).set j (some (.int (lo + i)))) H' Q) (hd : Qd (upd H1 D (.lst ((List.range n).map g)))) :
    ∃ W : Nat → Nat → Hp → Prop, (∃ m, W 0 m (upd H1 D (.lst []))) ∧ ∀ i m H, W i m H →
      ((Itr lo n).stop i H ∧ Qd H) ∨ ((Itr lo n).go i H ∧ ∃ Nx : Hp → Prop, (∀ H', Nx H' → ∃ m', m' < m ∧ W (i + 1) m' H') ∧ ∀ x H', (Itr lo n).yld i H x H' → gName j x (wipe σ vs) H' fun σ2 H2 => wipe σ2 vs = wipe σ vs ∧ tYes σ2 H2 fun b H3 =>
        if b = true then te σ2 H3 fun y H4 => ∃ acc, H4 D = some (.lst acc) ∧ acc.length < sizeLine ∧ Nx (upd H4 D (.lst (acc ++ [y]))) else Nx H3) := by
  refine lc_range (fun i H' => H' = upd H1 D (.lst ((List.range i).map g))) rfl ?_ ?_
  · rintro i H' hi rfl
    refine ⟨hw _, ?_⟩
    unfold tYes
    dsimp only
    rw [if_pos rfl]
    refine ev i hi _ _ (same_new hD) ⟨_, upd_same, ?_, ?_⟩
    · rw [List.length_map, List.length_range]; omega
    · rw [upd_upd, List.range_succ, List.map_append]; rfl
  · rintro H' rfl
    exact hd
theorem lc_rangeF {lo : Int} {n : Nat} {j : Nat} {te : TE} {tt : TT} {vs : List Nat} {σ : L2.St} {H1 : Hp} {D : Addr} {Qd : Hp → Prop} (b : Nat → Bool) (g : Nat → V) (hD : H1 D = none) (hl : n < sizeLine)
    (hw : ∀ x, wipe ((wipe σ vs).set j (some x)) vs = wipe σ vs)
    (et : ∀ (i : Nat), i < n → ∀ (H' : Hp) (Q : Bool → Hp → Prop), Same H1 H' → Q (b i) H' → tt ((wipe σ vs).set j (some (.int (lo + i)))) H' Q)
    (ev : ∀ (i : Nat), i < n → ∀ (H' : Hp) (Q : VK), Same H1 H' → Q (g i) H' → te ((wipe σ vs).set j (some (.int (lo + i)))) H' Q) (hd : Qd (upd H1 D (.lst (((List.range n).filter b).map g)))) :
    ∃ W : Nat → Nat → Hp → Prop, (∃ m, W 0 m (upd H1 D (.lst []))) ∧ ∀ i m H, W i m H →
      ((Itr lo n).stop i H ∧ Qd H) ∨ ((Itr lo n).go i H ∧ ∃ Nx : Hp → Prop, (∀ H', Nx H' → ∃ m', m' < m ∧ W (i + 1) m' H') ∧ ∀ x H', (Itr lo n).yld i H x H' → gName j x (wipe σ vs) H' fun σ2 H2 => wipe σ2 vs = wipe σ vs ∧ tt σ2 H2 fun b H3 =>
        if b = true then te σ2 H3 fun y H4 => ∃ acc, H4 D = some (.lst acc) ∧ acc.length < sizeLine ∧ Nx (upd H4 D (.lst (acc ++ [y]))) else Nx H3) := by
  refine lc_range (fun i H' => H' = upd H1 D (.lst (((List.range i).filter b).map g))) rfl ?_ ?_
  · rintro i H' hi rfl
    refine ⟨hw _, et i hi _ _ (same_new hD) ?_⟩
    cases c : b i with
    | true =>
      rw [if_pos rfl]
      refine ev i hi _ _ (same_new hD) ⟨_, upd_same, ?_, ?_⟩
      · rw [List.length_map]
        have := List.length_filter_le b (List.range i)
        rw [List.length_range] at this
        omega
      · rw [upd_upd, List.range_succ, List.filter_append, List.map_append, List.filter_cons_of_pos c]; rfl
    | false =>
      rw [if_neg Bool.false_ne_true, List.range_succ, List.filter_append, List.filter_cons_of_neg (by rw [c]; exact Bool.false_ne_true), List.filter_nil, List.append_nil]
  · rintro H' rfl
    exact hd
/-- a list walked, with a test -/
theorem lc_listF {K : PySem.W.Frag} {p : Addr} {xs : List V} {j : Nat} {te : TE} {tt : TT} {vs : List Nat} {σ : L2.St} {H1 : Hp} {D : Addr} {Qd : Hp → Prop} (b : V → Bool) (g : V → V) (hp : H1 p = some (.lst xs)) (hD : H1 D = none) (hl : xs.length < sizeLine)
    (hw : ∀ x, wipe ((wipe σ vs).set j (some x)) vs = wipe σ vs)
    (et : ∀ (i : Nat) (x : V), xs[i]? = some x → ∀ (H' : Hp) (Q : Bool → Hp → Prop), Same H1 H' → Q (b x) H' → tt ((wipe σ vs).set j (some x)) H' Q)
    (ev : ∀ (i : Nat) (x : V), xs[i]? = some x → ∀ (H' : Hp) (Q : VK), Same H1 H' → Q (g x) H' → te ((wipe σ vs).set j (some x)) H' Q) (hd : Qd (upd H1 D (.lst ((xs.filter b).map g)))) :
    ∃ W : Nat → Nat → Hp → Prop, (∃ m, W 0 m (upd H1 D (.lst []))) ∧ ∀ i m H, W i m H →
      ((Itl K p).stop i H ∧ Qd H) ∨ ((Itl K p).go i H ∧ ∃ Nx : Hp → Prop, (∀ H', Nx H' → ∃ m', m' < m ∧ W (i + 1) m' H') ∧ ∀ x H', (Itl K p).yld i H x H' → gName j x (wipe σ vs) H' fun σ2 H2 => wipe σ2 vs = wipe σ vs ∧ tt σ2 H2 fun b H3 =>
        if b = true then te σ2 H3 fun y H4 => ∃ acc, H4 D = some (.lst acc) ∧ acc.length < sizeLine ∧ Nx (upd H4 D (.lst (acc ++ [y]))) else Nx H3) := by
  refine lc_list (xs := xs) (fun i H' => H' = upd H1 D (.lst (((xs.take i).filter b).map g))) rfl ?_ ?_ ?_
  · rintro i H' _ rfl
    exact SqL.of (by rw [upd_ne (ne_of_none hp hD)]; exact hp)
  · rintro i x H' hi rfl
    refine ⟨hw x, et i x hi _ _ (same_new hD) ?_⟩
    cases c : b x with
    | true =>
      rw [if_pos rfl]
      refine ev i x hi _ _ (same_new hD) ⟨_, upd_same, ?_, ?_⟩
      · rw [List.length_map]
        have := List.length_filter_le b (xs.take i)
        rw [List.length_take] at this
        omega
      · rw [upd_upd, take_snoc hi, List.filter_append, List.map_append, List.filter_cons_of_pos c]; rfl
    | false =>
      rw [if_neg Bool.false_ne_true, take_snoc hi, List.filter_append, List.filter_cons_of_neg (by rw [c]; exact Bool.false_ne_true), List.filter_nil, List.append_nil]
  · rintro H' rfl
    rw [List.take_length]
    exact hd
theorem small6 {n : Nat} (h : n ≤ 6) : n < sizeLine := Nat.lt_of_le_of_lt h (by decide)
/-- a list walked; the element's reckoning may make new things -/
theorem lc_listS {K : PySem.W.Frag} {p : Addr} {xs : List V} {j : Nat} {te : TE} {vs : List Nat} {σ : L2.St} {H1 : Hp} {D : Addr} {Qd : Hp → Prop} (g : V → V) (hp : H1 p = some (.lst xs)) (hD : H1 D = none) (hl : xs.length < sizeLine)
    (hw : ∀ x, wipe ((wipe σ vs).set j (some x)) vs = wipe σ vs)
    (ev : ∀ (i : Nat) (x : V), xs[i]? = some x → ∀ (H' : Hp) (Q : VK), Same H1 H' → (∀ H'', Same H' H'' → Q (g x) H'') → te ((wipe σ vs).set j (some x)) H' Q) (hd : ∀ H', Same H1 H' → H' D = some (.lst (xs.map g)) → Qd H') :
    ∃ W : Nat → Nat → Hp → Prop, (∃ m, W 0 m (upd H1 D (.lst []))) ∧ ∀ i m H, W i m H →
      ((Itl K p).stop i H ∧ Qd H) ∨ ((Itl K p).go i H ∧ ∃ Nx : Hp → Prop, (∀ H', Nx H' → ∃ m', m' < m ∧ W (i + 1) m' H') ∧ ∀ x H', (Itl K p).yld i H x H' → gName j x (wipe σ vs) H' fun σ2 H2 => wipe σ2 vs = wipe σ vs ∧ tYes σ2 H2 fun b H3 =>
        if b = true then te σ2 H3 fun y H4 => ∃ acc, H4 D = some (.lst acc) ∧ acc.length < sizeLine ∧ Nx (upd H4 D (.lst (acc ++ [y]))) else Nx H3) := by
  refine lc_list (xs := xs) (fun i H' => Same H1 H' ∧ H' D = some (.lst ((xs.take i).map g))) ⟨same_new hD, upd_same⟩ ?_ ?_ ?_
  · rintro i H' _ ⟨s, _⟩
    exact SqL.of (s _ _ hp)
  · rintro i x H' hi ⟨s, hDl⟩
    refine ⟨hw x, ?_⟩
    unfold tYes
    dsimp only
    rw [if_pos rfl]
    refine ev i x hi _ _ s fun H'' s'' => ⟨_, s'' _ _ hDl, ?_, fun b u e => ?_, ?_⟩
    · rw [List.length_map, List.length_take]; omega
    · rw [upd_ne (ne_of_none e hD)]
      exact s'' _ _ (s _ _ e)
    · rw [upd_same, take_snoc hi, List.map_append]; rfl
  · rintro H' ⟨s, hDl⟩
    rw [List.take_length] at hDl
    exact hd _ s hDl

end Fold
namespace Fold
open PySem PySem.Spec PyProof.Rows L2
/-! ### classes of the text -/
def NaAll (K : PySem.W.Frag) (C : Addr) : List Str → Prop
  | [] => True
  | f :: r => NoAttr K C f ∧ NaAll K C r
theorem na_all {p : Prop} (h : p) : p := h
structure Cl (K : PySem.W.Frag) (mg : Str → Option Value) (C : Addr) (x : Str) (fs : List Str) : Prop where
  cl : Cls K C
  g : mg x = some (.ref C)
  mkC : PySem.W.makesIn K C = true
  kC : PySem.W.keepIn K (.ref C) = true
  na : NaAll K C fs
/-- a method of the text -/
structure Dm (K : PySem.W.Frag) (C : Addr) (m qual : Str) (st : Stmt) (ps : List Str) : Prop where
  ex : ∃ f fd, Fun K m qual st f fd ∧ PySem.W.findIn K (.ref C) m = some (some (.ref f)) ∧ PySem.W.isFn K (.ref f) = true ∧ Binds K fd ps []
/-- a method's promise (CX0: nothing is raised out of it) -/
structure Mt (CX : CXT) (P : Program) (w : World) (K : PySem.W.Frag) (mg : Str → Option Value) (base : Heap) (k : Nat) (C : Addr) (m : Str) (sp : Sp) : Prop where
  ex : ∃ f fd ps, FnOk P w K mg base CX k f fd ps sp ∧ Meth K C m f ∧ Binds K fd ps []
abbrev Mt0 := Mt CX0
abbrev Mt1 (P : Program) (w : World) := Mt (L2.CX P w) P w
/-- what the call of a class promises -/
structure In (CX : CXT) (P : Program) (w : World) (K : PySem.W.Frag) (mg : Str → Option Value) (base : Heap) (k : Nat) (C : Addr) (x : Str) (sp : Sp) : Prop where
  ex : ∃ f fd ps, FnOk P w K mg base CX k f fd ps sp ∧ Mk K C f ∧ mg x = some (.ref C) ∧ Binds K fd ps []
section
variable {P : Program} {w : World} {K : PySem.W.Frag} {mg : Str → Option Value} {base : Heap} {x m qual : Str} {st : Stmt} {N ps fs : List Str} {k : Nat} {sp : Sp} {C : Addr}
theorem Dm.m0 (F : Dm K C m qual st ps) (S : FnScope N ps (defScope st)) (len : ∀ vs H Q E, sp vs H Q E → vs.length = ps.length)
    (hbody : ∀ (f : Addr) (cdv : Value) (A : Around) (outer : List Env) (s : Shared) (H : Hp) (vs : List V) (Q : VK) (E : XK), Room k (A.deeper (envOfC qual (defScope st) s.heap.objs.size f cdv)) → sp vs H Q E →
      ∃ t, PSs (cxOf CX0 P w K mg base N qual (defScope st) f cdv A outer s H E).nox (defBody st) t ∧ t { nx := fun _ H' => Q .non H', rt := Q } (start N vs) H) : Mt CX0 P w K mg base (k + 1) C m sp := by
  obtain ⟨f, fd, F1, hm, hi, b⟩ := F.ex
  exact ⟨f, fd, ps, F1.ok S len (fun cdv A outer s H vs Q E => hbody f cdv A outer s H vs Q E), ⟨hm, hi, F1.kp⟩, b⟩
theorem Dm.m1 (F : Dm K C m qual st ps) (S : FnScope N ps (defScope st)) (len : ∀ vs H Q E, sp vs H Q E → vs.length = ps.length)
    (hbody : ∀ (f : Addr) (cdv : Value) (A : Around) (outer : List Env) (s : Shared) (H : Hp) (vs : List V) (Q : VK) (E : XK), Room k (A.deeper (envOfC qual (defScope st) s.heap.objs.size f cdv)) → sp vs H Q E →
      ∃ t, PSs (cxOf (L2.CX P w) P w K mg base N qual (defScope st) f cdv A outer s H E) (defBody st) t ∧ t { nx := fun _ H' => Q .non H', rt := Q } (start N vs) H) : Mt (L2.CX P w) P w K mg base (k + 1) C m sp := by
  obtain ⟨f, fd, F1, hm, hi, b⟩ := F.ex
  exact ⟨f, fd, ps, F1.okX S len (fun cdv A outer s H vs Q E => hbody f cdv A outer s H vs Q E), ⟨hm, hi, F1.kp⟩, b⟩
theorem Mt.make {CX : CXT} (M : Mt CX P w K mg base k C "__init__" sp) (T : Cl K mg C x fs) : In CX P w K mg base k C x sp := by
  obtain ⟨f, fd, ps, F, ⟨h1, h2, _⟩, b⟩ := M.ex
  exact ⟨f, fd, ps, F, ⟨T.mkC, h1, h2, T.kC⟩, T.g, b⟩
end
section
variable {X : Cx} {CX : CXT} {k j : Nat} {x m : Str} {sp : Sp} {p pos apos : Pos} {e o : Expr} {es : List Expr} {t : TA} {ta : TE} {W : WX} {C f : Addr} {fd : FuncData} {ps : List Str} {E : XK}
/-- C(..), what is raised wished for at the slots -/
theorem run_makeS {pins : List (Addr × Obj)} {σ : L2.St} {H : Hp} {s : Shared} {Q : VK} {us : List Value} {vs : List V} (M : Mk X.K C f) (F : FnOk X.prog X.w X.K X.mg X.base CX k f fd ps sp) (hr : Room (k + 1) X.A) (hb : Binds X.K fd ps [])
    (hx : PassesAt CX X σ E) (I : Inv X pins σ H s) (r : Vals vs us)
    (h : ∀ x dx, H x = none → H dx = none → dx ≠ x → sp (.ref x :: vs) (upd (upd H dx (.own x)) x (.ins C dx [])) (fun v H2 => v = .non ∧ Q (.ref x) H2) E) :
    wpAny (model X.prog X.w) X.A (call (.ref C) us) (EP X pins σ Q) X.xe s := by
  have hq := h (s.heap.objs.size + 1) s.heap.objs.size (I.hok.fresh (Nat.le_succ _)) (I.hok.fresh (Nat.le_refl _)) (Nat.ne_of_lt (Nat.lt_succ_self _))
  have I2 := Inv.made (C := C) I
  have r2 : Vals (V.ref (s.heap.objs.size + 1) :: vs) (Value.ref (s.heap.objs.size + 1) :: us) := .cons rfl r
  have hl : (Value.ref (s.heap.objs.size + 1) :: us).length = ps.length := by
    have e := r2.length
    rw [F.len _ _ _ _ hq] at e
    exact e.symm
  have b := hb _ (Value.ref (s.heap.objs.size + 1) :: us) I2.kIn (by rw [List.append_nil]; exact hl)
  rw [List.append_nil] at b
  refine wpAny_call (make_map (f := f) I.kIn M.makes M.init (beq_iff_eq.mp M.fn) (codeAny_mono (F.run _ X.stack _ _ ⟨Value.ref (s.heap.objs.size + 1) :: us, []⟩ (Value.ref (s.heap.objs.size + 1) :: us) _ _ E (hr.make C us [])
    (I2.env0.make C us []) b r2 hq) fun r s' hq' => ?_))
  cases r with
  | error e => exact hx pins _ _ e s' I2 hq'
  | ok fl =>
    cases fl with
    | ret u =>
      obtain ⟨v, H', I3, rv, ev, q3⟩ := I2.after hq'
      subst ev
      exact ⟨rv, ⟨V.ref (s.heap.objs.size + 1), H', I3, rfl, q3⟩⟩
    | next => exact False.elim hq'
    | brk => exact False.elim hq'
    | cont => exact False.elim hq'
def tMakeS (C : Addr) (sp : Sp) (E : L2.St → XK) (t : TA) : TE := fun σ H Q => t σ H fun vs H1 => ∀ x dx, H1 x = none → H1 dx = none → dx ≠ x →
  sp (.ref x :: vs) (upd (upd H1 dx (.own x)) x (.ins C dx [])) (fun v H2 => v = .non ∧ Q (.ref x) H2) (E σ)
theorem pe_m1 (c : In (L2.CX X.prog X.w) X.prog X.w X.K X.mg X.base k C x sp) (hr : Room j X.A) (hk : k + 1 ≤ j) (tk : Takes X W) (ha : PA X (e :: es) t) (hg : Gl X x := by rfl)
    (hdb : (x == ("__debug__" : Str)) = false := by decide) (he : starEach (e :: es) X.env = (false, eval e X.env) :: starEach es X.env := by rfl) (hpl : (backTo pos (starEach es X.env)).any (·.1) = false := by rfl) :
    PE X (.Call (.Name x p) (e :: es) [] pos) (tMakeS C sp (WE W) t) := by
  obtain ⟨f, fd, ps, F, M, hm, b⟩ := c.ex
  refine ⟨fun pins s σ H Q I h => ?_⟩
  refine wpAny_Call_Name_kw (ld_glob I hg hm ?_ hdb)
  refine PySem.W.callWith_K (h₀ := X.base) I.ok.mod.kin M.kp (thn (ha.run pos pins s σ H _ I h) fun us s1 ⟨vs, H1, I1, r, q⟩ => ⟨I1.kIn, ?_⟩) he hpl
  exact run_makeS M F (hr.mono hk) b (passAt tk σ) I1 r q
theorem pe_m10 (c : In (L2.CX X.prog X.w) X.prog X.w X.K X.mg X.base k C x sp) (hr : Room j X.A) (hk : k + 1 ≤ j) (ha : PA X (e :: es) t) (hg : Gl X x := by rfl)
    (hdb : (x == ("__debug__" : Str)) = false := by decide) (he : starEach (e :: es) X.env = (false, eval e X.env) :: starEach es X.env := by rfl) (hpl : (backTo pos (starEach es X.env)).any (·.1) = false := by rfl) :
    PE X (.Call (.Name x p) (e :: es) [] pos) (tMake C sp [] E0 t) := by
  obtain ⟨f, fd, ps, F, M, hm, b⟩ := c.ex
  exact pe_make M F (hr.mono hk) hg hm b .nil passL ha hdb he hpl
theorem pe_m0 (c : In CX0 X.prog X.w X.K X.mg X.base k C x sp) (hr : Room j X.A) (hk : k + 1 ≤ j) (ha : PA X (e :: es) t) (hg : Gl X x := by rfl)
    (hdb : (x == ("__debug__" : Str)) = false := by decide) (he : starEach (e :: es) X.env = (false, eval e X.env) :: starEach es X.env := by rfl) (hpl : (backTo pos (starEach es X.env)).any (·.1) = false := by rfl) :
    PE X (.Call (.Name x p) (e :: es) [] pos) (tMake C sp [] E0 t) := by
  obtain ⟨f, fd, ps, F, M, hm, b⟩ := c.ex
  exact pe_make M F (hr.mono hk) hg hm b .nil pass0 ha hdb he hpl
/-- o.m(e, ..) -/
theorem pe_o0 {pl : Sem Bool} (c : Mt CX0 X.prog X.w X.K X.mg X.base k C m sp) (hr : Room j X.A) (hk : k ≤ j) (he : PE X o ta) (cl : Cls X.K C) (ha : PA X (e :: es) t)
    (hst : starEach (e :: es) X.env = (false, eval e X.env) :: starEach es X.env := by rfl) (hpl : (backTo pos (starEach es X.env)).any (·.1) = false := by rfl)
    (ht : eval (.Call (.Attribute o m apos) (e :: es) [] pos) X.env = (do
      let ov ← eval o X.env
      standAt apos.atName
      let (f, first) ← holding [ov] (getMethod ov m pl)
      callWith pos f first (backTo pos (starEach (e :: es) X.env)) (backToKw pos (keywordEach [] X.env))) := by rfl) :
    PE X (.Call (.Attribute o m apos) (e :: es) [] pos) (tMeth C m sp [] E0 ta t) := by
  obtain ⟨f, fd, ps, F, M, b⟩ := c.ex
  exact pe_meth he cl M F (hr.mono hk) b .nil pass0 ha hst hpl ht
theorem pe_o00 {pl : Sem Bool} (c : Mt CX0 X.prog X.w X.K X.mg X.base k C m sp) (hr : Room j X.A) (hk : k ≤ j) (he : PE X o ta) (cl : Cls X.K C)
    (ht : eval (.Call (.Attribute o m apos) [] [] pos) X.env = (do
      let ov ← eval o X.env
      standAt apos.atName
      let (f, first) ← holding [ov] (getMethod ov m pl)
      callWith pos f first (backTo pos (starEach [] X.env)) (backToKw pos (keywordEach [] X.env))) := by rfl) :
    PE X (.Call (.Attribute o m apos) [] [] pos) (tMeth C m sp [] E0 ta tNil) := by
  obtain ⟨f, fd, ps, F, M, b⟩ := c.ex
  exact pe_meth0 he cl M F (hr.mono hk) b .nil pass0 ht
theorem pe_o100 {pl : Sem Bool} (c : Mt (L2.CX X.prog X.w) X.prog X.w X.K X.mg X.base k C m sp) (hr : Room j X.A) (hk : k ≤ j) (he : PE X o ta) (cl : Cls X.K C)
    (ht : eval (.Call (.Attribute o m apos) [] [] pos) X.env = (do
      let ov ← eval o X.env
      standAt apos.atName
      let (f, first) ← holding [ov] (getMethod ov m pl)
      callWith pos f first (backTo pos (starEach [] X.env)) (backToKw pos (keywordEach [] X.env))) := by rfl) :
    PE X (.Call (.Attribute o m apos) [] [] pos) (tMeth C m sp [] E0 ta tNil) := by
  obtain ⟨f, fd, ps, F, M, b⟩ := c.ex
  exact pe_meth0 he cl M F (hr.mono hk) b .nil passL ht
/-- .. what is raised wished for at the slots -/
def tMethS (C : Addr) (m : Str) (sp : Sp) (E : L2.St → XK) (ta : TE) (t : TA) : TE := fun σ H Q => ta σ H fun x H1 => ∃ a dx fs, x = .ref a ∧ H1 a = some (.ins C dx fs) ∧ fs.lookup m = none ∧
  t σ H1 fun vs H2 => sp (x :: vs) H2 Q (E σ)
theorem pe_o10 {pl : Sem Bool} (c : Mt (L2.CX X.prog X.w) X.prog X.w X.K X.mg X.base k C m sp) (hr : Room j X.A) (hk : k ≤ j) (tk : Takes X W) (he : PE X o ta) (cl : Cls X.K C)
    (ht : eval (.Call (.Attribute o m apos) [] [] pos) X.env = (do
      let ov ← eval o X.env
      standAt apos.atName
      let (f, first) ← holding [ov] (getMethod ov m pl)
      callWith pos f first (backTo pos (starEach [] X.env)) (backToKw pos (keywordEach [] X.env))) := by rfl) :
    PE X (.Call (.Attribute o m apos) [] [] pos) (tMethS C m sp (WE W) ta tNil) := by
  obtain ⟨f, fd, ps, F, hm, b⟩ := c.ex
  refine ⟨fun pins s σ H Q I h => ?_⟩
  refine PySem.W.methodCall_KW (pl := pl) (thn (he.run pins s σ H _ I h) fun u s1 ⟨x, H1, I1, rx, a, dx, fs, ex, ea, l, q⟩ => ?_) ht
  subst ex
  obtain rfl : u = Value.ref a := rx
  refine getmeth_ok I1 ea cl hm l ?_
  exact PySem.W.callWith_K0 (first := [.ref a]) I1.kIn hm.kp (run_fnS (us := [.ref a]) (vs := [.ref a]) F (hr.mono hk) b (passAt tk σ) I1 (.cons rfl .nil) q)
end
/-! ### x in o, o of an own class with __contains__ -/
section
variable {X : Cx} {k j : Nat} {sp : Sp} {C : Addr}
def rInOwn (C : Addr) (sp : Sp) (neg : Bool) : R2 := fun x y H Q => ∃ a dx fs, y = .ref a ∧ H a = some (.ins C dx fs) ∧ sp [y, x] H (fun v H' => ∃ b, v = .bl b ∧ Q (.bl (if neg then !b else b)) H') E0
theorem contains_own {pins : List (Addr × Obj)} {s : Shared} {σ : L2.St} {H : Hp} {x : V} {v : Value} {a dx : Addr} {fs : List (Str × V)} {Q : Bool → Shared → Prop} {Qw : VK} (c : Mt CX0 X.prog X.w X.K X.mg X.base k C "__contains__" sp) (hr : Room j X.A) (hk : k ≤ j)
    (I : Inv X pins σ H s) (rx : RelV x v) (ha : H a = some (.ins C dx fs)) (hs : sp [.ref a, x] H Qw E0) (hQ : ∀ y H' s', Inv X pins σ H' s' → Qw y H' → ∃ b, y = .bl b ∧ Q b s') :
    wpAny (model X.prog X.w) X.A (contains (.ref a) v) Q X.xe s := by
  obtain ⟨f, fd, ps, F, M, hb⟩ := c.ex
  obtain ⟨mA, J, _⟩ := ins_get I.hok ha
  obtain ⟨od, J, _⟩ := J.look
  unfold contains
  refine wpAny_holding ?_
  rw [stdlibNamesSay?_ref]
  show wpAny _ _ (specialOf (.ref a) "__contains__" >>= _) _ _ _
  have sp1 : PySem.W.Looks (model X.prog X.w) s.heap (specialOf (.ref a) "__contains__") (some (.ref f)) := J.type.andThen (PySem.W.looks_findIn I.kIn M.at_)
  refine wpAny_bind (sp1.here ?_)
  show wpAny _ _ (if (some (Value.ref f) == some Value.none) = true then _ else _) _ _ _
  rw [if_neg (by simp)]
  unfold callSpecialUnlessNone?
  refine wpAny_bind (wpAny_bind (sp1.here ?_))
  refine wpAny_holding (wpAny_bind ((PySem.W.bind_fn I.kIn _ (beq_iff_eq.mp M.fn)).here ?_))
  show wpAny _ _ (if (Value.ref f == Value.none) = true then _ else _) _ _ _
  rw [if_neg (by simp)]
  refine wpAny_bind (wpAny_mono (run_fn (us := [.ref a, v]) (vs := [.ref a, x]) (dvs := []) (ds := []) (E := E0) F (hr.mono hk) hb .nil pass0 I (.cons rfl (.cons rx .nil)) hs) (fun u s' hq => ?_) fun _ _ z => z)
  obtain ⟨y, H', I', ry, q⟩ := hq
  obtain ⟨b, ey, q2⟩ := hQ y H' s' I' q
  subst ey
  cases ry
  refine wpAny_pure ?_
  exact wpAny_truthy_bool q2
theorem op_inOwn (c : Mt CX0 X.prog X.w X.K X.mg X.base k C "__contains__" sp) (hr : Room j X.A) (hk : k ≤ j) : OpR X (compareOp .In) (rInOwn C sp false) := by
  intro pins s σ H x y v u Q I rx ry h
  obtain ⟨a, dx, fs, rfl, ha, hs⟩ := h
  cases ry
  show wpAny _ _ (contains (.ref a) v >>= fun b => (pure (Value.bool b) : Sem Value)) _ _ _
  refine wpAny_bind (contains_own c hr hk I rx ha hs fun y H' s' I' q => ?_)
  obtain ⟨b, rfl, q⟩ := q
  exact ⟨b, rfl, wpAny_pure ⟨.bl b, H', I', rfl, q⟩⟩
theorem op_notInOwn (c : Mt CX0 X.prog X.w X.K X.mg X.base k C "__contains__" sp) (hr : Room j X.A) (hk : k ≤ j) : OpR X (compareOp .NotIn) (rInOwn C sp true) := by
  intro pins s σ H x y v u Q I rx ry h
  obtain ⟨a, dx, fs, rfl, ha, hs⟩ := h
  cases ry
  show wpAny _ _ (contains (.ref a) v >>= fun b => (pure (Value.bool (!b)) : Sem Value)) _ _ _
  refine wpAny_bind (contains_own c hr hk I rx ha hs fun y H' s' I' q => ?_)
  obtain ⟨b, rfl, q⟩ := q
  exact ⟨b, rfl, wpAny_pure ⟨.bl (!b), H', I', rfl, q⟩⟩
end

end Fold
namespace Fold
open PySem PySem.Spec PyProof.Rows L2
/-! ### == by an own class's __eq__, with both answers -/
section
variable {X : Cx} {k j : Nat} {sp : Sp} {C : Addr}
/-- what may stand to the right -/
def EqR (K : PySem.W.Frag) (H : Hp) (C : Addr) (y : V) : Prop := ∃ b, y = .ref b ∧ ((∃ dx fs, H b = some (.ins C dx fs)) ∨ (∃ xs, H b = some (.lst xs)) ∧ PySem.W.subIn K (.type "list") (.ref C) = some false)
def rEqO (K : PySem.W.Frag) (C : Addr) (sp : Sp) : R2 := fun x y H Q => ∃ a dx fs, x = .ref a ∧ H a = some (.ins C dx fs) ∧ EqR K H C y ∧ sp [x, y] H (fun v H' => ∃ b, v = .bl b ∧ Q (.bl b) H') E0
theorem op_eqOwn (c : Mt CX0 X.prog X.w X.K X.mg X.base k C "__eq__" sp) (hr : Room j X.A) (hk : k ≤ j) : OpR X (compareOp .Eq) (rEqO X.K C sp) := by
  intro pins s σ H x y v u Q I rx ry h
  obtain ⟨f, fd, ps, F, M, hb⟩ := c.ex
  obtain ⟨a, dx, fs, rfl, ha, ⟨b, rfl, hy⟩, hs⟩ := h
  cases rx
  cases ry
  obtain ⟨mA, J, _⟩ := ins_get I.hok ha
  obtain ⟨od, J, _⟩ := J.look
  obtain ⟨m, hF⟩ := I.fr
  have hr' := hr.mono hk
  show wpAny (model X.prog X.w) X.A (richCompare .Eq (.ref a) (.ref b)) (EP X pins σ Q) X.xe s
  have body : wpAny (model X.prog X.w) X.A (call (.ref f) [.ref a, .ref b]) (PySem.W.CmpBack (EP X pins σ Q)) X.xe s := by
    refine wpAny_mono (run_fn (us := [.ref a, .ref b]) (vs := [.ref a, .ref b]) (dvs := []) (ds := []) (E := E0) F hr' hb .nil pass0 I (.cons rfl (.cons rfl .nil)) hs) (fun u s' hq => ?_) fun _ _ z => z
    obtain ⟨y, H', I', ry, q⟩ := hq
    obtain ⟨b', rfl, q2⟩ := q
    cases ry
    exact ⟨.bl b', H', I', rfl, q2⟩
  rcases hy with ⟨dy, gs, hy⟩ | ⟨⟨xs, hy⟩, hn⟩
  · obtain ⟨mB, J', _⟩ := ins_get I.hok hy
    obtain ⟨od', J', _⟩ := J'.look
    exact PySem.W.cmp_K (op := .Eq) (tb := .ref C) hr'.units0 hF I.ok.mod.kin J J'.type (by simp [PySem.W.notFirst]) M.at_ M.fn body
  · obtain ⟨z, jts, n, r2, hl2, e2⟩ := I.lstM hy
    have hT : PySem.W.Looks (model X.prog X.w) s.heap (typeOf (.ref b)) (.type "list") := by
      exact (PySem.W.Looks.ld e2).andThen .now
    exact PySem.W.cmp_K (op := .Eq) (tb := .type "list") hr'.units0 hF I.ok.mod.kin J hT (by simp [PySem.W.notFirst, hn]) M.at_ M.fn body
end

end Fold
namespace Fold
open PySem PySem.Spec PyProof.Rows L2
/-! ### sorted of a list of lists of ints (draft) -/
section
open SrtO
variable {prog : Program} {w : World} {A : Around} {E : Value → Shared → Prop} {s : Shared}
def IsLi (h : Heap) (v : Value) (ns : List Int) : Prop := ∃ (a : Addr) (items : Array Value), v = .ref a ∧ h.IsList a items ∧ IntsAre items.toList ns
theorem first_lex : ∀ (ns ms : List Int) (k : Nat) (e r : Nat → Bool), (∀ j x y, ns[j]? = some x → ms[j]? = some y → e (k + j) = (x == y) ∧ r (k + j) = decide (x < y)) →
    SeqAt.firstLt e r (decide (ns.length < ms.length)) (List.range' k (min ns.length ms.length)) = HT.lexLt ns ms
  | [], [], k, e, r, _ => rfl
  | [], y :: ms, k, e, r, _ => by simp [SeqAt.firstLt, HT.lexLt]
  | x :: ns, [], k, e, r, _ => by simp [SeqAt.firstLt, HT.lexLt]
  | x :: ns, y :: ms, k, e, r, h => by
    obtain ⟨h1, h2⟩ := h 0 x y rfl rfl
    rw [Nat.add_zero] at h1 h2
    have ih := first_lex ns ms (k + 1) e r fun j x' y' a b => by
      have := h (j + 1) x' y' a b
      rw [show k + (j + 1) = k + 1 + j by omega] at this
      exact this
    rw [List.length_cons, List.length_cons, show min (ns.length + 1) (ms.length + 1) = min ns.length ms.length + 1 by omega, List.range'_succ, show decide (ns.length + 1 < ms.length + 1) = decide (ns.length < ms.length) by simp]
    by_cases c : x = y
    · rw [SeqAt.firstLt_yes (by rw [h1]; simpa using c), HT.lexLt_cons, if_pos c]
      exact ih
    · rw [SeqAt.firstLt_no (by rw [h1]; simpa using c), HT.lexLt_cons, if_neg c, h2]
theorem int_at : ∀ {us : List Value} {ns : List Int}, IntsAre us ns → us.length = ns.length ∧ ∀ (j : Nat) (h : j < us.length), ∃ x t, ns[j]? = some x ∧ us[j] = Value.int x t
  | _, _, .nil => ⟨rfl, fun j h => absurd h (Nat.not_lt_zero _)⟩
  | _, _, .cons n t r => by
    obtain ⟨h1, h2⟩ := int_at r
    refine ⟨by rw [List.length_cons, List.length_cons, h1], fun j h => ?_⟩
    cases j with
    | zero => exact ⟨n, t, rfl, rfl⟩
    | succ j => exact h2 j (by simpa using h)
theorem lt_li {v u : Value} {ns ms : List Int} {Q : Bool → Shared → Prop} (hu : A.units < cLine) (hv : IsLi s.heap v ns) (hw : IsLi s.heap u ms) (h : Q (HT.lexLt ns ms) s) : wpAny (model prog w) A (keyLt' oneType' v u) Q E s := by
  obtain ⟨a, items, rfl, la, ia⟩ := hv
  obtain ⟨b, items2, rfl, lb, ib⟩ := hw
  rw [keyLt'_oneType, oneLt'_eq]
  simp only [if_true]
  refine wpAny_bind (wpAny_cRoomFor hu ?_)
  have hT : s.TypeIs (.ref a) "list" := by
    obtain ⟨o, ho, hc, _⟩ := la
    exact ⟨o, ho, hc⟩
  obtain ⟨l1, g1⟩ := int_at ia
  obtain ⟨l2, g2⟩ := int_at ib
  refine wpAny_bind (wpAny_callSpecialIfBound?_slot hT F.slot_list_lt (SeqAt.call_list_lt (e := fun j => ns.getD j 0 == ms.getD j 0) (r := fun j => decide (ns.getD j 0 < ms.getD j 0)) la lb (fun j h1 h2 => ?_) (fun j h1 h2 _ => ?_) ?_))
  · obtain ⟨x, t, e1, e2⟩ := g1 j (by simpa using h1)
    obtain ⟨y, t', e3, e4⟩ := g2 j (by simpa using h2)
    rw [Array.getElem_toList] at e2 e4
    rw [e2, e4, List.getD_eq_getElem?_getD, List.getD_eq_getElem?_getD, e1, e3]
    exact SeqAt.EqAt.int_int x t y t'
  · obtain ⟨x, t, e1, e2⟩ := g1 j (by simpa using h1)
    obtain ⟨y, t', e3, e4⟩ := g2 j (by simpa using h2)
    rw [Array.getElem_toList] at e2 e4
    rw [e2, e4, List.getD_eq_getElem?_getD, List.getD_eq_getElem?_getD, e1, e3]
    exact fun prog w E Q h => PyProof.Rows.lt_int h
  · refine wpAny_truthy_bool ?_
    have f := first_lex ns ms 0 (fun j => ns.getD j 0 == ms.getD j 0) (fun j => decide (ns.getD j 0 < ms.getD j 0)) fun j x y e1 e2 => by
      simp [List.getD_eq_getElem?_getD, e1, e2]
    rw [← Array.length_toList, ← Array.length_toList, l1, l2, List.range_eq_range', f]
    exact h
theorem IsLi.keeps {h h' : Heap} {v : Value} {ns : List Int} (x : IsLi h v ns) (k : ∀ b o, v = .ref b → h.get? b = some o → h'.get? b = some o) : IsLi h' v ns := by
  obtain ⟨a, items, e, ⟨o, ho, r⟩, i⟩ := x
  exact ⟨a, items, e, ⟨o, k _ _ e ho, r⟩, i⟩
theorem li_cmp {vs : List Value} {k : Value → List Int} (hu : A.units < cLine) (hv : ∀ v ∈ vs, IsLi s.heap v (k v)) : SrtO.Cmp prog w A s oneType' (fun p => p.1 ∈ vs) (SrtO.lt2 fun v u => HT.lexLt (k v) (k u)) := by
  intro p q hp hq
  exact lt_li (Q := fun r s' => s' = s ∧ r = HT.lexLt (k p.1) (k q.1)) (E := fun _ _ => False) hu (hv p.1 hp) (hv q.1 hq) ⟨rfl, rfl⟩
theorem li_sortable {a : Addr} {vs : List Value} {k : Value → List Int} (h2 : 2 ≤ vs.length) (hu : A.units < cLine) (hv : ∀ v ∈ vs, IsLi s.heap v (k v)) (ha : ∀ v ∈ vs, v ≠ .ref a) :
    SrtO.SortableO prog w A s a vs fun v u => HT.lexLt (k v) (k u) := by
  intro h' keep
  have hv' : ∀ v ∈ vs, IsLi h' v (k v) := fun v hm => (hv v hm).keeps fun b o e g => keep b o (fun z => ha v hm (by rw [e, z])) g
  refine ⟨oneType', fun Q E hq => ?_, li_cmp (s := { s with heap := h' }) hu hv'⟩
  refine PySem.W.kas_kind (s := { s with heap := h' }) (T := .type "list") h2 (fun v hm => ?_) (by rfl) (by simp) hq
  obtain ⟨b, items, rfl, ⟨o, ho, hc, _⟩, _⟩ := hv' v hm
  rw [show (Value.type "list") = o.cls from hc.symm]
  exact (PySem.W.Looks.ld ho).andThen .now
end
def rSortedLL (K : PySem.W.Frag) : List V → Hp → VK → Prop := fun vs H Q => ∃ (a : Addr) (ts : List Addr) (k : Addr → List Int), vs = [.ref a] ∧ SqL K H a (ts.map V.ref) ∧ (∀ t ∈ ts, H t = some (.lst ((k t).map V.int))) ∧
  ∀ (ts' : List Addr) p, ts'.Perm ts → ts'.Pairwise (fun p q => HT.lexLt (k q) (k p) = false) → H p = none → Q (.ref p) (upd H p (.lst (ts'.map V.ref)))
theorem ints_of : ∀ {ns : List Int} {us : List Value}, Vals (ns.map V.int) us → IntsAre us ns
  | [], us, r => by
    cases r
    exact .nil
  | n :: ns, us, r => by
    rw [List.map_cons] at r
    cases r with
    | cons h q =>
      obtain ⟨t, rfl⟩ := h
      exact .cons n t (ints_of q)
theorem cr_sortedLL {X : Cx} (hu : X.A.units + 64 < cLine) : CallR X (.builtin "sorted") (rSortedLL X.K) := by
  intro pins s σ H vs us Q I r h
  obtain ⟨a, ts, k, rfl, hs, hN, q⟩ := h
  obtain ⟨its, rv, hl, hz⟩ := I.list hs
  obtain ⟨u, rfl, ru⟩ := vals1 r
  obtain rfl : u = Value.ref a := ru
  have ei := nts_of rv
  have hv : ∀ u ∈ its, IsLi s.heap u (k (adO u)) := fun u hm => by
    rw [ei] at hm
    obtain ⟨t, ht, rfl⟩ := List.mem_map.mp hm
    obtain ⟨z, jts, n, r2, hl2, e2⟩ := I.lstM (hN t ht)
    exact ⟨t, jts.toArray, rfl, ⟨_, e2, rfl, n, rfl⟩, ints_of r2⟩
  refine SrtO.sorted_ord (NtL.swo_lexL fun u => k (adO u)) hl.isList (by rw [← rv.length]; exact hz) (fun h2 h₁ a₁ e1 kp => ?_) fun out h1 h2 => ?_
  · refine li_sortable (s := { s with heap := h₁ }) h2 (by show X.A.units + 1 + 1 < cLine; omega) (fun v hm => (hv v hm).keeps fun b o _ g => (kp b o g).2) fun v hm z => ?_
    obtain ⟨b, items, e, ⟨o, ho, _⟩, _⟩ := hv v hm
    have := (kp b o ho).1
    rw [e] at z
    exact this (Value.ref.inj z)
  · obtain ⟨ep, he'⟩ := PyProof.Rows.sortedAll_at s.heap its out.toArray
    have eo : out = (out.map adO).map Value.ref := ref_map fun u hm => by
      have hm' : u ∈ its := h2.perm.mem_iff.mp hm
      rw [ei] at hm'
      obtain ⟨t, _, e⟩ := List.mem_map.mp hm'
      exact ⟨t, e.symm⟩
    have hp : (out.map adO).Perm ts := by
      have p1 := h2.perm.map adO
      rw [ei, ad_map] at p1
      exact p1
    have hs' : (out.map adO).Pairwise (fun p q => HT.lexLt (k q) (k p) = false) := List.pairwise_map.mpr (h1.imp fun {x y} z => z)
    have hlen : ((out.map adO).map V.ref).length ≤ sizeLine := by
      rw [List.length_map, hp.length_eq]
      rw [List.length_map] at hz
      exact hz
    have rvo : Vals ((out.map adO).map V.ref) out := by
      have z := of_nts (out.map adO)
      rw [← eo] at z
      exact z
    exact ⟨.ref _, upd H (s.heap.objs.size + 1) (.lst ((out.map adO).map V.ref)), I.laid (t' := s.toks) (fun _ _ => PyProof.Rows.sortedAll_old) (Nat.le_succ _) ⟨hlen, out, ep, rvo, he'⟩, rfl, q _ _ hp hs' (I.hok.fresh (Nat.le_succ _))⟩

end Fold
namespace Fold
open PySem PySem.Spec PyProof.Rows L2
/-! ### enumerate of a tuple -/
open PySem.Sem (wp) in
open AutoSeq1 (wpAny_loadPart') in
theorem meets_enumT (l : Addr) (items : Array Value) (n : Nat) (dct : Option Addr) (sl : Array (Option Value)) :
    Meets (Builtin.«enumerate.__new__» ⟨[.type "enumerate", .ref l], []⟩) (fun _ R s => s.heap.get? l = some { cls := .type "tuple", dict := dct, data := .seq items n, slots := sl } ∧
      R (.ok (.ret (.ref (s.heap.push { cls := .type "tuple_iterator", data := .fields #[.ref l, .int 0 0] }).objs.size)))
        { s with heap := (s.heap.push { cls := .type "tuple_iterator", data := .fields #[.ref l, .int 0 0] }).push { cls := .type "enumerate", data := .fields #[.none, .bool false, .ref s.heap.objs.size, rawInt 0, .none, .none] } }) :=
  .of_wp fun prog w A R s h => by
    obtain ⟨hp, g, d, tk, os⟩ := s; obtain ⟨hl, h⟩ := h
    have hsub := sub_enumerate
    have hL : Heap.IsTuple (Shared.heap ⟨hp, g, d, tk, os⟩) l items := ⟨_, hl, rfl, n, rfl⟩
    wp_walk using wpAny_loadPart' hl
    refine wpAny_stack_any fun st => wpAny_pure ?_
    split
    · rename_i c _ _ _ _ _
      cases (c == Value.type "enumerate")
      · wp_walk using wpAny_loadPart' hl, wpAny_pyIter_tuple hL
        exact ⟨_, rfl, h⟩
      · wp_walk using wpAny_loadPart' hl, wpAny_pyIter_tuple hL
        exact ⟨_, rfl, h⟩
    · wp_walk using wpAny_loadPart' hl, wpAny_pyIter_tuple hL
      exact ⟨_, rfl, h⟩
theorem call_enumT {prog : Program} {w : World} {A : Around} {E : Value → Shared → Prop} {s : Shared} {l : Addr} {items : Array Value} {Q : Value → Shared → Prop} (hL : s.heap.IsTuple l items)
    (h : ∀ h', IsEnum h' (s.heap.objs.size + 1) s.heap.objs.size 0 .none → h'.IsTupleIter s.heap.objs.size l 0 → h'.objs.size = s.heap.objs.size + 2 →
      (∀ b o, s.heap.get? b = some o → h'.get? b = some o) → Q (.ref (s.heap.objs.size + 1)) { s with heap := h' }) :
    wpAny (model prog w) A (call (.type "enumerate") [.ref l]) Q E s := by
  obtain ⟨⟨c, dct, dt, sl⟩, hl, hc, n, hd⟩ := hL
  replace hc : c = .type "tuple" := hc
  replace hd : dt = .seq items n := hd
  subst hc hd
  refine callType_new F.called_enumerate (by decide) (F.typeCall_enumerate_1 _) (F.newCall_enumerate_1 _) (fun obj => F.args_object_init_2 obj _) F.entry_enumerate_new
    (meets_enumT l items n dct sl) ⟨hl, ?_⟩
  have hz : (s.heap.push { cls := .type "tuple_iterator", data := .fields #[.ref l, .int 0 0] }).objs.size = s.heap.objs.size + 1 := Heap.size_push ..
  show _ ∧ _
  rw [hz]
  have he : IsEnum ((s.heap.push { cls := .type "tuple_iterator", data := .fields #[.ref l, .int 0 0] }).push
      { cls := .type "enumerate", data := .fields #[.none, .bool false, .ref s.heap.objs.size, rawInt 0, .none, .none] }) (s.heap.objs.size + 1) s.heap.objs.size 0 .none := by
    have := Heap.get?_push_size (s.heap.push { cls := .type "tuple_iterator", data := .fields #[.ref l, .int 0 0] })
      (o := { cls := .type "enumerate", data := .fields #[.none, .bool false, .ref s.heap.objs.size, rawInt 0, .none, .none] }) rfl
    rw [hz] at this; exact this
  refine ⟨⟨_, he, rfl⟩, h _ he ⟨_, Heap.get?_push_of_some _ (Heap.get?_push_size _ rfl), rfl, rfl⟩ (by rw [Heap.size_push, hz]) fun b o x => Heap.get?_push_of_some _ (Heap.get?_push_of_some _ x)⟩
theorem draws_tup {prog : Program} {w : World} {A : Around} (hh : A.handled = none) (it l : Addr) (hne : l ≠ it) (items : Array Value) :
    Draws prog w A it [it, l] items.size (fun i v => items[i]? = some v) (fun i h => h.IsTupleIter it l i ∧ h.IsTuple l items) where
  live := fun _ _ st => let ⟨o, ho, _⟩ := st.1; ⟨o, ho⟩
  frame := fun _ _ _ st hk => ⟨st.1.at fun o e => hk it (by simp) o e, let ⟨o, ho, r⟩ := st.2; ⟨o, hk l (by simp) o ho, r⟩⟩
  item := fun i s Q E hi st hQ => by
    refine RZ.nextOf_tuple_item st.1 st.2 (x := items[i]) (by simp [hi]) fun h' hit' hs' => ?_
    exact hQ _ h' s.toks (by simp [hi]) ⟨hit', let ⟨o, ho, r⟩ := st.2; ⟨o, (hs'.2 l hne).trans ho, r⟩⟩ hs'
  done := fun s Q E st hE => RZ.nextOf_tuple_end hh st.1 st.2 (by simp) hE
theorem draws_end {prog : Program} {w : World} {A : Around} (hh : A.handled = none) (it l : Addr) (items : Array Value) (i : Nat) (hi : items.size ≤ i) :
    Draws prog w A it [it, l] 0 (fun _ _ => False) (fun k h => h.IsTupleIter it l (i + k) ∧ h.IsTuple l items) where
  live := fun _ _ st => let ⟨o, ho, _⟩ := st.1; ⟨o, ho⟩
  frame := fun _ _ _ st hk => ⟨st.1.at fun o e => hk it (by simp) o e, let ⟨o, ho, r⟩ := st.2; ⟨o, hk l (by simp) o ho, r⟩⟩
  item := fun i s Q E hi st hQ => absurd hi (Nat.not_lt_zero _)
  done := fun s Q E st hE => RZ.nextOf_tuple_end hh st.1 st.2 (by simp [hi]) hE
def IteT (K : PySem.W.Frag) (a : Addr) : It :=
  ⟨fun i H => ∃ (xs : List V) (x : V), SqT K H a xs ∧ xs[i]? = some x, fun i H v H' => ∃ T x, v = .ref T ∧ H T = none ∧ H' = upd H T (.tup [.int (i : Nat), x]) ∧ ∀ xs, SqT K H a xs → xs[i]? = some x, fun i H => ∃ xs : List V, SqT K H a xs ∧ xs.length ≤ i⟩
theorem turn_enumT {P : Program} {w : World} {K : PySem.W.Frag} {elts : List Expr} {kk : Nat} {tpos : Pos} (a e it : Addr) :
    Turn P w K (.Tuple elts kk tpos) (IteT K a) [e, it] e (fun i h => (∃ old, IsEnum h e it ((i : Nat) : Int) old) ∧ h.IsTupleIter it a i ∧ e ≠ it ∧ a ≠ it ∧ e ≠ a) where
  mem := by simp
  obj := fun i h st b hb => by
    obtain ⟨⟨old, he⟩, ⟨o, ho, hc, hd⟩, _⟩ := st
    have e' : b = e ∨ b = it := by simpa using hb
    rcases e' with z | z
    · rw [z]; exact ⟨_, he, fun v q => nomatch q⟩
    · rw [z]; exact ⟨o, ho, fun v q => by rw [hd] at q; cases q⟩
  keep := fun i h h' st k => let ⟨⟨old, he⟩, hi, hne⟩ := st; ⟨⟨old, k e (by simp) _ he⟩, hi.at fun o q => k it (by simp) o q, hne⟩
  item := by
    intro X hP hw hK hc i pins s σ H E I hf st hg
    subst hP hw hK
    obtain ⟨⟨old, he⟩, hit, hne, hai, hea⟩ := st
    obtain ⟨xs, x, hq, hx⟩ := hg
    obtain ⟨its, rv, p, hz⟩ := I.tuple hq
    obtain ⟨u, hu, ru⟩ := rv.get hx
    have hel : e < s.heap.objs.size := Heap.lt_size he
    have hil : it < s.heap.objs.size := by obtain ⟨_, q, _⟩ := hit; exact Heap.lt_size q
    have hlt : i < its.toArray.size := by
      have := (List.getElem?_eq_some_iff.mp hu).1
      simpa using this
    have hT : s.heap.IsTuple a its.toArray := p
    refine wpAny_pyNext_enum_itemD (draws_tup (show X.A.in1.handled = none from I.ok.hd hc) it a hai its.toArray) he ⟨hit, hT⟩ hlt hne (by simp [hne, hea]) fun x' h' tk hx' ho hst hT' hsz hk => ?_
    obtain rfl : u = x' := by
      have e2 : its.toArray[i]? = some u := by simpa using hu
      rw [e2] at hx'
      exact Option.some.inj hx'
    refine ⟨_, rfl, wpAny_letOwnedTupleGo_enum (s := { s with heap := h', toks := tk + 1 }) ho fun h'' he' sb => ?_⟩
    have hT2 : h''.get? s.heap.objs.size = some { cls := .type "tuple", data := .seq #[.int i tk, u] } := (sb.2 _ (Nat.ne_of_gt hel)).trans hT'
    have new : ObjOk X.prog X.w (upd H s.heap.objs.size (.tup [.int (i : Nat), x])) h'' s.heap.objs.size (.tup [.int (i : Nat), x]) :=
      ⟨by show 2 ≤ sizeLine; decide, [.int i tk, u], .cons ⟨_, rfl⟩ (.cons ru .nil), ⟨_, hT2, rfl, _, rfl⟩⟩
    have I1 : Inv X pins σ (upd H s.heap.objs.size (.tup [.int (i : Nat), x])) { s with heap := h'', toks := tk + 1 } :=
      I.turnedNew (ch := [e, it]) (fun b ob hb q => (sb.2 b (fun z => hb (by simp [z]))).trans (hk b ob (fun z => hb (by simp [z])) (fun z => hb (by simp [z])) q)) hf (Nat.le_refl _) new
    refine ⟨.ref s.heap.objs.size, _, I1, rfl, ⟨_, x, rfl, I.hok.fresh (Nat.le_refl _), rfl, fun ys hy => by rw [I.tuple_inj hy hq]; exact hx⟩, ⟨⟨u, ?_⟩, hst.1.at fun o q => (sb.2 it (Ne.symm hne)).trans q, hne, hai, hea⟩, fun b hb => ?_⟩
    · have e1 : ((i + 1 : Nat) : Int) = (i : Int) + 1 := by omega
      rw [e1]; exact he'
    · have hb' : b < s.heap.objs.size := by
        have e' : b = e ∨ b = it := by simpa using hb
        rcases e' with z | z
        · rw [z]; exact hel
        · rw [z]; exact hil
      rw [upd_ne (Nat.ne_of_lt hb')]
      exact (hf b hb).1
  done := by
    intro X hP hw hK hc i pins s σ H E I hf st hg
    subst hP hw hK
    obtain ⟨⟨old, he⟩, hit, hne, hai, hea⟩ := st
    obtain ⟨xs, hq, hx⟩ := hg
    obtain ⟨its, rv, p, hz⟩ := I.tuple hq
    obtain ⟨f0, f1, f2, f3, f4, f5⟩ := hf it (by simp)
    have hl := rv.length
    have hT : s.heap.IsTuple a its.toArray := p
    exact wpAny_pyNext_enum_endD (draws_end (show X.A.in1.handled = none from I.ok.hd hc) it a its.toArray i (by simp; omega)) he ⟨hit, hT⟩ fun h' eb => ⟨rfl, I.turned (t' := s.toks) (fun b o hb e => eb b o hb e) f0 f1 f3 f4 f5⟩
  self := fun A i s Q E st h => let ⟨⟨_, he⟩, _⟩ := st; wpAny_pyIter_enum he h
def iEnumT (K : PySem.W.Frag) (ta : TA) : TI := fun σ H R => ta σ H fun vs H1 => ∃ a xs, vs = [.ref a] ∧ SqT K H1 a xs ∧ R (IteT K a) H1
theorem pi_enumT {X : Cx} {e : Expr} {ta : TA} {p pos tpos : Pos} {elts : List Expr} {kk : Nat} (hg : Gl X "enumerate") (hm : X.mg "enumerate" = none) (ha : PA X [e] ta) (hs : starEach [e] X.env = [(false, eval e X.env)] := by rfl) :
    PI X (.Tuple elts kk tpos) (.Call (.Name "enumerate" p) [e] [] pos) (iEnumT X.K ta) := by
  refine ⟨fun pins s σ H R I h => ?_⟩
  refine Call_ (ld_blt I hg hm boot_enumerate (PyProof.Rows.callWith_type1 (thn (ha.run pos pins s σ H _ I h) fun us s1 ⟨vs, H1, I1, r1, q1⟩ => ?_) hs rfl))
  obtain ⟨a, xs, ex, hq, q⟩ := q1
  subst ex
  cases r1 with
  | cons r rr =>
    cases rr
    cases r
    obtain ⟨its, rv, p', hz⟩ := I1.tuple hq
    have hT : s1.heap.IsTuple a its.toArray := p'
    have hal : a < s1.heap.objs.size := by obtain ⟨_, z, _⟩ := hT; exact Heap.lt_size z
    refine call_enumT hT fun h' he hit hsz hk => wpAny_pyIter_enum he ?_
    have I2 : Inv X pins σ H1 { s1 with heap := h' } := I1.kept (t' := s1.toks) hk
    refine ⟨s1.heap.objs.size + 1, [s1.heap.objs.size + 1, s1.heap.objs.size], _, _, H1, rfl, I2, turn_enumT a (s1.heap.objs.size + 1) s1.heap.objs.size, ⟨⟨.none, he⟩, hit, Nat.succ_ne_self _, Nat.ne_of_lt hal, (Nat.ne_of_lt (Nat.lt_succ_of_lt hal)).symm⟩, fun b hb => ?_, q⟩
    have e' : b = s1.heap.objs.size + 1 ∨ b = s1.heap.objs.size := by simpa using hb
    have hle : s1.heap.objs.size ≤ b := by
      rcases e' with z | z
      · rw [z]; exact Nat.le_add_right _ _
      · rw [z]; exact Nat.le_refl _
    exact I1.fpOk hle (I1.hok.fresh hle)
theorem walk_enumT {K : PySem.W.Frag} {a : Addr} {xs : List V} : Walk (IteT K a) xs.length (fun H => SqT K H a xs) (YPair (fun i => some (.int (i : Nat))) (fun i => xs[i]?)) := by
  refine ⟨fun i _ hi q => ⟨xs, xs[i], q, by simp [hi]⟩, fun _ q => ⟨xs, q, Nat.le_refl _⟩, fun i H v H' _ q y => ?_⟩
  obtain ⟨T, x, h1, h2, h3, h4⟩ := y
  exact ⟨T, .int (i : Nat), x, h1, h2, h3, rfl, h4 xs q⟩

end Fold
namespace Fold
open PySem PySem.Spec PyProof.Rows L2
/-! ### {t: v}, t a tuple of ints and texts -/
section
variable {X : Cx} {pos : Pos}
def tDisp1T (te tv : TE) : TE := fun σ H Q => ∀ p, H p = none → te σ (upd H p (.dT [])) fun k H1 => tv σ H1 fun v H2 => H2 p = some (.dT []) ∧ ∃ (b : Addr) (ks : List Key), k = .ref b ∧ H2 b = some (.tup (ks.map kV)) ∧ Q (.ref p) (upd H2 p (.dT [(ks, v)]))
theorem pe_disp1T {e v : Expr} {te tv : TE} (hu : X.A.units + 1 < cLine) (he : PE X e te) (hv : PE X v tv) : PE X (.Dict [some e] [v] pos) (tDisp1T te tv) := by
  refine ⟨fun pins s σ H Q I q => ?_⟩
  have hn := I.hok.fresh (Nat.le_refl s.heap.objs.size)
  have I1 := I.laid (a := s.heap.objs.size) (o := .dT []) (h' := s.heap.push { cls := .type "dict", data := .dict #[] }) (t' := s.toks) (fun _ _ q => Heap.get?_push_of_some _ q) (Nat.le_refl _) (dt_empty s.heap I.big)
  rw [arm_eval_Dict, zip_pairTrees [some e] [v] X.env pos rfl rfl, dictDisplay_pairs (pairTrees [some e] [v] X.env pos) (by simp [pairTrees]) (by simp [pairTrees])]
  refine wpAny_bind (wpAny_standAt (wpAny_bind ?_))
  unfold subDict
  refine wpAny_bind (wpAny_alloc ?_)
  refine wpAny_bind (wpAny_holding ?_)
  rw [if_pos (by simp [pairTrees])]
  refine wpAny_bind (thn ((pps_cons he hv pps_nil).run pins _ σ _ (fun ps H2 => match ps with
    | [(k, w)] => H2 s.heap.objs.size = some (.dT []) ∧ ∃ (b : Addr) (ks : List Key), k = .ref b ∧ H2 b = some (.tup (ks.map kV)) ∧ Q (.ref s.heap.objs.size) (upd H2 s.heap.objs.size (.dT [(ks, w)]))
    | _ => False) I1 (q _ hn)) fun ws s2 ⟨ps, H2, I2, rel, q2⟩ => ?_)
  obtain ⟨k, w, u, w', rfl, rfl, ru, rw', e2, b, ks, ek, eb, q3⟩ : ∃ (k w : V) (u w' : Value), ps = [(k, w)] ∧ ws = [(u, w')] ∧ RelV k u ∧ RelV w w' ∧ H2 s.heap.objs.size = some (.dT []) ∧ ∃ (b : Addr) (ks : List Key), k = .ref b ∧ H2 b = some (.tup (ks.map kV)) ∧ Q (.ref s.heap.objs.size) (upd H2 s.heap.objs.size (.dT [(ks, w)])) := by
    cases rel with
    | nil => exact False.elim q2
    | @cons a b as bs h t =>
      cases t with
      | nil =>
        obtain ⟨k, w⟩ := a
        obtain ⟨u, w'⟩ := b
        exact ⟨k, w, u, w', rfl, rfl, h.1, h.2, q2⟩
      | cons h2 t2 => exact False.elim q2
  subst ek
  cases (show u = Value.ref b from ru)
  refine wpAny_holding (wpAny_bind ?_)
  rw [List.forIn_cons]
  obtain ⟨z, hd, xs, rel2, dd⟩ := dt_of I2.hok e2
  cases rel2
  refine wpAny_bind (wpAny_bind (wpAny_dictSet_heap (hsz := Nat.zero_le _) (show (tupleKind (mixKind X.prog X.w)).room X.A from Nat.lt_of_succ_lt hu) (key_of I2.hok eb) dd fun h' dd' hs => wpAny_pure ?_))
  dsimp only
  rw [List.forIn_nil]
  refine wpAny_pure (wpAny_pure (wpAny_pure (wpAny_pure ⟨.ref s.heap.objs.size, _, ?_, rfl, q3⟩)))
  obtain ⟨o, es, ep, hq, h2, h3, h4, h6, h5⟩ := dd'
  refine d_write I2 (by rw [e2]; exact True.intro) hs ⟨o, hq⟩ ⟨(by show 1 ≤ sizeLine; decide), hd, _, (KT.put (.nil : KT H2 [] []) ks eb rw').keeps fun c ys ec => ?_, o, es, ep, hq, h2, h3, h4, h5⟩
  rw [upd_ne (ne_of ec e2 (fun z => nomatch z))]
  exact ec
end

end Fold
namespace Fold
open PySem PySem.Spec PyProof.Rows L2
def topS (i : Nat) : Stmt := PySem.Challenge.pw_figurefolds_k06_whole_right_ways.main.body.getD i (.Pass ⟨0, 0, 0, 0⟩)
abbrev s_is_whole : Stmt := topS 10
theorem sc_is_whole : FnScope ["thing", "least", "most"] ["thing", "least", "most"] (defScope s_is_whole) := ⟨rfl, rfl, rfl, by decide +kernel, rfl, by decide +kernel, by decide +kernel⟩
abbrev s_power_of : Stmt := topS 11
theorem sc_power_of : FnScope ["base", "times", "found", "turn"] ["base", "times"] (defScope s_power_of) := ⟨rfl, rfl, rfl, by decide +kernel, rfl, by decide +kernel, by decide +kernel⟩
abbrev s_is_fold : Stmt := topS 12
theorem sc_is_fold : FnScope ["base", "thing"] ["base", "thing"] (defScope s_is_fold) := ⟨rfl, rfl, rfl, by decide +kernel, rfl, by decide +kernel, by decide +kernel⟩
abbrev s_is_weigh : Stmt := topS 13
theorem sc_is_weigh : FnScope ["thing", "one"] ["thing"] (defScope s_is_weigh) := ⟨rfl, rfl, rfl, by decide +kernel, rfl, by decide +kernel, by decide +kernel⟩
abbrev s_is_step : Stmt := topS 14
theorem sc_is_step : FnScope ["base", "thing"] ["base", "thing"] (defScope s_is_step) := ⟨rfl, rfl, rfl, by decide +kernel, rfl, by decide +kernel, by decide +kernel⟩
abbrev s_check_step : Stmt := topS 15
theorem sc_check_step : FnScope ["base", "step"] ["base", "step"] (defScope s_check_step) := ⟨rfl, rfl, rfl, by decide +kernel, rfl, by decide +kernel, by decide +kernel⟩
abbrev s_weighed : Stmt := topS 16
theorem sc_weighed : FnScope ["base", "row", "n", "total", "at"] ["base", "row", "n"] (defScope s_weighed) := ⟨rfl, rfl, rfl, by decide +kernel, rfl, by decide +kernel, by decide +kernel⟩
abbrev s_after : Stmt := topS 17
theorem sc_after : FnScope ["base", "step", "n", "power"] ["base", "step", "n"] (defScope s_after) := ⟨rfl, rfl, rfl, by decide +kernel, rfl, by decide +kernel, by decide +kernel⟩
abbrev s_common : Stmt := topS 19
theorem sc_common : FnScope ["one", "other"] ["one", "other"] (defScope s_common) := ⟨rfl, rfl, rfl, by decide +kernel, rfl, by decide +kernel, by decide +kernel⟩
abbrev s_is_number : Stmt := topS 20
theorem sc_is_number : FnScope ["thing"] ["thing"] (defScope s_is_number) := ⟨rfl, rfl, rfl, by decide +kernel, rfl, by decide +kernel, by decide +kernel⟩
abbrev s_Kept___init__ : Stmt := inClass (topS 21) 0
theorem sc_Kept___init__ : FnScope ["self", "number", "unit", "power", "part", "one"] ["self", "number", "unit", "power", "part"] (defScope s_Kept___init__) := ⟨rfl, rfl, rfl, by decide +kernel, rfl, by decide +kernel, by decide +kernel⟩
abbrev s_Kept___contains__ : Stmt := inClass (topS 21) 1
theorem sc_Kept___contains__ : FnScope ["self", "m"] ["self", "m"] (defScope s_Kept___contains__) := ⟨rfl, rfl, rfl, by decide +kernel, rfl, by decide +kernel, by decide +kernel⟩
abbrev s_weigh_kept : Stmt := topS 22
theorem sc_weigh_kept : FnScope ["base", "row", "number", "at", "weight"] ["base", "row"] (defScope s_weigh_kept) := ⟨rfl, rfl, rfl, by decide +kernel, rfl, by decide +kernel, by decide +kernel⟩
abbrev s_fold_kept : Stmt := topS 23
theorem sc_fold_kept : FnScope ["base", "k", "x", "y", "power", "number"] ["base", "k", "x", "y"] (defScope s_fold_kept) := ⟨rfl, rfl, rfl, by decide +kernel, rfl, by decide +kernel, by decide +kernel⟩
abbrev s_kept : Stmt := topS 24
theorem sc_kept : FnScope ["base", "step"] ["base", "step"] (defScope s_kept) := ⟨rfl, rfl, rfl, by decide +kernel, rfl, by decide +kernel, by decide +kernel⟩
abbrev s_keeps : Stmt := topS 25
theorem sc_keeps : FnScope ["base", "step", "m"] ["base", "step", "m"] (defScope s_keeps) := ⟨rfl, rfl, rfl, by decide +kernel, rfl, by decide +kernel, by decide +kernel⟩
abbrev s_fold_reach : Stmt := topS 27
theorem sc_fold_reach : FnScope ["base", "step", "power"] ["base", "step"] (defScope s_fold_reach) := ⟨rfl, rfl, rfl, by decide +kernel, rfl, by decide +kernel, by decide +kernel⟩
abbrev s_weigh_reach : Stmt := topS 28
theorem sc_weigh_reach : FnScope ["base", "row", "great", "figures", "weight", "some"] ["base", "row"] (defScope s_weigh_reach) := ⟨rfl, rfl, rfl, by decide +kernel, rfl, by decide +kernel, by decide +kernel⟩
abbrev s_reach : Stmt := topS 29
theorem sc_reach : FnScope ["base", "step"] ["base", "step"] (defScope s_reach) := ⟨rfl, rfl, rfl, by decide +kernel, rfl, by decide +kernel, by decide +kernel⟩
abbrev s_from_least : Stmt := topS 30
theorem sc_from_least : FnScope ["ring", "at"] ["ring"] (defScope s_from_least) := ⟨rfl, rfl, rfl, by decide +kernel, rfl, by decide +kernel, by decide +kernel⟩
abbrev s_all_rings : Stmt := topS 31
theorem sc_all_rings : FnScope ["base", "step", "top", "seen", "found", "begin", "row", "n"] ["base", "step", "top"] (defScope s_all_rings) := ⟨rfl, rfl, rfl, by decide +kernel, rfl, by decide +kernel, by decide +kernel⟩
abbrev s_rings : Stmt := topS 32
theorem sc_rings : FnScope ["base", "step", "top"] ["base", "step"] (defScope s_rings) := ⟨rfl, rfl, rfl, by decide +kernel, rfl, by decide +kernel, by decide +kernel⟩
abbrev s_least_bound : Stmt := topS 33
theorem sc_least_bound : FnScope ["base", "step", "found", "ring"] ["base", "step"] (defScope s_least_bound) := ⟨rfl, rfl, rfl, by decide +kernel, rfl, by decide +kernel, by decide +kernel⟩
abbrev s_are_numbers : Stmt := topS 36
theorem sc_are_numbers : FnScope ["thing", "bound", "one", "other"] ["thing", "bound"] (defScope s_are_numbers) := ⟨rfl, rfl, rfl, by decide +kernel, rfl, by decide +kernel, by decide +kernel⟩
abbrev s_divisors : Stmt := topS 37
theorem sc_divisors : FnScope ["number", "found", "one"] ["number"] (defScope s_divisors) := ⟨rfl, rfl, rfl, by decide +kernel, rfl, by decide +kernel, by decide +kernel⟩
abbrev s_Way___init__ : Stmt := inClass (topS 38) 0
theorem sc_Way___init__ : FnScope ["self", "base", "step", "bound", "yes", "least"] ["self", "base", "step", "bound", "yes"] (defScope s_Way___init__) := ⟨rfl, rfl, rfl, by decide +kernel, rfl, by decide +kernel, by decide +kernel⟩
abbrev s_Way___eq__ : Stmt := inClass (topS 38) 1
theorem sc_Way___eq__ : FnScope ["self", "other"] ["self", "other"] (defScope s_Way___eq__) := ⟨rfl, rfl, rfl, by decide +kernel, rfl, by decide +kernel, by decide +kernel⟩
abbrev s_Way_row : Stmt := inClass (topS 38) 2
theorem sc_Way_row : FnScope ["self", "n", "found"] ["self", "n"] (defScope s_Way_row) := ⟨rfl, rfl, rfl, by decide +kernel, rfl, by decide +kernel, by decide +kernel⟩
abbrev s_Way_says : Stmt := inClass (topS 38) 3
theorem sc_Way_says : FnScope ["self", "n"] ["self", "n"] (defScope s_Way_says) := ⟨rfl, rfl, rfl, by decide +kernel, rfl, by decide +kernel, by decide +kernel⟩
abbrev s_Way_fits : Stmt := inClass (topS 38) 4
theorem sc_Way_fits : FnScope ["self", "m"] ["self", "m"] (defScope s_Way_fits) := ⟨rfl, rfl, rfl, by decide +kernel, rfl, by decide +kernel, by decide +kernel⟩
abbrev s_Way_is_right : Stmt := inClass (topS 38) 5
theorem sc_Way_is_right : FnScope ["self", "m"] ["self", "m"] (defScope s_Way_is_right) := ⟨rfl, rfl, rfl, by decide +kernel, rfl, by decide +kernel, by decide +kernel⟩
abbrev s_Way_right : Stmt := inClass (topS 38) 6
theorem sc_Way_right : FnScope ["self", "lot", "some", "m"] ["self"] (defScope s_Way_right) := ⟨rfl, rfl, rfl, by decide +kernel, rfl, by decide +kernel, by decide +kernel⟩
abbrev s_Way_least_error : Stmt := inClass (topS 38) 7
theorem sc_Way_least_error : FnScope ["self", "m", "n"] ["self", "m"] (defScope s_Way_least_error) := ⟨rfl, rfl, rfl, by decide +kernel, rfl, by decide +kernel, by decide +kernel⟩
abbrev s__law_begin : Stmt := topS 40
theorem sc__law_begin : FnScope ["_law_script"] ["_law_script"] (defScope s__law_begin) := ⟨rfl, rfl, rfl, by decide +kernel, rfl, by decide +kernel, by decide +kernel⟩
abbrev s__law_draw : Stmt := topS 41
theorem sc__law_draw : FnScope ["_law_draws", "_law_size", "_law_cell", "_law_found"] ["_law_draws", "_law_size"] (defScope s__law_draw) := ⟨rfl, rfl, rfl, by decide +kernel, rfl, by decide +kernel, by decide +kernel⟩
abbrev s__law_power : Stmt := topS 42
theorem sc__law_power : FnScope ["_law_base", "_law_times", "_law_found", "_law_k"] ["_law_base", "_law_times"] (defScope s__law_power) := ⟨rfl, rfl, rfl, by decide +kernel, rfl, by decide +kernel, by decide +kernel⟩
abbrev s__law_step : Stmt := topS 43
theorem sc__law_step : FnScope ["_law_draws", "_law_base", "_law_size", "_law_unit", "_law_row_here", "_law_k", "_law_x"] ["_law_draws", "_law_base"] (defScope s__law_step) := ⟨rfl, rfl, rfl, by decide +kernel, rfl, by decide +kernel, by decide +kernel⟩
abbrev s__law_made : Stmt := topS 44
theorem sc__law_made : FnScope ["_law_base", "_law_step_here", "_law_n", "_law_cut", "_law_head", "_law_tail", "_law_total", "_law_place", "_law_weight"] ["_law_base", "_law_step_here", "_law_n"] (defScope s__law_made) := ⟨rfl, rfl, rfl, by decide +kernel, rfl, by decide +kernel, by decide +kernel⟩
abbrev s__law_fold_keeps : Stmt := topS 45
theorem sc__law_fold_keeps : FnScope ["_law_base", "_law_step_here", "_law_m", "_law_cut", "_law_q", "_law_r", "_law_here"] ["_law_base", "_law_step_here", "_law_m"] (defScope s__law_fold_keeps) := ⟨rfl, rfl, rfl, by decide +kernel, rfl, by decide +kernel, by decide +kernel⟩
abbrev s__law_weigh_keeps : Stmt := topS 46
theorem sc__law_weigh_keeps : FnScope ["_law_base", "_law_row_here", "_law_m", "_law_first", "_law_seen", "_law_waiting", "_law_n", "_law_total", "_law_value", "_law_place", "_law_figure", "_law_one", "_law_two", "_law_new"] ["_law_base", "_law_row_here", "_law_m"] (defScope s__law_weigh_keeps) := ⟨rfl, rfl, rfl, by decide +kernel, rfl, by decide +kernel, by decide +kernel⟩
abbrev s__law_keeps : Stmt := topS 47
theorem sc__law_keeps : FnScope ["_law_base", "_law_step_here", "_law_m"] ["_law_base", "_law_step_here", "_law_m"] (defScope s__law_keeps) := ⟨rfl, rfl, rfl, by decide +kernel, rfl, by decide +kernel, by decide +kernel⟩
abbrev s__law_ended : Stmt := topS 48
theorem sc__law_ended : FnScope ["_law_draws", "_law_base", "_law_k", "_law_step_here"] ["_law_draws"] (defScope s__law_ended) := ⟨rfl, rfl, rfl, by decide +kernel, rfl, by decide +kernel, by decide +kernel⟩
abbrev s__law_way : Stmt := topS 49
theorem sc__law_way : FnScope ["_law_draws", "_law_base", "_law_step_here", "_law_least", "_law_bound", "_law_m", "_law_yes", "_law_n"] ["_law_draws"] (defScope s__law_way) := ⟨rfl, rfl, rfl, by decide +kernel, rfl, by decide +kernel, by decide +kernel⟩
abbrev s__law_row : Stmt := topS 50
theorem sc__law_row : FnScope ["_law_base", "_law_step_here", "_law_bound", "_law_n", "_law_row_here"] ["_law_base", "_law_step_here", "_law_bound", "_law_n"] (defScope s__law_row) := ⟨rfl, rfl, rfl, by decide +kernel, rfl, by decide +kernel, by decide +kernel⟩
abbrev s__law_wrong : Stmt := topS 51
theorem sc__law_wrong : FnScope ["_law_base", "_law_step_here", "_law_bound", "_law_yes", "_law_m", "_law_n"] ["_law_base", "_law_step_here", "_law_bound", "_law_yes", "_law_m"] (defScope s__law_wrong) := ⟨rfl, rfl, rfl, by decide +kernel, rfl, by decide +kernel, by decide +kernel⟩
abbrev s_law : Stmt := topS 52
theorem sc_law : FnScope ["_law_script", "_law_draws", "_law_base", "_law_step_here", "_law_bound", "_law_yes", "_law_way_here", "_law_told", "_law_m", "_law_small", "_law_due", "_law_wrong_here", "_law_one"] ["_law_script"] (defScope s_law) := ⟨rfl, rfl, rfl, by decide +kernel, rfl, by decide +kernel, by decide +kernel⟩
/-- where the classes stand -/
structure Ad where
  FoldError : Addr
  BadStep : Addr
  BadKept : Addr
  BadWay : Addr
  NoEnd : Addr
  Kept : Addr
  Way : Addr
/-- what the top has written -/
structure Txt (K : PySem.W.Frag) (mg : Str → Option Value) (a : Ad) : Prop where
  n_abs : mg "abs" = none
  n_all : mg "all" = none
  n_bool : mg "bool" = none
  n_enumerate : mg "enumerate" = none
  n_int : mg "int" = none
  n_isinstance : mg "isinstance" = none
  n_len : mg "len" = none
  n_list : mg "list" = none
  n_max : mg "max" = none
  n_min : mg "min" = none
  n_range : mg "range" = none
  n_sorted : mg "sorted" = none
  n_str : mg "str" = none
  n_tuple : mg "tuple" = none
  n_zip : mg "zip" = none
  g_MOST_POWER : ∃ t, mg "MOST_POWER" = some (.int 60 t)
  g_MOST : ∃ t, mg "MOST" = some (.int 12 t)
  g_MOST_BOUND : ∃ t, mg "MOST_BOUND" = some (.int 1000 t)
  x_FoldError : Xc K mg a.FoldError "FoldError"
  x_BadStep : Xc K mg a.BadStep "BadStep"
  x_BadKept : Xc K mg a.BadKept "BadKept"
  x_BadWay : Xc K mg a.BadWay "BadWay"
  x_NoEnd : Xc K mg a.NoEnd "NoEnd"
  d_is_whole : Df K mg "is_whole" s_is_whole ["thing", "least", "most"]
  d_power_of : Df K mg "power_of" s_power_of ["base", "times"]
  d_is_fold : Df K mg "is_fold" s_is_fold ["base", "thing"]
  d_is_weigh : Df K mg "is_weigh" s_is_weigh ["thing"]
  d_is_step : Df K mg "is_step" s_is_step ["base", "thing"]
  d_check_step : Df K mg "check_step" s_check_step ["base", "step"]
  d_weighed : Df K mg "weighed" s_weighed ["base", "row", "n"]
  d_after : Df K mg "after" s_after ["base", "step", "n"]
  d_common : Df K mg "common" s_common ["one", "other"]
  d_is_number : Df K mg "is_number" s_is_number ["thing"]
  d_weigh_kept : Df K mg "weigh_kept" s_weigh_kept ["base", "row"]
  d_fold_kept : Df K mg "fold_kept" s_fold_kept ["base", "k", "x", "y"]
  d_kept : Df K mg "kept" s_kept ["base", "step"]
  d_keeps : Df K mg "keeps" s_keeps ["base", "step", "m"]
  d_fold_reach : Df K mg "fold_reach" s_fold_reach ["base", "step"]
  d_weigh_reach : Df K mg "weigh_reach" s_weigh_reach ["base", "row"]
  d_reach : Df K mg "reach" s_reach ["base", "step"]
  d_from_least : Df K mg "from_least" s_from_least ["ring"]
  d_all_rings : Df K mg "all_rings" s_all_rings ["base", "step", "top"]
  d_rings : Df K mg "rings" s_rings ["base", "step"]
  d_least_bound : Df K mg "least_bound" s_least_bound ["base", "step"]
  d_are_numbers : Df K mg "are_numbers" s_are_numbers ["thing", "bound"]
  d_divisors : Df K mg "divisors" s_divisors ["number"]
  d__law_begin : Df K mg "_law_begin" s__law_begin ["_law_script"]
  d__law_draw : Df K mg "_law_draw" s__law_draw ["_law_draws", "_law_size"]
  d__law_power : Df K mg "_law_power" s__law_power ["_law_base", "_law_times"]
  d__law_step : Df K mg "_law_step" s__law_step ["_law_draws", "_law_base"]
  d__law_made : Df K mg "_law_made" s__law_made ["_law_base", "_law_step_here", "_law_n"]
  d__law_fold_keeps : Df K mg "_law_fold_keeps" s__law_fold_keeps ["_law_base", "_law_step_here", "_law_m"]
  d__law_weigh_keeps : Df K mg "_law_weigh_keeps" s__law_weigh_keeps ["_law_base", "_law_row_here", "_law_m"]
  d__law_keeps : Df K mg "_law_keeps" s__law_keeps ["_law_base", "_law_step_here", "_law_m"]
  d__law_ended : Df K mg "_law_ended" s__law_ended ["_law_draws"]
  d__law_way : Df K mg "_law_way" s__law_way ["_law_draws"]
  d__law_row : Df K mg "_law_row" s__law_row ["_law_base", "_law_step_here", "_law_bound", "_law_n"]
  d__law_wrong : Df K mg "_law_wrong" s__law_wrong ["_law_base", "_law_step_here", "_law_bound", "_law_yes", "_law_m"]
  d_law : Df K mg "law" s_law ["_law_script"]
  cl_Kept : Cl K mg a.Kept "Kept" ["number", "unit", "power", "part"]
  d_Kept___init__ : Dm K a.Kept "__init__" "Kept.__init__" s_Kept___init__ ["self", "number", "unit", "power", "part"]
  d_Kept___contains__ : Dm K a.Kept "__contains__" "Kept.__contains__" s_Kept___contains__ ["self", "m"]
  cl_Way : Cl K mg a.Way "Way" ["base", "step", "bound", "yes"]
  ic_Way : C8.InsC K a.Way
  nl_Way : PySem.W.subIn K (.type "list") (.ref a.Way) = some false
  kl_Way : PySem.W.kitOne K (.type "list") (.ref a.Way) = some false
  d_Way___init__ : Dm K a.Way "__init__" "Way.__init__" s_Way___init__ ["self", "base", "step", "bound", "yes"]
  d_Way___eq__ : Dm K a.Way "__eq__" "Way.__eq__" s_Way___eq__ ["self", "other"]
  d_Way_row : Dm K a.Way "row" "Way.row" s_Way_row ["self", "n"]
  d_Way_says : Dm K a.Way "says" "Way.says" s_Way_says ["self", "n"]
  d_Way_fits : Dm K a.Way "fits" "Way.fits" s_Way_fits ["self", "m"]
  d_Way_is_right : Dm K a.Way "is_right" "Way.is_right" s_Way_is_right ["self", "m"]
  d_Way_right : Dm K a.Way "right" "Way.right" s_Way_right ["self"]
  d_Way_least_error : Dm K a.Way "least_error" "Way.least_error" s_Way_least_error ["self", "m"]


end Fold
namespace Fold
open PySem PySem.Spec PyProof.Rows L2
section
variable {P : Program} {w : World} {K : PySem.W.Frag} {mg : Str → Option Value} {base : Heap} {a : Ad}
def wholeB (v : V) (lo hi : Int) : Bool := match v with
  | .int i => decide (lo ≤ i) && decide (i ≤ hi)
  | _ => false
def sp_is_whole : Sp := fun vs H Q _ => ∃ (v : V) (t : String) (lo hi : Int), vs = [v, .int lo, .int hi] ∧ Kn H v t ∧ Q (.bl (wholeB v lo hi)) H
theorem ok_is_whole (T : Txt K mg a) : C0 P w K mg base 1 "is_whole" sp_is_whole := by
  refine T.d_is_whole.c0 sc_is_whole (fun vs H Q E h => ?_) (fun f cdv A outer s H vs Q E hr h => ?_)
  · obtain ⟨v, t, lo, hi, rfl, _⟩ := h
    rfl
  · obtain ⟨v, t, lo, hi, rfl, hv, k⟩ := h
    refine ⟨_, (pss_one (ps_ret (pe_and (pe_callB call_isi (by rfl) T.n_isinstance b_isinstance (pa_cons (pv 0) (pa_cons (pe_bltn (v := .ty "int") (by rfl) T.n_int b_int rfl) pa_nil))) (pe_and (pe_not (pe_callB call_isi (by rfl) T.n_isinstance b_isinstance (pa_cons (pv 0) (pa_cons (pe_bltn (v := .ty "bool") (by rfl) T.n_bool b_bool rfl) pa_nil)))) (pe_one (pe_chain op_le op_le (pv 1) (pv 0) (pv 2))))))), ?_⟩
    refine ⟨_, rfl, _, _, _, _, _, rfl, .ty _, hv.ty, kit_ty (isA_int hv), _, rfl, ?_⟩
    cases hv with
    | int i =>
      refine iteT ⟨_, rfl, _, _, _, _, _, rfl, .ty _, (Kn.int i).ty, kit_ty (isA_bool (Kn.int (H := H) i)), _, rfl, _, rfl, ?_⟩
      refine iteT ⟨_, rfl, _, rfl, _, _, rfl, rfl, _, rfl, ?_⟩
      by_cases c : lo ≤ i
      · rw [if_pos (decide_eq_true c)]
        refine ⟨_, rfl, _, _, rfl, rfl, ?_⟩
        exact q_eq k (by simp [wholeB, c])
      · rw [if_neg (by simpa using c)]
        exact q_eq k (by simp [wholeB, c])
    | bl b => exact iteT ⟨_, rfl, _, _, _, _, _, rfl, .ty _, (Kn.bl b).ty, kit_ty (isA_bool (Kn.bl (H := H) b)), _, rfl, _, rfl, iteF k⟩
    | non => exact iteF k
    | str z => exact iteF k
    | lst e => exact iteF k
    | tup e => exact iteF k
def sp_power_of : Sp := fun vs H Q _ => ∃ (b n : Int), vs = [.int b, .int n] ∧ (0 ≤ b ∧ b < 1000) ∧ (0 ≤ n ∧ n < 1000) ∧ Q (.int ((b.toNat ^ n.toNat : Nat) : Int)) H
theorem ok_power_of (T : Txt K mg a) : C0 P w K mg base 1 "power_of" sp_power_of := by
  refine T.d_power_of.c0 sc_power_of (fun vs H Q E h => ?_) (fun f cdv A outer s H vs Q E hr h => ?_)
  · obtain ⟨b, n, rfl, _⟩ := h
    rfl
  · obtain ⟨b, n, rfl, ⟨b0, b1⟩, ⟨n0, n1⟩, k⟩ := h
    obtain ⟨b, rfl⟩ := Int.eq_ofNat_of_zero_le b0
    obtain ⟨n, rfl⟩ := Int.eq_ofNat_of_zero_le n0
    refine ⟨_, (pss_cons (ps_set (i := 2) sc_power_of.nd rfl (Or.inl rfl) pe_int)
      (pss_cons (ps_for PassesOwn.never rfl (pi_range1 (by rfl) T.n_range (pa_cons (pv 1) pa_nil)) (pg_name (i := 3) sc_power_of.nd rfl (Or.inl rfl)) (pss_one (ps_set (i := 2) sc_power_of.nd rfl (Or.inl rfl) (pe_op op_mul (pv 2) (pv 0)))))
      (pss_one (ps_ret (pv 2))))), ?_⟩
    refine ⟨_, rfl, _, rfl, by omega, by omega, for_range (fun i σ H' => H' = H ∧ ∃ v, σ = [some (.int b), some (.int n), some (.int ((b ^ i : Nat) : Int)), v]) ⟨rfl, none, rfl⟩ ?_ ?_⟩
    · rintro i σ H' hi ⟨rfl, v, rfl⟩
      refine ⟨_, rfl, _, rfl, _, _, rfl, rfl, .inr ⟨by omega, by omega⟩, rfl, some (.int (0 + (i : Int))), ?_⟩
      rw [Nat.pow_succ, Int.natCast_mul]
      rfl
    · rintro σ H' ⟨rfl, v, rfl⟩
      exact ⟨_, rfl, k⟩
end

end Fold
namespace Fold
open PySem PySem.Spec PyProof.Rows L2
section
variable {P : Program} {w : World} {K : PySem.W.Frag} {mg : Str → Option Value} {base : Heap} {a : Ad}
theorem wholeB_iff {v : V} {lo hi : Int} : wholeB v lo hi = true ↔ ∃ i, v = .int i ∧ lo ≤ i ∧ i ≤ hi := by
  cases v <;> simp [wholeB]
/-- each value of a list is of a known kind -/
def KnAll (H : Hp) (xs : List V) : Prop := ∀ x ∈ xs, ∃ t, Kn H x t
theorem KnAll.mono {H H' : Hp} (s : Same H H') {xs : List V} (k : KnAll H xs) : KnAll H' xs := fun x m => by
  obtain ⟨t, h⟩ := k x m
  exact ⟨t, h.mono s⟩
def foldB (b : Int) (xs : List V) : Bool := match xs with
  | [_, .int k, x, y] => decide (1 ≤ k) && decide (k ≤ 5) && decide (b.toNat ^ k.toNat ≤ 60) && wholeB x (-12) 12 && wholeB y (-12) 12
  | _ => false
def sp_is_fold : Sp := fun vs H Q _ => ∃ (b : Int) (p : Addr) (xs : List V), vs = [.int b, .ref p] ∧ (0 ≤ b ∧ b < 1000) ∧ H p = some (.tup xs) ∧ KnAll H xs ∧ Q (.bl (foldB b xs)) H
theorem foldB_len {b : Int} {xs : List V} (h : ¬ xs.length = 4) : foldB b xs = false := by
  unfold foldB
  split
  · exact absurd rfl h
  · rfl
theorem foldB_no {b : Int} {z k x y : V} (h : ¬ wholeB k 1 5 = true) : foldB b [z, k, x, y] = false := by
  cases k <;> simp only [foldB]
  rename_i i
  simp only [wholeB, Bool.and_eq_true, decide_eq_true_eq] at h
  simp only [Bool.and_eq_false_imp, Bool.and_eq_true, decide_eq_true_eq]
  intro h1
  omega
theorem ok_is_fold (T : Txt K mg a) : C0 P w K mg base 2 "is_fold" sp_is_fold := by
  have c_is_whole := ok_is_whole (P := P) (w := w) (base := base) T; have c_power_of := ok_power_of (P := P) (w := w) (base := base) T
  refine T.d_is_fold.c0 sc_is_fold (fun vs H Q E h => ?_) (fun f cdv A outer s H vs Q E hr h => ?_)
  · obtain ⟨b, p, xs, rfl, _⟩ := h
    rfl
  · obtain ⟨b, p, xs, rfl, hb, hp, hk, k⟩ := h
    refine ⟨_, (pss_cons (ps_if (pw_or (pt_cmpR op_ne (pe_callB call_len_seq (by rfl) T.n_len b_len (pa_cons (pv 1) pa_nil)) pe_int (nomark _)) (pw_or (pt_not (pt_val (pe_0 c_is_whole hr (by decide) (pa_cons (pe_ix ix_tup (pv 1) pe_int (fun _ _ => rfl)) (pa_cons pe_int (pa_cons pe_int pa_nil)))))) (pw_or1 (pt_cmpR op_gt (pe_0 c_power_of hr (by decide) (pa_cons (pv 0) (pa_cons (pe_ix ix_tup (pv 1) pe_int (fun _ _ => rfl)) pa_nil))) (pe_gi (by rfl) T.g_MOST_POWER) (nomark _))))).pt (pss_one (ps_ret pe_bl)) pss_nil)
      (pss_one (ps_ret (pe_and (pe_0 c_is_whole hr (by decide) (pa_cons (pe_ix ix_tup (pv 1) pe_int (fun _ _ => rfl)) (pa_cons (pe_un un_neg (pe_gi (by rfl) T.g_MOST)) (pa_cons (pe_gi (by rfl) T.g_MOST) pa_nil)))) (pe_one (pe_0 c_is_whole hr (by decide) (pa_cons (pe_ix ix_tup (pv 1) pe_int (fun _ _ => rfl)) (pa_cons (pe_un un_neg (pe_gi (by rfl) T.g_MOST)) (pa_cons (pe_gi (by rfl) T.g_MOST) pa_nil))))))))), ?_⟩
    refine ⟨_, rfl, p, xs, rfl, .inr (SqT.of hp), rfl, _, rfl, ?_⟩
    by_cases hl : xs.length = 4
    · match xs, hl with
      | [z, n, x, y], _ =>
        refine iteF ?_
        obtain ⟨tn, kn⟩ := hk n (by simp)
        obtain ⟨tx, kx⟩ := hk x (by simp)
        obtain ⟨ty, ky⟩ := hk y (by simp)
        refine ⟨_, rfl, _, _, _, _, rfl, rfl, SqT.of hp, rfl, n, tn, 1, 5, rfl, kn, _, rfl, ?_⟩
        by_cases hw : wholeB n 1 5 = true
        · rw [hw]
          refine iteF ?_
          obtain ⟨i, rfl, h1, h5⟩ := wholeB_iff.mp hw
          refine ⟨_, rfl, _, rfl, _, _, _, _, rfl, rfl, SqT.of hp, rfl, _, _, rfl, hb, ⟨by omega, by omega⟩, _, _, rfl, rfl, _, rfl, ?_⟩
          by_cases h60 : b.toNat ^ i.toNat ≤ 60
          · rw [decide_eq_false (by omega)]
            refine iteF ⟨_, rfl, _, _, _, _, rfl, rfl, SqT.of hp, rfl, _, rfl, _, _, _, _, rfl, kx, _, rfl, ?_⟩
            by_cases hx : wholeB x (-12) 12 = true
            · rw [hx]
              refine iteT ⟨_, rfl, _, _, _, _, rfl, rfl, SqT.of hp, rfl, _, rfl, _, _, _, _, rfl, ky, ?_⟩
              exact q_eq k (by simp [foldB, h1, h5, h60, hx])
            · rw [bf hx]
              exact iteF (q_eq k (by simp [foldB, hx]))
          · rw [decide_eq_true (by omega)]
            exact iteT (q_eq k (by simp [foldB, h60]))
        · rw [bf hw]
          exact iteT (iteT (q_eq k (by rw [foldB_no hw])))
    · exact iteT' (by rw [dec_int, decide_eq_false (by omega)]; rfl) (iteT (q_eq k (by rw [foldB_len hl])))
end

end Fold
namespace Fold
open PySem PySem.Spec PyProof.Rows L2
section
variable {P : Program} {w : World} {K : PySem.W.Frag} {mg : Str → Option Value} {base : Heap} {a : Ad}
def rowB (ws : List V) : Bool := decide (1 ≤ ws.length) && decide (ws.length ≤ 6) && ws.all fun v => wholeB v (-12) 12
def weighB (H : Hp) (xs : List V) : Bool := match xs with
  | [_, .ref r] => match H r with
    | some (.tup ws) => rowB ws
    | _ => false
  | _ => false
/-- the values of a list are of known kinds, and so are those of the tuples in it -/
def KnDeep (H : Hp) (xs : List V) : Prop := KnAll H xs ∧ ∀ r ws, V.ref r ∈ xs → H r = some (.tup ws) → KnAll H ws
def sp_is_weigh : Sp := fun vs H Q _ => ∃ (p : Addr) (xs : List V), vs = [.ref p] ∧ H p = some (.tup xs) ∧ KnDeep H xs ∧ ∀ H', Same H H' → Q (.bl (weighB H xs)) H'
theorem weighB_len {H : Hp} {xs : List V} (h : ¬ xs.length = 2) : weighB H xs = false := by
  unfold weighB
  split
  · exact absurd rfl h
  · rfl
theorem ok_is_weigh (T : Txt K mg a) : C0 P w K mg base 2 "is_weigh" sp_is_weigh := by
  have c_is_whole := ok_is_whole (P := P) (w := w) (base := base) T
  refine T.d_is_weigh.c0 sc_is_weigh (fun vs H Q E h => ?_) (fun f cdv A outer s H vs Q E hr h => ?_)
  · obtain ⟨p, xs, rfl, _⟩ := h
    rfl
  · obtain ⟨p, xs, rfl, hp, ⟨hk, hd⟩, k⟩ := h
    refine ⟨_, (pss_cons (ps_if (pw_or (pt_cmpR op_ne (pe_callB call_len_seq (by rfl) T.n_len b_len (pa_cons (pv 0) pa_nil)) pe_int (nomark _)) (pw_or (pt_not (pt_val (pe_callB call_isi (by rfl) T.n_isinstance b_isinstance (pa_cons (pe_ix ix_tup (pv 0) pe_int (fun _ _ => rfl)) (pa_cons (pe_bltn (v := .ty "tuple") (by rfl) T.n_tuple b_tuple rfl) pa_nil))))) (pw_or1 (pt_not (pt_chain op_le op_le pe_int (pe_callB call_len_seq (by rfl) T.n_len b_len (pa_cons (pe_ix ix_tup (pv 0) pe_int (fun _ _ => rfl)) pa_nil)) pe_int))))).pt (pss_one (ps_ret pe_bl)) pss_nil)
      (pss_one (ps_ret (pe_callB (cr_all rfl) (by rfl) T.n_all b_all (pa_cons (pe_lc (own := [("one", 1)]) (g := gName 1) rfl sc_is_weigh.nd (pi_tup (pe_ix ix_tup (pv 0) pe_int (fun _ _ => rfl))) (blkOk_by (N := ["thing", "one"]) (sc := defScope s_is_weigh) (by decide +kernel)) (fun _ _ _ _ _ => (pg_name (i := 1) sc_is_weigh.nd rfl (Or.inl rfl))) (fun _ _ _ _ _ => pts_nil) (fun _ _ _ _ _ => (pe_0 c_is_whole hr (by decide) (pa_cons (pv 1) (pa_cons (pe_un un_neg (pe_gi (by rfl) T.g_MOST)) (pa_cons (pe_gi (by rfl) T.g_MOST) pa_nil)))))) pa_nil))))), ?_⟩
    refine ⟨_, rfl, p, xs, rfl, .inr (SqT.of hp), rfl, _, rfl, ?_⟩
    by_cases hl : xs.length = 2
    · match xs, hl with
      | [z, x], _ =>
        obtain ⟨tx, kx⟩ := hk x (by simp)
        refine iteF ⟨_, rfl, _, _, _, _, rfl, rfl, SqT.of hp, rfl, _, _, _, _, _, rfl, .ty _, kx.ty, kit_ty (isA_tuple kx), _, rfl, ?_⟩
        cases kx with
        | @tup r ws e =>
          have hwe : weighB H [z, .ref r] = rowB ws := by simp only [weighB, e]
          rw [hwe] at k
          refine iteF ⟨_, rfl, _, _, _, _, rfl, rfl, SqT.of hp, rfl, r, ws, rfl, .inr (SqT.of e), _, _, rfl, rfl, _, rfl, ?_⟩
          by_cases c1 : 1 ≤ ws.length
          · refine iteT' (decide_eq_true (by omega)) ⟨_, _, rfl, rfl, _, rfl, ?_⟩
            by_cases c2 : ws.length ≤ 6
            · refine iteF' (by rw [decide_eq_true (by omega)]; rfl) ?_
              refine ⟨_, rfl, _, _, _, _, rfl, rfl, SqT.of hp, rfl, r, rfl, ⟨ws, SqT.of e⟩, fun D hD => lc_tupM (fun v => .bl (wholeB v (-12) 12)) e hD (small6 c2) (fun _ => rfl) ?_ ?_⟩
              · intro i v hi H' Q' s' q
                obtain ⟨t, kv⟩ := hd r ws (by simp) e v (List.mem_of_getElem? hi)
                exact ⟨_, rfl, _, rfl, v, t, _, _, rfl, kv.mono s', q⟩
              · refine ⟨D, ws.map (fun v => wholeB v (-12) 12), rfl, SqL.of (by rw [upd_same, List.map_map]; rfl), ?_⟩
                refine q_eq (k _ (same_new hD)) ?_
                simp only [rowB, decide_eq_true c1, decide_eq_true c2, Bool.true_and, List.all_map]
                rfl
            · refine iteT' (by rw [decide_eq_false (by omega)]; rfl) (q_eq (k _ (Same.refl _)) ?_)
              simp only [rowB, decide_eq_false c2, Bool.and_false, Bool.false_and]
          · refine iteF' (decide_eq_false (by omega)) ⟨_, rfl, iteT (q_eq (k _ (Same.refl _)) ?_)⟩
            simp only [rowB, decide_eq_false c1, Bool.false_and]
        | lst e => exact iteT (q_eq (k _ (Same.refl _)) (by simp only [weighB, e]))
        | _ => exact iteT (q_eq (k _ (Same.refl _)) rfl)
    · exact iteT' (by rw [dec_int, decide_eq_false (by omega)]; rfl) (iteT (q_eq (k _ (Same.refl _)) (by rw [weighB_len hl])))
end

end Fold
namespace Fold
open PySem PySem.Spec PyProof.Rows L2
section
variable {P : Program} {w : World} {K : PySem.W.Frag} {mg : Str → Option Value} {base : Heap} {a : Ad}
def stepB (b : Int) (H : Hp) (v : V) : Bool := match v with
  | .ref p => match H p with
    | some (.tup (.str z :: r)) => if z = "weigh" then weighB H (.str z :: r) else decide (z = "fold") && foldB b (.str z :: r)
    | _ => false
  | _ => false
/-- a thing of known kind, and what is in it too -/
def KnT (H : Hp) (v : V) : Prop := (∃ t, Kn H v t) ∧ ∀ p xs, v = .ref p → H p = some (.tup xs) → KnDeep H xs
def sp_is_step : Sp := fun vs H Q _ => ∃ (b : Int) (v : V), vs = [.int b, v] ∧ (0 ≤ b ∧ b < 1000) ∧ KnT H v ∧ ∀ H', Same H H' → Q (.bl (stepB b H v)) H'
theorem ok_is_step (T : Txt K mg a) : C0 P w K mg base 3 "is_step" sp_is_step := by
  have c_is_weigh := ok_is_weigh (P := P) (w := w) (base := base) T; have c_is_fold := ok_is_fold (P := P) (w := w) (base := base) T
  refine T.d_is_step.c0 sc_is_step (fun vs H Q E h => ?_) (fun f cdv A outer s H vs Q E hr h => ?_)
  · obtain ⟨b, v, rfl, _⟩ := h
    rfl
  · obtain ⟨b, v, rfl, hb, ⟨⟨t, kv⟩, hd⟩, k⟩ := h
    refine ⟨_, (pss_cons (ps_if (pw_or (pt_not (pt_val (pe_callB call_isi (by rfl) T.n_isinstance b_isinstance (pa_cons (pv 1) (pa_cons (pe_bltn (v := .ty "tuple") (by rfl) T.n_tuple b_tuple rfl) pa_nil))))) (pw_or (pt_not (pt_truth (pv 1) (fun _ => rfl))) (pw_or1 (pt_not (pt_val (pe_callB call_isi (by rfl) T.n_isinstance b_isinstance (pa_cons (pe_ix ix_tup (pv 1) pe_int (fun _ _ => rfl)) (pa_cons (pe_bltn (v := .ty "str") (by rfl) T.n_str b_str rfl) pa_nil)))))))).pt (pss_one (ps_ret pe_bl)) pss_nil)
      (pss_one (ps_ret (pe_ifExp (pt_cmpR op_eq (pe_ix ix_tup (pv 1) pe_int (fun _ _ => rfl)) pe_str (nomark _)) (pe_0 c_is_weigh hr (by decide) (pa_cons (pv 1) pa_nil)) (pe_and (pe_cmpR op_eq (pe_ix ix_tup (pv 1) pe_int (fun _ _ => rfl)) pe_str (nomark _)) (pe_one (pe_0 c_is_fold hr (by decide) (pa_cons (pv 0) (pa_cons (pv 1) pa_nil))))))))), ?_⟩
    refine ⟨_, rfl, _, _, _, _, _, rfl, .ty _, kv.ty, kit_ty (isA_tuple kv), _, rfl, ?_⟩
    cases kv with
    | @tup p xs e =>
      have hd := hd p xs rfl e
      match xs with
      | [] => exact iteF ⟨_, rfl, _, .inr (.inl ⟨[], SqT.of e, rfl⟩), iteT (q_eq (k _ (Same.refl _)) (by simp only [stepB, e]))⟩
      | z :: r =>
        obtain ⟨tz, kz⟩ := hd.1 z (by simp)
        refine iteF ⟨_, rfl, _, .inr (.inl ⟨_, SqT.of e, rfl⟩), iteF ⟨_, rfl, _, _, _, _, rfl, rfl, SqT.of e, at_of (j := 0) rfl rfl, _, _, _, _, _, rfl, .ty _, kz.ty, kit_ty (isA_str kz), _, rfl, ?_⟩⟩
        cases kz with
        | str z =>
          refine iteF ⟨_, rfl, _, _, _, _, rfl, rfl, SqT.of e, at_of (j := 0) rfl rfl, rfl, _, rfl, ?_⟩
          by_cases c : z = "weigh"
          · refine iteT' (by rw [dec_str]; exact decide_eq_true c) ⟨_, rfl, p, _, rfl, e, hd, fun H' s' => q_eq (k _ s') ?_⟩
            simp only [stepB, e, if_pos c]
          · refine iteF' (by rw [dec_str]; exact decide_eq_false c) ⟨_, rfl, _, _, _, _, rfl, rfl, SqT.of e, at_of (j := 0) rfl rfl, rfl, _, rfl, ?_⟩
            by_cases c2 : z = "fold"
            · refine iteT' (by rw [dec_str]; exact decide_eq_true c2) ⟨_, rfl, _, rfl, b, p, _, rfl, hb, e, hd.1, q_eq (k _ (Same.refl _)) ?_⟩
              simp only [stepB, e, if_neg c, decide_eq_true c2, Bool.true_and]
            · refine iteF' (by rw [dec_str]; exact decide_eq_false c2) (q_eq (k _ (Same.refl _)) ?_)
              simp only [stepB, e, if_neg c, decide_eq_false c2, Bool.false_and]
        | _ => exact iteT (q_eq (k _ (Same.refl _)) (by simp only [stepB, e]))
    | lst e => exact iteT (q_eq (k _ (Same.refl _)) (by simp only [stepB, e]))
    | _ => exact iteT (q_eq (k _ (Same.refl _)) rfl)
def intOf : V → Int
  | .int i => i
  | _ => 0
def okB (H : Hp) (v u : V) : Bool := wholeB v 2 12 && stepB (intOf v) H u
def sp_check_step (a : Ad) : Sp := fun vs H Q E => ∃ (v u : V), vs = [v, u] ∧ (∃ t, Kn H v t) ∧ KnT H u ∧ (okB H v u = true → ∀ H', Same H H' → Q .non H') ∧ (okB H v u = false → ∀ H', Same H H' → E (.ref a.BadStep) none H')
theorem ok_check_step (T : Txt K mg a) : C1 P w K mg base 4 "check_step" (sp_check_step a) := by
  have c_is_whole := ok_is_whole (P := P) (w := w) (base := base) T; have c_is_step := ok_is_step (P := P) (w := w) (base := base) T
  refine T.d_check_step.c1 sc_check_step (fun vs H Q E h => ?_) (fun f cdv A outer s H vs Q E hr h => ?_)
  · obtain ⟨v, u, rfl, _⟩ := h
    rfl
  · obtain ⟨v, u, rfl, ⟨t, kv⟩, ku, kY, kN⟩ := h
    have tk := takes_of (X := cxOf (L2.CX P w) P w K mg base ["base", "step"] "check_step" (defScope s_check_step) f cdv A outer s H E) rfl rfl rfl rfl
    refine ⟨_, (pss_one (ps_if (pw_or (pt_not (pt_val (pe_0 c_is_whole hr (by decide) (pa_cons (pv 0) (pa_cons pe_int (pa_cons (pe_gi (by rfl) T.g_MOST) pa_nil)))))) (pw_or1 (pt_not (pt_val (pe_0 c_is_step hr (by decide) (pa_cons (pv 0) (pa_cons (pv 1) pa_nil))))))).pt (pss_one (ps_raise rfl tk T.x_BadStep.pmk)) pss_nil)), ?_⟩
    refine ⟨_, rfl, v, t, _, _, rfl, kv, _, rfl, ?_⟩
    by_cases c : wholeB v 2 12 = true
    · obtain ⟨i, rfl, h1, h2⟩ := wholeB_iff.mp c
      refine iteF' (by rw [c]; rfl) ⟨_, rfl, _, rfl, i, u, rfl, ⟨by omega, by omega⟩, ku, fun H' s' => ⟨_, rfl, ?_⟩⟩
      by_cases c2 : stepB i H u = true
      · exact iteF' (by rw [c2]; rfl) (kY (by simp only [okB, c, intOf, c2, Bool.and_self]) _ s')
      · exact iteT' (by rw [bf c2]; rfl) (kN (by simp only [okB, c, intOf, bf c2, Bool.and_false]) _ s')
    · exact iteT' (by rw [bf c]; rfl) (iteT (kN (by simp only [okB, bf c, Bool.false_and]) _ (Same.refl _)))
end

end Fold
namespace Fold
open PySem PySem.Spec PyProof.Rows L2
/-! ### steps, in plain Lean -/
inductive Stp where
  | fold (k : Nat) (x y : Int)
  | weigh (row : List Int)
def wsum (b : Nat) (row : List Int) (n i : Nat) : Int :=
  if h : 2 ≤ b ∧ 0 < n then row.getD (i % row.length) 0 * ((n % b : Nat) : Int) + wsum b row (n / b) (i + 1) else 0
termination_by n
decreasing_by exact Nat.div_lt_self h.2 h.1
theorem wsum_zero (b : Nat) (row : List Int) (i : Nat) : wsum b row 0 i = 0 := by
  unfold wsum
  rw [dif_neg (by omega)]
theorem wsum_pos {b n : Nat} (row : List Int) (i : Nat) (hb : 2 ≤ b) (hn : 0 < n) : wsum b row n i = row.getD (i % row.length) 0 * ((n % b : Nat) : Int) + wsum b row (n / b) (i + 1) := by
  rw [wsum, dif_pos ⟨hb, hn⟩]
/-- what a step makes of a number -/
def mk (b : Nat) : Stp → Nat → Nat
  | .fold k x y, n => (x * ((n / b ^ k : Nat) : Int) + y * ((n % b ^ k : Nat) : Int)).natAbs
  | .weigh row, n => (wsum b row n 0).natAbs
/-- a step for a base -/
def OkS (b : Nat) : Stp → Prop
  | .fold k x y => 1 ≤ k ∧ k ≤ 5 ∧ b ^ k ≤ 60 ∧ (-12 ≤ x ∧ x ≤ 12) ∧ (-12 ≤ y ∧ y ≤ 12)
  | .weigh row => 1 ≤ row.length ∧ row.length ≤ 6 ∧ ∀ v ∈ row, -12 ≤ v ∧ v ≤ 12
/-- the step s stands at p -/
def StepAt (H : Hp) (p : Addr) : Stp → Prop
  | .fold k x y => H p = some (.tup [.str "fold", .int k, .int x, .int y])
  | .weigh row => ∃ r, H p = some (.tup [.str "weigh", .ref r]) ∧ H r = some (.tup (row.map V.int))
theorem StepAt.mono {H H' : Hp} {p : Addr} {s : Stp} (e : Same H H') (h : StepAt H p s) : StepAt H' p s := by
  cases s with
  | fold k x y => exact e _ _ h
  | weigh row =>
    obtain ⟨r, h1, h2⟩ := h
    exact ⟨r, e _ _ h1, e _ _ h2⟩
theorem fw : ¬ (("fold" : Str) = "weigh") := by decide +kernel
theorem KnAll.ints (H : Hp) (l : List Int) : KnAll H (l.map V.int) := fun x m => by
  obtain ⟨i, _, rfl⟩ := List.mem_map.mp m
  exact ⟨_, .int i⟩
theorem StepAt.known {H : Hp} {p : Addr} {s : Stp} (h : StepAt H p s) : KnT H (.ref p) := by
  cases s with
  | fold k x y =>
    have h : H p = _ := h
    refine ⟨⟨_, .tup h⟩, fun q xs e1 e2 => ?_⟩
    cases e1
    rw [h] at e2
    cases e2
    refine ⟨fun x m => ?_, fun r ws m => ?_⟩
    · simp only [List.mem_cons, List.not_mem_nil, or_false] at m
      rcases m with rfl | rfl | rfl | rfl
      · exact ⟨_, .str _⟩
      · exact ⟨_, .int _⟩
      · exact ⟨_, .int _⟩
      · exact ⟨_, .int _⟩
    · simp at m
  | weigh row =>
    obtain ⟨r, h1, h2⟩ := h
    refine ⟨⟨_, .tup h1⟩, fun q xs e1 e2 => ?_⟩
    cases e1
    rw [h1] at e2
    cases e2
    refine ⟨fun x m => ?_, fun r' ws m e => ?_⟩
    · simp only [List.mem_cons, List.not_mem_nil, or_false] at m
      rcases m with rfl | rfl
      · exact ⟨_, .str _⟩
      · exact ⟨_, .tup h2⟩
    · simp only [List.mem_cons, List.not_mem_nil, or_false, reduceCtorEq, false_or, V.ref.injEq] at m
      subst m
      rw [h2] at e
      cases e
      exact KnAll.ints _ _
theorem StepAt.ok {H : Hp} {p : Addr} {s : Stp} {b : Nat} (h : StepAt H p s) (hb : 2 ≤ b ∧ b ≤ 12) (o : OkS b s) : okB H (.int b) (.ref p) = true := by
  have h1 : wholeB (.int b) 2 12 = true := wholeB_iff.mpr ⟨b, rfl, by omega, by omega⟩
  cases s with
  | fold k x y =>
    have h : H p = _ := h
    obtain ⟨o1, o2, o3, o4, o5⟩ := o
    have hx : wholeB (.int x) (-12) 12 = true := wholeB_iff.mpr ⟨x, rfl, o4⟩
    have hy : wholeB (.int y) (-12) 12 = true := wholeB_iff.mpr ⟨y, rfl, o5⟩
    have hk1 : (1 : Int) ≤ (k : Int) := by omega
    have hk5 : (k : Int) ≤ (5 : Int) := by omega
    simp only [okB, h1, stepB, h, intOf, if_neg fw, foldB, hx, hy, decide_true, Bool.true_and, Bool.and_true, Int.toNat_natCast, decide_eq_true hk1, decide_eq_true hk5]
    exact decide_eq_true o3
  | weigh row =>
    obtain ⟨r, e1, e2⟩ := h
    obtain ⟨o1, o2, o3⟩ := o
    have ha : (row.map V.int).all (fun v => wholeB v (-12) 12) = true := by
      rw [List.all_eq_true]
      intro v m
      obtain ⟨i, hi, rfl⟩ := List.mem_map.mp m
      exact wholeB_iff.mpr ⟨i, rfl, o3 i hi⟩
    simp only [okB, h1, stepB, e1, intOf, if_true, weighB, e2, rowB, ha, List.length_map, decide_eq_true o1, decide_eq_true o2, Bool.true_and]
theorem StepAt.okI {H : Hp} {p : Addr} {s : Stp} {b : Int} (h : StepAt H p s) (hb : 2 ≤ b ∧ b ≤ 12) (o : OkS b.toNat s) : okB H (.int b) (.ref p) = true := by
  obtain ⟨b, rfl⟩ := Int.eq_ofNat_of_zero_le (show 0 ≤ b by omega)
  exact h.ok (by omega) o

end Fold
namespace Fold
open PySem PySem.Spec PyProof.Rows L2
theorem abs_nat (i : Int) : (if i < 0 then -i else i) = (i.natAbs : Int) := by split <;> omega
theorem wdiv {i j : Int} (h : 0 < j) (h2 : j < 18446744073709551616) : CDivW i j := wide_div (b := 64) h (by omega) (by decide) (by decide)
theorem cutV_take {xs : List V} {k : Nat} : cutV xs none (some (k : Int)) = xs.take k := by
  unfold cutV
  rw [HT.sIx_none, HT.sIx_nat, Nat.sub_zero, List.drop_zero]
  rcases Nat.le_total k xs.length with h | h
  · rw [Nat.min_eq_left h]
  · rw [Nat.min_eq_right h, List.take_length, List.take_of_length_le h]
theorem cutV_drop {xs : List V} {k : Nat} : cutV xs (some (k : Int)) none = xs.drop k := by
  unfold cutV
  rw [HT.sIx_none, HT.sIx_nat]
  rcases Nat.le_total k xs.length with h | h
  · rw [Nat.min_eq_left h, List.take_of_length_le (by rw [List.length_drop]; omega)]
  · rw [Nat.min_eq_right h, List.drop_length, Nat.sub_self, List.drop_of_length_le h]; rfl
/-! ### lists of ints as data -/
def iD (ns : List Int) : PyData := .list (ns.map PyData.int)
theorem iDs_lay : ∀ ns : List Int, PyData.canLayAll0 (ns.map PyData.int) = true
  | [] => by simp [PyData.canLayAll0]
  | z :: zs => by simp [PyData.canLayAll0, PyData.canLay0, iDs_lay zs]
theorem iDs_depth : ∀ ns : List Int, PyData.depthAll (ns.map PyData.int) ≤ 1
  | [] => by simp [PyData.depthAll]
  | z :: zs => by
    have h1 := iDs_depth zs
    simp only [List.map_cons, PyData.depthAll, PyData.depth]
    omega
theorem iD_shaped (ns : List Int) : SeqAt.shaped (iD ns) = true := by
  have h1 := iDs_depth ns
  have h2 : PyData.depth (iD ns) ≤ 64 := by
    simp only [iD, PyData.depth]
    omega
  show (PyData.canLay0 (iD ns) && decide (PyData.depth (iD ns) ≤ 64)) = true
  rw [Bool.and_eq_true]
  exact ⟨by simp only [iD, PyData.canLay0]; exact iDs_lay ns, decide_eq_true h2⟩
theorem iD_eqv (ns ms : List Int) : PyData.eqv (iD ns) (iD ms) = decide (ns = ms) := by
  simp only [iD, PyData.eqv]
  induction ns generalizing ms with
  | nil => cases ms <;> simp [PyData.eqvAll]
  | cons n ns ih =>
    cases ms with
    | nil => simp [PyData.eqvAll]
    | cons m ms =>
      simp only [List.map_cons, PyData.eqvAll, PyData.eqv, ih]
      rw [Bool.eq_iff_iff]
      simp
theorem iD_all {K : PySem.W.Frag} {H : Hp} : ∀ ns : List Int, DpAll K H (ns.map V.int) (ns.map PyData.int)
  | [] => .nil
  | n :: ns => .cons (.int n) (iD_all ns)
theorem iD_dp {K : PySem.W.Frag} {H : Hp} {l : Addr} {ns : List Int} (h : SqL K H l (ns.map V.int)) : Dp K H (.ref l) (iD ns) := .lst h (iD_all ns)
theorem ix_listK {X : Cx} {K : PySem.W.Frag} (h : X.K = K) : IxR X (rIxL K) := h ▸ ix_list
theorem op_in_seqK {X : Cx} {K : PySem.W.Frag} (h : X.K = K) : OpR X (compareOp .In) (rIn K false) := h ▸ op_in_seq
theorem op_notIn_seqK {X : Cx} {K : PySem.W.Frag} (h : X.K = K) : OpR X (compareOp .NotIn) (rIn K true) := h ▸ op_notIn_seq
theorem ix_tupK {X : Cx} {K : PySem.W.Frag} (h : X.K = K) : IxR X (rIxT K) := h ▸ ix_tup
theorem ix_seqK {X : Cx} {K : PySem.W.Frag} (h : X.K = K) : IxR X (rIx K) := h ▸ ix_seq
theorem CMulS {i j : Int} (h : -12 ≤ i ∧ i ≤ 12) : CMul i j := .inl ⟨by omega, by omega⟩
theorem rowAt {row : List Int} {i : Nat} (h : i < row.length) : (row.map V.int)[i]? = some (.int (row.getD i 0)) := by
  rw [List.getElem?_map, List.getElem?_eq_getElem h, List.getD_eq_getElem?_getD, List.getElem?_eq_getElem h]; rfl
theorem rowIn {row : List Int} {i : Nat} (h : i < row.length) : row.getD i 0 ∈ row := by
  rw [List.getD_eq_getElem?_getD, List.getElem?_eq_getElem h]; exact List.getElem_mem h
theorem putF_len (f : Str) (v : V) : ∀ fs : List (Str × V), (putF f v fs).length ≤ fs.length + 1
  | [] => Nat.le_refl _
  | (g, u) :: r => by
    unfold putF
    split
    · exact Nat.le_succ _
    · rw [List.length_cons, List.length_cons]
      have := putF_len f v r
      omega

end Fold
namespace Fold
open PySem PySem.Spec PyProof.Rows L2
section
variable {P : Program} {w : World} {K : PySem.W.Frag} {mg : Str → Option Value} {base : Heap} {a : Ad}
def sp_weighed : Sp := fun vs H Q _ => ∃ (b : Int) (r : Addr) (n : Int) (row : List Int), vs = [.int b, .ref r, .int n] ∧ (2 ≤ b ∧ b ≤ 12) ∧ H r = some (.tup (row.map V.int)) ∧ 0 < row.length ∧ 0 ≤ n ∧ Q (.int (wsum b.toNat row n.toNat 0)) H
theorem ok_weighed (T : Txt K mg a) : C0 P w K mg base 1 "weighed" sp_weighed := by
  skip
  refine T.d_weighed.c0 sc_weighed (fun vs H Q E h => ?_) (fun f cdv A outer s H vs Q E hr h => ?_)
  · obtain ⟨b, r, n, row, rfl, _⟩ := h
    rfl
  · obtain ⟨b, r, n, row, rfl, hb, hr0, hl, hn, k⟩ := h
    obtain ⟨b, rfl⟩ := Int.eq_ofNat_of_zero_le (show 0 ≤ b by omega)
    obtain ⟨n, rfl⟩ := Int.eq_ofNat_of_zero_le hn
    refine ⟨_, (pss_cons (ps_set (i := 3) sc_weighed.nd rfl (Or.inl rfl) pe_int)
      (pss_cons (ps_set (i := 4) sc_weighed.nd rfl (Or.inl rfl) pe_int)
      (pss_cons (ps_while PassesOwn.never (pt_truth (pv 2) (fun _ => rfl)) (pss_cons (ps_aug (i := 3) sc_weighed.nd rfl (Or.inl rfl) (pe_op op_mul (pe_ix ix_tup (pv 1) (pe_op op_mod (pv 4) (pe_callB call_len_seq (by rfl) T.n_len b_len (pa_cons (pv 1) pa_nil))) (fun _ _ => rfl)) (pe_op op_mod (pv 2) (pv 0))) ip_add)
      (pss_cons (ps_set (i := 2) sc_weighed.nd rfl (Or.inl rfl) (pe_op op_fdivW (pv 2) (pv 0)))
      (pss_one (ps_aug (i := 4) sc_weighed.nd rfl (Or.inl rfl) pe_int ip_add)))))
      (pss_one (ps_ret (pv 3)))))), ?_⟩
    refine g_setC (g_setC (g_seq ?_))
    refine while_by (fun σ H' => H' = H ∧ ∃ (m i : Nat) (t : Int), σ = [some (.int b), some (.ref r), some (.int m), some (.int t), some (.int i)] ∧ t + wsum b row m i = wsum b row n 0)
      (fun σ _ => sN σ 2) ⟨rfl, n, 0, 0, rfl, by omega⟩ ?_ ?_
    · rintro σ H' ⟨rfl, m, i, t, rfl, ht⟩
      refine ⟨_, rfl, _, rfl, ?_⟩
      by_cases hm : m = 0
      · subst hm
        refine iteF' rfl ⟨_, rfl, ?_⟩
        rw [wsum_zero] at ht
        exact q_eq k (by rw [← Int.add_zero t, ht]; rfl)
      · have hm0 : 0 < m := by omega
        refine iteT' (by simpa using hm) ?_
        have hi : i % row.length < row.length := Nat.mod_lt _ hl
        have hx : (row.map V.int)[i % row.length]? = some (.int (row.getD (i % row.length) 0)) := by
          rw [List.getElem?_map, List.getElem?_eq_getElem hi, List.getD_eq_getElem?_getD, List.getElem?_eq_getElem hi]; rfl
        have hd : 0 ≤ (m : Int) % (b : Int) := Int.emod_nonneg _ (by omega)
        have hd2 : (m : Int) % (b : Int) < b := Int.emod_lt_of_pos _ (by omega)
        refine ⟨_, rfl, _, rfl, _, rfl, _, rfl, r, _, rfl, .inr (SqT.of hr0), _, _, rfl, rfl, by rw [List.length_map]; omega, r, _, _, _, rfl, rfl, SqT.of hr0, at_of (j := i % row.length) (by rw [List.length_map]; rfl) hx,
          _, rfl, _, rfl, _, _, rfl, rfl, (show (0 : Int) < b by omega), _, _, rfl, rfl, .inr ⟨by omega, by omega⟩, _, _, rfl, rfl, ?_⟩
        refine ⟨_, rfl, _, rfl, _, _, rfl, rfl, wdiv (by omega) (by omega), _, rfl, _, _, rfl, rfl, ⟨rfl, m / b, i + 1, t + row.getD (i % row.length) 0 * ((m % b : Nat) : Int), rfl, ?_⟩, ?_⟩
        · rw [wsum_pos row i (by omega) hm0] at ht
          omega
        · show ((m / b : Nat) : Int).toNat < (m : Int).toNat
          have := Nat.div_lt_self hm0 (show 1 < b by omega)
          omega
    · rintro σ H' Q1 Q2 hq ⟨v, e, c, t, q⟩
      exact ⟨v, e, c, t, hq _ _ q⟩
def sp_after : Sp := fun vs H Q _ => ∃ (b : Int) (p : Addr) (n : Int) (s : Stp), vs = [.int b, .ref p, .int n] ∧ (2 ≤ b ∧ b ≤ 12) ∧ StepAt H p s ∧ OkS b.toNat s ∧ 0 ≤ n ∧ Q (.int (mk b.toNat s n.toNat : Nat)) H
theorem ok_after (T : Txt K mg a) : C0 P w K mg base 2 "after" sp_after := by
  have c_power_of := ok_power_of (P := P) (w := w) (base := base) T; have c_weighed := ok_weighed (P := P) (w := w) (base := base) T
  refine T.d_after.c0 sc_after (fun vs H Q E h => ?_) (fun f cdv A outer s H vs Q E hr h => ?_)
  · obtain ⟨b, r, n, s, rfl, _⟩ := h
    rfl
  · obtain ⟨b, p, n, s, rfl, hb, hs, ho, hn, k⟩ := h
    obtain ⟨b, rfl⟩ := Int.eq_ofNat_of_zero_le (show 0 ≤ b by omega)
    obtain ⟨n, rfl⟩ := Int.eq_ofNat_of_zero_le hn
    refine ⟨_, (pss_cons (ps_if (pt_cmpR op_eq (pe_ix ix_tup (pv 1) pe_int (fun _ _ => rfl)) pe_str (nomark _)) (pss_one (ps_ret (pe_callB call_abs (by rfl) T.n_abs b_abs (pa_cons (pe_0 c_weighed hr (by decide) (pa_cons (pv 0) (pa_cons (pe_ix ix_tup (pv 1) pe_int (fun _ _ => rfl)) (pa_cons (pv 2) pa_nil)))) pa_nil)))) pss_nil)
      (pss_cons (ps_set (i := 3) sc_after.nd rfl (Or.inl rfl) (pe_0 c_power_of hr (by decide) (pa_cons (pv 0) (pa_cons (pe_ix ix_tup (pv 1) pe_int (fun _ _ => rfl)) pa_nil))))
      (pss_one (ps_ret (pe_callB call_abs (by rfl) T.n_abs b_abs (pa_cons (pe_op op_add (pe_op op_mul (pe_ix ix_tup (pv 1) pe_int (fun _ _ => rfl)) (pe_op op_fdivW (pv 2) (pv 3))) (pe_op op_mul (pe_ix ix_tup (pv 1) pe_int (fun _ _ => rfl)) (pe_op op_mod (pv 2) (pv 3)))) pa_nil)))))), ?_⟩
    cases s with
    | weigh row =>
      obtain ⟨r, h1, h2⟩ := hs
      refine ⟨_, rfl, _, _, _, _, rfl, rfl, SqT.of h1, rfl, rfl, _, rfl, iteT' (by decide +kernel) ⟨_, rfl, _, rfl, _, _, _, _, rfl, rfl, SqT.of h1, rfl, _, rfl, _, r, _, row, rfl, hb, h2, ho.1, hn, _, rfl, ?_⟩⟩
      exact q_eq k (by rw [abs_nat]; rfl)
    | fold kk x y =>
      have hs : H p = _ := hs
      obtain ⟨o1, o2, o3, o4, o5⟩ := ho
      have hP : 0 < b ^ kk := Nat.pow_pos (by omega)
      have o3 : b ^ kk ≤ 60 := o3
      have hd : 0 ≤ (n : Int) % ((b ^ kk : Nat) : Int) := Int.emod_nonneg _ (by omega)
      have hd2 : (n : Int) % ((b ^ kk : Nat) : Int) < ((b ^ kk : Nat) : Int) := Int.emod_lt_of_pos _ (by omega)
      refine ⟨_, rfl, _, _, _, _, rfl, rfl, SqT.of hs, rfl, rfl, _, rfl, iteF' (by decide +kernel) ⟨_, rfl, _, rfl, _, _, _, _, rfl, rfl, SqT.of hs, rfl, _, _, rfl, ⟨by omega, by omega⟩, ⟨by omega, by omega⟩, ?_⟩⟩
      refine ⟨_, rfl, _, _, _, _, rfl, rfl, SqT.of hs, rfl, _, rfl, _, rfl, _, _, rfl, rfl, wdiv (show (0 : Int) < ((b ^ kk : Nat) : Int) by omega) (show ((b ^ kk : Nat) : Int) < _ by omega), _, _, rfl, rfl, .inl ⟨by omega, by omega⟩,
        _, rfl, _, _, _, _, rfl, rfl, SqT.of hs, rfl, _, rfl, _, rfl, _, _, rfl, rfl, (show (0 : Int) < ((b ^ kk : Nat) : Int) by omega), _, _, rfl, rfl, .inl ⟨by omega, by omega⟩, _, _, rfl, rfl, _, rfl, ?_⟩
      exact q_eq k (by rw [abs_nat]; rfl)
end

end Fold
namespace Fold
open PySem PySem.Spec PyProof.Rows L2
/-! ### rounds: numbers from which on a step makes less -/
section
variable {P : Program} {w : World} {K : PySem.W.Frag} {mg : Str → Option Value} {base : Heap} {a : Ad}
def optV : Option Nat → V
  | none => .non
  | some n => .int (n : Int)
def freach (b k : Nat) (x y : Int) : Option Nat := if b ^ k ≤ x.natAbs then none else some ((y.natAbs * (b ^ k - 1) / (b ^ k - x.natAbs) + 1) * b ^ k)
def sp_fold_reach : Sp := fun vs H Q _ => ∃ (b : Nat) (p : Addr) (k : Nat) (x y : Int), vs = [.int b, .ref p] ∧ (2 ≤ b ∧ b ≤ 12) ∧ H p = some (.tup [.str "fold", .int k, .int x, .int y]) ∧ OkS b (.fold k x y) ∧ Q (optV (freach b k x y)) H
theorem ok_fold_reach (T : Txt K mg a) : C0 P w K mg base 2 "fold_reach" sp_fold_reach := by
  have c_power_of := ok_power_of (P := P) (w := w) (base := base) T
  refine T.d_fold_reach.c0 sc_fold_reach (fun vs H Q E h => ?_) (fun f cdv A outer s H vs Q E hr h => ?_)
  · obtain ⟨b, p, k, x, y, rfl, _⟩ := h
    rfl
  · obtain ⟨b, p, k, x, y, rfl, hb, h1, ⟨o1, o2, o3, o4, o5⟩, kk⟩ := h
    refine ⟨_, (pss_cons (ps_set (i := 2) sc_fold_reach.nd rfl (Or.inl rfl) (pe_0 c_power_of hr (by decide) (pa_cons (pv 0) (pa_cons (pe_ix ix_tup (pv 1) pe_int (fun _ _ => rfl)) pa_nil))))
      (pss_cons (ps_if (pt_cmpR op_ge (pe_callB call_abs (by rfl) T.n_abs b_abs (pa_cons (pe_ix ix_tup (pv 1) pe_int (fun _ _ => rfl)) pa_nil)) (pv 2) (nomark _)) (pss_one (ps_ret pe_non)) pss_nil)
      (pss_one (ps_ret (pe_op op_mul (pe_op op_add (pe_op op_fdivW (pe_op op_mul (pe_callB call_abs (by rfl) T.n_abs b_abs (pa_cons (pe_ix ix_tup (pv 1) pe_int (fun _ _ => rfl)) pa_nil)) (pe_op op_sub (pv 2) pe_int)) (pe_op op_sub (pv 2) (pe_callB call_abs (by rfl) T.n_abs b_abs (pa_cons (pe_ix ix_tup (pv 1) pe_int (fun _ _ => rfl)) pa_nil)))) pe_int) (pv 2)))))), ?_⟩
    have hP : 0 < b ^ k := Nat.pow_pos (by omega)
    have hPi : (0 : Int) < ((b ^ k : Nat) : Int) := by omega
    refine ⟨_, rfl, _, rfl, _, _, _, _, rfl, rfl, SqT.of h1, rfl, _, _, rfl, ⟨by omega, by omega⟩, ⟨by omega, by omega⟩, ?_⟩
    refine ⟨_, rfl, _, _, _, _, rfl, rfl, SqT.of h1, rfl, _, rfl, _, rfl, _, _, rfl, rfl, _, rfl, ?_⟩
    rw [abs_nat]
    by_cases c : b ^ k ≤ x.natAbs
    · refine iteT' (decide_eq_true (by simp only [Int.toNat_natCast]; omega)) (q_eq kk ?_)
      rw [freach, if_pos c]; rfl
    · refine iteF' (decide_eq_false (by simp only [Int.toNat_natCast]; omega)) (g_next ?_)
      refine ⟨_, rfl, _, _, _, _, rfl, rfl, SqT.of h1, rfl, _, rfl, _, rfl, _, _, rfl, rfl, _, _, rfl, rfl, .inr ⟨by simp only [Int.toNat_natCast]; omega, by simp only [Int.toNat_natCast]; omega⟩, _, rfl, _, rfl, _, _, _, _, rfl, rfl, SqT.of h1, rfl, _, rfl, _, _, rfl, rfl, _, _, rfl, rfl, ?_, _, _, rfl, rfl, _, rfl, _, _, rfl, rfl, .inr ⟨by simp only [Int.toNat_natCast]; omega, by simp only [Int.toNat_natCast]; omega⟩, ?_⟩
      · simp only [Int.toNat_natCast, abs_nat]
        exact wdiv (by omega) (by omega)
      · refine q_eq kk ?_
        rw [freach, if_neg c]
        simp only [Int.toNat_natCast, abs_nat, optV]
        congr 1
        have e1 : ((b ^ k : Nat) : Int) - 1 = ((b ^ k - 1 : Nat) : Int) := by omega
        have e2 : ((b ^ k : Nat) : Int) - (x.natAbs : Int) = ((b ^ k - x.natAbs : Nat) : Int) := by omega
        rw [e1, e2]
        simp only [Int.natCast_add, Int.natCast_mul, Int.natCast_ediv, Int.natCast_one]
end

end Fold
namespace Fold
open PySem PySem.Spec PyProof.Rows L2
theorem nodup_bound : ∀ (N : Nat) (l : List Nat), l.Nodup → (∀ x ∈ l, x < N) → l.length ≤ N
  | 0, l, _, h => by
    cases l with
    | nil => exact Nat.le_refl _
    | cons x r => exact absurd (h x (by simp)) (Nat.not_lt_zero _)
  | N + 1, l, d, h => by
    have d' := d.erase N
    have h' : ∀ x ∈ l.erase N, x < N := fun x m => by
      obtain ⟨h1, h2⟩ := d.mem_erase_iff.mp m
      have := h x h2
      omega
    have ih := nodup_bound N (l.erase N) d' h'
    by_cases m : N ∈ l
    · rw [List.length_erase_of_mem m] at ih
      omega
    · rw [List.erase_of_not_mem m] at ih
      omega

end Fold
namespace Fold
open PySem PySem.Spec PyProof.Rows L2
/-! ### rings of a step, in plain Lean -/
def it (f : Nat → Nat) : Nat → Nat → Nat
  | 0, a => a
  | n + 1, a => it f n (f a)
section
variable {f : Nat → Nat}
theorem it_add (f : Nat → Nat) : ∀ m n a, it f (m + n) a = it f n (it f m a)
  | 0, n, a => by rw [Nat.zero_add]; rfl
  | m + 1, n, a => by rw [show m + 1 + n = m + n + 1 by omega]; exact it_add f m n (f a)
theorem it_one (f : Nat → Nat) (n a : Nat) : it f (n + 1) a = f (it f n a) := it_add f n 1 a
/-- a cycle at a, of p numbers -/
structure Cyc (f : Nat → Nat) (a p : Nat) : Prop where
  pos : 0 < p
  back : it f p a = a
  first : ∀ i, 0 < i → i < p → it f i a ≠ a
theorem Cyc.many {a p : Nat} (c : Cyc f a p) : ∀ n, it f (n * p) a = a
  | 0 => by rw [Nat.zero_mul]; rfl
  | n + 1 => by rw [show (n + 1) * p = n * p + p by grind, it_add, c.many n, c.back]
theorem Cyc.mod {a p : Nat} (c : Cyc f a p) (n : Nat) : it f n a = it f (n % p) a := by
  have h : n = n / p * p + n % p := by have := Nat.div_add_mod n p; grind
  rw [h, it_add, c.many, ← h]
theorem Cyc.home {a p : Nat} (c : Cyc f a p) (i : Nat) : ∃ m, it f m (it f i a) = a := by
  refine ⟨i * p - i, ?_⟩
  have h : i ≤ i * p := Nat.le_mul_of_pos_right _ c.pos
  rw [← it_add, show i + (i * p - i) = i * p by omega, c.many]
theorem Cyc.shift {a p : Nat} (c : Cyc f a p) (i : Nat) : Cyc f (it f i a) p := by
  refine ⟨c.pos, ?_, fun j j0 j1 e => ?_⟩
  · rw [← it_add, Nat.add_comm, it_add, c.back]
  · obtain ⟨m, hm⟩ := c.home i
    refine c.first j j0 j1 ?_
    have e2 : it f m (it f j (it f i a)) = a := by rw [e, hm]
    rw [← it_add, Nat.add_comm, it_add, hm] at e2
    exact e2
theorem Cyc.inj {a p i j : Nat} (c : Cyc f a p) (h : i < j) (hj : j < p) : it f i a ≠ it f j a := fun e => by
  refine (c.shift i).first (j - i) (by omega) (by omega) ?_
  rw [← it_add, show i + (j - i) = j by omega, e]
theorem Cyc.same {a p q : Nat} (c : Cyc f a p) (d : Cyc f a q) : p = q := by
  rcases Nat.lt_trichotomy p q with h | h | h
  · exact absurd c.back (d.first p c.pos h)
  · exact h
  · exact absurd d.back (c.first q d.pos h)
theorem cyc_of {a : Nat} : ∀ q, 0 < q → it f q a = a → ∃ p, Cyc f a p := fun q => by
  induction q using Nat.strongRecOn with
  | ind q ih =>
    intro q0 e
    by_cases h : ∃ i, 0 < i ∧ i < q ∧ it f i a = a
    · obtain ⟨i, i0, i1, e1⟩ := h
      exact ih i i1 i0 e1
    · exact ⟨q, q0, e, fun i i0 i1 e1 => h ⟨i, i0, i1, e1⟩⟩
def orb (f : Nat → Nat) (a p : Nat) : List Nat := (List.range p).map fun i => it f i a
theorem orb_len {a p : Nat} : (orb f a p).length = p := by rw [orb, List.length_map, List.length_range]
theorem orb_get {a p i : Nat} (h : i < p) : (orb f a p)[i]? = some (it f i a) := by
  rw [orb, List.getElem?_map, List.getElem?_range h]; rfl
theorem orb_mem {a p x : Nat} : x ∈ orb f a p ↔ ∃ i, i < p ∧ it f i a = x := by simp [orb]
theorem orb_succ {a p : Nat} : orb f a (p + 1) = orb f a p ++ [it f p a] := by
  rw [orb, List.range_succ, List.map_append]; rfl
theorem orb_add {a p q : Nat} : orb f a (p + q) = orb f a p ++ orb f (it f p a) q := by
  induction q with
  | zero => simp [orb]
  | succ q ih => rw [← Nat.add_assoc, orb_succ, ih, orb_succ, List.append_assoc, it_add]
theorem Cyc.nodup {a p : Nat} (c : Cyc f a p) : (orb f a p).Nodup := by
  rw [orb, List.Nodup, List.pairwise_map]
  refine (List.pairwise_lt_range (n := p)).imp_of_mem fun {i j} _ hj h => c.inj h (List.mem_range.mp hj)
theorem Cyc.mem {a p x : Nat} (c : Cyc f a p) : x ∈ orb f a p ↔ ∃ i, it f i a = x :=
  orb_mem.trans ⟨fun ⟨i, _, e⟩ => ⟨i, e⟩, fun ⟨i, e⟩ => ⟨i % p, Nat.mod_lt _ c.pos, by rw [← c.mod, e]⟩⟩
/-- a ring, from its least number on -/
def Ring (f : Nat → Nat) (r : List Nat) : Prop := ∃ a p, Cyc f a p ∧ r = orb f a p ∧ ∀ i, a ≤ it f i a
theorem Ring.meet {r s : List Nat} (h : Ring f r) (g : Ring f s) {x : Nat} (h1 : x ∈ r) (h2 : x ∈ s) : r = s := by
  obtain ⟨a, p, c, rfl, l⟩ := h
  obtain ⟨b, q, d, rfl, m⟩ := g
  obtain ⟨i, rfl⟩ := c.mem.mp h1
  obtain ⟨j, e⟩ := d.mem.mp h2
  have ab : a ≤ b := by
    obtain ⟨n, hn⟩ := d.home j
    rw [e, ← it_add] at hn
    rw [← hn]
    exact l _
  have ba : b ≤ a := by
    obtain ⟨n, hn⟩ := c.home i
    rw [← e, ← it_add] at hn
    rw [← hn]
    exact m _
  obtain rfl : a = b := by omega
  rw [c.same d]
theorem Ring.step {r : List Nat} (h : Ring f r) {x : Nat} (hx : x ∈ r) (n : Nat) : it f n x ∈ r := by
  obtain ⟨a, p, c, rfl, l⟩ := h
  obtain ⟨i, rfl⟩ := c.mem.mp hx
  exact c.mem.mpr ⟨i + n, it_add f i n a⟩
theorem Ring.back {r : List Nat} (h : Ring f r) {x y : Nat} (hx : x ∈ r) (hy : y ∈ r) : ∃ n, it f n x = y := by
  obtain ⟨a, p, c, rfl, l⟩ := h
  obtain ⟨i, rfl⟩ := c.mem.mp hx
  obtain ⟨j, rfl⟩ := c.mem.mp hy
  obtain ⟨m, hm⟩ := c.home i
  exact ⟨m + j, by rw [it_add, hm]⟩
/-- from a cycle, begun at its least number -/
theorem Cyc.ring {a p t : Nat} (c : Cyc f a p) (ht : t ≤ p) (l : ∀ i, i < p → it f t a ≤ it f i a) : Ring f ((orb f a p).drop t ++ (orb f a p).take t) := by
  have e : orb f a p = orb f a t ++ orb f (it f t a) (p - t) := by rw [← orb_add, show t + (p - t) = p by omega]
  refine ⟨it f t a, p, c.shift t, ?_, fun i => ?_⟩
  · rw [e, List.drop_left' orb_len, List.take_left' orb_len]
    have e2 : orb f (it f t a) p = orb f (it f t a) (p - t) ++ orb f (it f (p - t) (it f t a)) t := by rw [← orb_add, show p - t + t = p by omega]
    rw [e2, ← it_add, show t + (p - t) = p by omega, c.back]
  · rw [← it_add, c.mod (t + i)]
    exact l _ (Nat.mod_lt _ c.pos)
/-- the numbers met so far, and the rings found -/
structure Srch (f : Nat → Nat) (B : Nat) (S : Nat → Prop) (F : List (List Nat)) : Prop where
  lt : ∀ x, S x → x < B
  cl : ∀ x, S x → S (f x)
  ring : ∀ r ∈ F, Ring f r ∧ ∀ x ∈ r, S x
  nd : F.Nodup
  all : ∀ r, Ring f r → ∀ x ∈ r, S x → r ∈ F
theorem Srch.its {B : Nat} {S : Nat → Prop} {F : List (List Nat)} (s : Srch f B S F) : ∀ n {x : Nat}, S x → S (it f n x)
  | 0, _, h => h
  | n + 1, _, h => s.its n (s.cl _ h)
/-- a way from b on, of numbers not met -/
structure Path (f : Nat → Nat) (B : Nat) (S : Nat → Prop) (b k : Nat) : Prop where
  new : ∀ i, i < k → ¬ S (it f i b)
  nd : (orb f b k).Nodup
  lt : ∀ i, it f i b < B
theorem Path.le {B b k : Nat} {S : Nat → Prop} (p : Path f B S b k) : k ≤ B := by
  have := nodup_bound B _ p.nd fun x m => by
    obtain ⟨i, _, rfl⟩ := orb_mem.mp m
    exact p.lt i
  rw [orb_len] at this
  exact this
theorem Path.more {B b k : Nat} {S : Nat → Prop} (p : Path f B S b k) (h1 : ¬ S (it f k b)) (h2 : it f k b ∉ orb f b k) : Path f B S b (k + 1) := by
  refine ⟨fun i hi => ?_, ?_, p.lt⟩
  · by_cases e : i = k
    · rw [e]; exact h1
    · exact p.new i (by omega)
  · rw [orb_succ, List.nodup_append]
    refine ⟨p.nd, by simp, fun x hx y hy e => ?_⟩
    simp only [List.mem_cons, List.not_mem_nil, or_false] at hy
    subst hy; subst e
    exact h2 hx
theorem Path.less {B b k : Nat} {S : Nat → Prop} (p : Path f B S b k) (h1 : ¬ S (it f k b)) (h2 : it f k b ∉ orb f b k) : k < B := (p.more h1 h2).le
theorem Srch.old {B b k : Nat} {S S' : Nat → Prop} {F : List (List Nat)} (s : Srch f B S F) (p : Path f B S b k) (h : S (it f k b)) (e : ∀ x, S' x ↔ S x ∨ x ∈ orb f b k) : Srch f B S' F := by
  have nx : ∀ i, i < k → S' (it f (i + 1) b) := fun i hi => by
    by_cases c : i + 1 = k
    · rw [c]; exact (e _).mpr (.inl h)
    · exact (e _).mpr (.inr (orb_mem.mpr ⟨i + 1, by omega, rfl⟩))
  refine ⟨fun x hx => ?_, fun x hx => ?_, fun r hr => ⟨(s.ring r hr).1, fun x hx => (e x).mpr (.inl ((s.ring r hr).2 x hx))⟩, s.nd, fun r hr x hx sx => ?_⟩
  · rcases (e x).mp hx with h1 | h1
    · exact s.lt x h1
    · obtain ⟨i, _, rfl⟩ := orb_mem.mp h1
      exact p.lt i
  · rcases (e x).mp hx with h1 | h1
    · exact (e _).mpr (.inl (s.cl x h1))
    · obtain ⟨i, hi, rfl⟩ := orb_mem.mp h1
      rw [← it_one f]
      exact nx i hi
  · rcases (e x).mp sx with h1 | h1
    · exact s.all r hr x hx h1
    · obtain ⟨i, hi, rfl⟩ := orb_mem.mp h1
      refine s.all r hr _ (hr.step hx (k - i)) ?_
      rw [← it_add, show i + (k - i) = k by omega]
      exact h
theorem Path.cyc {B b k j : Nat} {S : Nat → Prop} (p : Path f B S b k) (hj : j < k) (h : it f k b = it f j b) : Cyc f (it f j b) (k - j) := by
  refine ⟨by omega, ?_, fun i i0 i1 e1 => ?_⟩
  · rw [← it_add, show j + (k - j) = k by omega, h]
  · have nd := p.nd
    rw [orb, List.Nodup, List.pairwise_map] at nd
    have := List.pairwise_iff_getElem.mp nd j (j + i) (by rw [List.length_range]; omega) (by rw [List.length_range]; omega) (by omega)
    rw [List.getElem_range, List.getElem_range] at this
    refine this ?_
    rw [it_add, e1]
theorem Path.drop {B b k j : Nat} {S : Nat → Prop} (_ : Path f B S b k) (hj : j < k) : (orb f b k).drop j = orb f (it f j b) (k - j) := by
  have e : orb f b k = orb f b j ++ orb f (it f j b) (k - j) := by rw [← orb_add, show j + (k - j) = k by omega]
  rw [e, List.drop_left' orb_len]
theorem Srch.new {B b k j t : Nat} {S S' : Nat → Prop} {F : List (List Nat)} (s : Srch f B S F) (p : Path f B S b k) (hj : j < k) (h : it f k b = it f j b) (ht : t ≤ k - j) (l : ∀ i, i < k - j → it f t (it f j b) ≤ it f i (it f j b))
    (e : ∀ x, S' x ↔ S x ∨ x ∈ orb f b k) : Srch f B S' (F ++ [(orb f (it f j b) (k - j)).drop t ++ (orb f (it f j b) (k - j)).take t]) := by
  have c := p.cyc hj h
  have hR := c.ring ht l
  have hm : ∀ x, x ∈ (orb f (it f j b) (k - j)).drop t ++ (orb f (it f j b) (k - j)).take t ↔ x ∈ orb f (it f j b) (k - j) := fun x => by
    rw [List.mem_append, or_comm, ← List.mem_append, List.take_append_drop]
  have hb : ∀ x, x ∈ orb f (it f j b) (k - j) → x ∈ orb f b k := fun x hx => by
    rw [← p.drop hj] at hx
    exact List.mem_of_mem_drop hx
  have nx : ∀ i, i < k → S' (it f (i + 1) b) := fun i hi => by
    by_cases c : i + 1 = k
    · rw [c, h]; exact (e _).mpr (.inr (orb_mem.mpr ⟨j, hj, rfl⟩))
    · exact (e _).mpr (.inr (orb_mem.mpr ⟨i + 1, by omega, rfl⟩))
  refine ⟨fun x hx => ?_, fun x hx => ?_, fun r hr => ?_, ?_, fun r hr x hx sx => ?_⟩
  · rcases (e x).mp hx with h1 | h1
    · exact s.lt x h1
    · obtain ⟨i, _, rfl⟩ := orb_mem.mp h1
      exact p.lt i
  · rcases (e x).mp hx with h1 | h1
    · exact (e _).mpr (.inl (s.cl x h1))
    · obtain ⟨i, hi, rfl⟩ := orb_mem.mp h1
      rw [← it_one f]
      exact nx i hi
  · rcases List.mem_append.mp hr with h1 | h1
    · exact ⟨(s.ring r h1).1, fun x hx => (e x).mpr (.inl ((s.ring r h1).2 x hx))⟩
    · simp only [List.mem_cons, List.not_mem_nil, or_false] at h1
      subst h1
      exact ⟨hR, fun x hx => (e x).mpr (.inr (hb x ((hm x).mp hx)))⟩
  · rw [List.nodup_append]
    refine ⟨s.nd, by simp, fun r hr q hq e2 => ?_⟩
    simp only [List.mem_cons, List.not_mem_nil, or_false] at hq
    subst hq
    have hx : it f j b ∈ r := by
      rw [e2]
      exact (hm _).mpr (orb_mem.mpr ⟨0, by omega, rfl⟩)
    exact p.new j hj ((s.ring r hr).2 _ hx)
  · rcases (e x).mp sx with h1 | h1
    · exact List.mem_append.mpr (.inl (s.all r hr x hx h1))
    · obtain ⟨i, hi, rfl⟩ := orb_mem.mp h1
      refine List.mem_append.mpr (.inr ?_)
      rw [List.mem_singleton]
      have h2 := hr.step hx (k - i)
      rw [← it_add, show i + (k - i) = k by omega, h] at h2
      exact hr.meet hR h2 ((hm _).mpr (orb_mem.mpr ⟨0, by omega, rfl⟩))
theorem Srch.start (f : Nat → Nat) (B : Nat) {S : Nat → Prop} (e : ∀ x, ¬ S x) : Srch f B S [] :=
  ⟨fun x h => absurd h (e x), fun x h => absurd h (e x), fun r h => (nomatch h), List.nodup_nil, fun r _ x _ h => absurd h (e x)⟩
/-- when all below a top are met, behind which less is made -/
theorem Srch.done {B T : Nat} {S : Nat → Prop} {F : List (List Nat)} (s : Srch f B S F) (h : ∀ x, x < T → S x) (top : ∀ n, T ≤ n → f n < n) (r : List Nat) : r ∈ F ↔ Ring f r := by
  refine ⟨fun m => (s.ring r m).1, fun hr => ?_⟩
  obtain ⟨a, p, c, rfl, l⟩ := id hr
  have a1 := l 1
  refine s.all _ hr a (orb_mem.mpr ⟨0, c.pos, rfl⟩) (h a ?_)
  refine Nat.lt_of_not_le fun ha => ?_
  have h1 : it f 1 a < a := top a ha
  omega
/-- a ring's numbers, as the program has them -/
def ri (r : List Nat) : List Int := r.map fun (n : Nat) => (n : Int)
theorem ri_inj {r s : List Nat} (h : ri r = ri s) : r = s := by
  unfold ri at h
  exact (List.map_inj_right (fun a b e => by omega)).mp h
/-- all rings, rising -/
structure Rings (f : Nat → Nat) (L : List (List Nat)) : Prop where
  nd : L.Nodup
  mem : ∀ r, r ∈ L ↔ Ring f r
  up : L.Pairwise fun r s => HT.lexLt (ri s) (ri r) = false
theorem lex_anti : ∀ {r s : List Int}, HT.lexLt r s = false → HT.lexLt s r = false → r = s
  | [], [], _, _ => rfl
  | [], _ :: _, h, _ => nomatch h
  | _ :: _, [], _, h => nomatch h
  | x :: r, y :: s, h, g => by
    rw [HT.lexLt_cons] at h g
    by_cases e : x = y
    · subst e
      rw [if_pos rfl] at h g
      rw [lex_anti h g]
    · rw [if_neg e, decide_eq_false_iff_not] at h
      rw [if_neg (Ne.symm e), decide_eq_false_iff_not] at g
      omega
theorem perm_nodup : ∀ {α : Type} [DecidableEq α] {l m : List α}, l.Nodup → m.Nodup → (∀ x, x ∈ l ↔ x ∈ m) → l.Perm m := fun {α} _ {l m} dl dm h => by
  rw [List.perm_iff_count]
  intro x
  rw [dl.count, dm.count]
  by_cases c : x ∈ l
  · rw [if_pos c, if_pos ((h x).mp c)]
  · rw [if_neg c, if_neg fun z => c ((h x).mpr z)]
theorem Rings.same {L M : List (List Nat)} (h : Rings f L) (g : Rings f M) : L = M :=
  List.Perm.eq_of_pairwise (le := fun r s => HT.lexLt (ri s) (ri r) = false) (fun r s _ _ h1 h2 => ri_inj (lex_anti h2 h1)) h.up g.up (perm_nodup h.nd g.nd fun r => (h.mem r).trans (g.mem r).symm)
/-- the least bound -/
structure LB (f : Nat → Nat) (v : Nat) : Prop where
  here : ∃ a p, Cyc f a p ∧ (∀ i, a ≤ it f i a) ∧ v = a + 1
  top : ∀ a p, Cyc f a p → (∀ i, a ≤ it f i a) → a < v
theorem LB.same {u v : Nat} (h : LB f u) (g : LB f v) : u = v := by
  obtain ⟨a, p, c, l, rfl⟩ := h.here
  obtain ⟨b, q, d, m, rfl⟩ := g.here
  have h1 := h.top b q d m
  have h2 := g.top a p c l
  omega
theorem it_least (a : Nat) : ∃ t, ∀ i, it f t a ≤ it f i a := by
  refine Classical.byContradiction fun no => ?_
  have h : ∀ n t, it f t a ≠ n := fun n => by
    induction n using Nat.strongRecOn with
    | ind n ih =>
      intro t e
      refine no ⟨t, fun i => ?_⟩
      refine Nat.le_of_not_lt fun c => ?_
      exact ih (it f i a) (by omega) i rfl
  exact h _ 0 rfl
/-- behind a top less is made, and below a bound all stays below it: each number comes to a ring -/
theorem ring_hit {T B : Nat} (top : ∀ n, T ≤ n → f n < n) (TB : T ≤ B) (cl : ∀ n, n < B → f n < B) (n : Nat) : ∃ k p, Cyc f (it f k n) p ∧ ∀ i, it f k n ≤ it f i (it f k n) := by
  let C := max B (n + 1)
  have clC : ∀ m, m < C → f m < C := fun m hm => by
    by_cases c : m < B
    · have := cl m c
      omega
    · have := top m (by omega)
      omega
  have itC : ∀ i m, m < C → it f i m < C := fun i => by
    induction i with
    | zero => exact fun m h => h
    | succ i ih => exact fun m h => ih _ (clC m h)
  have hx : ∃ i j : Nat, i < j ∧ it f i n = it f j n := by
    refine Classical.byContradiction fun no => ?_
    have nd : (orb f n (C + 1)).Nodup := by
      rw [orb, List.Nodup, List.pairwise_map]
      exact List.pairwise_lt_range.imp fun {i j} h e => no ⟨i, j, h, e⟩
    have := nodup_bound C _ nd fun x hx => by
      obtain ⟨k, _, rfl⟩ := orb_mem.mp hx
      exact itC k n (by omega)
    rw [orb_len] at this
    omega
  obtain ⟨i, j, hij, e⟩ := hx
  obtain ⟨p, c⟩ := cyc_of (f := f) (a := it f i n) (j - i) (by omega) (by rw [← it_add, show i + (j - i) = j by omega, e])
  obtain ⟨t, ht⟩ := it_least (f := f) (it f i n)
  refine ⟨i + t, p, ?_, fun k => ?_⟩
  · rw [it_add]; exact c.shift t
  · rw [it_add, ← it_add f t k]
    exact ht _
theorem LB.hit {T B v : Nat} (b : LB f v) (top : ∀ n, T ≤ n → f n < n) (TB : T ≤ B) (cl : ∀ n, n < B → f n < B) (n : Nat) : ∃ k, it f k n < v := by
  obtain ⟨k, p, c, l⟩ := ring_hit top TB cl n
  exact ⟨k, b.top _ p c l⟩
theorem LB.of {L : List (List Nat)} {v : Nat} (R : Rings f L) (h1 : ∃ r ∈ L, v = r.headD 0 + 1) (h2 : ∀ r ∈ L, r.headD 0 < v) : LB f v := by
  have hd : ∀ a p, Cyc f a p → (orb f a p).headD 0 = a := fun a p c => by
    obtain ⟨q, rfl⟩ : ∃ q, p = q + 1 := ⟨p - 1, by have := c.pos; omega⟩
    rw [orb, List.range_succ_eq_map]; rfl
  refine ⟨?_, fun a p c l => ?_⟩
  · obtain ⟨r, hr, e⟩ := h1
    obtain ⟨a, p, c, rfl, l⟩ := (R.mem r).mp hr
    rw [hd a p c] at e
    exact ⟨a, p, c, l, e⟩
  · have := h2 _ ((R.mem _).mpr ⟨a, p, c, rfl, l⟩)
    rw [hd a p c] at this
    exact this
end

end Fold
namespace Fold
open PySem PySem.Spec PyProof.Rows L2
/-! ### where a step makes less, in plain Lean -/
/-- a number from which on less is made -/
structure Tame (f : Nat → Nat) (T : Nat) : Prop where
  less : ∀ n, T ≤ n → f n < n
  le : T ≤ 50000
  twelve : ∀ n, f n ≤ 12 * n
theorem Tame.cl {f : Nat → Nat} {T : Nat} (t : Tame f T) : ∀ n, n < 1000000 → f n < 1000000 := fun n hn => by
  by_cases c : T ≤ n
  · have := t.less n c
    omega
  · have h1 := t.twelve n
    have h2 := t.le
    omega
theorem Tame.its {f : Nat → Nat} {T : Nat} (t : Tame f T) : ∀ i n, n < 1000000 → it f i n < 1000000
  | 0, _, h => h
  | i + 1, n, h => t.its i _ (t.cl n h)
theorem Tame.hit {f : Nat → Nat} {T v : Nat} (t : Tame f T) (b : LB f v) (n : Nat) : ∃ k, it f k n < v :=
  b.hit t.less (show T ≤ 1000000 by have := t.le; omega) t.cl n
/-- whether a step surely ends -/
def endB (b : Nat) : Stp → Bool
  | .fold k x _ => decide (x.natAbs < b ^ k)
  | .weigh _ => true
theorem natAbs_sum {g P q r : Nat} {x y : Int} (hx : x.natAbs ≤ g) (hy : y.natAbs ≤ P) : (x * (q : Int) + y * (r : Int)).natAbs ≤ g * q + P * r := by
  refine Nat.le_trans (Int.natAbs_add_le _ _) ?_
  rw [Int.natAbs_mul, Int.natAbs_mul, Int.natAbs_natCast, Int.natAbs_natCast]
  exact Nat.add_le_add (Nat.mul_le_mul_right _ hx) (Nat.mul_le_mul_right _ hy)
/-- the figures' sum, by a bound of the weights -/
theorem wsum_le12 {b g : Nat} {row : List Int} (hb : 2 ≤ b) (h0 : ∀ v ∈ row, v.natAbs ≤ g) : ∀ n i, (wsum b row n i).natAbs ≤ g * n := fun n => by
  induction n using Nat.strongRecOn with
  | ind n ih =>
    intro i
    by_cases c : n = 0
    · subst c
      rw [wsum_zero]; exact Nat.zero_le _
    · have h2 := ih (n / b) (Nat.div_lt_self (by omega) (by omega)) (i + 1)
      rw [wsum_pos row i hb (by omega)]
      refine Nat.le_trans (Int.natAbs_add_le _ _) ?_
      rw [Int.natAbs_mul, Int.natAbs_natCast]
      have h1 : (row.getD (i % row.length) 0).natAbs ≤ g := by
        rw [List.getD_eq_getElem?_getD]
        cases e : row[i % row.length]? with
        | none => exact Nat.zero_le _
        | some v => exact h0 v (List.mem_of_getElem? e)
      have h3 := Nat.mul_le_mul_right (n % b) h1
      have h4 : n % b + n / b ≤ n := by
        have e := Nat.div_add_mod n b
        have h5 : 1 * (n / b) ≤ b * (n / b) := Nat.mul_le_mul_right _ (by omega)
        omega
      have h6 := Nat.mul_le_mul_left g h4
      rw [Nat.mul_add] at h6
      omega
theorem wsum_le {b g : Nat} {row : List Int} (hb : 2 ≤ b) (h0 : ∀ v ∈ row, v.natAbs ≤ g) : ∀ k n i, n < b ^ k → (wsum b row n i).natAbs ≤ g * (b - 1) * k
  | 0, n, i, h => by
    obtain rfl : n = 0 := by simpa using h
    rw [wsum_zero]; exact Nat.zero_le _
  | k + 1, n, i, h => by
    by_cases c : n = 0
    · subst c
      rw [wsum_zero]; exact Nat.zero_le _
    · have h2 := wsum_le hb h0 k (n / b) (i + 1) (Nat.div_lt_of_lt_mul (by rw [Nat.mul_comm, ← Nat.pow_succ]; exact h))
      rw [wsum_pos row i hb (by omega)]
      refine Nat.le_trans (Int.natAbs_add_le _ _) ?_
      rw [Int.natAbs_mul, Int.natAbs_natCast]
      have h1 : (row.getD (i % row.length) 0).natAbs ≤ g := by
        rw [List.getD_eq_getElem?_getD]
        cases e : row[i % row.length]? with
        | none => exact Nat.zero_le _
        | some v => exact h0 v (List.mem_of_getElem? e)
      have h3 := Nat.mul_le_mul h1 (show n % b ≤ b - 1 by have := Nat.mod_lt n (show b > 0 by omega); omega)
      rw [Nat.mul_add, Nat.mul_one]
      omega
theorem grows {b g F : Nat} (hb : 2 ≤ b) (hF : 1 ≤ F) (h : g * (b - 1) * F < b ^ (F - 1)) : ∀ d, g * (b - 1) * (F + d) < b ^ (F + d - 1)
  | 0 => h
  | d + 1 => by
    have ih := grows hb hF h d
    have e : b ^ (F + (d + 1) - 1) = b ^ (F + d - 1) * b := by rw [show F + (d + 1) - 1 = F + d - 1 + 1 by omega, Nat.pow_succ]
    have h1 : b ^ (F + d - 1) * 2 ≤ b ^ (F + d - 1) * b := Nat.mul_le_mul_left _ hb
    have h2 : g * (b - 1) * (F + (d + 1)) ≤ g * (b - 1) * ((F + d) * 2) := Nat.mul_le_mul_left _ (by omega)
    rw [← Nat.mul_assoc] at h2
    rw [e]
    omega
theorem figs {b : Nat} (hb : 2 ≤ b) (n : Nat) (hn : 0 < n) : ∃ k, 1 ≤ k ∧ b ^ (k - 1) ≤ n ∧ n < b ^ k := by
  induction n using Nat.strongRecOn with
  | ind n ih =>
    by_cases c : n < b
    · exact ⟨1, Nat.le_refl _, by rw [Nat.sub_self, Nat.pow_zero]; omega, by simpa using c⟩
    · obtain ⟨k, k1, h1, h2⟩ := ih (n / b) (Nat.div_lt_self hn (by omega)) (Nat.div_pos (by omega) (by omega))
      refine ⟨k + 1, by omega, ?_, ?_⟩
      · rw [show k + 1 - 1 = k - 1 + 1 by omega, Nat.pow_succ]
        exact (Nat.le_div_iff_mul_le (by omega)).mp h1
      · rw [Nat.pow_succ]
        exact (Nat.div_lt_iff_lt_mul (by omega)).mp h2
theorem abs12 {v : Int} (h : -12 ≤ v ∧ v ≤ 12) : v.natAbs ≤ 12 := by omega
theorem mk_le {b : Nat} {s : Stp} (hb : 2 ≤ b) (h : OkS b s) (n : Nat) : mk b s n ≤ 12 * n := by
  cases s with
  | weigh row => exact wsum_le12 hb (fun v hv => abs12 (h.2.2 v hv)) n 0
  | fold k x y =>
    obtain ⟨_, _, _, hx, hy⟩ := h
    have h1 := natAbs_sum (q := n / b ^ k) (r := n % b ^ k) (abs12 hx) (abs12 hy)
    have h2 : n / b ^ k + n % b ^ k ≤ n := by
      have e := Nat.div_add_mod n (b ^ k)
      have h5 : 1 * (n / b ^ k) ≤ b ^ k * (n / b ^ k) := Nat.mul_le_mul_right _ (Nat.pow_pos (by omega))
      omega
    show (_ : Int).natAbs ≤ _
    omega
theorem tame_weigh {b g F : Nat} {row : List Int} (hb : 2 ≤ b) (ho : OkS b (.weigh row)) (h0 : ∀ v ∈ row, v.natAbs ≤ g) (hF : 1 ≤ F) (h : g * (b - 1) * F < b ^ (F - 1)) (hT : b ^ (F - 1) ≤ 50000) : Tame (mk b (.weigh row)) (b ^ (F - 1)) := by
  refine ⟨fun n hn => ?_, hT, mk_le hb ho⟩
  have hp : 0 < b ^ (F - 1) := Nat.pow_pos (by omega)
  obtain ⟨k, k1, h1, h2⟩ := figs hb n (by omega)
  have hk : F ≤ k := by
    refine Nat.le_of_not_lt fun c => ?_
    have : b ^ k ≤ b ^ (F - 1) := Nat.pow_le_pow_right (by omega) (by omega)
    omega
  have h3 := wsum_le hb h0 k n 0 h2
  have h4 := grows hb hF h (k - F)
  rw [show F + (k - F) = k by omega] at h4
  show (wsum b row n 0).natAbs < n
  omega
theorem tame_fold {b k T : Nat} {x y : Int} (hb : 2 ≤ b) (ho : OkS b (.fold k x y)) (he : x.natAbs < b ^ k) (h : ∀ q, T ≤ q * b ^ k + (b ^ k - 1) → y.natAbs * (b ^ k - 1) < q * (b ^ k - x.natAbs)) (hT : T ≤ 50000) : Tame (mk b (.fold k x y)) T := by
  refine ⟨fun n hn => ?_, hT, mk_le hb ho⟩
  have hP : 0 < b ^ k := Nat.pow_pos (by omega)
  have e := Nat.div_add_mod n (b ^ k)
  have hr := Nat.mod_lt n hP
  rw [Nat.mul_comm] at e
  have h1 := h (n / b ^ k) (by omega)
  have h2 := natAbs_sum (x := x) (y := y) (q := n / b ^ k) (r := n % b ^ k) (Nat.le_refl _) (Nat.le_refl _)
  have h3 : y.natAbs * (n % b ^ k) ≤ y.natAbs * (b ^ k - 1) := Nat.mul_le_mul_left _ (by omega)
  have h4 : n / b ^ k * (b ^ k - x.natAbs) + x.natAbs * (n / b ^ k) = n / b ^ k * b ^ k := by
    rw [Nat.mul_comm x.natAbs, ← Nat.mul_add, Nat.sub_add_cancel (by omega)]
  show (x * ((n / b ^ k : Nat) : Int) + y * ((n % b ^ k : Nat) : Int)).natAbs < n
  generalize n / b ^ k = q at *
  generalize n % b ^ k = r at *
  omega
/-- the program's top of a fold -/
theorem tame_reach {b k : Nat} {x y : Int} (hb : 2 ≤ b) (ho : OkS b (.fold k x y)) (he : x.natAbs < b ^ k) : Tame (mk b (.fold k x y)) ((y.natAbs * (b ^ k - 1) / (b ^ k - x.natAbs) + 1) * b ^ k) := by
  obtain ⟨_, _, h60, hx, hy⟩ := id ho
  have hP : 0 < b ^ k := Nat.pow_pos (by omega)
  refine tame_fold hb ho he (fun q hq => ?_) ?_
  · have h1 : y.natAbs * (b ^ k - 1) / (b ^ k - x.natAbs) + 1 ≤ q := by
      refine Nat.le_of_not_lt fun c => ?_
      have : (q + 1) * b ^ k ≤ (y.natAbs * (b ^ k - 1) / (b ^ k - x.natAbs) + 1) * b ^ k := Nat.mul_le_mul_right _ (by omega)
      rw [Nat.add_mul, Nat.one_mul] at this
      omega
    have h2 := Nat.lt_div_mul_add (a := y.natAbs * (b ^ k - 1)) (show 0 < b ^ k - x.natAbs by omega)
    have h3 := Nat.mul_le_mul_right (b ^ k - x.natAbs) h1
    rw [Nat.add_mul, Nat.one_mul] at h3
    omega
  · have h1 : y.natAbs * (b ^ k - 1) / (b ^ k - x.natAbs) ≤ 12 * 59 := Nat.le_trans (Nat.div_le_self _ _) (Nat.mul_le_mul (abs12 hy) (by omega))
    refine Nat.le_trans (Nat.mul_le_mul (Nat.add_le_add_right h1 1) h60) (by decide)
/-- the law's top of a fold -/
theorem tame_top {b k : Nat} {x y : Int} (hb : 2 ≤ b) (ho : OkS b (.fold k x y)) (he : x.natAbs < b ^ k) : Tame (mk b (.fold k x y)) (b ^ k * (2 + 12 * b ^ k / (b ^ k - x.natAbs))) := by
  obtain ⟨_, _, h60, hx, hy⟩ := id ho
  have hP : 0 < b ^ k := Nat.pow_pos (by omega)
  refine tame_fold hb ho he (fun q hq => ?_) ?_
  · have h1 : 2 + 12 * b ^ k / (b ^ k - x.natAbs) ≤ q := by
      refine Nat.le_of_not_lt fun c => ?_
      have : b ^ k * (q + 1) ≤ b ^ k * (2 + 12 * b ^ k / (b ^ k - x.natAbs)) := Nat.mul_le_mul_left _ (by omega)
      rw [Nat.mul_add, Nat.mul_one, Nat.mul_comm] at this
      omega
    have h2 := Nat.lt_div_mul_add (a := 12 * b ^ k) (show 0 < b ^ k - x.natAbs by omega)
    have h3 := Nat.mul_le_mul_right (b ^ k - x.natAbs) h1
    rw [Nat.add_mul] at h3
    have h4 : y.natAbs * (b ^ k - 1) ≤ 12 * b ^ k := Nat.mul_le_mul (abs12 hy) (by omega)
    omega
  · have h1 : 12 * b ^ k / (b ^ k - x.natAbs) ≤ 12 * 60 := Nat.le_trans (Nat.div_le_self _ _) (Nat.mul_le_mul_left _ h60)
    refine Nat.le_trans (Nat.mul_le_mul h60 (Nat.add_le_add_left h1 2)) (by decide)
/-- where the program's search for a weighing's top ends at the latest -/
def figMax (b : Nat) : Nat := if b = 2 then 8 else if b = 3 then 6 else if b ≤ 6 then 5 else 4
theorem figMax_all : ∀ b : Fin 13, 2 ≤ b.val → 12 * (b.val - 1) * figMax b.val < b.val ^ (figMax b.val - 1) ∧ b.val ^ (figMax b.val - 1) ≤ 2000 ∧ figMax b.val ≤ 8 ∧ 1 ≤ figMax b.val := by decide +kernel
theorem figMax_ok {b : Nat} (h1 : 2 ≤ b) (h2 : b ≤ 12) : 12 * (b - 1) * figMax b < b ^ (figMax b - 1) ∧ b ^ (figMax b - 1) ≤ 2000 ∧ figMax b ≤ 8 ∧ 1 ≤ figMax b := figMax_all ⟨b, by omega⟩ h1

end Fold
namespace Fold
open PySem PySem.Spec PyProof.Rows L2
/-! ### a dict with numbers as keys, a list of lists of numbers -/
def pk (ps : List (Nat × V)) : List (Key × V) := ps.map fun p => (Sum.inl (p.1 : Int), p.2)
def look (ps : List (Nat × V)) (n : Nat) : Option V := (ps.find? fun p => decide (p.1 = n)).map (·.2)
def keys (ps : List (Nat × V)) : List Nat := ps.map (·.1)
theorem pk_val : ∀ (ps : List (Nat × V)) (n : Nat), valV (pk ps) (Sum.inl (n : Int)) = look ps n
  | [], _ => rfl
  | p :: ps, n => by
    by_cases e : p.1 = n
    · subst e
      rw [pk, List.map_cons, valV_pos rfl, look, List.find?_cons_of_pos (by simp)]; rfl
    · rw [pk, List.map_cons, valV_neg (fun z => e (by injection z with z; omega)), look, List.find?_cons_of_neg (by simpa using e)]
      exact pk_val ps n
theorem look_none {ps : List (Nat × V)} {n : Nat} (h : n ∉ keys ps) : look ps n = none := by
  rw [look, List.find?_eq_none.mpr, Option.map_none]
  intro p hp
  simp only [decide_eq_true_eq]
  exact fun e => h (e ▸ List.mem_map.mpr ⟨p, hp, rfl⟩)
theorem look_some {ps : List (Nat × V)} {n : Nat} (h : n ∈ keys ps) : ∃ v, look ps n = some v ∧ (n, v) ∈ ps := by
  induction ps with
  | nil => exact absurd h List.not_mem_nil
  | cons p ps ih =>
    by_cases e : p.1 = n
    · exact ⟨p.2, by rw [look, List.find?_cons_of_pos (by simpa using e)]; rfl, by rw [← e]; exact List.mem_cons_self⟩
    · have h' : n ∈ keys ps := by
        rcases List.mem_cons.mp h with q | q
        · exact absurd q.symm e
        · exact q
      obtain ⟨v, h1, h2⟩ := ih h'
      exact ⟨v, by rw [look, List.find?_cons_of_neg (by simpa using e)]; exact h1, List.mem_cons_of_mem _ h2⟩
theorem look_app (ps qs : List (Nat × V)) (n : Nat) : look (ps ++ qs) n = (look ps n).or (look qs n) := by
  rw [look, List.find?_append, look, look]
  cases ps.find? fun p => decide (p.1 = n) <;> rfl
theorem look_row (v : V) (n : Nat) : ∀ row : List Nat, n ∈ row → look (row.map fun x => (x, v)) n = some v
  | [], h => absurd h List.not_mem_nil
  | x :: r, h => by
    by_cases e : x = n
    · rw [look, List.map_cons, List.find?_cons_of_pos (by simpa using e)]; rfl
    · rw [look, List.map_cons, List.find?_cons_of_neg (by simpa using e)]
      refine look_row v n r ?_
      rcases List.mem_cons.mp h with q | q
      · exact absurd q.symm e
      · exact q
theorem keys_app (ps qs : List (Nat × V)) : keys (ps ++ qs) = keys ps ++ keys qs := List.map_append
theorem keys_row (v : V) (row : List Nat) : keys (row.map fun x => (x, v)) = row := by
  rw [keys, List.map_map]
  exact List.map_id row
theorem dget {H : Hp} {d : Addr} {ps : List (Nat × V)} (n : Nat) (h : H d = some (.dK (pk ps))) : DGet H d (.int (n : Int)) (look ps n) := by
  rw [← pk_val]
  exact DGet.k (k := Sum.inl (n : Int)) h
theorem dput {H : Hp} {d : Addr} {ps : List (Nat × V)} {n : Nat} {v : V} (h : H d = some (.dK (pk ps))) (hn : n ∉ keys ps) (hl : ps.length < sizeLine) : DPut H d (.int (n : Int)) v (upd H d (.dK (pk (ps ++ [(n, v)])))) := by
  have e : putK (pk ps) (Sum.inl (n : Int)) v = pk (ps ++ [(n, v)]) := by
    rw [putK_new v (by rw [pk_val, look_none hn]), pk, pk, List.map_append]; rfl
  rw [← e]
  exact DPut.k (k := Sum.inl (n : Int)) h (by rw [pk, List.length_map]; exact hl)
/-- numbers as values -/
def nv (l : List Nat) : List V := (ri l).map V.int
theorem nv_len (l : List Nat) : (nv l).length = l.length := by rw [nv, ri, List.length_map, List.length_map]
theorem nv_snoc (l : List Nat) (n : Nat) : nv (l ++ [n]) = nv l ++ [.int (n : Int)] := by
  rw [nv, ri, List.map_append, List.map_append]; rfl
theorem nv_app (l m : List Nat) : nv (l ++ m) = nv l ++ nv m := by
  rw [nv, ri, List.map_append, List.map_append]; rfl
theorem nv_drop (l : List Nat) (n : Nat) : (nv l).drop n = nv (l.drop n) := by rw [nv, ri, ← List.map_drop, ← List.map_drop]; rfl
theorem nv_take (l : List Nat) (n : Nat) : (nv l).take n = nv (l.take n) := by rw [nv, ri, ← List.map_take, ← List.map_take]; rfl
theorem nv_get {l : List Nat} {i n : Nat} (h : l[i]? = some n) : (nv l)[i]? = some (.int (n : Int)) := by
  rw [nv, ri, List.getElem?_map, List.getElem?_map, h]; rfl
theorem nv_flat (l : List Nat) : (nv l).all flatV = true := by
  rw [List.all_eq_true]
  intro v m
  obtain ⟨i, _, rfl⟩ := List.mem_map.mp m
  rfl
theorem same_put {H H' : Hp} {p : Addr} {o : HO} (s : Same H H') (h : H p = none) : Same H (L2.upd H' p o) := fun b u e => by
  rw [upd_ne (ne_of_none e h)]
  exact s b u e
/-- lists of numbers in a list -/
def LLAt (H : Hp) (p : Addr) (ts : List Addr) (k : Addr → List Nat) : Prop := H p = some (.lst (ts.map V.ref)) ∧ ∀ t ∈ ts, H t = some (.lst (nv (k t)))

end Fold
namespace Fold
open PySem PySem.Spec PyProof.Rows L2
/-! ### list(range(0, b, c)), tuple(range(0, b, c)) -/
def cntR (b c : Nat) : Nat := if 0 < b then (b - 1) / c + 1 else 0
/-- the multiples of c below b -/
def mults (b c : Nat) : List Nat := (List.range (cntR b c)).map fun i => i * c
theorem cntR_le {b c : Nat} : cntR b c ≤ b := by
  unfold cntR
  split
  · have := Nat.div_le_self (b - 1) c
    omega
  · omega
theorem mults_len {b c : Nat} : (mults b c).length ≤ b := by
  rw [mults, List.length_map, List.length_range]; exact cntR_le
theorem mults_mem {b c x : Nat} (hc : 1 ≤ c) : x ∈ mults b c ↔ x < b ∧ x % c = 0 := by
  rw [mults, List.mem_map]
  constructor
  · rintro ⟨i, hi, rfl⟩
    rw [List.mem_range, cntR] at hi
    split at hi
    · have h1 : i ≤ (b - 1) / c := by omega
      have h2 := Nat.mul_le_mul_right c h1
      have h3 := Nat.div_mul_le_self (b - 1) c
      exact ⟨by omega, Nat.mul_mod_left i c⟩
    · omega
  · rintro ⟨h1, h2⟩
    have e := Nat.div_add_mod x c
    rw [h2, Nat.add_zero, Nat.mul_comm] at e
    refine ⟨x / c, ?_, e⟩
    rw [List.mem_range, cntR, if_pos (by omega)]
    have := Nat.div_le_div_right (c := c) (show x ≤ b - 1 by omega)
    omega
theorem mults_up {b c : Nat} (hc : 1 ≤ c) : (mults b c).Pairwise (· < ·) := by
  rw [mults, List.pairwise_map]
  exact List.pairwise_lt_range.imp fun {i j} h => Nat.mul_lt_mul_of_pos_right h hc
section
variable {X : Cx} {e ea eb ec : Expr} {ta tb tc : TE}
def PRg3 (X : Cx) (e : Expr) (t : L2.St → Hp → (Nat → Nat → Hp → Prop) → Prop) : Prop :=
  ∀ (pins : List (Addr × Obj)) (s : Shared) (σ : L2.St) (H : Hp) (Q : Nat → Nat → Hp → Prop), Inv X pins σ H s → t σ H Q →
    wpAny (model X.prog X.w) X.A (eval e X.env) (fun x s' => ∃ r b c t u v H', x = .ref r ∧ IsRange s'.heap r 0 (b : Nat) (c : Nat) t u v ∧ Inv X pins σ H' s' ∧ b < 1000000 ∧ 1 ≤ c ∧ c < 1000000 ∧ Q b c H') X.xe s
def tRg3 (ta tb tc : TE) : L2.St → Hp → (Nat → Nat → Hp → Prop) → Prop := fun σ H Q => ta σ H fun x H1 => tb σ H1 fun y H2 => tc σ H2 fun z H3 => ∃ b c : Nat, x = .int 0 ∧ y = .int (b : Int) ∧ z = .int (c : Int) ∧ b < 1000000 ∧ 1 ≤ c ∧ c < 1000000 ∧ Q b c H3
theorem prg_3 {p pos : Pos} (hg : Gl X "range") (hm : X.mg "range" = none) (ha : PE X ea ta) (hb : PE X eb tb) (hc : PE X ec tc)
    (na : starEach [ea, eb, ec] X.env = (false, eval ea X.env) :: starEach [eb, ec] X.env := by rfl) (nb : starEach [eb, ec] X.env = (false, eval eb X.env) :: starEach [ec] X.env := by rfl) (nc : starEach [ec] X.env = (false, eval ec X.env) :: starEach [] X.env := by rfl)
    (hp : (backTo pos (starEach [eb, ec] X.env)).any (·.1) = false := by rfl) : PRg3 X (.Call (.Name "range" p) [ea, eb, ec] [] pos) (tRg3 ta tb tc) := by
  intro pins s σ H Q I h
  refine Call_ (ld_blt I hg hm boot_range (PyProof.Rows.callWith_type1 (args_cons (thn (ha.run pins s σ H _ I h) fun v s1 ⟨x, H1, I1, r1, q1⟩ => args_cons (thn (hb.run pins s1 σ H1 _ I1 q1) fun v2 s2 ⟨y, H2, I2, r2, q2⟩ => one_arg hc I2 q2 (fun u s3 z H3 I3 r3 q => ?_) nc) nb) na) na hp))
  obtain ⟨b, c, rfl, rfl, rfl, b1, c1, c2, q⟩ := q
  obtain ⟨t, rfl⟩ := r1
  obtain ⟨t', rfl⟩ := r2
  obtain ⟨t'', rfl⟩ := r3
  exact call_range_3 (by omega) ⟨_, b, c, _, _, _, H3, rfl, IsRange.new _ _ _ _ _ _ _, I3.kept fun b u e => Heap.get?_push_of_some _ e, b1, c1, c2, q⟩
theorem small_3 {b c : Nat} (hb : b < 1000000) (h1 : 1 ≤ c) (h2 : c < 1000000) : Builtin.Range.small 0 (b : Int) (c : Int) = true ∧ Builtin.Range.rangeSize 0 (b : Int) (c : Int) = (cntR b c : Nat) := by
  have e : Builtin.Range.rangeSize 0 (b : Int) (c : Int) = (cntR b c : Nat) := by
    unfold Builtin.Range.rangeSize cntR
    rw [if_pos (by omega)]
    by_cases h : 0 < b
    · rw [if_pos (by omega), if_pos h, show (b : Int) - 0 - 1 = ((b - 1 : Nat) : Int) by omega]
      rfl
    · rw [if_neg (by omega), if_neg h]; rfl
  have hl := cntR_le (b := b) (c := c)
  refine ⟨?_, e⟩
  unfold Builtin.Range.small
  rw [e]
  simp only [Builtin.Range.rangeFitsLong, Bool.and_eq_true, Bool.or_eq_true, decide_eq_true_eq, beq_iff_eq, show (c : Int) > 0 by omega, if_true]
  omega
theorem vals_m3 {b c : Nat} {acc : Array Value} (h : ItemsOf (fun i v => ∃ t, v = .int (0 + i * (c : Int)) t) acc (cntR b c)) : Vals (nv (mults b c)) acc.toList := by
  have e : acc.toList.length = cntR b c := by rw [Array.length_toList]; exact h.1
  have e2 : nv (mults b c) = (List.range (cntR b c)).map fun i => V.int ((i * c : Nat) : Int) := by
    rw [nv, ri, mults, List.map_map, List.map_map]; rfl
  rw [e2, ← e]
  refine vals_of_get acc.toList _ fun j u hj => ?_
  obtain ⟨t, rfl⟩ := h.2 j u (by rw [← hj, Array.getElem?_toList])
  exact ⟨t, by rw [Int.zero_add, Int.natCast_mul]⟩
variable {te : L2.St → Hp → (Nat → Nat → Hp → Prop) → Prop}
def tLstRg3 (te : L2.St → Hp → (Nat → Nat → Hp → Prop) → Prop) : TE := fun σ H Q => te σ H fun b c H1 => ∀ q, H1 q = none → Q (.ref q) (upd H1 q (.lst (nv (mults b c))))
def tTupRg3 (te : L2.St → Hp → (Nat → Nat → Hp → Prop) → Prop) : TE := fun σ H Q => te σ H fun b c H1 => ∀ q, H1 q = none → Q (.ref q) (upd H1 q (.tup (nv (mults b c))))
theorem m3_size {b c : Nat} (hb : b < 1000000) : (nv (mults b c)).length ≤ sizeLine := by
  have := mults_len (b := b) (c := c)
  rw [nv_len]
  exact Nat.le_of_lt (Nat.lt_of_le_of_lt (show _ ≤ 1000000 by omega) (by decide))
theorem pe_listRg3 {p pos : Pos} (hc : X.calm = true) (hg : Gl X "list") (hm : X.mg "list" = none) (he : PRg3 X e te) (na : starEach [e] X.env = (false, eval e X.env) :: starEach [] X.env := by rfl) : PE X (.Call (.Name "list" p) [e] [] pos) (tLstRg3 te) := by
  refine ⟨fun pins s σ H Q I h => ?_⟩
  refine Call_ (ld_blt I hg hm boot_list (PyProof.Rows.callWith_type1 (args_cons (thn (he pins s σ H _ I h) fun x s1 ⟨r, b, c, t, u, v, H1, ex, hr, I1, b1, c1, c2, q⟩ => args_nil ?_) na) na))
  subst ex
  obtain ⟨b4, b3⟩ := small_3 b1 c1 c2
  refine call_list_range (n := cntR b c) (I1.ok.hd hc) hr b4 b3 (Nat.le_trans cntR_le (by omega)) fun h' tk acc c' hk e' hi => ?_
  refine ⟨.ref s1.heap.objs.size, upd H1 s1.heap.objs.size (.lst (nv (mults b c))), I1.laid hk (Nat.le_refl _) (show ObjOk X.prog X.w _ _ _ (.lst (nv (mults b c))) from ⟨m3_size b1, acc.toList, c', vals_m3 hi, ?_⟩), rfl, q _ (I1.hok.fresh (Nat.le_refl _))⟩
  rw [Array.toArray_toList]; exact e'
theorem pe_tupRg3 {p pos : Pos} (hc : X.calm = true) (hg : Gl X "tuple") (hm : X.mg "tuple" = none) (he : PRg3 X e te) (na : starEach [e] X.env = (false, eval e X.env) :: starEach [] X.env := by rfl) : PE X (.Call (.Name "tuple" p) [e] [] pos) (tTupRg3 te) := by
  refine ⟨fun pins s σ H Q I h => ?_⟩
  refine Call_ (ld_blt I hg hm boot_tuple (PyProof.Rows.callWith_type1 (args_cons (thn (he pins s σ H _ I h) fun x s1 ⟨r, b, c, t, u, v, H1, ex, hr, I1, b1, c1, c2, q⟩ => args_nil ?_) na) na))
  subst ex
  obtain ⟨b4, b3⟩ := small_3 b1 c1 c2
  refine call_tuple_range (n := cntR b c) (I1.ok.hd hc) hr b4 b3 (Nat.le_trans cntR_le (by omega)) fun h' tk acc hk hi => ?_
  have I2 : Inv X pins σ H1 { s1 with heap := h', toks := tk } := I1.kept hk
  refine ⟨.ref h'.objs.size, upd H1 h'.objs.size (.tup (nv (mults b c))), I2.laid (t' := tk) (fun c o e => Heap.get?_push_of_some _ e) (Nat.le_refl _) (show ObjOk X.prog X.w _ _ _ (.tup (nv (mults b c))) from ⟨m3_size b1, acc.toList, vals_m3 hi, ?_⟩), rfl, q _ (I2.hok.fresh (Nat.le_refl _))⟩
  rw [Array.toArray_toList]; exact IsTup.new _ _
end

end Fold
namespace Fold
open PySem PySem.Spec PyProof.Rows L2
section
variable {P : Program} {w : World} {K : PySem.W.Frag} {mg : Str → Option Value} {base : Heap} {a : Ad}
theorem lsize {n : Nat} (h : n ≤ 1000000) : n < sizeLine := Nat.lt_of_le_of_lt h (by decide)
theorem lsize' {n : Nat} (h : n ≤ 1000000) : n ≤ sizeLine := Nat.le_of_lt (lsize h)
theorem eqV_nat (i j : Nat) : eqV (.int (i : Int)) (.int (j : Int)) = decide (i = j) := by
  show decide ((i : Int) = (j : Int)) = decide (i = j)
  exact decide_eq_decide.mpr ⟨fun h => by omega, fun h => by omega⟩
def sp_from_least : Sp := fun vs H Q _ => ∃ (p : Addr) (r : List Nat), vs = [.ref p] ∧ H p = some (.lst (nv r)) ∧ 0 < r.length ∧ r.length ≤ 1000000 ∧
  ∀ t q H', t < r.length → (∀ i, i < r.length → r.getD t 0 ≤ r.getD i 0) → H q = none → Same H H' → H' q = some (.lst (nv (r.drop t ++ r.take t))) → Q (.ref q) H'
theorem first_at {r : List Nat} {m : Int} (h : m ∈ ri r) : ∃ t n : Nat, m = n ∧ r[t]? = some n ∧ ∀ i, i < t → ∀ n', r[i]? = some n' → n' ≠ n := by
  obtain ⟨n, hn, rfl⟩ := List.mem_map.mp h
  refine ⟨r.idxOf n, n, rfl, ?_, fun i hi n' e => ?_⟩
  · rw [List.getElem?_eq_getElem (List.idxOf_lt_length_of_mem hn), List.getElem_idxOf]
  · rintro rfl
    have h1 : i < r.length := by
      have := List.idxOf_lt_length_of_mem hn
      omega
    have h2 := List.not_of_lt_findIdx (p := (· == n')) (xs := r) (i := i) hi
    rw [List.getElem?_eq_getElem h1] at e
    injection e with e
    simp [e] at h2
theorem ok_from_least (T : Txt K mg a) : C0 P w K mg base 1 "from_least" sp_from_least := by
  refine T.d_from_least.c0 sc_from_least (fun vs H Q E h => ?_) (fun f cdv A outer s H vs Q E hr h => ?_)
  · obtain ⟨p, r, rfl, _⟩ := h
    rfl
  · obtain ⟨p, r, rfl, h1, r0, r1, kk⟩ := h
    refine ⟨_, (pss_cons (ps_set (i := 1) sc_from_least.nd rfl (Or.inl rfl) (pe_bm PySem.F.plainAttrs_list PySem.F.slot_list_index PySem.F.type_list_index mt_index (pv 0) (pa_cons (pe_callB (cr_min rfl) (by rfl) T.n_min b_min (pa_cons (pv 0) pa_nil)) pa_nil)))
      (pss_one (ps_ret (pe_op op_cat (pe_slice sl_list (pv 0) (po_some (pv 1)) po_none) (pe_slice sl_list (pv 0) po_none (po_some (pv 1))))))), ?_⟩
    refine ⟨_, rfl, .inl ⟨rfl, _, SqL.of h1⟩, _, rfl, p, ri r, rfl, SqL.of h1, by rw [ri, List.length_map]; exact r0, fun m m1 m2 => ?_⟩
    obtain ⟨t, n, rfl, ht, hf⟩ := first_at m1
    refine ⟨p, nv r, _, t, _, rfl, rfl, SqL.of h1, rfl, nv_flat r, nv_get ht, by rw [eqV_nat]; simp, fun i z hi hz => ?_, ?_⟩
    · have hi' : i < r.length := by
        have := idx_lt ht
        omega
      rw [nv_get (List.getElem?_eq_getElem hi')] at hz
      cases hz
      rw [eqV_nat]
      exact decide_eq_false (hf i hi _ (List.getElem?_eq_getElem hi'))
    have ht' := idx_lt ht
    refine ⟨_, rfl, _, rfl, _, rfl, p, _, rfl, SqL.of h1, fun q1 hq1 => ?_⟩
    refine ⟨_, rfl, _, rfl, _, rfl, p, _, rfl, SqL.of (kept h1 hq1), fun q2 hq2 => ?_⟩
    refine ⟨q1, q2, _, _, rfl, rfl, kept upd_same hq2, upd_same, ?_, fun q3 hq3 => ?_⟩
    · rw [cutV_drop, cutV_take, List.length_drop, List.length_take, nv_len]
      exact lsize' (by omega)
    · refine kk t q3 _ ht' (fun i hi => ?_) (nodup_none (nodup_none hq3)) (same_upd (same_upd (same_new hq1) hq2) hq3) ?_
      · have := m2 (r.getD i 0 : Nat) (List.mem_map.mpr ⟨r.getD i 0, by rw [List.getD_eq_getElem?_getD, List.getElem?_eq_getElem hi]; exact List.getElem_mem hi, rfl⟩)
        rw [List.getD_eq_getElem?_getD, ht]
        show n ≤ _
        omega
      · rw [upd_same, cutV_drop, cutV_take, nv_drop, nv_take, nv_app]
end

end Fold
namespace Fold
open PySem PySem.Spec PyProof.Rows L2
section
variable {P : Program} {w : World} {K : PySem.W.Frag} {mg : Str → Option Value} {base : Heap} {a : Ad}
def sp_weigh_reach : Sp := fun vs H Q _ => ∃ (b : Nat) (r : Addr) (row : List Int), vs = [.int b, .ref r] ∧ (2 ≤ b ∧ b ≤ 12) ∧ H r = some (.tup (row.map V.int)) ∧ OkS b (.weigh row) ∧
  ∀ (T : Nat) H', Tame (mk b (.weigh row)) T → Same H H' → Q (.int (T : Int)) H'
/-- whether eight numbers of figures on end are enough -/
def enough (b g F i : Nat) : Bool := decide (g * (b - 1) * (F + i) < b ^ (F + i - 1))
theorem enough_max {b g F : Nat} (h1 : 2 ≤ b) (h2 : b ≤ 12) (hg : g ≤ 12) (hF : F = figMax b) (i : Nat) : enough b g F i = true := by
  obtain ⟨q1, q2, q3, q4⟩ := figMax_ok h1 h2
  have h := grows (F := F) (g := 12) h1 (by omega) (by rw [hF]; exact q1) i
  refine decide_eq_true (Nat.lt_of_le_of_lt ?_ h)
  exact Nat.mul_le_mul_right _ (Nat.mul_le_mul_right _ hg)
theorem ok_weigh_reach (T : Txt K mg a) : C0 P w K mg base 2 "weigh_reach" sp_weigh_reach := by
  have c_power_of := ok_power_of (P := P) (w := w) (base := base) T
  refine T.d_weigh_reach.c0 sc_weigh_reach (fun vs H Q E h => ?_) (fun f cdv A outer s H vs Q E hr h => ?_)
  · obtain ⟨b, r, row, rfl, _⟩ := h
    rfl
  · obtain ⟨b, r, row, rfl, hb, h1, ho, kk⟩ := h
    obtain ⟨o1, o2, o3⟩ := id ho
    refine ⟨_, (pss_cons (ps_set (i := 2) sc_weigh_reach.nd rfl (Or.inr rfl) (pe_callB (cr_max rfl) (by rfl) T.n_max b_max (pa_cons (pe_op op_cat (pe_lst (pa_cons pe_int pa_nil)) (pe_lc (own := [("weight", 4)]) (g := gName 4) rfl sc_weigh_reach.nd (pi_tup (pv 1)) (blkOk_by (N := ["base", "row", "great", "figures", "weight", "some"]) (sc := defScope s_weigh_reach) (by decide +kernel)) (fun _ _ _ _ _ => (pg_name (i := 4) sc_weigh_reach.nd rfl (Or.inl rfl))) (fun _ _ _ _ _ => pts_nil) (fun _ _ _ _ _ => (pe_callB call_abs (by rfl) T.n_abs b_abs (pa_cons (pv 4) pa_nil))))) pa_nil)))
      (pss_cons (ps_set (i := 3) sc_weigh_reach.nd rfl (Or.inl rfl) pe_int)
      (pss_cons (ps_while PassesOwn.never (pt_not (pt_val (pe_callB (cr_all rfl) (by rfl) T.n_all b_all (pa_cons (pe_lc (own := [("some", 5)]) (g := gName 5) rfl sc_weigh_reach.nd (pi_range2 (by rfl) T.n_range (pa_cons (pv 3) (pa_cons (pe_op op_add (pv 3) pe_int) pa_nil))) (blkOk_by (N := ["base", "row", "great", "figures", "weight", "some"]) (sc := defScope s_weigh_reach) (by decide +kernel)) (fun _ _ _ _ _ => (pg_name (i := 5) sc_weigh_reach.nd rfl (Or.inl rfl))) (fun _ _ _ _ _ => pts_nil) (fun _ _ _ _ _ => (pe_cmpR op_gt (pe_0 c_power_of hr (by decide) (pa_cons (pv 0) (pa_cons (pe_op op_sub (pv 5) pe_int) pa_nil))) (pe_op op_mul (pe_op op_mul (pv 2) (pe_op op_sub (pv 0) pe_int)) (pv 5)) (nomark _)))) pa_nil)))) (pss_one (ps_aug (i := 3) sc_weigh_reach.nd rfl (Or.inl rfl) pe_int ip_add)))
      (pss_one (ps_ret (pe_0 c_power_of hr (by decide) (pa_cons (pv 0) (pa_cons (pe_op op_sub (pv 3) pe_int) pa_nil)))))))), ?_⟩
    refine ⟨(by show 1 ≤ sizeLine; decide), fun l hl => ⟨_, rfl, r, rfl, ⟨_, SqT.of (kept h1 hl)⟩, fun D hD => ?_⟩⟩
    refine lc_tupM (fun v => .int (intOf v).natAbs) (kept h1 hl) hD (by rw [List.length_map]; exact small6 o2) (fun _ => rfl) ?_ ?_
    · intro i v hi H' Q' s' q
      obtain ⟨x, _, rfl⟩ := List.mem_map.mp (List.mem_of_getElem? hi)
      refine ⟨_, rfl, _, rfl, ?_⟩
      rw [abs_nat]
      exact q
    refine ⟨l, D, _, _, rfl, rfl, kept upd_same hD, upd_same, ?_, fun p hp => ?_⟩
    · rw [List.length_map, List.length_map]
      show 1 + row.length ≤ sizeLine
      exact Nat.le_of_lt (lsize (by omega))
    have sp := same_upd (same_upd (same_new (o := HO.lst [.int 1]) hl) (o := HO.lst ((row.map V.int).map fun v => V.int (intOf v).natAbs)) hD) (o := HO.lst ([V.int 1] ++ (row.map V.int).map fun v => V.int (intOf v).natAbs)) hp
    refine ⟨p, (1 : Int) :: row.map (fun x => ((x.natAbs : Nat) : Int)), rfl, SqL.of ?_, Nat.succ_pos _, fun g g1 g2 => ?_⟩
    · rw [upd_same, List.map_cons, List.map_map, List.map_map]; rfl
    have g0 : 1 ≤ g := g2 1 List.mem_cons_self
    have g12 : g ≤ 12 := by
      rcases List.mem_cons.mp g1 with e | m
      · omega
      · obtain ⟨x, hx, rfl⟩ := List.mem_map.mp m
        have := o3 x hx
        omega
    have hw : ∀ v ∈ row, v.natAbs ≤ g.toNat := fun v hv => by
      have := g2 _ (List.mem_cons_of_mem _ (List.mem_map.mpr ⟨v, hv, rfl⟩))
      omega
    obtain ⟨g, rfl⟩ := Int.eq_ofNat_of_zero_le (show 0 ≤ g by omega)
    rw [Int.toNat_natCast] at hw
    generalize hG : upd (upd (upd H l _) D _) p _ = G
    rw [hG] at sp
    clear hG
    have hp0 : ∀ F : Nat, F ≤ figMax b → F ≤ 8 := fun F h => by
      obtain ⟨q1, q2, q3, q4⟩ := figMax_ok hb.1 hb.2
      omega
    refine ⟨fun m σ H' => Same H H' ∧ ∃ F : Nat, m = 8 - F ∧ 1 ≤ F ∧ F ≤ figMax b ∧ σ = [some (.int b), some (.ref r), some (.int g), some (.int F), none, none], ⟨_, sp, 1, rfl, Nat.le_refl _, (figMax_ok hb.1 hb.2).2.2.2, rfl⟩, ?_⟩
    rintro m σ H' ⟨s', F, rfl, F1, F2, rfl⟩
    have F8 := hp0 F F2
    have e8 : ((F : Int) + 8 - (F : Int)).toNat = 8 := by omega
    refine ⟨_, rfl, _, rfl, _, _, rfl, rfl, _, _, rfl, ⟨by omega, by omega, by omega, by omega⟩, fun D2 hD2 => ?_⟩
    refine lc_rangeM (fun i => .bl (enough b g F i)) hD2 (by rw [e8]; decide) (fun _ => rfl) ?_ ?_
    · intro i hi H2 Q' s2 q
      have hi : i < 8 := by omega
      have z1 : (F : Int) + (i : Int) - 1 = ((F + i - 1 : Nat) : Int) := by omega
      have z2 : (b : Int) - 1 = ((b - 1 : Nat) : Int) := by omega
      have z3 : (F : Int) + (i : Int) = ((F + i : Nat) : Int) := by omega
      refine ⟨_, rfl, _, rfl, _, _, rfl, rfl, _, _, rfl, ⟨by omega, by omega⟩, ⟨by omega, by omega⟩, _, rfl, _, rfl, _, _, rfl, rfl, _, _, rfl, rfl, .inl ⟨by omega, by omega⟩, _, rfl, _, _, rfl, rfl, .inr ⟨by omega, by omega⟩, _, _, rfl, rfl, q_eq q ?_⟩
      rw [z1, z2, z3, enough]
      show V.bl (decide _) = V.bl (decide _)
      congr 1
      refine decide_eq_decide.mpr ?_
      rw [Int.toNat_natCast, Int.toNat_natCast, ← Int.natCast_mul, ← Int.natCast_mul]
      exact ⟨fun h => by omega, fun h => by omega⟩
    refine ⟨D2, (List.range 8).map (enough b g F), rfl, SqL.of (by rw [upd_same, e8, List.map_map]; rfl), _, rfl, ?_⟩
    have s3 := same_upd s' (o := HO.lst ((List.range ((F : Int) + 8 - (F : Int)).toNat).map fun i => V.bl (enough b g F i))) hD2
    cases c : ((List.range 8).map (enough b g F)).all id with
    | true =>
      refine iteF ?_
      have c0 : enough b g F 0 = true := by
        rw [List.all_eq_true] at c
        exact c _ (List.mem_map.mpr ⟨0, by simp, rfl⟩)
      have c0 : g * (b - 1) * F < b ^ (F - 1) := of_decide_eq_true c0
      have hT : b ^ (F - 1) ≤ 2000 := Nat.le_trans (Nat.pow_le_pow_right (by omega) (Nat.sub_le_sub_right F2 1)) (figMax_ok hb.1 hb.2).2.1
      refine ⟨_, rfl, _, rfl, _, _, rfl, rfl, _, _, rfl, ⟨by omega, by omega⟩, ⟨by omega, by omega⟩, ?_⟩
      refine q_eq (kk (b ^ (F - 1)) _ (tame_weigh hb.1 ho hw F1 c0 (by omega)) s3) ?_
      congr 2
      rw [Int.toNat_natCast, show ((F : Int) - 1).toNat = F - 1 by omega]
    | false =>
      refine iteT ?_
      have Fm : F + 1 ≤ figMax b := by
        refine Nat.lt_of_le_of_ne F2 fun e => ?_
        have : ((List.range 8).map (enough b g F)).all id = true := by
          rw [List.all_eq_true]
          intro x hx
          obtain ⟨i, _, rfl⟩ := List.mem_map.mp hx
          exact enough_max hb.1 hb.2 (by omega) e i
        rw [c] at this
        cases this
      refine ⟨_, fun _ _ h => h, _, rfl, _, _, rfl, rfl, 8 - (F + 1), ?_, s3, F + 1, rfl, by omega, Fm, rfl⟩
      have := hp0 _ (Nat.le_refl (figMax b))
      omega
def sp_reach : Sp := fun vs H Q _ => ∃ (b : Nat) (p : Addr) (s : Stp), vs = [.int b, .ref p] ∧ (2 ≤ b ∧ b ≤ 12) ∧ StepAt H p s ∧ OkS b s ∧
  (endB b s = true → ∀ (T : Nat) H', Tame (mk b s) T → Same H H' → Q (.int (T : Int)) H') ∧ (endB b s = false → Q .non H)
theorem ok_reach (T : Txt K mg a) : C0 P w K mg base 3 "reach" sp_reach := by
  have c_weigh_reach := ok_weigh_reach (P := P) (w := w) (base := base) T; have c_fold_reach := ok_fold_reach (P := P) (w := w) (base := base) T
  refine T.d_reach.c0 sc_reach (fun vs H Q E h => ?_) (fun f cdv A outer s H vs Q E hr h => ?_)
  · obtain ⟨b, p, s, rfl, _⟩ := h
    rfl
  · obtain ⟨b, p, st, rfl, hb, hs, ho, kY, kN⟩ := h
    refine ⟨_, (pss_one (ps_ret (pe_ifExp (pt_cmpR op_eq (pe_ix ix_tup (pv 1) pe_int (fun _ _ => rfl)) pe_str (nomark _)) (pe_0 c_weigh_reach hr (by decide) (pa_cons (pv 0) (pa_cons (pe_ix ix_tup (pv 1) pe_int (fun _ _ => rfl)) pa_nil))) (pe_0 c_fold_reach hr (by decide) (pa_cons (pv 0) (pa_cons (pv 1) pa_nil)))))), ?_⟩
    cases st with
    | weigh row =>
      obtain ⟨r, h1, h2⟩ := hs
      exact ⟨_, rfl, _, _, _, _, rfl, rfl, SqT.of h1, rfl, rfl, _, rfl, iteT' (by decide +kernel) ⟨_, rfl, _, rfl, _, _, _, _, rfl, rfl, SqT.of h1, rfl, b, r, row, rfl, hb, h2, ho, fun T H' t s' => kY rfl T H' t s'⟩⟩
    | fold kk x y =>
      have h1 : H p = _ := hs
      refine ⟨_, rfl, _, _, _, _, rfl, rfl, SqT.of h1, rfl, rfl, _, rfl, iteF' (by decide +kernel) ⟨_, rfl, _, rfl, b, p, kk, x, y, rfl, hb, h1, ho, ?_⟩⟩
      by_cases c : b ^ kk ≤ x.natAbs
      · rw [freach, if_pos c]
        exact kN (decide_eq_false (by omega))
      · rw [freach, if_neg c]
        exact kY (decide_eq_true (by omega)) _ H (tame_reach hb.1 ho (by omega)) (Same.refl _)
end

end Fold
namespace Fold
open PySem PySem.Spec PyProof.Rows L2
section
variable {P : Program} {w : World} {K : PySem.W.Frag} {mg : Str → Option Value} {base : Heap} {a : Ad}
theorem same_none {H H' : Hp} {p : Addr} (s : Same H H') (h : H' p = none) : H p = none := by
  cases e : H p with
  | none => rfl
  | some o => rw [s _ _ e] at h; cases h
theorem LLAt.ne {H : Hp} {F d : Addr} {ts : List Addr} {k : Addr → List Nat} (h : LLAt H F ts k) (hd : ∀ xs, H d ≠ some (.lst xs)) : F ≠ d ∧ ∀ t ∈ ts, t ≠ d := by
  refine ⟨fun e => hd _ (e ▸ h.1), fun t ht e => hd _ (e ▸ h.2 t ht)⟩
theorem LLAt.put {H : Hp} {F d : Addr} {o : HO} {ts : List Addr} {k : Addr → List Nat} (h : LLAt H F ts k) (h1 : F ≠ d) (h2 : ∀ t ∈ ts, t ≠ d) : LLAt (upd H d o) F ts k :=
  ⟨by rw [upd_ne h1]; exact h.1, fun t ht => by rw [upd_ne (h2 t ht)]; exact h.2 t ht⟩
theorem LLAt.mono {H H' : Hp} {F : Addr} {ts : List Addr} {k : Addr → List Nat} (s : Same H H') (h : LLAt H F ts k) : LLAt H' F ts k := ⟨s _ _ h.1, fun t ht => s _ _ (h.2 t ht)⟩
theorem LLAt.new {H : Hp} {F d : Addr} {ts : List Addr} {k : Addr → List Nat} (h : LLAt H F ts k) (hd : H d = none) : F ≠ d ∧ ∀ t ∈ ts, t ≠ d :=
  h.ne fun xs e => by rw [hd] at e; cases e
def oldW (i : Nat) (v : V) : Prop := ∃ j : Nat, j < i ∧ v = .int (j : Int)
/-- the state of the search -/
structure AR (W : Nat → V → Prop) (H H' : Hp) (d F : Addr) (f : Nat → Nat) (i : Nat) (ps : List (Nat × V)) (ts : List Addr) (k : Addr → List Nat) : Prop where
  same : Same H H'
  d0 : H d = none
  F0 : H F = none
  dd : H' d = some (.dK (pk ps))
  ff : LLAt H' F ts k
  tF : ∀ t ∈ ts, t ≠ F
  t0 : ∀ t ∈ ts, H t = none
  sr : Srch f 1000000 (fun x => x ∈ keys ps) (ts.map k)
  low : ∀ x, x < i → x ∈ keys ps
  old : ∀ e ∈ ps, W i e.2
  nd : (keys ps).Nodup
  len : ts.length ≤ i
theorem keys_len {f : Nat → Nat} {b n : Nat} {ps : List (Nat × V)} {v : V} {F : List (List Nat)} (nd : (keys ps).Nodup) (s : Srch f 1000000 (fun x => x ∈ keys ps) F) (p : Path f 1000000 (fun x => x ∈ keys ps) b n) :
    (keys (ps ++ (orb f b n).map fun x => (x, v))).Nodup ∧ (ps ++ (orb f b n).map fun x => (x, v)).length ≤ 1000000 := by
  have h : (keys (ps ++ (orb f b n).map fun x => (x, v))).Nodup := by
    rw [keys_app, keys_row, List.nodup_append]
    refine ⟨nd, p.nd, fun x hx y hy e => ?_⟩
    subst e
    obtain ⟨i, hi, rfl⟩ := orb_mem.mp hy
    exact p.new i hi hx
  refine ⟨h, ?_⟩
  have := nodup_bound 1000000 _ h fun x hx => by
    rw [keys_app, keys_row] at hx
    rcases List.mem_append.mp hx with h1 | h1
    · exact s.lt x h1
    · obtain ⟨i, _, rfl⟩ := orb_mem.mp h1
      exact p.lt i
  rw [keys, List.length_map] at this
  exact this
theorem mem_row {f : Nat → Nat} {b n x : Nat} {ps : List (Nat × V)} {v : V} : x ∈ keys (ps ++ (orb f b n).map fun x => (x, v)) ↔ x ∈ keys ps ∨ x ∈ orb f b n := by
  rw [keys_app, keys_row, List.mem_append]
theorem AR.lowS {W : Nat → V → Prop} {H H' : Hp} {d F : Addr} {f : Nat → Nat} {i n : Nat} {ps : List (Nat × V)} {ts : List Addr} {k : Addr → List Nat} (A : AR W H H' d F f i ps ts k) (v : V) (h : it f n i ∈ keys ps ∨ 0 < n) : ∀ x, x < i + 1 → x ∈ keys (ps ++ (orb f i n).map fun x => (x, v)) := by
  intro x hx
  rw [mem_row]
  by_cases e : x = i
  · subst e
    by_cases n0 : 0 < n
    · exact .inr (orb_mem.mpr ⟨0, n0, rfl⟩)
    · obtain rfl : n = 0 := by omega
      rcases h with h | h
      · exact .inl h
      · omega
  · exact .inl (A.low x (by omega))
theorem AR.oldS {H H' : Hp} {d F : Addr} {f : Nat → Nat} {i n : Nat} {ps : List (Nat × V)} {ts : List Addr} {k : Addr → List Nat} (A : AR oldW H H' d F f i ps ts k) : ∀ e ∈ ps ++ (orb f i n).map fun x => (x, V.int (i : Int)), oldW (i + 1) e.2 := by
  intro e he
  rcases List.mem_append.mp he with h | h
  · obtain ⟨j, hj, q⟩ := A.old e h
    exact ⟨j, by omega, q⟩
  · obtain ⟨x, _, rfl⟩ := List.mem_map.mp h
    exact ⟨i, by omega, rfl⟩
def sp_all_rings : Sp := fun vs H Q _ => ∃ (b : Nat) (p : Addr) (s : Stp) (T : Nat), vs = [.int b, .ref p, .int T] ∧ (2 ≤ b ∧ b ≤ 12) ∧ StepAt H p s ∧ OkS b s ∧ Tame (mk b s) T ∧
  ∀ q ts k H', Same H H' → H q = none → (∀ t ∈ ts, H t = none) → LLAt H' q ts k → Rings (mk b s) (ts.map k) → ts.length ≤ 50000 → (∀ t ∈ ts, t ≠ q) → Q (.ref q) H'
theorem ok_all_rings (T : Txt K mg a) : C0 P w K mg base 3 "all_rings" sp_all_rings := by
  have c_after := ok_after (P := P) (w := w) (base := base) T; have c_from_least := ok_from_least (P := P) (w := w) (base := base) T
  refine T.d_all_rings.c0 sc_all_rings (fun vs H Q E h => ?_) (fun f cdv A outer s H vs Q E hr h => ?_)
  · obtain ⟨b, p, st, top, rfl, _⟩ := h
    rfl
  · obtain ⟨b, p, st, top, rfl, hb, hs, ho, tame, kk⟩ := h
    refine ⟨_, (pss_cons (ps_set (i := 3) sc_all_rings.nd rfl (Or.inl rfl) pe_dnewK)
      (pss_cons (ps_set (i := 4) sc_all_rings.nd rfl (Or.inl rfl) (pe_lst pa_nil))
      (pss_cons (ps_for PassesOwn.never rfl (pi_range1 (by rfl) T.n_range (pa_cons (pv 2) pa_nil)) (pg_name (i := 5) sc_all_rings.nd rfl (Or.inl rfl)) (pss_cons (ps_set (i := 6) sc_all_rings.nd rfl (Or.inl rfl) (pe_lst pa_nil))
      (pss_cons (ps_set (i := 7) sc_all_rings.nd rfl (Or.inl rfl) (pv 5))
      (pss_cons (ps_while PassesOwn.never (pt_cmp (pc_dnotin (hu_of hr) (pv 7) (pv 3))) (pss_cons (ps_dput (hu_of hr) (pv 3) (pv 7) (pv 5) rfl)
      (pss_cons (ps_expr (pe_bm PySem.F.plainAttrs_list PySem.F.slot_list_append PySem.F.type_list_append mt_append (pv 6) (pa_cons (pv 7) pa_nil)))
      (pss_one (ps_set (i := 7) sc_all_rings.nd rfl (Or.inl rfl) (pe_0 c_after hr (by decide) (pa_cons (pv 0) (pa_cons (pv 1) (pa_cons (pv 7) pa_nil)))))))))
      (pss_one (ps_if (pt_cmpR op_eq (pe_dget (hu_of hr) (pv 3) (pv 7) (fun _ _ => rfl)) (pv 5) (nomark _)) (pss_one (ps_expr (pe_bm PySem.F.plainAttrs_list PySem.F.slot_list_append PySem.F.type_list_append mt_append (pv 4) (pa_cons (pe_0 c_from_least hr (by decide) (pa_cons (pe_slice sl_list (pv 6) (po_some (pe_bm PySem.F.plainAttrs_list PySem.F.slot_list_index PySem.F.type_list_index mt_index (pv 6) (pa_cons (pv 7) pa_nil))) po_none) pa_nil)) pa_nil)))) pss_nil))))))
      (pss_one (ps_ret (pe_callB (cr_sortedLL (hu64 hr)) (by rfl) T.n_sorted b_sorted (pa_cons (pv 4) pa_nil))))))), ?_⟩
    have top5 := tame.le
    refine fun d hd => ⟨by show 0 ≤ sizeLine; decide, fun F hF => ?_⟩
    have hF0 : H F = none := nodup_none hF
    refine ⟨_, rfl, _, rfl, by omega, by omega, for_range (fun i σ H' => ∃ ps ts k v5 v6 v7, σ = [some (.int b), some (.ref p), some (.int top), some (.ref d), some (.ref F), v5, v6, v7] ∧ AR oldW H H' d F (mk b st) i ps ts k) ?_ ?_ ?_⟩
    · refine ⟨[], [], fun _ => [], none, none, none, rfl, (same_new hd).trans (same_new hF), hd, hF0, kept upd_same hF, ⟨upd_same, fun _ m => (nomatch m)⟩, fun _ m => (nomatch m), fun _ m => (nomatch m), Srch.start _ _ fun x m => (nomatch m), fun x h => by omega, fun _ m => (nomatch m), List.nodup_nil, Nat.le_refl _⟩
    · rintro i σ H1 hi ⟨ps, ts, k, v5, v6, v7, rfl, A1⟩
      have hi' : i < top := by omega
      have z0 : (0 + (i : Int)) = (i : Int) := Int.zero_add _
      refine ⟨by show 0 ≤ sizeLine; decide, fun R hR => ⟨_, rfl, ?_⟩⟩
      rw [z0]
      have hR0 : H R = none := same_none A1.same hR
      obtain ⟨nFR, ntR⟩ := A1.ff.new hR
      have nFd : F ≠ d := (A1.ff.ne fun xs e => by rw [A1.dd] at e; cases e).1
      have ntd : ∀ t ∈ ts, t ≠ d := (A1.ff.ne fun xs e => by rw [A1.dd] at e; cases e).2
      have nRd : R ≠ d := fun e => by
        rw [e, A1.dd] at hR; cases hR
      have hlt : ∀ n, it (mk b st) n i < 1000000 := fun n => tame.its n i (by omega)
      refine g_seq ?_
      refine ⟨fun m σ H' => ∃ n : Nat, m = 1000000 - n ∧ σ = [some (.int b), some (.ref p), some (.int top), some (.ref d), some (.ref F), some (.int (i : Int)), some (.ref R), some (.int (it (mk b st) n i : Nat))] ∧ Same H H' ∧
        H' d = some (.dK (pk (ps ++ (orb (mk b st) i n).map fun x => (x, V.int (i : Int))))) ∧ LLAt H' F ts k ∧ H' R = some (.lst (nv (orb (mk b st) i n))) ∧ Path (mk b st) 1000000 (fun x => x ∈ keys ps) i n, ⟨_, 0, rfl, rfl, A1.same.trans (same_new hR), ?_, A1.ff.put nFR ntR, upd_same, ⟨fun _ h => by omega, List.nodup_nil, hlt⟩⟩, ?_⟩
      · rw [upd_ne nRd.symm, A1.dd]
        show _ = some (HO.dK (pk (ps ++ [])))
        rw [List.append_nil]
      rintro m σ H2 ⟨n, rfl, rfl, s2, hd2, hF2, hR2, pth⟩
      obtain ⟨kn, kl⟩ := keys_len (v := V.int (i : Int)) A1.nd A1.sr pth
      refine ⟨_, rfl, _, rfl, d, _, rfl, dget _ hd2, _, rfl, ?_⟩
      by_cases c : it (mk b st) n i ∈ keys (ps ++ (orb (mk b st) i n).map fun x => (x, V.int (i : Int)))
      · obtain ⟨v, hv, hm⟩ := look_some c
        rw [hv]
        refine iteF' rfl ?_
        obtain ⟨jv, hjv, rfl⟩ : ∃ j : Nat, j < i + 1 ∧ v = .int (j : Int) := A1.oldS _ hm
        refine ⟨_, rfl, _, rfl, d, _, rfl, by rw [← hv]; exact dget _ hd2, _, rfl, rfl, _, rfl, ?_⟩
        by_cases c2 : it (mk b st) n i ∈ keys ps
        · -- a number met before
          have hj : jv < i := by
            obtain ⟨v', hv', hm'⟩ := look_some c2
            rw [look_app, hv'] at hv
            cases hv
            obtain ⟨j, hj, e⟩ := A1.old _ hm'
            injection e with e
            omega
          refine iteF' ?_ ?_
          · rw [dec_int]
            exact decide_eq_false (by omega)
          refine ⟨_, ts, k, _, _, _, rfl, s2, A1.d0, A1.F0, hd2, hF2, A1.tF, A1.t0, A1.sr.old pth c2 fun x => mem_row, A1.lowS _ (.inl c2), A1.oldS, kn, by have := A1.len; omega⟩
        · have c3 : it (mk b st) n i ∈ orb (mk b st) i n := (mem_row.mp c).resolve_left c2
          have ev : (jv : Int) = (i : Int) := by
            rw [look_app, look_none c2, look_row _ _ _ c3] at hv
            injection hv with hv
            injection hv with hv
            exact hv.symm
          refine iteT' ?_ ?_
          · rw [dec_int]
            exact decide_eq_true ev
          obtain ⟨j, hj, ej⟩ := orb_mem.mp c3
          refine ⟨_, rfl, .inl ⟨rfl, _, SqL.of hF2.1⟩, _, rfl, _, rfl, .inl ⟨rfl, _, SqL.of hR2⟩, _, rfl, R, _, _, j, _, rfl, rfl, SqL.of hR2, rfl, nv_flat _, nv_get (orb_get hj), by rw [eqV_nat]; exact decide_eq_true ej, fun m z hm hz => ?_, _, rfl, R, _, rfl, SqL.of hR2, fun q1 hq1 => ?_⟩
          · rw [nv_get (orb_get (by omega))] at hz
            cases hz
            rw [eqV_nat]
            refine decide_eq_false fun e => ?_
            rw [← ej] at e
            have nd := pth.nd
            rw [orb, List.Nodup, List.pairwise_map] at nd
            have := List.pairwise_iff_getElem.mp nd m j (by rw [List.length_range]; omega) (by rw [List.length_range]; omega) hm
            rw [List.getElem_range, List.getElem_range] at this
            exact this e
          have nle := pth.le
          rw [cutV_drop, nv_drop, pth.drop hj]
          refine ⟨q1, orb (mk b st) (it (mk b st) j i) (n - j), rfl, upd_same, by rw [orb_len]; omega, by rw [orb_len]; omega, fun t q H3 ht hl hq s3 hq3 => ?_⟩
          rw [orb_len] at ht
          have hFn := hF2.new hq1
          obtain ⟨nFq, ntq⟩ := (hF2.put (o := HO.lst (nv (orb (mk b st) (it (mk b st) j i) (n - j)))) hFn.1 hFn.2).new hq
          have hF3 := ((hF2.put (o := HO.lst (nv (orb (mk b st) (it (mk b st) j i) (n - j)))) hFn.1 hFn.2).mono s3)
          have s23 := (same_new (o := HO.lst (nv (orb (mk b st) (it (mk b st) j i) (n - j)))) hq1).trans s3
          have hd3 := s23 _ _ hd2
          have hqH : H q = none := same_none s2 (nodup_none hq)
          refine ⟨F, _, _, rfl, rfl, hF3.1, ?_, ?_⟩
          · rw [List.length_map]
            have := A1.len
            exact lsize (by omega)
          let r' := (orb (mk b st) (it (mk b st) j i) (n - j)).drop t ++ (orb (mk b st) (it (mk b st) j i) (n - j)).take t
          have ek : (ts ++ [q]).map (fun x => if x = q then r' else k x) = ts.map k ++ [r'] := by
            rw [List.map_append]
            congr 1
            · refine List.map_congr_left fun x hx => ?_
              rw [if_neg (ntq x hx)]
            · show [if q = q then r' else k q] = [r']
              rw [if_pos rfl]
          refine ⟨_, ts ++ [q], fun x => if x = q then r' else k x, _, _, _, rfl, same_put (s2.trans s23) A1.F0, A1.d0, A1.F0, by rw [upd_ne nFd.symm]; exact hd3, ⟨by rw [upd_same, List.map_append]; rfl, fun x hx => ?_⟩, fun x hx => ?_, fun x hx => ?_, ?_, A1.lowS _ (.inr (by omega)), A1.oldS, kn, by have := A1.len; rw [List.length_append]; show ts.length + 1 ≤ _; omega⟩
          · rcases List.mem_append.mp hx with h | h
            · rw [upd_ne (A1.tF x h)]
              show H3 x = some (HO.lst (nv (if x = q then r' else k x)))
              rw [if_neg (ntq x h)]
              exact hF3.2 x h
            · rw [List.mem_singleton.mp h, upd_ne nFq.symm]
              show H3 q = some (HO.lst (nv (if q = q then r' else k q)))
              rw [if_pos rfl]
              exact hq3
          · rcases List.mem_append.mp hx with h | h
            · exact A1.tF x h
            · rw [List.mem_singleton.mp h]; exact nFq.symm
          · rcases List.mem_append.mp hx with h | h
            · exact A1.t0 x h
            · rw [List.mem_singleton.mp h]; exact hqH
          · rw [ek]
            refine A1.sr.new pth hj ej.symm (Nat.le_of_lt ht) (fun i' hi' => ?_) fun x => mem_row
            have := hl i' (by rw [orb_len]; exact hi')
            rw [List.getD_eq_getElem?_getD, List.getD_eq_getElem?_getD, orb_get ht, orb_get hi'] at this
            exact this
      · rw [look_none c]
        have c' := fun h => c (mem_row.mpr h)
        have nlt := pth.less (fun h => c' (.inl h)) (fun h => c' (.inr h))
        refine iteT' rfl ?_
        refine ⟨_, fun _ _ h => h, _, rfl, _, rfl, _, rfl, d, _, rfl, dput hd2 c (lsize kl), ?_⟩
        have hR3 : upd H2 d (.dK (pk ((ps ++ (orb (mk b st) i n).map fun x => (x, V.int (i : Int))) ++ [(it (mk b st) n i, V.int (i : Int))]))) R = some (.lst (nv (orb (mk b st) i n))) := by
          rw [upd_ne nRd]; exact hR2
        have hF3 := hF2.put (o := .dK (pk ((ps ++ (orb (mk b st) i n).map fun x => (x, V.int (i : Int))) ++ [(it (mk b st) n i, V.int (i : Int))]))) nFd ntd
        have s3 := same_put (o := .dK (pk ((ps ++ (orb (mk b st) i n).map fun x => (x, V.int (i : Int))) ++ [(it (mk b st) n i, V.int (i : Int))]))) s2 A1.d0
        refine ⟨_, rfl, .inl ⟨rfl, _, SqL.of hR3⟩, _, rfl, R, _, _, rfl, rfl, hR3, by rw [nv_len, orb_len]; exact lsize pth.le, ?_⟩
        have s4 := same_put (o := .lst (nv (orb (mk b st) i n) ++ [.int (it (mk b st) n i : Nat)])) s3 hR0
        refine ⟨_, rfl, _, rfl, _, rfl, b, p, _, st, rfl, by omega, hs.mono s4, ho, by omega, 1000000 - (n + 1), by omega, n + 1, rfl, ?_, s4, ?_, hF3.put nFR ntR, ?_, pth.more (fun h => c' (.inl h)) (fun h => c' (.inr h))⟩
        · rw [it_one]; rfl
        · rw [upd_ne nRd.symm, upd_same, orb_succ, List.map_append, List.append_assoc]; rfl
        · rw [upd_same, orb_succ, nv_snoc]
    · rintro σ H1 ⟨ps, ts, k, v5, v6, v7, rfl, A1⟩
      have hlen : ts.length ≤ 50000 := by have := A1.len; omega
      refine ⟨_, rfl, F, ts, fun t => ri (k t), rfl, SqL.of A1.ff.1, A1.ff.2, fun ts' q hp hs' hq => ?_⟩
      have hm := A1.sr.done (T := top) (fun x hx => A1.low x (by omega)) tame.less
      obtain ⟨nFq, ntq⟩ := A1.ff.new hq
      have pm : (ts'.map k).Perm (ts.map k) := hp.map k
      refine kk q ts' k _ (A1.same.trans (same_new hq)) (same_none A1.same hq) (fun t ht => A1.t0 t (hp.mem_iff.mp ht)) ⟨upd_same, fun t ht => ?_⟩ ⟨pm.nodup_iff.mpr A1.sr.nd, fun r => (pm.mem_iff).trans (hm r), ?_⟩ (by rw [hp.length_eq]; exact hlen) fun t ht => ntq t (hp.mem_iff.mp ht)
      · have := hp.mem_iff.mp ht
        rw [upd_ne (ntq t this)]
        exact A1.ff.2 t this
      · rw [List.pairwise_map]
        exact hs'
end

end Fold
namespace Fold
open PySem PySem.Spec PyProof.Rows L2
section
variable {P : Program} {w : World} {K : PySem.W.Frag} {mg : Str → Option Value} {base : Heap} {a : Ad}
theorem inV_nv (n : Nat) (l : List Nat) : inV (.int (n : Int)) (nv l) = decide (n ∈ l) := by
  induction l with
  | nil => rfl
  | cons x l ih =>
    have e : nv (x :: l) = .int (x : Int) :: nv l := rfl
    rw [e]
    show (eqV _ _ || inV _ _) = _
    rw [ih, eqV_nat, Bool.eq_iff_iff]
    simp only [Bool.or_eq_true, decide_eq_true_eq, List.mem_cons]
    exact ⟨fun h => h.imp (fun e => by omega) id, fun h => h.imp (fun e => by omega) id⟩
/-- all that rings tells -/
structure RgAt (H H' : Hp) (b : Nat) (s : Stp) (q : Addr) (ts : List Addr) (k : Addr → List Nat) (T : Nat) : Prop where
  same : Same H H'
  q0 : H q = none
  t0 : ∀ t ∈ ts, H t = none
  tq : ∀ t ∈ ts, t ≠ q
  at_ : LLAt H' q ts k
  rg : Rings (mk b s) (ts.map k)
  len : ts.length ≤ 50000
  tame : Tame (mk b s) T
def sp_rings (a : Ad) : Sp := fun vs H Q E => ∃ (v u : V), vs = [v, u] ∧ (∃ t, Kn H v t) ∧ KnT H u ∧
  (okB H v u = true → ∃ (b : Nat) (p : Addr) (s : Stp), v = .int b ∧ u = .ref p ∧ (2 ≤ b ∧ b ≤ 12) ∧ StepAt H p s ∧ OkS b s ∧
    (endB b s = true → ∀ q ts k T H', RgAt H H' b s q ts k T → Q (.ref q) H') ∧ (endB b s = false → ∀ H', Same H H' → Q .non H')) ∧ (okB H v u = false → ∀ H', Same H H' → E (.ref a.BadStep) none H')
theorem ok_rings (T : Txt K mg a) : C1 P w K mg base 5 "rings" (sp_rings a) := by
  have c_check_step := ok_check_step (P := P) (w := w) (base := base) T; have c_reach := ok_reach (P := P) (w := w) (base := base) T; have c_all_rings := ok_all_rings (P := P) (w := w) (base := base) T
  refine T.d_rings.c1 sc_rings (fun vs H Q E h => ?_) (fun f cdv A outer s H vs Q E hr h => ?_)
  · obtain ⟨v, u, rfl, _⟩ := h
    rfl
  · obtain ⟨v, u, rfl, kv, ku, kY, kN⟩ := h
    have tk := takes_of (X := cxOf (L2.CX P w) P w K mg base ["base", "step", "top"] "rings" (defScope s_rings) f cdv A outer s H E) rfl rfl rfl rfl
    refine ⟨_, (pss_cons (ps_expr (pe_1 c_check_step hr (by decide) tk (by exact (pa_cons (pv 0) (pa_cons (pv 1) pa_nil)))))
      (pss_cons (ps_set (i := 2) sc_rings.nd rfl (Or.inl rfl) (pe_0 c_reach hr (by decide) (pa_cons (pv 0) (pa_cons (pv 1) pa_nil))))
      (pss_one (ps_ret (pe_ifExp (pt_cmpR op_isN (pv 2) pe_non (nomark _)) pe_non (pe_0 c_all_rings hr (by decide) (pa_cons (pv 0) (pa_cons (pv 1) (pa_cons (pv 2) pa_nil))))))))), ?_⟩
    refine ⟨_, rfl, _, rfl, v, u, rfl, kv, ku, fun c H' s' => ?_, fun c H' s' => kN c H' s'⟩
    obtain ⟨b, p, st, rfl, rfl, hb, hs, ho, q1, q2⟩ := kY c
    refine ⟨_, rfl, _, rfl, b, p, st, rfl, hb, hs.mono s', ho, fun e top H2 tm s2 => ?_, fun e => ?_⟩
    · refine ⟨_, rfl, rfl, _, rfl, iteF' rfl ⟨_, rfl, _, rfl, _, rfl, b, p, st, top, rfl, hb, (hs.mono s').mono s2, ho, tm, fun q ts k H3 s3 q0 t0 l r n tq => ?_⟩⟩
      have s12 := s'.trans s2
      exact q1 e q ts k top H3 ⟨s12.trans s3, same_none s12 q0, fun t ht => same_none s12 (t0 t ht), tq, l, r, n, tm⟩
    · exact ⟨_, rfl, rfl, _, rfl, iteT' rfl (q2 e H' s')⟩
theorem Ring.ne {f : Nat → Nat} {r : List Nat} (h : Ring f r) : ∃ x l, r = x :: l := by
  obtain ⟨a, p, c, rfl, _⟩ := h
  obtain ⟨q, rfl⟩ : ∃ q, p = q + 1 := ⟨p - 1, by have := c.pos; omega⟩
  exact ⟨_, _, by rw [orb, List.range_succ_eq_map]; rfl⟩
theorem Tame.head {f : Nat → Nat} {T a p : Nat} (t : Tame f T) (c : Cyc f a p) (l : ∀ i, a ≤ it f i a) : a < T := by
  refine Nat.lt_of_not_le fun h => ?_
  have h1 : it f 1 a < a := t.less a h
  have := l 1
  omega
theorem Tame.bound {f : Nat → Nat} {T v : Nat} (t : Tame f T) (b : LB f v) : v ≤ T := by
  obtain ⟨a, p, c, l, rfl⟩ := b.here
  exact t.head c l
theorem Tame.ring {f : Nat → Nat} {T : Nat} (t : Tame f T) {r : List Nat} (h : Ring f r) : r.length ≤ 1000000 ∧ ∀ x ∈ r, x < 1000000 := by
  obtain ⟨a, p, c, rfl, l⟩ := h
  have ha := t.head c l
  have hT := t.le
  have hx : ∀ x ∈ orb f a p, x < 1000000 := fun x m => by
    obtain ⟨i, _, rfl⟩ := orb_mem.mp m
    exact t.its i a (by omega)
  exact ⟨nodup_bound _ _ c.nodup hx, hx⟩
/-- zero alone is a ring -/
theorem ring0 {b : Nat} {s : Stp} : Ring (mk b s) [0] := by
  have h0 : mk b s 0 = 0 := by
    cases s with
    | weigh row => show (wsum b row 0 0).natAbs = 0; rw [wsum_zero]; rfl
    | fold k x y => simp [mk]
  have hi : ∀ i, it (mk b s) i 0 = 0 := fun i => by
    induction i with
    | zero => rfl
    | succ i ih => rw [it_one, ih, h0]
  exact ⟨0, 1, ⟨by omega, hi 1, fun i i0 i1 => by omega⟩, rfl, fun i => Nat.zero_le _⟩
def hdV (k : Addr → List Nat) : V → V
  | .ref t => .int ((k t).headD 0 : Nat)
  | v => v
def sp_least_bound (a : Ad) : Sp := fun vs H Q E => ∃ (v u : V), vs = [v, u] ∧ (∃ t, Kn H v t) ∧ KnT H u ∧
  (okB H v u = true → ∃ (b : Nat) (p : Addr) (s : Stp), v = .int b ∧ u = .ref p ∧ (2 ≤ b ∧ b ≤ 12) ∧ StepAt H p s ∧ OkS b s ∧
    (endB b s = true → ∀ (v T : Nat) H', Same H H' → LB (mk b s) v → Tame (mk b s) T → Q (.int v) H') ∧ (endB b s = false → ∀ H', Same H H' → Q .non H')) ∧ (okB H v u = false → ∀ H', Same H H' → E (.ref a.BadStep) none H')
theorem ok_least_bound (T : Txt K mg a) : C1 P w K mg base 6 "least_bound" (sp_least_bound a) := by
  have c_rings := ok_rings (P := P) (w := w) (base := base) T
  refine T.d_least_bound.c1 sc_least_bound (fun vs H Q E h => ?_) (fun f cdv A outer s H vs Q E hr h => ?_)
  · obtain ⟨v, u, rfl, _⟩ := h
    rfl
  · obtain ⟨v, u, rfl, kv, ku, kY, kN⟩ := h
    have tk := takes_of (X := cxOf (L2.CX P w) P w K mg base ["base", "step", "found", "ring"] "least_bound" (defScope s_least_bound) f cdv A outer s H E) rfl rfl rfl rfl
    refine ⟨_, (pss_cons (ps_set (i := 2) sc_least_bound.nd rfl (Or.inl rfl) (pe_1 c_rings hr (by decide) tk (by exact (pa_cons (pv 0) (pa_cons (pv 1) pa_nil)))))
      (pss_one (ps_ret (pe_ifExp (pt_cmpR op_isN (pv 2) pe_non (nomark _)) pe_non (pe_op op_add pe_int (pe_callB (cr_max rfl) (by rfl) T.n_max b_max (pa_cons (pe_lc (own := [("ring", 3)]) (g := gName 3) rfl sc_least_bound.nd (pi_list (pv 2)) (blkOk_by (N := ["base", "step", "found", "ring"]) (sc := defScope s_least_bound) (by decide +kernel)) (fun _ _ _ _ _ => (pg_name (i := 3) sc_least_bound.nd rfl (Or.inl rfl))) (fun _ _ _ _ _ => pts_nil) (fun _ _ _ _ _ => (pe_ix (ix_listK (K := K) rfl) (pv 3) pe_int (fun _ _ => rfl)))) pa_nil))))))), ?_⟩
    refine ⟨_, rfl, _, rfl, v, u, rfl, kv, ku, fun c => ?_, fun c H' s' => kN c H' s'⟩
    obtain ⟨b, p, st, rfl, rfl, hb, hs, ho, q1, q2⟩ := kY c
    refine ⟨b, p, st, rfl, rfl, hb, hs, ho, fun e q ts k top H' R => ?_, fun e H' s' => ⟨_, rfl, rfl, _, rfl, iteT' rfl (q2 e H' s')⟩⟩
    refine ⟨_, rfl, rfl, _, rfl, iteF' rfl ⟨_, rfl, q, rfl, ⟨_, SqL.of R.at_.1⟩, fun D hD => ?_⟩⟩
    have ne : ∀ t ∈ ts, ∃ x l, k t = x :: l := fun t ht => ((R.rg.mem _).mp (List.mem_map.mpr ⟨t, ht, rfl⟩)).ne
    have hn := R.len
    refine lc_listM (hdV k) R.at_.1 hD (by rw [List.length_map]; exact lsize (by omega)) (fun _ => rfl) ?_ ?_
    · intro i v hi H2 Q' s2 q'
      obtain ⟨t, ht, rfl⟩ := List.mem_map.mp (List.mem_of_getElem? hi)
      obtain ⟨x, l, e⟩ := ne t ht
      refine ⟨_, rfl, t, _, _, _, rfl, rfl, SqL.of (s2 _ _ (R.at_.2 t ht)), at_of (j := 0) rfl (by rw [e]; rfl), q_eq q' ?_⟩
      rw [hdV, e]; rfl
    · refine ⟨D, ts.map fun t => (((k t).headD 0 : Nat) : Int), rfl, SqL.of (by rw [upd_same, List.map_map, List.map_map]; rfl), ?_, fun m m1 m2 => ?_⟩
      · rw [List.length_map]
        have := List.mem_map.mp ((R.rg.mem _).mpr ring0)
        obtain ⟨t, ht, _⟩ := this
        exact List.length_pos_of_mem ht
      · obtain ⟨t, ht, rfl⟩ := List.mem_map.mp m1
        refine ⟨_, _, rfl, rfl, q_eq (q1 e ((k t).headD 0 + 1) top _ (same_upd R.same hD) (LB.of R.rg ⟨_, List.mem_map.mpr ⟨t, ht, rfl⟩, rfl⟩ fun r hr => ?_) R.tame) ?_⟩
        · obtain ⟨t', ht', rfl⟩ := List.mem_map.mp hr
          have : (((k t').headD 0 : Nat) : Int) ≤ (((k t).headD 0 : Nat) : Int) := m2 _ (List.mem_map.mpr ⟨t', ht', rfl⟩)
          show (k t').headD 0 < (k t).headD 0 + 1
          omega
        · show V.int (1 + (((k t).headD 0 : Nat) : Int)) = V.int (((k t).headD 0 + 1 : Nat) : Int)
          congr 1
          omega
end

end Fold
namespace Fold
open PySem PySem.Spec PyProof.Rows L2
/-! ### the law's own helpers -/
section
variable {P : Program} {w : World} {K : PySem.W.Frag} {mg : Str → Option Value} {base : Heap} {a : Ad}
/-- the drawing list stands at d -/
def DrawsAt (H : Hp) (d l : Addr) : Prop := ∃ (ns : List Int) (i : Nat) (g e : Int), H d = some (.lst [.ref l, .int i, .int g, .int e]) ∧ H l = some (.lst (ns.map V.int))
theorem DrawsAt.ne {H : Hp} {d l : Addr} {ns : List Int} {i : Nat} {g e : Int} (h : H d = some (.lst [.ref l, .int i, .int g, .int e])) (h' : H l = some (.lst (ns.map V.int))) : l ≠ d := by
  refine ne_of h' h fun q => ?_
  injection q with q
  cases ns with
  | nil => cases q
  | cons x r => cases q
theorem DrawsAt.mono {H H' : Hp} {d l : Addr} (s : Same H H') (h : DrawsAt H d l) : DrawsAt H' d l := by
  obtain ⟨ns, i, g, e, h1, h2⟩ := h
  exact ⟨ns, i, g, e, s _ _ h1, s _ _ h2⟩
theorem DrawsAt.there {H : Hp} {d l : Addr} (h : DrawsAt H d l) : ∃ o, H d = some o := by
  obtain ⟨ns, i, g, e, h1, h2⟩ := h
  exact ⟨_, h1⟩
theorem p31 : (0 : Int) < 2147483647 := by decide
theorem p29 : (0 : Int) < 2147483629 := by decide
def sp_law_begin (K : PySem.W.Frag) : Sp := fun vs H Q _ => ∃ (p : Addr) (ns : List Int), vs = [.ref p] ∧ SqL K H p (ns.map V.int) ∧ ∀ d l H', H d = none → Same H H' → DrawsAt H' d l → Q (.ref d) H'
theorem ok__law_begin (T : Txt K mg a) : C0 P w K mg base 1 "_law_begin" (sp_law_begin K) := by
  skip
  refine T.d__law_begin.c0 sc__law_begin (fun vs H Q E h => ?_) (fun f cdv A outer s H vs Q E hr h => ?_)
  · obtain ⟨p, ns, rfl, _⟩ := h
    rfl
  · obtain ⟨p, ns, rfl, hp, k⟩ := h
    refine ⟨_, (pss_one (ps_ret (pe_lst (pa_cons (pe_callTy call_list_of (by rfl) T.n_list b_list (pa_cons (pv 0) pa_nil)) (pa_cons pe_int (pa_cons pe_int (pa_cons pe_int pa_nil))))))), ?_⟩
    refine ⟨_, rfl, p, _, rfl, .inl hp, fun l hl => ⟨by show 4 ≤ sizeLine; decide, fun d hd => ?_⟩⟩
    have nd : l ≠ d := ne_of_none upd_same hd
    have hd0 : H d = none := by rw [upd_ne nd.symm] at hd; exact hd
    exact k d l _ hd0 (same_upd (same_new hl) hd) ⟨ns, 0, 0, 7, upd_same, by rw [upd_ne nd]; exact upd_same⟩
def sp_law_draw : Sp := fun vs H Q _ => ∃ (d l : Addr) (z : Int), vs = [.ref d, .int z] ∧ (0 < z ∧ z < 9223372036854775808) ∧ DrawsAt H d l ∧ ∀ r H', 0 ≤ r → r < z → DrawsAt H' d l → But d H H' → Q (.int r) H'
theorem ok__law_draw (T : Txt K mg a) : C0 P w K mg base 1 "_law_draw" sp_law_draw := by
  skip
  refine T.d__law_draw.c0 sc__law_draw (fun vs H Q E h => ?_) (fun f cdv A outer s H vs Q E hr h => ?_)
  · obtain ⟨d, l, z, rfl, _⟩ := h
    rfl
  · obtain ⟨d, l, z, rfl, hz, hD, k⟩ := h
    refine ⟨_, (C8.pss_cut (ps_if (pt_cmpR op_eq (pe_ix ix_list (pv 0) pe_int (fun _ _ => rfl)) pe_int (nomark _)) (pss_one (ps_if (pt_cmpR op_lt (pe_ix ix_list (pv 0) pe_int (fun _ _ => rfl)) (pe_callB call_len_seq (by rfl) T.n_len b_len (pa_cons (pe_ix ix_list (pv 0) pe_int (fun _ _ => rfl)) pa_nil)) (nomark _)) (pss_cons (ps_set (i := 2) sc__law_draw.nd rfl (Or.inl rfl) (pe_ix ix_list (pe_ix ix_list (pv 0) pe_int (fun _ _ => rfl)) (pe_ix ix_list (pv 0) pe_int (fun _ _ => rfl)) (fun _ _ => rfl)))
      (pss_cons (ps_asg (pe_op op_add (pe_ix ix_list (pv 0) pe_int (fun _ _ => rfl)) pe_int) (pg_sub (pv 0) pe_int set_list))
      (pss_one (ps_if (pt_cmpR op_ge (pv 2) (pe_op op_pow pe_int pe_int) (nomark _)) (pss_one (ps_asg (pv 2) (pg_sub (pv 0) pe_int set_list))) (pss_one (ps_asg (pe_op op_mod (pe_callTy call_int1 (by rfl) T.n_int b_int (pa_cons (pe_op op_add (pe_op op_add (pe_op op_mul (pe_ix ix_list (pv 0) pe_int (fun _ _ => rfl)) pe_int) (pe_op op_mul (pv 2) pe_int)) pe_int) pa_nil)) pe_int) (pg_sub (pv 0) pe_int set_list))))))) (pss_one (ps_asg (pe_op op_mod (pe_callTy call_int1 (by rfl) T.n_int b_int (pa_cons (pe_op op_add (pe_op op_mul (pe_ix ix_list (pv 0) pe_int (fun _ _ => rfl)) pe_int) pe_int) pa_nil)) pe_int) (pg_sub (pv 0) pe_int set_list))))) pss_nil)
      (pss_cons (ps_if (pt_cmpR op_gt (pe_ix ix_list (pv 0) pe_int (fun _ _ => rfl)) pe_int (nomark _)) (pss_cons (ps_set (i := 3) sc__law_draw.nd rfl (Or.inl rfl) (pe_op op_mod (pe_callTy call_int1 (by rfl) T.n_int b_int (pa_cons (pe_ix ix_list (pv 0) pe_int (fun _ _ => rfl)) pa_nil)) (pv 1)))
      (pss_cons (ps_asg (pe_op op_fdivW (pe_ix ix_list (pv 0) pe_int (fun _ _ => rfl)) (pv 1)) (pg_sub (pv 0) pe_int set_list))
      (pss_one (ps_ret (pv 3))))) pss_nil)
      (pss_one (ps_ret (pe_op op_mod (pe_op op_mod (pe_callTy call_int1 (by rfl) T.n_int b_int (pa_cons (pe_op op_mul (pe_ix ix_list (pv 0) pe_int (fun _ _ => rfl)) pe_int) pa_nil)) pe_int) (pv 1)))))), ?_⟩
    refine ⟨fun σ H' => DrawsAt H' d l ∧ But d H H' ∧ ∃ c, σ = [some (.ref d), some (.int z), c, none], ?_, ?_⟩
    · obtain ⟨ns, i, g, e, h1, h2⟩ := id hD
      have nl : l ≠ d := DrawsAt.ne h1 h2
      refine ⟨_, rfl, _, _, _, _, rfl, rfl, SqL.of h1, rfl, rfl, _, rfl, ?_⟩
      rw [dec_int]
      refine iteB (fun c => ?_) (fun c => ⟨hD, But.refl _ _, _, rfl⟩)
      refine ⟨_, rfl, _, _, _, _, rfl, rfl, SqL.of h1, rfl, _, rfl, _, _, _, _, rfl, rfl, SqL.of h1, rfl, l, _, rfl, .inl (SqL.of h2), _, _, rfl, rfl, _, rfl, ?_⟩
      rw [List.length_map]
      refine iteB (fun c2 => ?_) (fun c2 => ?_)
      · have hi : i < ns.length := by simpa using c2
        refine ⟨_, rfl, _, _, _, _, rfl, rfl, SqL.of h1, rfl, _, rfl, _, _, _, _, rfl, rfl, SqL.of h1, rfl, l, _, _, _, rfl, rfl, SqL.of h2, at_of (j := i) (v := V.int ns[i]) rfl (by rw [List.getElem?_map, List.getElem?_eq_getElem hi]; rfl), ?_⟩
        refine ⟨_, rfl, _, _, _, _, rfl, rfl, SqL.of h1, rfl, _, _, rfl, rfl, _, rfl, d, _, _, _, rfl, rfl, h1, rfl, ?_⟩
        refine ⟨_, rfl, _, _, rfl, rfl, ⟨by decide, by decide, by decide⟩, _, _, rfl, rfl, _, rfl, ?_⟩
        refine iteB (fun c3 => ?_) (fun c3 => ?_)
        · refine ⟨_, rfl, _, rfl, d, _, _, _, rfl, rfl, upd_same, rfl, ⟨ns, i + 1, _, e, upd_same, ?_⟩, But.trans But.upd But.upd, _, rfl⟩
          rw [upd_ne nl, upd_ne nl]; exact h2
        · refine ⟨_, rfl, _, _, _, _, rfl, rfl, SqL.of upd_same, rfl, _, _, rfl, rfl, .inr ⟨by decide, by decide⟩, _, rfl, _, _, rfl, rfl, .inr ⟨by decide, by decide⟩, _, _, rfl, rfl, _, _, rfl, rfl, .inl ⟨_, rfl, _, _, rfl, rfl, p31, _, rfl, d, _, _, _, rfl, rfl, upd_same, rfl, ⟨ns, i + 1, g, _, upd_same, ?_⟩, But.trans But.upd But.upd, _, rfl⟩⟩
          rw [upd_ne nl, upd_ne nl]; exact h2
      · refine ⟨_, rfl, _, _, _, _, rfl, rfl, SqL.of h1, rfl, _, _, rfl, rfl, .inr ⟨by decide, by decide⟩, _, _, rfl, rfl, .inl ⟨_, rfl, _, _, rfl, rfl, p31, _, rfl, d, _, _, _, rfl, rfl, h1, rfl, ⟨ns, i, g, _, upd_same, ?_⟩, But.upd, _, rfl⟩⟩
        rw [upd_ne nl]; exact h2
    · rintro σ H1 ⟨hD1, hB, c, rfl⟩
      obtain ⟨ns, i, g, e, h1, h2⟩ := id hD1
      have nl : l ≠ d := DrawsAt.ne h1 h2
      refine ⟨_, rfl, _, _, _, _, rfl, rfl, SqL.of h1, rfl, _, _, rfl, rfl, _, rfl, ?_⟩
      refine iteB (fun c => ?_) (fun c => ?_)
      · refine ⟨_, rfl, _, _, _, _, rfl, rfl, SqL.of h1, rfl, .inl ⟨_, rfl, _, rfl, _, _, rfl, rfl, hz.1, ?_⟩⟩
        refine ⟨_, rfl, _, _, _, _, rfl, rfl, SqL.of h1, rfl, _, rfl, _, _, rfl, rfl, wdiv hz.1 (by omega), _, rfl, d, _, _, _, rfl, rfl, h1, rfl, _, rfl, ?_⟩
        refine k _ _ (Int.emod_nonneg _ (by omega)) (Int.emod_lt_of_pos _ hz.1) ⟨ns, i, _, e, upd_same, ?_⟩ (hB.trans But.upd)
        rw [upd_ne nl]; exact h2
      · refine ⟨_, rfl, _, _, _, _, rfl, rfl, SqL.of h1, rfl, _, _, rfl, rfl, .inr ⟨by decide, by decide⟩, .inl ⟨_, rfl, _, _, rfl, rfl, p29, _, rfl, _, _, rfl, rfl, hz.1, ?_⟩⟩
        exact k _ _ (Int.emod_nonneg _ (by omega)) (Int.emod_lt_of_pos _ hz.1) hD1 hB
theorem DrawsAt.there2 {H : Hp} {d l : Addr} (h : DrawsAt H d l) : ∃ o, H l = some o := by
  obtain ⟨ns, i, g, e, h1, h2⟩ := h
  exact ⟨_, h2⟩
theorem DrawsAt.updO {H : Hp} {d l D : Addr} {o : HO} (h : DrawsAt H d l) (h1 : D ≠ d) (h2 : D ≠ l) : DrawsAt (upd H D o) d l := by
  obtain ⟨ns, i, g, e, e1, e2⟩ := h
  exact ⟨ns, i, g, e, keptN e1 h1.symm, keptN e2 h2.symm⟩
theorem DrawsAt.neL {H : Hp} {d l x : Addr} {xs : List V} (h : DrawsAt H d l) (e : H x = some (.lst xs)) (hx : ∀ v ∈ xs, ∀ r, v ≠ .ref r) : x ≠ d := by
  obtain ⟨ns, i, g, e', e1, e2⟩ := h
  refine ne_of e e1 fun q => ?_
  injection q with q
  rw [q] at hx
  exact hx _ List.mem_cons_self _ rfl
theorem noRef {l : List Nat} : ∀ v ∈ l.map (fun (z : Nat) => V.int z), ∀ r, v ≠ .ref r := by
  intro v m r
  obtain ⟨z, _, rfl⟩ := List.mem_map.mp m
  exact fun q => nomatch q
theorem DrawsAt.new1 {H : Hp} {d l D : Addr} (h : DrawsAt H d l) (hD : H D = none) : D ≠ d := fun q => by
  obtain ⟨o, ho⟩ := h.there
  rw [q, ho] at hD
  cases hD
theorem DrawsAt.new2 {H : Hp} {d l D : Addr} (h : DrawsAt H d l) (hD : H D = none) : D ≠ l := fun q => by
  obtain ⟨o, ho⟩ := h.there2
  rw [q, ho] at hD
  cases hD
end

end Fold
namespace Fold
open PySem PySem.Spec PyProof.Rows L2
section
variable {P : Program} {w : World} {K : PySem.W.Frag} {mg : Str → Option Value} {base : Heap} {a : Ad}
theorem ok__law_power (T : Txt K mg a) : C0 P w K mg base 1 "_law_power" sp_power_of := by
  refine T.d__law_power.c0 sc__law_power (fun vs H Q E h => ?_) (fun f cdv A outer s H vs Q E hr h => ?_)
  · obtain ⟨b, n, rfl, _⟩ := h
    rfl
  · obtain ⟨b, n, rfl, ⟨b0, b1⟩, ⟨n0, n1⟩, k⟩ := h
    obtain ⟨b, rfl⟩ := Int.eq_ofNat_of_zero_le b0
    obtain ⟨n, rfl⟩ := Int.eq_ofNat_of_zero_le n0
    refine ⟨_, (pss_cons (ps_set (i := 2) sc__law_power.nd rfl (Or.inl rfl) pe_int)
      (pss_cons (ps_for PassesOwn.never rfl (pi_range1 (by rfl) T.n_range (pa_cons (pv 1) pa_nil)) (pg_name (i := 3) sc__law_power.nd rfl (Or.inl rfl)) (pss_one (ps_set (i := 2) sc__law_power.nd rfl (Or.inl rfl) (pe_op op_mul (pv 2) (pv 0)))))
      (pss_one (ps_ret (pv 2))))), ?_⟩
    refine ⟨_, rfl, _, rfl, by omega, by omega, for_range (fun i σ H' => H' = H ∧ ∃ v, σ = [some (.int b), some (.int n), some (.int ((b ^ i : Nat) : Int)), v]) ⟨rfl, none, rfl⟩ ?_ ?_⟩
    · rintro i σ H' hi ⟨rfl, v, rfl⟩
      refine ⟨_, rfl, _, rfl, _, _, rfl, rfl, .inr ⟨by omega, by omega⟩, rfl, some (.int (0 + (i : Int))), ?_⟩
      rw [Nat.pow_succ, Int.natCast_mul]
      rfl
    · rintro σ H' ⟨rfl, v, rfl⟩
      exact ⟨_, rfl, k⟩
/-- a step as the laws draw them -/
def OkL : Stp → Prop
  | .fold _ x _ => -6 ≤ x ∧ x ≤ 6
  | .weigh row => row.length ≤ 4 ∧ ∀ v ∈ row, -7 ≤ v ∧ v ≤ 7
theorem pow60 {b k : Nat} (hb : 2 ≤ b) (h : b ^ k ≤ 60) : k ≤ 5 := by
  refine Nat.le_of_not_lt fun c => ?_
  have h1 : b ^ 6 ≤ b ^ k := Nat.pow_le_pow_right (by omega) c
  have h2 : 2 ^ 6 ≤ b ^ 6 := Nat.pow_le_pow_left hb 6
  omega
def sp_law_step : Sp := fun vs H Q _ => ∃ (d l : Addr) (b : Int), vs = [.ref d, .int b] ∧ (2 ≤ b ∧ b ≤ 12) ∧ DrawsAt H d l ∧ ∀ p s H', H p = none → StepAt H' p s → OkS b.toNat s → OkL s → DrawsAt H' d l → But d H H' → Q (.ref p) H'
theorem ok__law_step (T : Txt K mg a) : C0 P w K mg base 2 "_law_step" sp_law_step := by
  have c__law_draw := ok__law_draw (P := P) (w := w) (base := base) T; have c__law_power := ok__law_power (P := P) (w := w) (base := base) T
  refine T.d__law_step.c0 sc__law_step (fun vs H Q E h => ?_) (fun f cdv A outer s H vs Q E hr h => ?_)
  · obtain ⟨d, l, b, rfl, _⟩ := h
    rfl
  · obtain ⟨d, l, b, rfl, hb, hD, k⟩ := h
    obtain ⟨b, rfl⟩ := Int.eq_ofNat_of_zero_le (show 0 ≤ b by omega)
    refine ⟨_, (pss_cons (ps_if (pt_cmpR op_eq (pe_0 c__law_draw hr (by decide) (pa_cons (pv 0) (pa_cons pe_int pa_nil))) pe_int (nomark _)) (pss_cons (ps_set (i := 2) sc__law_step.nd rfl (Or.inl rfl) (pe_op op_add pe_int (pe_0 c__law_draw hr (by decide) (pa_cons (pv 0) (pa_cons pe_int pa_nil)))))
      (pss_cons (ps_if (pt_cmpR op_eq (pe_0 c__law_draw hr (by decide) (pa_cons (pv 0) (pa_cons pe_int pa_nil))) pe_int (nomark _)) (pss_cons (ps_set (i := 3) sc__law_step.nd rfl (Or.inl rfl) (pe_op op_add pe_int (pe_0 c__law_draw hr (by decide) (pa_cons (pv 0) (pa_cons pe_int pa_nil)))))
      (pss_cons (ps_set (i := 4) sc__law_step.nd rfl (Or.inl rfl) (pe_lst (pa_cons (pv 3) (pa_cons (pe_un un_neg (pv 3)) (pa_cons (pv 3) (pa_cons (pe_un un_neg (pv 3)) pa_nil))))))
      (pss_one (ps_ret (pe_tup (pa_cons pe_str (pa_cons (pe_tupleOf (by rfl) T.n_tuple (pe_slice sl_list (pv 4) po_none (po_some (pv 2)))) pa_nil))))))) pss_nil)
      (pss_one (ps_ret (pe_tup (pa_cons pe_str (pa_cons (pe_tupleOf (by rfl) T.n_tuple (pe_lc (own := [("_law_k", 5)]) (g := gName 5) rfl sc__law_step.nd (pi_range1 (by rfl) T.n_range (pa_cons (pv 2) pa_nil)) (blkOk_by (N := ["_law_draws", "_law_base", "_law_size", "_law_unit", "_law_row_here", "_law_k", "_law_x"]) (sc := defScope s__law_step) (by decide +kernel)) (fun _ _ _ _ _ => (pg_name (i := 5) sc__law_step.nd rfl (Or.inl rfl))) (fun _ _ _ _ _ => pts_nil) (fun _ _ _ _ _ => (pe_op op_sub (pe_0 c__law_draw hr (by decide) (pa_cons (pv 0) (pa_cons pe_int pa_nil))) pe_int)))) pa_nil))))))) pss_nil)
      (pss_cons (ps_set (i := 5) sc__law_step.nd rfl (Or.inl rfl) pe_int)
      (C8.pss_cut (ps_while PassesOwn.never (pw_and (pt_cmpR op_le (pe_0 c__law_power hr (by decide) (pa_cons (pv 1) (pa_cons (pe_op op_add (pv 5) pe_int) pa_nil))) pe_int (nomark _)) (pw_and1 (pt_cmpR op_eq (pe_0 c__law_draw hr (by decide) (pa_cons (pv 0) (pa_cons pe_int pa_nil))) pe_int (nomark _)))).pt (pss_one (ps_set (i := 5) sc__law_step.nd rfl (Or.inl rfl) (pe_op op_add (pv 5) pe_int))))
      (pss_cons (ps_set (i := 6) sc__law_step.nd rfl (Or.inl rfl) (pe_op op_sub (pe_0 c__law_draw hr (by decide) (pa_cons (pv 0) (pa_cons pe_int pa_nil))) pe_int))
      (pss_one (ps_ret (pe_tup (pa_cons pe_str (pa_cons (pv 5) (pa_cons (pv 6) (pa_cons (pe_op op_sub (pe_0 c__law_draw hr (by decide) (pa_cons (pv 0) (pa_cons pe_int pa_nil))) pe_int) pa_nil))))))))))), ?_⟩
    refine ⟨_, rfl, d, l, _, rfl, by decide, hD, fun r1 H1 _ _ hD1 b1 => ⟨rfl, _, rfl, ?_⟩⟩
    refine iteB (fun _ => ?_) (fun _ => ?_)
    · refine ⟨_, rfl, d, l, _, rfl, by decide, hD1, fun r2 H2 r20 r21 hD2 b2 => ⟨_, _, rfl, rfl, ?_⟩⟩
      refine ⟨_, rfl, d, l, _, rfl, by decide, hD2, fun r3 H3 _ _ hD3 b3 => ⟨rfl, _, rfl, ?_⟩⟩
      have b03 := (b1.trans b2).trans b3
      refine iteB (fun _ => ?_) (fun _ => ?_)
      · refine ⟨_, rfl, d, l, _, rfl, by decide, hD3, fun r4 H4 r40 r41 hD4 b4 => ⟨_, _, rfl, rfl, ?_⟩⟩
        obtain ⟨n, rfl⟩ := Int.eq_ofNat_of_zero_le r20
        have b04 := b03.trans b4
        refine ⟨_, rfl, _, rfl, _, rfl, _, rfl, _, rfl, _, rfl, (by show 4 ≤ sizeLine; decide), fun q hq => ?_⟩
        refine ⟨_, rfl, _, rfl, _, rfl, q, _, rfl, SqL.of upd_same, fun q2 hq2 => .inl ⟨q2, _, rfl, SqL.of upd_same, fun q3 hq3 => ⟨by show 2 ≤ sizeLine; decide, fun p hp => ?_⟩⟩⟩
        have e4 : (1 + (n : Int)) = ((1 + n : Nat) : Int) := by omega
        refine k p (.weigh (([1 + r4, -(1 + r4), 1 + r4, -(1 + r4)] : List Int).take (1 + n))) _ (b04.free hD4.there ((same_upd (same_upd (same_new hq) hq2) hq3).free hp)) ⟨q3, upd_same, ?_⟩ ⟨?_, ?_, ?_⟩ ⟨?_, ?_⟩
          (hD4.mono (same_upd (same_upd (same_upd (same_new hq) hq2) hq3) hp)) (b04.trans (But.of (same_upd (same_upd (same_upd (same_new hq) hq2) hq3) hp)))
        · rw [kept upd_same hp, e4, cutV_take, List.map_take]; rfl
        · rw [List.length_take]; simp only [List.length_cons, List.length_nil]; omega
        · rw [List.length_take]; simp only [List.length_cons, List.length_nil]; omega
        · intro v m
          have := List.mem_of_mem_take m
          simp only [List.mem_cons, List.not_mem_nil, or_false] at this
          omega
        · rw [List.length_take]; simp only [List.length_cons, List.length_nil]; omega
        · intro v m
          have := List.mem_of_mem_take m
          simp only [List.mem_cons, List.not_mem_nil, or_false] at this
          omega
      · obtain ⟨n, rfl⟩ := Int.eq_ofNat_of_zero_le r20
        refine ⟨_, rfl, _, rfl, by omega, by omega, fun D hD0 => lc_range (fun i H' => ∃ row : List Int, row.length = i ∧ (∀ v ∈ row, -7 ≤ v ∧ v ≤ 7) ∧ H' D = some (.lst (row.map V.int)) ∧ DrawsAt H' d l ∧ But d H3 H')
          ⟨[], rfl, fun _ m => (nomatch m), upd_same, hD3.mono (same_new hD0), But.of (same_new hD0)⟩ ?_ ?_⟩
        · rintro i H' hi ⟨row, hl, hv, hDl, hDr, hB⟩
          refine ⟨rfl, ?_⟩
          unfold tYes
          dsimp only
          rw [if_pos rfl]
          refine ⟨_, rfl, d, l, _, rfl, by decide, hDr, fun r H'' r0 r1 hDr' hB' => ⟨_, _, rfl, rfl, ?_⟩⟩
          have nDd : D ≠ d := fun q => by
            obtain ⟨o, ho⟩ := hD3.there
            rw [q, ho] at hD0
            cases hD0
          have nDl : D ≠ l := fun q => by
            obtain ⟨o, ho⟩ := hD3.there2
            rw [q, ho] at hD0
            cases hD0
          refine ⟨_, hB' D _ nDd hDl, ?_, row ++ [r - 7], ?_, ?_, ?_, hDr'.updO nDd nDl, ?_⟩
          · rw [List.length_map]; exact small6 (by omega)
          · rw [List.length_append, hl]; rfl
          · intro v m
            rcases List.mem_append.mp m with m | m
            · exact hv v m
            · simp only [List.mem_cons, List.not_mem_nil, or_false] at m
              omega
          · rw [upd_same, List.map_append]; rfl
          · intro b' o hb' e
            rw [upd_ne (ne_of_none e hD0)]
            exact hB' _ _ hb' (hB _ _ hb' e)
        · rintro H' ⟨row, hl, hv, hDl, hDr, hB⟩
          refine .inl ⟨D, _, rfl, SqL.of hDl, fun q hq => ⟨by show 2 ≤ sizeLine; decide, fun p hp => ?_⟩⟩
          have b04 := b03.trans hB
          refine k p (.weigh row) _ (b04.free hDr.there ((same_new hq).free hp)) ⟨q, upd_same, kept upd_same hp⟩ ⟨by omega, by omega, fun v m => ?_⟩ ⟨by omega, hv⟩ (hDr.mono (same_upd (same_new hq) hp)) (b04.trans (But.of (same_upd (same_new hq) hp)))
          have := hv v m
          omega
    · refine g_next (g_setC ⟨fun σ H' => ∃ kk : Nat, σ = [some (.ref d), some (.int b), none, none, none, some (.int kk), none] ∧ 1 ≤ kk ∧ b ^ kk ≤ 60 ∧ DrawsAt H' d l ∧ But d H H', ?_, ?_⟩)
      · refine ⟨fun m σ H' => ∃ kk : Nat, m = 6 - kk ∧ σ = [some (.ref d), some (.int b), none, none, none, some (.int kk), none] ∧ 1 ≤ kk ∧ b ^ kk ≤ 60 ∧ DrawsAt H' d l ∧ But d H H', ⟨5, 1, rfl, rfl, Nat.le_refl _, by rw [Nat.pow_one]; omega, hD1, b1⟩, ?_⟩
        rintro m σ H' ⟨kk, rfl, rfl, k1, k60, hDk, hBk⟩
        have k5 := pow60 (by omega) k60
        refine ⟨_, rfl, _, rfl, _, _, rfl, rfl, _, _, rfl, ⟨by omega, by omega⟩, ⟨by omega, by omega⟩, _, _, rfl, rfl, _, rfl, ?_⟩
        have e1 : ((kk : Int) + 1).toNat = kk + 1 := by omega
        rw [e1, Int.toNat_natCast]
        by_cases c : b ^ (kk + 1) ≤ 60
        · refine iteT' (decide_eq_true (by omega)) ⟨_, rfl, d, l, _, rfl, by decide, hDk, fun r H'' r0 r1 hDr hBr => ⟨rfl, _, rfl, ?_⟩⟩
          refine iteB (fun _ => ?_) (fun _ => ⟨kk, rfl, k1, k60, hDr, hBk.trans hBr⟩)
          exact ⟨_, fun _ _ h => h, _, rfl, _, _, rfl, rfl, 6 - (kk + 1), by omega, kk + 1, rfl, rfl, by omega, c, hDr, hBk.trans hBr⟩
        · refine iteF' (decide_eq_false (by omega)) ?_
          exact iteF ⟨kk, rfl, k1, k60, hDk, hBk⟩
      · rintro σ H' ⟨kk, rfl, k1, k60, hDk, hBk⟩
        have k5 := pow60 (by omega) k60
        refine ⟨_, rfl, d, l, _, rfl, by decide, hDk, fun rx H2 x0 x1 hD2 b2 => ⟨_, _, rfl, rfl, _, rfl, _, rfl, _, rfl, d, l, _, rfl, by decide, hD2, fun ry H3 y0 y1 hD3 b3 => ⟨_, _, rfl, rfl, by show 4 ≤ sizeLine; decide, fun p hp => ?_⟩⟩⟩
        have b03 := (hBk.trans b2).trans b3
        exact k p (.fold kk (rx - 6) (ry - 12)) _ (b03.free hD3.there hp) upd_same ⟨k1, k5, k60, by omega, by omega⟩ ⟨by omega, by omega⟩ (hD3.mono (same_new hp)) (b03.trans (But.of (same_new hp)))
end

end Fold
namespace Fold
open PySem PySem.Spec PyProof.Rows L2
section
variable {P : Program} {w : World} {K : PySem.W.Frag} {mg : Str → Option Value} {base : Heap} {a : Ad}
theorem tail_mod (n P : Int) : n - n / P * P = n % P := by rw [Int.emod_def, Int.mul_comm]
theorem ok__law_made (T : Txt K mg a) : C0 P w K mg base 2 "_law_made" sp_after := by
  have c__law_power := ok__law_power (P := P) (w := w) (base := base) T
  refine T.d__law_made.c0 sc__law_made (fun vs H Q E h => ?_) (fun f cdv A outer s H vs Q E hr h => ?_)
  · obtain ⟨b, r, n, s, rfl, _⟩ := h
    rfl
  · obtain ⟨b, p, n, s, rfl, hb, hs, ho, hn, k⟩ := h
    obtain ⟨b, rfl⟩ := Int.eq_ofNat_of_zero_le (show 0 ≤ b by omega)
    obtain ⟨n, rfl⟩ := Int.eq_ofNat_of_zero_le hn
    refine ⟨_, (pss_cons (ps_if (pt_cmpR op_eq (pe_ix ix_tup (pv 1) pe_int (fun _ _ => rfl)) pe_str (nomark _)) (pss_cons (ps_set (i := 3) sc__law_made.nd rfl (Or.inl rfl) (pe_0 c__law_power hr (by decide) (pa_cons (pv 0) (pa_cons (pe_ix ix_tup (pv 1) pe_int (fun _ _ => rfl)) pa_nil))))
      (pss_cons (ps_set (i := 4) sc__law_made.nd rfl (Or.inl rfl) (pe_op op_fdivW (pv 2) (pv 3)))
      (pss_cons (ps_set (i := 5) sc__law_made.nd rfl (Or.inl rfl) (pe_op op_sub (pv 2) (pe_op op_mul (pv 4) (pv 3))))
      (pss_one (ps_ret (pe_callB call_abs (by rfl) T.n_abs b_abs (pa_cons (pe_op op_add (pe_op op_mul (pe_ix ix_tup (pv 1) pe_int (fun _ _ => rfl)) (pv 4)) (pe_op op_mul (pe_ix ix_tup (pv 1) pe_int (fun _ _ => rfl)) (pv 5))) pa_nil))))))) pss_nil)
      (pss_cons (ps_set (i := 6) sc__law_made.nd rfl (Or.inl rfl) pe_int)
      (pss_cons (ps_set (i := 7) sc__law_made.nd rfl (Or.inl rfl) pe_int)
      (pss_cons (ps_while PassesOwn.never (pt_cmpR op_gt (pv 2) pe_int (nomark _)) (pss_cons (ps_set (i := 8) sc__law_made.nd rfl (Or.inl rfl) (pe_ix ix_tup (pe_ix ix_tup (pv 1) pe_int (fun _ _ => rfl)) (pe_op op_mod (pv 7) (pe_callB call_len_seq (by rfl) T.n_len b_len (pa_cons (pe_ix ix_tup (pv 1) pe_int (fun _ _ => rfl)) pa_nil))) (fun _ _ => rfl)))
      (pss_cons (ps_set (i := 6) sc__law_made.nd rfl (Or.inl rfl) (pe_op op_add (pv 6) (pe_op op_mul (pv 8) (pe_op op_mod (pv 2) (pv 0)))))
      (pss_cons (ps_set (i := 2) sc__law_made.nd rfl (Or.inl rfl) (pe_op op_fdivW (pv 2) (pv 0)))
      (pss_one (ps_set (i := 7) sc__law_made.nd rfl (Or.inl rfl) (pe_op op_add (pv 7) pe_int)))))))
      (pss_one (ps_ret (pe_callB call_abs (by rfl) T.n_abs b_abs (pa_cons (pv 6) pa_nil)))))))), ?_⟩
    cases s with
    | weigh row =>
      obtain ⟨r, h1, h2⟩ := hs
      refine ⟨_, rfl, _, _, _, _, rfl, rfl, SqT.of h1, rfl, rfl, _, rfl, iteF' (by decide +kernel) (g_next (g_setC (g_setC (g_seq ?_))))⟩
      have hl : 0 < row.length := ho.1
      refine ⟨fun mm σ H' => H' = H ∧ ∃ (m i : Nat) (t : Int) (v : Option V), mm = m ∧ σ = [some (.int b), some (.ref p), some (.int m), none, none, none, some (.int t), some (.int i), v] ∧ t + wsum b row m i = wsum b row n 0, ⟨n, rfl, n, 0, 0, none, rfl, rfl, by omega⟩, ?_⟩
      rintro mm σ H' ⟨rfl, m, i, t, v, rfl, rfl, ht⟩
      refine ⟨_, rfl, _, _, rfl, rfl, _, rfl, ?_⟩
      by_cases hm : mm = 0
      · subst hm
        refine iteF' rfl ⟨_, rfl, _, rfl, ?_⟩
        rw [wsum_zero] at ht
        exact q_eq k (by rw [abs_nat, show t = wsum b row n 0 by omega]; rfl)
      · have hm0 : 0 < mm := by omega
        refine iteT' (decide_eq_true (by omega)) ?_
        have hi : i % row.length < row.length := Nat.mod_lt _ hl
        have hx : (row.map V.int)[i % row.length]? = some (.int (row.getD (i % row.length) 0)) := by
          rw [List.getElem?_map, List.getElem?_eq_getElem hi, List.getD_eq_getElem?_getD, List.getElem?_eq_getElem hi]; rfl
        have hd : 0 ≤ (mm : Int) % (b : Int) := Int.emod_nonneg _ (by omega)
        have hd2 : (mm : Int) % (b : Int) < b := Int.emod_lt_of_pos _ (by omega)
        refine ⟨_, fun _ _ h => h, ?_⟩
        refine ⟨_, rfl, _, _, _, _, rfl, rfl, SqT.of h1, rfl, _, rfl, _, rfl, _, _, _, _, rfl, rfl, SqT.of h1, rfl, r, _, rfl, .inr (SqT.of h2), _, _, rfl, rfl, by rw [List.length_map]; omega, r, _, _, _, rfl, rfl, SqT.of h2, at_of (j := i % row.length) (by rw [List.length_map]; rfl) hx, ?_⟩
        refine ⟨_, rfl, _, rfl, _, rfl, _, rfl, _, _, rfl, rfl, (show (0 : Int) < b by omega), _, _, rfl, rfl, .inr ⟨by omega, by omega⟩, _, _, rfl, rfl, ?_⟩
        refine ⟨_, rfl, _, rfl, _, _, rfl, rfl, wdiv (by omega) (by omega), _, rfl, _, _, rfl, rfl, mm / b, Nat.div_lt_self hm0 (by omega), rfl, mm / b, i + 1, t + row.getD (i % row.length) 0 * ((mm % b : Nat) : Int), _, rfl, rfl, ?_⟩
        rw [wsum_pos row i (by omega) hm0] at ht
        omega
    | fold kk x y =>
      have hs : H p = _ := hs
      obtain ⟨o1, o2, o3, o4, o5⟩ := ho
      have hP : 0 < b ^ kk := Nat.pow_pos (by omega)
      have o3 : b ^ kk ≤ 60 := o3
      refine ⟨_, rfl, _, _, _, _, rfl, rfl, SqT.of hs, rfl, rfl, _, rfl, iteT' (by decide +kernel) ⟨_, rfl, _, rfl, _, _, _, _, rfl, rfl, SqT.of hs, rfl, _, _, rfl, ⟨by omega, by omega⟩, ⟨by omega, by omega⟩, ?_⟩⟩
      refine ⟨_, rfl, _, rfl, _, _, rfl, rfl, wdiv (show (0 : Int) < ((b ^ kk : Nat) : Int) by omega) (show ((b ^ kk : Nat) : Int) < _ by omega), ?_⟩
      refine ⟨_, rfl, _, rfl, _, rfl, _, _, rfl, rfl, .inr ⟨show -(2 ^ 64) < ((b ^ kk : Nat) : Int) by omega, show ((b ^ kk : Nat) : Int) < 2 ^ 64 by omega⟩, _, _, rfl, rfl, ?_⟩
      refine ⟨_, rfl, _, _, _, _, rfl, rfl, SqT.of hs, rfl, _, rfl, _, _, rfl, rfl, .inl ⟨by omega, by omega⟩, _, rfl, _, _, _, _, rfl, rfl, SqT.of hs, rfl, _, rfl, _, _, rfl, rfl, .inl ⟨by omega, by omega⟩, _, _, rfl, rfl, _, rfl, ?_⟩
      exact q_eq k (by rw [abs_nat]; simp only [tail_mod]; rfl)
end

end Fold
namespace Fold
open PySem PySem.Spec PyProof.Rows L2
/-! ### a rising tuple of numbers below a bound -/
theorem walk_zipT {K : PySem.W.Frag} {a b : Addr} {xs ys : List V} {n : Nat} (hn : n = min xs.length ys.length) : Walk (RZ.ItzT K a b) n (fun H => SqT K H a xs ∧ SqT K H b ys) (YPair (fun i => xs[i]?) (fun i => ys[i]?)) := by
  subst hn
  refine ⟨fun i _ hi q => ?_, fun _ q => ⟨xs, ys, q.1, q.2, by omega⟩, fun i H v H' _ q y => ?_⟩
  · have h1 : i < xs.length := by omega
    have h2 : i < ys.length := by omega
    exact ⟨xs, ys, xs[i], ys[i], q.1, q.2, by simp [h1], by simp [h2]⟩
  · obtain ⟨T, x, z, h1, h2, h3, h4, h5⟩ := y
    exact ⟨T, x, z, h1, h2, h3, h4 xs q.1, h5 ys q.2⟩
def rises (ns : List Int) : Bool := ((List.range (ns.length - 1)).map fun i => decide (ns.getD i 0 < ns.getD (i + 1) 0)).all id
def numsB (H : Hp) (v : V) (bd : Int) : Bool := match v with
  | .ref p => match H p with
    | some (.tup xs) => (xs.map fun x => wholeB x 0 (bd - 1)).all id && rises (xs.map intOf)
    | _ => false
  | _ => false
theorem ints_back {lo hi : Int} : ∀ {xs : List V}, (xs.map fun x => wholeB x lo hi).all id = true → xs = (xs.map intOf).map V.int
  | [], _ => rfl
  | x :: xs, h => by
    rw [List.map_cons, List.all_cons, Bool.and_eq_true] at h
    obtain ⟨i, rfl, _⟩ := wholeB_iff.mp h.1
    rw [List.map_cons, List.map_cons, ← ints_back h.2]; rfl
section
variable {P : Program} {w : World} {K : PySem.W.Frag} {mg : Str → Option Value} {base : Heap} {a : Ad}
theorem pg_tupK {X : Cx} {K : PySem.W.Frag} (hk : X.K = K) {es : List Expr} {k : Nat} {t : TGs} {n : Nat} {pos : Pos} (hc : X.calm = true) (h : PGs X es t)
    (hn : (assignEach es X.env).length = n := by rfl) (hst : (assignEach es X.env).findIdx? (·.1) = none := by rfl) : PG X (.Tuple es k pos) (gTup K n t) := hk ▸ pg_tup hc h hn hst
def sp_are_numbers : Sp := fun vs H Q _ => ∃ (v : V) (bd : Int), vs = [v, .int bd] ∧ KnT H v ∧ (∀ p xs, v = .ref p → H p = some (.tup xs) → xs.length ≤ 1000000) ∧ ∀ H', Same H H' → Q (.bl (numsB H v bd)) H'
theorem ok_are_numbers (T : Txt K mg a) : C0 P w K mg base 2 "are_numbers" sp_are_numbers := by
  have c_is_whole := ok_is_whole (P := P) (w := w) (base := base) T
  refine T.d_are_numbers.c0 sc_are_numbers (fun vs H Q E h => ?_) (fun f cdv A outer s H vs Q E hr h => ?_)
  · obtain ⟨v, bd, rfl, _⟩ := h
    rfl
  · obtain ⟨v, bd, rfl, ⟨⟨t, kv⟩, kd⟩, kl, kk⟩ := h
    refine ⟨_, (pss_cons (ps_if (pw_or (pt_not (pt_val (pe_callB call_isi (by rfl) T.n_isinstance b_isinstance (pa_cons (pv 0) (pa_cons (pe_bltn (v := .ty "tuple") (by rfl) T.n_tuple b_tuple rfl) pa_nil))))) (pw_or1 (pt_not (pt_val (pe_callB (cr_all rfl) (by rfl) T.n_all b_all (pa_cons (pe_lc (own := [("one", 2)]) (g := gName 2) rfl sc_are_numbers.nd (pi_tup (pv 0)) (blkOk_by (N := ["thing", "bound", "one", "other"]) (sc := defScope s_are_numbers) (by decide +kernel)) (fun _ _ _ _ _ => (pg_name (i := 2) sc_are_numbers.nd rfl (Or.inl rfl))) (fun _ _ _ _ _ => pts_nil) (fun _ _ _ _ _ => (pe_0 c_is_whole hr (by decide) (pa_cons (pv 2) (pa_cons pe_int (pa_cons (pe_op op_sub (pv 1) pe_int) pa_nil)))))) pa_nil)))))).pt (pss_one (ps_ret pe_bl)) pss_nil)
      (pss_one (ps_ret (pe_callB (cr_all rfl) (by rfl) T.n_all b_all (pa_cons (pe_lc (own := [("one", 2), ("other", 3)]) (g := gTup K 2 (gCons (gName 2) (gCons (gName 3) gNil))) rfl sc_are_numbers.nd (RZ.pi_zipA (by rfl) T.n_zip (pa_cons (pv 0) (pa_cons (pe_slice sl_tupA (pv 0) (po_some pe_int) po_none) pa_nil))) (blkOk_by (N := ["thing", "bound", "one", "other"]) (sc := defScope s_are_numbers) (by decide +kernel)) (fun _ _ _ _ _ => (pg_tupK (K := K) rfl rfl (pgs_cons (pg_name (i := 2) sc_are_numbers.nd rfl (Or.inl rfl)) (pgs_cons (pg_name (i := 3) sc_are_numbers.nd rfl (Or.inl rfl)) pgs_nil)))) (fun _ _ _ _ _ => pts_nil) (fun _ _ _ _ _ => (pe_cmpR op_lt (pv 2) (pv 3) (nomark _)))) pa_nil))))), ?_⟩
    refine ⟨_, rfl, _, _, _, _, _, rfl, .ty _, kv.ty, kit_ty (isA_tuple kv), _, rfl, ?_⟩
    cases kv with
    | @tup p xs e =>
      have hn := kl p xs rfl e
      have kA := (kd p xs rfl e).1
      refine iteF' rfl ⟨_, rfl, p, rfl, ⟨xs, SqT.of e⟩, fun D hD => lc_tupM (fun x => .bl (wholeB x 0 (bd - 1))) e hD (lsize hn) (fun _ => rfl) ?_ ?_⟩
      · intro i x hi H' Q' s' q
        obtain ⟨tx, kx⟩ := kA x (List.mem_of_getElem? hi)
        exact ⟨_, rfl, _, rfl, _, _, rfl, rfl, x, tx, _, _, rfl, kx.mono s', q⟩
      refine ⟨D, xs.map (fun x => wholeB x 0 (bd - 1)), rfl, SqL.of (by rw [upd_same, List.map_map]; rfl), _, rfl, ?_⟩
      have sD := same_new (o := HO.lst (xs.map fun x => V.bl (wholeB x 0 (bd - 1)))) hD
      have e1 := sD _ _ e
      have eN : numsB H (.ref p) bd = ((xs.map fun x => wholeB x 0 (bd - 1)).all id && rises (xs.map intOf)) := by simp only [numsB, e]
      rw [eN] at kk
      cases c : (xs.map fun x => wholeB x 0 (bd - 1)).all id with
      | false => exact iteT' rfl (q_eq (kk _ sD) (by rw [c, Bool.false_and]))
      | true =>
        rw [c, Bool.true_and] at kk
        refine iteF' rfl (g_next ?_)
        obtain ⟨ns, rfl⟩ : ∃ ns : List Int, xs = ns.map V.int := ⟨_, ints_back c⟩
        have eI : (ns.map V.int).map intOf = ns := by
          rw [List.map_map]
          exact List.map_id ns
        rw [eI] at kk
        revert sD e1
        generalize upd H D (.lst ((ns.map V.int).map fun x => V.bl (wholeB x 0 (bd - 1)))) = G
        intro sD e1
        have rest : ∀ q G2, Same G G2 → G2 q = some (.tup ((ns.map V.int).drop 1)) → ∀ D2, G2 D2 = none → ∃ W : Nat → Nat → Hp → Prop, (∃ m, W 0 m (upd G2 D2 (.lst []))) ∧ ∀ i m H, W i m H →
            ((RZ.ItzT K p q).stop i H ∧ ∃ (a : Addr) (bs : List Bool), [V.ref D2] = [V.ref a] ∧ SqL K H a (bs.map V.bl) ∧ Q (.bl (bs.all id)) H) ∨ ((RZ.ItzT K p q).go i H ∧ ∃ Nx : Hp → Prop, (∀ H', Nx H' → ∃ m', m' < m ∧ W (i + 1) m' H') ∧
              ∀ x H', (RZ.ItzT K p q).yld i H x H' → gTup K 2 (gCons (gName 2) (gCons (gName 3) gNil)) x (wipe [some (.ref p), some (.int bd), none, none] [2, 3]) H' fun σ2 H2 => wipe σ2 [2, 3] = wipe [some (.ref p), some (.int bd), none, none] [2, 3] ∧ tYes σ2 H2 fun b H3 =>
                if b = true then tOp (rI0 fun i j => V.bl (decide (i < j))) (tVar 2) (tVar 3) σ2 H3 fun y H4 => ∃ acc, H4 D2 = some (.lst acc) ∧ acc.length < sizeLine ∧ Nx (upd H4 D2 (.lst (acc ++ [y]))) else Nx H3) := by
          intro q G2 s2 hq D2 hD2
          have hp2 := s2 _ _ e1
          have hlen : ns.length - 1 = min (ns.map V.int).length ((ns.map V.int).drop 1).length := by
            rw [List.length_drop, List.length_map]; omega
          refine lc_it (walk_zipT hlen) (fun i H' => Same G2 H' ∧ H' D2 = some (.lst (((List.range i).map fun i => decide (ns.getD i 0 < ns.getD (i + 1) 0)).map V.bl))) ⟨same_new hD2, upd_same⟩ (fun i H' _ h => ⟨SqT.of (h.1 _ _ hp2), SqT.of (h.1 _ _ hq)⟩) ?_ ?_
          · rintro i x H1 H2 hi ⟨s', hd'⟩ ⟨T', y, z, rfl, hT, rfl, ey, ez⟩
            have hi1 : i < ns.length := by omega
            have hi2 : i + 1 < ns.length := by omega
            obtain rfl : V.int (ns.getD i 0) = y := Option.some.inj ((rowAt hi1).symm.trans ey)
            have ez' : ((ns.map V.int).drop 1)[i]? = some z := ez
            rw [List.getElem?_drop, Nat.add_comm, rowAt hi2] at ez'
            cases ez'
            refine ⟨T', _, rfl, SqT.of upd_same, rfl, _, _, rfl, _, _, rfl, rfl, rfl, ?_⟩
            unfold tYes
            dsimp only
            rw [if_pos rfl]
            have nT : D2 ≠ T' := fun z => by rw [z, hT] at hd'; cases hd'
            refine ⟨_, rfl, _, rfl, _, _, rfl, rfl, _, by rw [upd_ne nT]; exact hd', ?_, ?_, ?_⟩
            · rw [List.length_map, List.length_map, List.length_range]
              rw [List.length_map] at hn
              exact lsize (by omega)
            · exact same_put (s'.trans (same_new hT)) hD2
            · rw [upd_same, List.range_succ, List.map_append, List.map_append]; rfl
          · rintro H' ⟨s', hd'⟩
            refine ⟨D2, _, rfl, SqL.of hd', ?_⟩
            exact kk H' ((sD.trans s2).trans s')
        refine ⟨_, rfl, _, rfl, _, rfl, p, _, rfl, SqT.of e1, fun hw => ?_, fun hw q hq => ?_⟩
        · refine ⟨p, p, _, _, rfl, .inr ⟨SqT.of e1, SqT.of e1, ?_⟩⟩
          have he : ns = [] := by
            cases ns with
            | nil => rfl
            | cons x l =>
              have := hw.1
              rw [show (1 : Int) = ((1 : Nat) : Int) from rfl, HT.sIx_nat] at this
              simp at this
          subst he
          exact rest p G (Same.refl _) e1
        · refine ⟨p, q, _, _, rfl, .inr ⟨SqT.of (kept e1 hq), SqT.of upd_same, ?_⟩⟩
          exact rest q _ (same_new hq) (by rw [upd_same, show (1 : Int) = ((1 : Nat) : Int) from rfl, cutV_drop])
    | lst e => exact iteT' rfl (q_eq (kk _ (Same.refl _)) (by simp only [numsB, e]))
    | _ => exact iteT' rfl (q_eq (kk _ (Same.refl _)) rfl)
end

end Fold
namespace Fold
open PySem PySem.Spec PyProof.Rows L2
/-! ### ways -/
section
variable {P : Program} {w : World} {K : PySem.W.Frag} {mg : Str → Option Value} {base : Heap} {a : Ad}
def wf (b : Nat) (p : Addr) (bd : Nat) (y : Addr) : List (Str × V) := putF "yes" (.ref y) (putF "bound" (.int bd) (putF "step" (.ref p) (putF "base" (.int b) [])))
theorem wn1 : ¬ (("base" : Str) = "yes") := by decide +kernel
theorem wn2 : ¬ (("base" : Str) = "bound") := by decide +kernel
theorem wn3 : ¬ (("base" : Str) = "step") := by decide +kernel
theorem wn4 : ¬ (("step" : Str) = "yes") := by decide +kernel
theorem wn5 : ¬ (("step" : Str) = "bound") := by decide +kernel
theorem wn6 : ¬ (("bound" : Str) = "yes") := by decide +kernel
theorem wf_base (b : Nat) (p : Addr) (bd : Nat) (y : Addr) : (wf b p bd y).lookup ("base" : Str) = some (.int b) := by
  unfold wf; rw [lookup_putF, if_neg wn1, lookup_putF, if_neg wn2, lookup_putF, if_neg wn3, lookup_putF, if_pos rfl]
theorem wf_step (b : Nat) (p : Addr) (bd : Nat) (y : Addr) : (wf b p bd y).lookup ("step" : Str) = some (.ref p) := by
  unfold wf; rw [lookup_putF, if_neg wn4, lookup_putF, if_neg wn5, lookup_putF, if_pos rfl]
theorem wf_bound (b : Nat) (p : Addr) (bd : Nat) (y : Addr) : (wf b p bd y).lookup ("bound" : Str) = some (.int bd) := by
  unfold wf; rw [lookup_putF, if_neg wn6, lookup_putF, if_pos rfl]
theorem wf_yes (b : Nat) (p : Addr) (bd : Nat) (y : Addr) : (wf b p bd y).lookup ("yes" : Str) = some (.ref y) := by
  unfold wf; rw [lookup_putF, if_pos rfl]
theorem wf_no (b : Nat) (p : Addr) (bd : Nat) (y : Addr) {m : Str} (h1 : ¬ m = "yes") (h2 : ¬ m = "bound") (h3 : ¬ m = "step") (h4 : ¬ m = "base") : (wf b p bd y).lookup m = none := by
  unfold wf; rw [lookup_putF, if_neg h1, lookup_putF, if_neg h2, lookup_putF, if_neg h3, lookup_putF, if_neg h4]; rfl
/-- a way stands at x -/
def WayAt (C : Addr) (H : Hp) (x : Addr) (b : Nat) (s : Stp) (bd : Nat) (ys : List Nat) : Prop := ∃ dx p y, H x = some (.ins C dx (wf b p bd y)) ∧ StepAt H p s ∧ H y = some (.tup (nv ys))
theorem WayAt.mono {C : Addr} {H H' : Hp} {x : Addr} {b : Nat} {s : Stp} {bd : Nat} {ys : List Nat} (e : Same H H') (h : WayAt C H x b s bd ys) : WayAt C H' x b s bd ys := by
  obtain ⟨dx, p, y, h1, h2, h3⟩ := h
  exact ⟨dx, p, y, e _ _ h1, h2.mono e, e _ _ h3⟩
/-- a way's numbers are as they must be -/
structure WOk (b : Nat) (s : Stp) (bd : Nat) (ys : List Nat) : Prop where
  hb : 2 ≤ b ∧ b ≤ 12
  ok : OkS b s
  en : endB b s = true
  b1 : 1 ≤ bd
  b2 : bd ≤ 1000
  up : ys.Pairwise (· < ·)
  lt : ∀ y ∈ ys, y < bd
  lb : ∃ v, LB (mk b s) v ∧ v ≤ bd
  tm : ∃ T, Tame (mk b s) T
theorem Kn.there {H : Hp} {r : Addr} {t : String} (k : Kn H (.ref r) t) : ∃ o, H r = some o := by
  cases k with
  | lst e => exact ⟨_, e⟩
  | tup e => exact ⟨_, e⟩
theorem KnDeep.mono {H H' : Hp} (s : Same H H') {xs : List V} (k : KnDeep H xs) : KnDeep H' xs := by
  refine ⟨k.1.mono s, fun r ws m e => ?_⟩
  obtain ⟨t, kn⟩ := k.1 _ m
  obtain ⟨o, ho⟩ := kn.there
  have := s _ _ ho
  rw [e] at this
  cases this
  exact (k.2 r ws m ho).mono s
theorem KnT.mono {H H' : Hp} (s : Same H H') {v : V} (k : KnT H v) : KnT H' v := by
  obtain ⟨⟨t, kn⟩, kd⟩ := k
  refine ⟨⟨t, kn.mono s⟩, fun p xs e h => ?_⟩
  subst e
  obtain ⟨o, ho⟩ := kn.there
  have := s _ _ ho
  rw [h] at this
  cases this
  exact (kd p xs rfl ho).mono s
theorem KnT.same {H H' : Hp} (s : Same H H') {v : V} (k : KnT H v) {p : Addr} (e : v = .ref p) : H' p = H p := by
  subst e
  obtain ⟨⟨t, kn⟩, kd⟩ := k
  obtain ⟨o, ho⟩ := kn.there
  rw [ho, s _ _ ho]
theorem numsB_same {H H' : Hp} (s : Same H H') {v : V} (k : KnT H v) (bd : Int) : numsB H' v bd = numsB H v bd := by
  cases v with
  | ref p => simp only [numsB, k.same s rfl]
  | _ => rfl
theorem KnT.ints {H : Hp} {y : Addr} {l : List Int} (h : H y = some (.tup (l.map V.int))) : KnT H (.ref y) := by
  refine ⟨⟨_, .tup h⟩, fun p xs e h' => ?_⟩
  cases e
  rw [h] at h'
  cases h'
  refine ⟨KnAll.ints H l, fun r ws m => ?_⟩
  obtain ⟨i, _, e⟩ := List.mem_map.mp m
  cases e
theorem nums_ok {H : Hp} {y : Addr} {ys : List Nat} {bd : Nat} (h : H y = some (.tup (nv ys))) (up : ys.Pairwise (· < ·)) (lt : ∀ y ∈ ys, y < bd) : numsB H (.ref y) bd = true := by
  have e : ((nv ys).map intOf) = ri ys := by
    rw [nv, List.map_map]
    exact List.map_id _
  simp only [numsB, h, e, Bool.and_eq_true]
  constructor
  · rw [List.all_eq_true]
    intro x hx
    obtain ⟨v, hv, rfl⟩ := List.mem_map.mp hx
    obtain ⟨i, hi, rfl⟩ := List.mem_map.mp hv
    obtain ⟨n, hn, rfl⟩ := List.mem_map.mp hi
    have := lt n hn
    exact wholeB_iff.mpr ⟨n, rfl, by omega, by omega⟩
  · rw [rises, List.all_eq_true]
    intro x hx
    obtain ⟨i, hi, rfl⟩ := List.mem_map.mp hx
    rw [List.mem_range, ri, List.length_map] at hi
    have h1 : i < ys.length := by omega
    have h2 : i + 1 < ys.length := by omega
    have := List.pairwise_iff_getElem.mp up i (i + 1) h1 h2 (by omega)
    refine decide_eq_true ?_
    rw [ri, List.getD_eq_getElem?_getD, List.getD_eq_getElem?_getD, List.getElem?_map, List.getElem?_map, List.getElem?_eq_getElem h1, List.getElem?_eq_getElem h2]
    show ((ys[i] : Nat) : Int) < ((ys[i + 1] : Nat) : Int)
    omega
def sp_Way_init (a : Ad) : Sp := fun vs H Q E => ∃ (x dx : Addr) (v1 v2 v3 v4 : V), vs = [.ref x, v1, v2, v3, v4] ∧ H x = some (.ins a.Way dx []) ∧ (∃ t, Kn H v1 t) ∧ KnT H v2 ∧ (∃ t, Kn H v3 t) ∧ KnT H v4 ∧
  (∀ p xs, v4 = .ref p → H p = some (.tup xs) → xs.length ≤ 1000000) ∧
  (okB H v1 v2 = false → ∀ H', Same H H' → E (.ref a.BadStep) none H') ∧
  (okB H v1 v2 = true → ∃ (b : Nat) (p : Addr) (s : Stp), v1 = .int b ∧ v2 = .ref p ∧ (2 ≤ b ∧ b ≤ 12) ∧ StepAt H p s ∧ OkS b s ∧
    ((wholeB v3 1 1000 && numsB H v4 (intOf v3)) = false → ∀ H', Same H H' → E (.ref a.BadWay) none H') ∧
    ((wholeB v3 1 1000 && numsB H v4 (intOf v3)) = true → ∃ (bd : Nat) (y : Addr) (ys : List Nat), v3 = .int bd ∧ v4 = .ref y ∧ H y = some (.tup (nv ys)) ∧
      (endB b s = false → ∀ H', Same H H' → E (.ref a.NoEnd) none H') ∧
      (endB b s = true → ∀ v T, LB (mk b s) v → Tame (mk b s) T → (bd < v → ∀ H', Same H H' → E (.ref a.NoEnd) none H') ∧ (v ≤ bd → ∀ H', WayAt a.Way H' x b s bd ys → But x H H' → Q .non H'))))
theorem ok_Way___init__ (T : Txt K mg a) : Mt (L2.CX P w) P w K mg base 7 a.Way "__init__" (sp_Way_init a) := by
  have c_check_step := ok_check_step (P := P) (w := w) (base := base) T; have c_least_bound := ok_least_bound (P := P) (w := w) (base := base) T; have c_is_whole := ok_is_whole (P := P) (w := w) (base := base) T; have c_are_numbers := ok_are_numbers (P := P) (w := w) (base := base) T
  refine T.d_Way___init__.m1 sc_Way___init__ (fun vs H Q E h => ?_) (fun f cdv A outer s H vs Q E hr h => ?_)
  · obtain ⟨x, dx, v1, v2, v3, v4, rfl, _⟩ := h
    rfl
  · obtain ⟨x, dx, v1, v2, v3, v4, rfl, hx, k1, k2, k3, k4, l4, kN, kY⟩ := h
    have tk := takes_of (X := cxOf (L2.CX P w) P w K mg base ["self", "base", "step", "bound", "yes", "least"] "Way.__init__" (defScope s_Way___init__) f cdv A outer s H E) rfl rfl rfl rfl
    refine ⟨_, (pss_cons (ps_expr (pe_1 c_check_step hr (by decide) tk (by exact (pa_cons (pv 1) (pa_cons (pv 2) pa_nil)))))
      (pss_cons (ps_if (pw_or (pt_not (pt_val (pe_0 c_is_whole hr (by decide) (pa_cons (pv 3) (pa_cons pe_int (pa_cons (pe_gi (by rfl) T.g_MOST_BOUND) pa_nil)))))) (pw_or1 (pt_not (pt_val (pe_0 c_are_numbers hr (by decide) (pa_cons (pv 4) (pa_cons (pv 3) pa_nil))))))).pt (pss_one (ps_raise rfl tk T.x_BadWay.pmk)) pss_nil)
      (pss_cons (ps_set (i := 5) sc_Way___init__.nd rfl (Or.inl rfl) (pe_1 c_least_bound hr (by decide) tk (by exact (pa_cons (pv 1) (pa_cons (pv 2) pa_nil)))))
      (pss_cons (ps_if (pw_or (pt_cmpR op_isN (pv 5) pe_non (nomark _)) (pw_or1 (pt_cmpR op_gt (pv 5) (pv 3) (nomark _)))).pt (pss_one (ps_raise rfl tk T.x_NoEnd.pmk)) pss_nil)
      (pss_cons (ps_fld (pv 0) (pv 1) rfl)
      (pss_cons (ps_fld (pv 0) (pv 2) rfl)
      (pss_cons (ps_fld (pv 0) (pv 3) rfl)
      (pss_one (ps_fld (pv 0) (pv 4) rfl))))))))), ?_⟩
    refine ⟨_, rfl, _, rfl, v1, v2, rfl, k1, k2, fun c H1 s1 => ?_, fun c H1 s1 => kN c H1 s1⟩
    obtain ⟨b, p, st, rfl, rfl, hb, hs, ho, q1, q2⟩ := kY c
    obtain ⟨t3, k3⟩ := k3
    refine ⟨_, rfl, v3, t3, _, _, rfl, k3.mono s1, _, rfl, ?_⟩
    by_cases c3 : wholeB v3 1 1000 = true
    · refine iteF' (by rw [c3]; rfl) ?_
      obtain ⟨i, rfl, i1, i2⟩ := wholeB_iff.mp c3
      refine ⟨_, rfl, _, rfl, v4, i, rfl, k4.mono s1, fun q xs e h => ?_, fun H2 s2 => ⟨_, rfl, ?_⟩⟩
      · rw [k4.same s1 e] at h
        exact l4 q xs e h
      · rw [numsB_same s1 k4]
        have s12 := s1.trans s2
        cases c4 : numsB H v4 i with
        | false => exact iteT' rfl (q1 (by rw [c3]; exact c4) H2 s12)
        | true =>
          refine iteF' rfl (g_next ?_)
          obtain ⟨bd, y, ys, e3, rfl, hy, q3, q4⟩ := q2 (by rw [c3]; exact c4)
          injection e3 with e3
          subst e3
          have hs2 := hs.mono s12
          refine ⟨_, rfl, _, rfl, _, _, rfl, ⟨_, .int _⟩, hs2.known, fun c => ⟨b, p, st, rfl, rfl, hb, hs2, ho, fun e v T3 H3 s3 lb tm => ?_, fun e H3 s3 => ?_⟩, fun c => ?_⟩
          · have s13 := s12.trans s3
            obtain ⟨q5, q6⟩ := q4 e v T3 lb tm
            refine ⟨_, rfl, rfl, _, rfl, iteF' rfl ⟨_, rfl, _, rfl, _, _, rfl, rfl, _, rfl, ?_⟩⟩
            by_cases cv : bd < v
            · exact iteT' (decide_eq_true (by omega)) (q5 cv H3 s13)
            · refine iteF' (decide_eq_false (by omega)) (g_next ?_)
              have hx3 := s13 _ _ hx
              refine ⟨_, rfl, _, rfl, x, a.Way, dx, [], rfl, hx3, T.cl_Way.cl, T.cl_Way.na.1, (by decide), _, rfl, _, rfl, x, a.Way, dx, _, rfl, upd_same, T.cl_Way.cl, T.cl_Way.na.2.1, Nat.lt_of_le_of_lt (putF_len _ _ _) (by decide), ?_⟩
              refine ⟨_, rfl, _, rfl, x, a.Way, dx, _, rfl, upd_same, T.cl_Way.cl, T.cl_Way.na.2.2.1, Nat.lt_of_le_of_lt (putF_len _ _ _) (Nat.lt_of_le_of_lt (Nat.succ_le_succ (putF_len _ _ _)) (by decide)),
                _, rfl, _, rfl, x, a.Way, dx, _, rfl, upd_same, T.cl_Way.cl, T.cl_Way.na.2.2.2.1, Nat.lt_of_le_of_lt (putF_len _ _ _) (Nat.lt_of_le_of_lt (Nat.succ_le_succ (Nat.le_trans (putF_len _ _ _) (Nat.succ_le_succ (putF_len _ _ _)))) (by decide)), ?_⟩
              have bt : But x H (upd (upd (upd (upd H3 x (.ins a.Way dx (putF "base" (.int b) []))) x (.ins a.Way dx (putF "step" (.ref p) (putF "base" (.int b) [])))) x (.ins a.Way dx (putF "bound" (.int bd) (putF "step" (.ref p) (putF "base" (.int b) []))))) x (.ins a.Way dx (wf b p bd y))) := fun c o nb e => by
                rw [upd_ne nb, upd_ne nb, upd_ne nb, upd_ne nb]
                exact s13 c o e
              refine q6 (by omega) _ ⟨dx, p, y, upd_same, ?_, bt _ _ (ne_of hy hx (fun z => nomatch z)) hy⟩ bt
              have nt : ∀ {q : Addr} {xs : List V}, H q = some (.tup xs) → _ := fun {q xs} e => bt q _ (ne_of e hx (fun z => nomatch z)) e
              cases st with
              | fold k x y => exact nt hs
              | weigh row =>
                obtain ⟨r, e1, e2⟩ := hs
                exact ⟨r, nt e1, nt e2⟩
          · exact ⟨_, rfl, rfl, _, rfl, iteT' rfl (q3 e H3 (s12.trans s3))⟩
          · rw [hs2.ok hb ho] at c
            cases c
    · exact iteT' (by rw [bf c3]; rfl) (iteT (q1 (by rw [bf c3, Bool.false_and]) H1 s1))
end

end Fold
namespace Fold
open PySem PySem.Spec PyProof.Rows L2
section
variable {P : Program} {w : World} {K : PySem.W.Frag} {mg : Str → Option Value} {base : Heap} {a : Ad}
/-- after k steps, and not before, a number is below the bound -/
structure RowIs (f : Nat → Nat) (bd n k : Nat) : Prop where
  end_ : it f k n < bd
  before : ∀ i, i < k → bd ≤ it f i n
theorem RowIs.same {f : Nat → Nat} {bd n k j : Nat} (h : RowIs f bd n k) (g : RowIs f bd n j) : k = j := by
  rcases Nat.lt_trichotomy k j with c | c | c
  · have := g.before k c
    have := h.end_
    omega
  · exact c
  · have := h.before j c
    have := g.end_
    omega
theorem row_is {f : Nat → Nat} {bd n : Nat} : ∀ k, it f k n < bd → ∃ j, RowIs f bd n j := fun k => by
  induction k using Nat.strongRecOn with
  | ind k ih =>
    intro h
    by_cases c : ∃ i, i < k ∧ it f i n < bd
    · obtain ⟨i, h1, h2⟩ := c
      exact ih i h1 h2
    · exact ⟨k, h, fun i hi => Nat.le_of_not_lt fun z => c ⟨i, hi, z⟩⟩
theorem RowIs.nodup {f : Nat → Nat} {bd n k : Nat} (h : RowIs f bd n k) : (orb f n (k + 1)).Nodup := by
  rw [orb, List.Nodup, List.pairwise_map]
  refine (List.pairwise_lt_range (n := k + 1)).imp_of_mem fun {i j} _ hj hij e => ?_
  have hj : j < k + 1 := List.mem_range.mp hj
  -- from i on all comes round, and never comes below the bound
  have h1 : it f (i + (k - j)) n = it f k n := by
    rw [it_add, e, ← it_add, show j + (k - j) = k by omega]
  have h2 := h.before (i + (k - j)) (by omega)
  have h3 := h.end_
  omega
theorem RowIs.len {f : Nat → Nat} {bd n k T N : Nat} (h : RowIs f bd n k) (t : Tame f T) (hN : 1000000 ≤ N) (hn : n < N) : k < N := by
  have cl : ∀ i m, m < N → it f i m < N := fun i => by
    induction i with
    | zero => exact fun m h => h
    | succ i ih =>
      intro m hm
      refine ih _ ?_
      by_cases c : T ≤ m
      · have := t.less m c
        omega
      · have h1 := t.twelve m
        have h2 := t.le
        omega
  have := nodup_bound N _ h.nodup fun x m => by
    obtain ⟨i, _, rfl⟩ := orb_mem.mp m
    exact cl i n hn
  rw [orb_len] at this
  exact this
theorem RowIs.len1 {f : Nat → Nat} {bd n k T N : Nat} (h : RowIs f bd n k) (t : Tame f T) (hN : 1000000 ≤ N) (hn : f n < N) : k ≤ N := by
  cases k with
  | zero => exact Nat.zero_le _
  | succ k =>
    have h' : RowIs f bd (f n) k := ⟨h.end_, fun i hi => h.before (i + 1) (by omega)⟩
    exact h'.len t hN hn
/-- how great a number may be that is led down a row: -/
def RowN (b : Nat) (s : Stp) (n : Nat) : Prop := n < 10000000 ∨ mk b s n < 9000000
theorem RowIs.lenN {b : Nat} {s : Stp} {bd n k T : Nat} (h : RowIs (Fold.mk b s) bd n k) (t : Tame (Fold.mk b s) T) (hn : RowN b s n) : k < 10000000 := by
  rcases hn with hn | hn
  · exact h.len t (by decide) hn
  · have := h.len1 t (N := 9000000) (by decide) hn
    omega
theorem WOk.row {b : Nat} {s : Stp} {bd : Nat} {ys : List Nat} (h : WOk b s bd ys) (n : Nat) : ∃ k, RowIs (Fold.mk b s) bd n k := by
  obtain ⟨v, lb, hv⟩ := h.lb
  obtain ⟨T, tm⟩ := h.tm
  obtain ⟨k, hk⟩ := tm.hit lb n
  exact row_is k (by omega)
theorem atI_orb {f : Nat → Nat} {n k : Nat} : atI (nv (orb f n (k + 1))) (-1) = some (V.int (it f k n : Nat)) := by
  rw [orb_succ, nv_snoc]
  exact atI_last _ _
theorem lsizeM {n : Nat} (h : n ≤ 10000000) : n < sizeLine := Nat.lt_of_le_of_lt h (by decide)
def sp_Way_row (a : Ad) : Sp := fun vs H Q _ => ∃ (x : Addr) (n b : Nat) (s : Stp) (bd : Nat) (ys : List Nat), vs = [.ref x, .int n] ∧ WayAt a.Way H x b s bd ys ∧ WOk b s bd ys ∧ RowN b s n ∧
  ∀ k q H', RowIs (mk b s) bd n k → k < 10000000 → Same H H' → H q = none → H' q = some (.lst (nv (orb (mk b s) n (k + 1)))) → Q (.ref q) H'
theorem ok_Way_row (T : Txt K mg a) : Mt CX0 P w K mg base 3 a.Way "row" (sp_Way_row a) := by
  have c_after := ok_after (P := P) (w := w) (base := base) T
  refine T.d_Way_row.m0 sc_Way_row (fun vs H Q E h => ?_) (fun f cdv A outer s H vs Q E hr h => ?_)
  · obtain ⟨x, n, b, st, bd, ys, rfl, _⟩ := h
    rfl
  · obtain ⟨x, n, b, st, bd, ys, rfl, hW, ok, hn, kk⟩ := h
    refine ⟨_, (pss_cons (ps_set (i := 2) sc_Way_row.nd rfl (Or.inl rfl) (pe_lst (pa_cons (pv 1) pa_nil)))
      (pss_cons (ps_while PassesOwn.never (pt_cmpR op_ge (pe_ix ix_list (pv 2) (pe_un un_neg pe_int) (fun _ _ => rfl)) (pe_fld (pv 0) rfl) (nomark _)) (pss_one (ps_expr (pe_bm PySem.F.plainAttrs_list PySem.F.slot_list_append PySem.F.type_list_append mt_append (pv 2) (pa_cons (pe_0 c_after hr (by decide) (pa_cons (pe_fld (pv 0) rfl) (pa_cons (pe_fld (pv 0) rfl) (pa_cons (pe_ix ix_list (pv 2) (pe_un un_neg pe_int) (fun _ _ => rfl)) pa_nil)))) pa_nil)))))
      (pss_one (ps_ret (pv 2))))), ?_⟩
    obtain ⟨dx, p, y, hx, hs, hy⟩ := id hW
    obtain ⟨k, hk⟩ := ok.row n
    obtain ⟨T', tm⟩ := ok.tm
    have kl := hk.lenN tm hn
    have hbi : (2 : Int) ≤ (b : Int) ∧ (b : Int) ≤ 12 := by have := ok.hb; omega
    refine ⟨_, rfl, (by show 1 ≤ sizeLine; decide), fun R hR => ?_⟩
    refine ⟨fun m σ H' => ∃ i : Nat, m = k - i ∧ i ≤ k ∧ σ = [some (.ref x), some (.int n), some (.ref R)] ∧ Same H H' ∧ H' R = some (.lst (nv (orb (mk b st) n (i + 1)))), ⟨_, 0, rfl, Nat.zero_le _, rfl, same_new hR, upd_same⟩, ?_⟩
    rintro m σ H1 ⟨i, rfl, ik, rfl, s1, hR1⟩
    refine ⟨_, rfl, _, rfl, R, _, _, _, rfl, rfl, SqL.of hR1, atI_orb, _, rfl, x, a.Way, dx, _, _, rfl, s1 _ _ hx, T.cl_Way.cl, T.cl_Way.na.2.2.1, wf_bound _ _ _ _, _, _, rfl, rfl, _, rfl, ?_⟩
    by_cases c : it (mk b st) i n < bd
    · refine iteF' (decide_eq_false (by omega)) ⟨_, rfl, ?_⟩
      have hi : RowIs (mk b st) bd n i := ⟨c, fun j hj => hk.before j (by omega)⟩
      obtain rfl := hi.same hk
      exact kk i R H1 hi kl s1 hR hR1
    · refine iteT' (decide_eq_true (by omega)) ?_
      have ik' : i < k := by
        refine Nat.lt_of_le_of_ne ik fun e => c ?_
        rw [e]; exact hk.end_
      refine ⟨_, fun _ _ h => h, _, rfl, .inl ⟨rfl, _, SqL.of hR1⟩, ?_⟩
      refine ⟨_, rfl, x, a.Way, dx, _, _, rfl, s1 _ _ hx, T.cl_Way.cl, T.cl_Way.na.1, wf_base _ _ _ _, _, rfl, x, a.Way, dx, _, _, rfl, s1 _ _ hx, T.cl_Way.cl, T.cl_Way.na.2.1, wf_step _ _ _ _, _, rfl, _, rfl, R, _, _, _, rfl, rfl, SqL.of hR1, atI_orb, b, p, _, st, rfl, hbi, hs.mono s1, ok.ok, by omega, ?_⟩
      refine ⟨R, _, _, rfl, rfl, hR1, by rw [nv_len, orb_len]; exact lsizeM (by omega), k - (i + 1), by omega, i + 1, rfl, ik', rfl, same_put s1 hR, ?_⟩
      rw [upd_same, orb_succ (p := i + 1), nv_snoc, it_one]; rfl
def sp_Way_says (a : Ad) : Sp := fun vs H Q _ => ∃ (x : Addr) (n b : Nat) (s : Stp) (bd : Nat) (ys : List Nat), vs = [.ref x, .int n] ∧ WayAt a.Way H x b s bd ys ∧ WOk b s bd ys ∧ RowN b s n ∧
  ∀ k H', RowIs (mk b s) bd n k → Same H H' → Q (.bl (decide (it (mk b s) k n ∈ ys))) H'
theorem ok_Way_says (T : Txt K mg a) : Mt CX0 P w K mg base 4 a.Way "says" (sp_Way_says a) := by
  have o_Way_row := ok_Way_row (P := P) (w := w) (base := base) T
  refine T.d_Way_says.m0 sc_Way_says (fun vs H Q E h => ?_) (fun f cdv A outer s H vs Q E hr h => ?_)
  · obtain ⟨x, n, b, st, bd, ys, rfl, _⟩ := h
    rfl
  · obtain ⟨x, n, b, st, bd, ys, rfl, hW, ok, hn, kk⟩ := h
    refine ⟨_, (pss_one (ps_ret (pe_cmpR op_in_seq (pe_ix ix_list (pe_o0 o_Way_row hr (by decide) (pv 0) T.cl_Way.cl (pa_cons (pv 1) pa_nil)) (pe_un un_neg pe_int) (fun _ _ => rfl)) (pe_fld (pv 0) rfl) (by with_unfolding_all rfl)))), ?_⟩
    obtain ⟨dx, p, y, hx, hs, hy⟩ := id hW
    refine ⟨_, rfl, x, dx, _, rfl, hx, wf_no _ _ _ _ (by decide +kernel) (by decide +kernel) (by decide +kernel) (by decide +kernel), _, rfl, x, n, b, st, bd, ys, rfl, hW, ok, hn, fun k q H1 hk kl s1 q0 hq => ?_⟩
    refine ⟨_, rfl, q, _, _, _, rfl, rfl, SqL.of hq, atI_orb, _, rfl, x, a.Way, dx, _, _, rfl, s1 _ _ hx, T.cl_Way.cl, T.cl_Way.na.2.2.2.1, wf_yes _ _ _ _, y, _, rfl, .inr (SqT.of (s1 _ _ hy)), rfl, nv_flat _, q_eq (kk k H1 hk s1) ?_⟩
    rw [inV_nv]; rfl
/-! ### a step as data -/
def stepD : Stp → PyData
  | .fold k x y => .tuple [.str "fold", .int k, .int x, .int y]
  | .weigh row => .tuple [.str "weigh", .tuple (row.map PyData.int)]
theorem ints_eqv (ns ms : List Int) : PyData.eqvAll (ns.map PyData.int) (ms.map PyData.int) = decide (ns = ms) := by
  induction ns generalizing ms with
  | nil => cases ms <;> simp [PyData.eqvAll]
  | cons n ns ih =>
    cases ms with
    | nil => simp [PyData.eqvAll]
    | cons m ms =>
      simp only [List.map_cons, PyData.eqvAll, PyData.eqv, ih]
      rw [Bool.eq_iff_iff]
      simp
theorem stepD_eqv (s : Stp) : PyData.eqv (stepD s) (stepD s) = true := by
  cases s with
  | fold k x y => simp [stepD, PyData.eqv, PyData.eqvAll]
  | weigh row => simp [stepD, PyData.eqv, PyData.eqvAll, ints_eqv]
theorem stepD_lay (s : Stp) : PyData.canLay0 (stepD s) = true ∧ PyData.depth (stepD s) ≤ 3 := by
  cases s with
  | fold k x y =>
    refine ⟨?_, ?_⟩
    · simp [stepD, PyData.canLay0, PyData.canLayAll0]
      decide +kernel
    · simp [stepD, PyData.depth, PyData.depthAll]
  | weigh row =>
    refine ⟨?_, ?_⟩
    · simp [stepD, PyData.canLay0, PyData.canLayAll0, iDs_lay]
      decide +kernel
    · have := iDs_depth row
      simp only [stepD, PyData.depth, PyData.depthAll]
      omega
theorem StepAt.dp {K : PySem.W.Frag} {H : Hp} {p : Addr} {s : Stp} (h : StepAt H p s) : Dp K H (.ref p) (stepD s) := by
  cases s with
  | fold k x y => exact .tup (SqT.of h) (.cons (.str _) (.cons (.int _) (.cons (.int _) (.cons (.int _) .nil))))
  | weigh row =>
    obtain ⟨r, h1, h2⟩ := h
    exact .tup (SqT.of h1) (.cons (.str _) (.cons (.tup (SqT.of h2) (iD_all row)) .nil))
theorem shaped_of {d : PyData} (h1 : PyData.canLay0 d = true) (h2 : PyData.depth d ≤ 64) : SeqAt.shaped d = true := by
  show (PyData.canLay0 d && decide (PyData.depth d ≤ 64)) = true
  rw [Bool.and_eq_true]
  exact ⟨h1, decide_eq_true h2⟩
theorem bs_shaped (b : Nat) (s : Stp) : SeqAt.shaped (.tuple [.int b, stepD s]) = true := by
  obtain ⟨h1, h2⟩ := stepD_lay s
  refine shaped_of ?_ ?_
  · simp [PyData.canLay0, PyData.canLayAll0, h1]
  · simp only [PyData.depth, PyData.depthAll]
    omega
theorem by_shaped (bd : Nat) (l : List Int) : SeqAt.shaped (.tuple [.int bd, .tuple (l.map PyData.int)]) = true := by
  refine shaped_of ?_ ?_
  · simp [PyData.canLay0, PyData.canLayAll0, iDs_lay]
  · have := iDs_depth l
    simp only [PyData.depth, PyData.depthAll]
    omega
theorem ri_eq {l m : List Nat} : ri l = ri m ↔ l = m := ⟨ri_inj, fun h => by rw [h]⟩
def sp_Way_eq (a : Ad) : Sp := fun vs H Q _ => ∃ (x x2 : Addr) (b : Nat) (s : Stp) (bd bd2 : Nat) (ys ys2 : List Nat), vs = [.ref x, .ref x2] ∧ WayAt a.Way H x b s bd ys ∧ WayAt a.Way H x2 b s bd2 ys2 ∧
  ∀ H', Same H H' → Q (.bl (decide (bd = bd2) && decide (ys = ys2))) H'
theorem ok_Way___eq__ (T : Txt K mg a) : Mt CX0 P w K mg base 1 a.Way "__eq__" (sp_Way_eq a) := by
  refine T.d_Way___eq__.m0 sc_Way___eq__ (fun vs H Q E h => ?_) (fun f cdv A outer s H vs Q E hr h => ?_)
  · obtain ⟨x, x2, b, st, bd, bd2, ys, ys2, rfl, _⟩ := h
    rfl
  · obtain ⟨x, x2, b, st, bd, bd2, ys, ys2, rfl, hW, hV, kk⟩ := h
    refine ⟨_, (pss_cons (ps_if (pw_or (pt_not (pt_val (pe_callB call_isi (by rfl) T.n_isinstance b_isinstance (pa_cons (pv 1) (pa_cons (pe_glob (v := .ref a.Way) (by rfl) T.cl_Way.g rfl) pa_nil))))) (pw_or1 (pt_cmpR (op_neD (hu64 hr)) (pe_tup (pa_cons (pe_fld (pv 0) rfl) (pa_cons (pe_fld (pv 0) rfl) pa_nil))) (pe_tup (pa_cons (pe_fld (pv 1) rfl) (pa_cons (pe_fld (pv 1) rfl) pa_nil))) (nomark _)))).pt (pss_one (ps_ret pe_bl)) pss_nil)
      (pss_one (ps_ret (pe_cmpR (op_eqD (hu64 hr)) (pe_tup (pa_cons (pe_fld (pv 0) rfl) (pa_cons (pe_fld (pv 0) rfl) pa_nil))) (pe_tup (pa_cons (pe_fld (pv 1) rfl) (pa_cons (pe_fld (pv 1) rfl) pa_nil))) (nomark _))))), ?_⟩
    obtain ⟨dx, p, y, hx, hs, hy⟩ := id hW
    obtain ⟨dx2, p2, y2, hx2, hs2, hy2⟩ := id hV
    refine ⟨_, rfl, _, _, _, _, _, rfl, .own _, .base (.ins hx2 T.ic_Way.cl T.ic_Way.ha T.ic_Way.hn T.ic_Way.htk T.ic_Way.hm), T.ic_Way.me, _, rfl, iteF' rfl ?_⟩
    refine ⟨_, rfl, x, a.Way, dx, _, _, rfl, hx, T.cl_Way.cl, T.cl_Way.na.1, wf_base _ _ _ _, _, rfl, x, a.Way, dx, _, _, rfl, hx, T.cl_Way.cl, T.cl_Way.na.2.1, wf_step _ _ _ _, (by show 2 ≤ sizeLine; decide), fun t1 ht1 => ?_⟩
    have s1 := same_new (o := HO.tup [.int b, .ref p]) ht1
    refine ⟨_, rfl, x2, a.Way, dx2, _, _, rfl, s1 _ _ hx2, T.cl_Way.cl, T.cl_Way.na.1, wf_base _ _ _ _, _, rfl, x2, a.Way, dx2, _, _, rfl, s1 _ _ hx2, T.cl_Way.cl, T.cl_Way.na.2.1, wf_step _ _ _ _, (by show 2 ≤ sizeLine; decide), fun t2 ht2 => ?_⟩
    have s2 := same_upd (o := HO.tup [.int b, .ref p2]) s1 ht2
    refine ⟨.tuple [.int b, stepD st], .tuple [.int b, stepD st], .tup (SqT.of (kept upd_same ht2)) (.cons (.int _) (.cons (hs.mono s2).dp .nil)), .tup (SqT.of upd_same) (.cons (.int _) (.cons (hs2.mono s2).dp .nil)), bs_shaped _ _, bs_shaped _ _, _, rfl, ?_⟩
    have e1 : PyData.eqv (.tuple [.int b, stepD st]) (.tuple [.int b, stepD st]) = true := by simp [PyData.eqv, PyData.eqvAll, stepD_eqv]
    rw [e1]
    refine iteF' rfl (g_next ?_)
    refine ⟨_, rfl, x, a.Way, dx, _, _, rfl, s2 _ _ hx, T.cl_Way.cl, T.cl_Way.na.2.2.1, wf_bound _ _ _ _, _, rfl, x, a.Way, dx, _, _, rfl, s2 _ _ hx, T.cl_Way.cl, T.cl_Way.na.2.2.2.1, wf_yes _ _ _ _, (by show 2 ≤ sizeLine; decide), fun t3 ht3 => ?_⟩
    have s3 := same_upd (o := HO.tup [.int bd, .ref y]) s2 ht3
    refine ⟨_, rfl, x2, a.Way, dx2, _, _, rfl, s3 _ _ hx2, T.cl_Way.cl, T.cl_Way.na.2.2.1, wf_bound _ _ _ _, _, rfl, x2, a.Way, dx2, _, _, rfl, s3 _ _ hx2, T.cl_Way.cl, T.cl_Way.na.2.2.2.1, wf_yes _ _ _ _, (by show 2 ≤ sizeLine; decide), fun t4 ht4 => ?_⟩
    have s4 := same_upd (o := HO.tup [.int bd2, .ref y2]) s3 ht4
    refine ⟨.tuple [.int bd, .tuple ((ri ys).map PyData.int)], .tuple [.int bd2, .tuple ((ri ys2).map PyData.int)], .tup (SqT.of (kept upd_same ht4)) (.cons (.int _) (.cons (.tup (SqT.of (s4 _ _ hy)) (iD_all _)) .nil)), .tup (SqT.of upd_same) (.cons (.int _) (.cons (.tup (SqT.of (s4 _ _ hy2)) (iD_all _)) .nil)), by_shaped _ _, by_shaped _ _, ?_⟩
    refine q_eq (kk _ s4) ?_
    congr 1
    simp only [PyData.eqv, PyData.eqvAll, ints_eqv, Bool.and_true]
    rw [Bool.eq_iff_iff]
    simp only [Bool.and_eq_true, decide_eq_true_eq, beq_iff_eq, ri_eq]
    exact ⟨fun h => ⟨by omega, h.2⟩, fun h => ⟨by omega, h.2⟩⟩
end

end Fold
namespace Fold
open PySem PySem.Spec PyProof.Rows L2
/-! ### behind a draw -/
section
theorem DrawsAt.tup {H H' : Hp} {d l q : Addr} {xs : List V} (hD : DrawsAt H d l) (b : But d H H') (e : H q = some (.tup xs)) : H' q = some (.tup xs) := by
  obtain ⟨ns, i, g, e', h1, h2⟩ := hD
  exact b q _ (ne_of e h1 (fun z => nomatch z)) e
theorem DrawsAt.ins {H H' : Hp} {d l q C dx : Addr} {fs : List (Str × V)} (hD : DrawsAt H d l) (b : But d H H') (e : H q = some (.ins C dx fs)) : H' q = some (.ins C dx fs) := by
  obtain ⟨ns, i, g, e', h1, h2⟩ := hD
  exact b q _ (ne_of e h1 (fun z => nomatch z)) e
theorem DrawsAt.nums {H H' : Hp} {d l q : Addr} {xs : List Nat} (hD : DrawsAt H d l) (b : But d H H') (e : H q = some (.lst (nv xs))) : H' q = some (.lst (nv xs)) := by
  refine b q _ (hD.neL e fun v m r => ?_) e
  obtain ⟨i, _, rfl⟩ := List.mem_map.mp m
  exact fun z => nomatch z
theorem StepAt.but {H H' : Hp} {d l p : Addr} {s : Stp} (h : StepAt H p s) (hD : DrawsAt H d l) (b : But d H H') : StepAt H' p s := by
  cases s with
  | fold k x y => exact hD.tup b h
  | weigh row =>
    obtain ⟨r, e1, e2⟩ := h
    exact ⟨r, hD.tup b e1, hD.tup b e2⟩
theorem WayAt.but {H H' : Hp} {C d l x : Addr} {b : Nat} {s : Stp} {bd : Nat} {ys : List Nat} (h : WayAt C H x b s bd ys) (hD : DrawsAt H d l) (u : But d H H') : WayAt C H' x b s bd ys := by
  obtain ⟨dx, p, y, h1, h2, h3⟩ := h
  exact ⟨dx, p, y, hD.ins u h1, h2.but hD u, hD.tup u h3⟩
end
/-! ### sums of figures -/
theorem wsum1 {b : Nat} (hb : 2 ≤ b) : ∀ n i, 0 ≤ wsum b [1] n i ∧ wsum b [1] n i ≤ n ∧ (b ≤ n → wsum b [1] n i < n) ∧ (n < b → wsum b [1] n i = n) := fun n => by
  induction n using Nat.strongRecOn with
  | ind n ih =>
    intro i
    by_cases c : n = 0
    · subst c
      rw [wsum_zero]
      exact ⟨Int.le_refl _, Int.le_refl _, fun h => by omega, fun _ => rfl⟩
    · obtain ⟨h1, h2, h3, h4⟩ := ih (n / b) (Nat.div_lt_self (by omega) (by omega)) (i + 1)
      rw [wsum_pos [1] i hb (by omega)]
      have e1 : ∀ row : List Int, row = [1] → row.getD (i % row.length) 0 = 1 := fun row e => by
        subst e
        show ([(1 : Int)]).getD (i % 1) 0 = 1
        rw [Nat.mod_one]; rfl
      rw [e1 _ rfl, Int.one_mul]
      have e := Nat.div_add_mod n b
      by_cases hn : n < b
      · have e2 : n / b = 0 := Nat.div_eq_of_lt hn
        have e3 : n % b = n := Nat.mod_eq_of_lt hn
        rw [e2, wsum_zero, e3]
        exact ⟨by omega, by omega, fun h => by omega, fun _ => by omega⟩
      · have h5 : 0 < n / b := Nat.div_pos (by omega) (by omega)
        have h6 : 2 * (n / b) ≤ b * (n / b) := Nat.mul_le_mul_right _ hb
        generalize n / b = q at *
        generalize hr : n % b = r at *
        refine ⟨by omega, by omega, fun h => by omega, fun h => by omega⟩
theorem sum_less {b n : Nat} (hb : 2 ≤ b) (h : b ≤ n) : mk b (.weigh [1]) n < n := by
  obtain ⟨h1, h2, h3, h4⟩ := wsum1 hb n 0
  have := h3 h
  show (wsum b [1] n 0).natAbs < n
  omega
theorem sum_same {b n : Nat} (hb : 2 ≤ b) (h : n < b) : mk b (.weigh [1]) n = n := by
  obtain ⟨h1, h2, h3, h4⟩ := wsum1 hb n 0
  have := h4 h
  show (wsum b [1] n 0).natAbs = n
  omega
theorem sum_ok {b : Nat} : OkS b (.weigh [1]) := ⟨Nat.le_refl _, by decide, fun v m => by rw [List.mem_singleton.mp m]; decide⟩
theorem sum_tame {b : Nat} (hb : 2 ≤ b) (h2 : b ≤ 12) : Tame (mk b (.weigh [1])) b := ⟨fun n h => sum_less hb h, by omega, mk_le hb sum_ok⟩
theorem sum_cyc {b n : Nat} (hb : 2 ≤ b) (h : n < b) : Cyc (mk b (.weigh [1])) n 1 := ⟨Nat.le_refl _, sum_same hb h, fun i i0 i1 => by omega⟩
theorem sum_it {b n : Nat} (hb : 2 ≤ b) (h : n < b) : ∀ i, it (mk b (.weigh [1])) i n = n
  | 0 => rfl
  | i + 1 => by
    show it _ i (mk b (.weigh [1]) n) = n
    rw [sum_same hb h]
    exact sum_it hb h i
theorem sum_lb {b : Nat} (hb : 2 ≤ b) (h2 : b ≤ 12) : LB (mk b (.weigh [1])) b :=
  ⟨⟨b - 1, 1, sum_cyc hb (by omega), fun i => by rw [sum_it hb (by omega)]; exact Nat.le_refl _, by omega⟩, fun a p c l => (sum_tame hb h2).head c l⟩

end Fold
namespace Fold
open PySem PySem.Spec PyProof.Rows L2
section
variable {P : Program} {w : World} {K : PySem.W.Frag} {mg : Str → Option Value} {base : Heap} {a : Ad}
def sp_law_ended : Sp := fun vs H Q _ => ∃ (d l : Addr), vs = [.ref d] ∧ DrawsAt H d l ∧ ∀ q (b : Nat) p s H', H q = none → H' q = some (.lst [.int b, .ref p]) → (2 ≤ b ∧ b ≤ 12) → StepAt H' p s → OkS b s → OkL s → endB b s = true → DrawsAt H' d l → But d H H' → Q (.ref q) H'
theorem ok__law_ended (T : Txt K mg a) : C0 P w K mg base 7 "_law_ended" sp_law_ended := by
  have c__law_draw := ok__law_draw (P := P) (w := w) (base := base) T; have c__law_step := ok__law_step (P := P) (w := w) (base := base) T; have c_least_bound := ok_least_bound (P := P) (w := w) (base := base) T
  refine T.d__law_ended.c0 sc__law_ended (fun vs H Q E h => ?_) (fun f cdv A outer s H vs Q E hr h => ?_)
  · obtain ⟨d, l, rfl, _⟩ := h
    rfl
  · obtain ⟨d, l, rfl, hD, kk⟩ := h
    refine ⟨_, (pss_cons (ps_set (i := 1) sc__law_ended.nd rfl (Or.inl rfl) (pe_op op_add pe_int (pe_0 c__law_draw hr (by decide) (pa_cons (pv 0) (pa_cons pe_int pa_nil)))))
      (pss_cons (ps_for PassesOwn.never rfl (pi_range1 (by rfl) T.n_range (pa_cons pe_int pa_nil)) (pg_name (i := 2) sc__law_ended.nd rfl (Or.inl rfl)) (pss_cons (ps_set (i := 3) sc__law_ended.nd rfl (Or.inl rfl) (pe_0 c__law_step hr (by decide) (pa_cons (pv 0) (pa_cons (pv 1) pa_nil))))
      (pss_one (ps_if (pt_cmpR op_notN (pe_10 c_least_bound hr (by decide) (pa_cons (pv 1) (pa_cons (pv 3) pa_nil))) pe_non (nomark _)) (pss_one (ps_ret (pe_lst (pa_cons (pv 1) (pa_cons (pv 3) pa_nil))))) pss_nil))))
      (pss_one (ps_ret (pe_lst (pa_cons (pv 1) (pa_cons (pe_tup (pa_cons pe_str (pa_cons (pe_tup (pa_cons pe_int pa_nil)) pa_nil))) pa_nil))))))), ?_⟩
    refine ⟨_, rfl, d, l, _, rfl, by decide, hD, fun rb H1 b0 b1 hD1 u1 => ⟨_, _, rfl, rfl, ?_⟩⟩
    obtain ⟨rb, rfl⟩ := Int.eq_ofNat_of_zero_le b0
    show tSeq _ _ _ [some (V.ref d), some (V.int (2 + (rb : Int))), none, none] H1
    have hb : 2 ≤ 2 + rb ∧ 2 + rb ≤ 12 := by omega
    rw [show (2 + (rb : Int)) = ((2 + rb : Nat) : Int) by omega]
    clear b0 b1
    revert hb
    generalize 2 + rb = b
    intro hb
    have hbi : (2 : Int) ≤ (b : Int) ∧ (b : Int) ≤ 12 := by omega
    refine ⟨_, rfl, by decide, by decide, for_range (fun i σ H' => DrawsAt H' d l ∧ But d H H' ∧ ∃ v2 v3, σ = [some (.ref d), some (.int b), v2, v3]) ⟨hD1, u1, none, none, rfl⟩ ?_ ?_⟩
    · rintro i σ H2 hi ⟨hD2, u2, v2, v3, rfl⟩
      refine ⟨_, rfl, _, rfl, d, l, _, rfl, hbi, hD2, fun p st H3 hp3 hS hO hL hD3 u3 => ?_⟩
      have hO' : OkS b st := hO
      have u03 := u2.trans u3
      refine ⟨_, rfl, _, rfl, _, _, rfl, ⟨_, .int _⟩, hS.known, fun _ => ⟨b, p, st, rfl, rfl, hb, hS, hO', fun e v T3 H4 s4 lb tm => ?_, fun e H4 s4 => ?_⟩, fun c => ?_⟩
      · refine ⟨rfl, _, rfl, iteT' rfl ?_⟩
        refine ⟨_, rfl, _, rfl, (by show 2 ≤ sizeLine; decide), fun q hq => ?_⟩
        have u04 := u03.trans (But.of s4)
        have hD4 := hD3.mono s4
        exact kk q b p st _ (u04.free hD4.there hq) upd_same hb ((hS.mono s4).mono (same_new hq)) hO' hL e (hD4.mono (same_new hq)) (u04.trans (But.of (same_new hq)))
      · exact ⟨rfl, _, rfl, iteF' rfl ⟨hD3.mono s4, u03.trans (But.of s4), _, _, rfl⟩⟩
      · rw [hS.ok hb hO'] at c
        cases c
    · rintro σ H2 ⟨hD2, u2, v2, v3, rfl⟩
      refine ⟨_, rfl, (by show 1 ≤ sizeLine; decide), fun r hr => ⟨(by show 2 ≤ sizeLine; decide), fun p hp => ⟨(by show 2 ≤ sizeLine; decide), fun q hq => ?_⟩⟩⟩
      have s3 := same_upd (o := HO.lst [.int b, .ref p]) (same_upd (o := HO.tup [.str "weigh", .ref r]) (same_new (o := HO.tup [.int 1]) hr) hp) hq
      exact kk q b p (.weigh [1]) _ (u2.free hD2.there (nodup_none (nodup_none hq))) upd_same hb ⟨r, kept upd_same hq, kept (kept upd_same hp) hq⟩ sum_ok ⟨by decide, fun v m => by rw [List.mem_singleton.mp m]; decide⟩ rfl (hD2.mono s3) (u2.trans (But.of s3))
def sp_law_way : Sp := fun vs H Q _ => ∃ (d l : Addr), vs = [.ref d] ∧ DrawsAt H d l ∧ ∀ q (b : Nat) p s (bd : Nat) y ys H', H q = none → H' q = some (.lst [.int b, .ref p, .int bd, .ref y]) → StepAt H' p s → WOk b s bd ys → OkL s → H y = none → H' y = some (.lst (nv ys)) → DrawsAt H' d l → But d H H' → Q (.ref q) H'
theorem ok__law_way (T : Txt K mg a) : C0 P w K mg base 8 "_law_way" sp_law_way := by
  have c__law_ended := ok__law_ended (P := P) (w := w) (base := base) T; have c_least_bound := ok_least_bound (P := P) (w := w) (base := base) T; have c__law_draw := ok__law_draw (P := P) (w := w) (base := base) T
  refine T.d__law_way.c0 sc__law_way (fun vs H Q E h => ?_) (fun f cdv A outer s H vs Q E hr h => ?_)
  · obtain ⟨d, l, rfl, _⟩ := h
    rfl
  · obtain ⟨d, l, rfl, hD, kk⟩ := h
    refine ⟨_, (pss_cons (ps_asg (pe_0 c__law_ended hr (by decide) (pa_cons (pv 0) pa_nil)) (pg_unl rfl (pgs_cons (pg_name (i := 1) sc__law_way.nd rfl (Or.inl rfl)) (pgs_cons (pg_name (i := 2) sc__law_way.nd rfl (Or.inl rfl)) pgs_nil))))
      (pss_cons (ps_set (i := 3) sc__law_way.nd rfl (Or.inl rfl) (pe_10 c_least_bound hr (by decide) (pa_cons (pv 1) (pa_cons (pv 2) pa_nil))))
      (C8.pss_cut (ps_if (pt_cmpR op_gt (pv 3) pe_int (nomark _)) (pss_one (ps_asg (pe_tup (pa_cons pe_int (pa_cons (pe_tup (pa_cons pe_str (pa_cons (pe_tup (pa_cons pe_int pa_nil)) pa_nil))) (pa_cons pe_int pa_nil)))) (pg_tup rfl (pgs_cons (pg_name (i := 1) sc__law_way.nd rfl (Or.inl rfl)) (pgs_cons (pg_name (i := 2) sc__law_way.nd rfl (Or.inl rfl)) (pgs_cons (pg_name (i := 3) sc__law_way.nd rfl (Or.inl rfl)) pgs_nil)))))) pss_nil)
      (pss_cons (ps_set (i := 4) sc__law_way.nd rfl (Or.inl rfl) (pe_op op_add (pv 3) (pe_0 c__law_draw hr (by decide) (pa_cons (pv 0) (pa_cons pe_int pa_nil)))))
      (C8.pss_cut (ps_if (pt_cmpR op_gt (pv 4) pe_int (nomark _)) (pss_one (ps_set (i := 4) sc__law_way.nd rfl (Or.inl rfl) (pv 3))) pss_nil)
      (pss_cons (ps_set (i := 5) sc__law_way.nd rfl (Or.inl rfl) (pe_op op_add pe_int (pe_0 c__law_draw hr (by decide) (pa_cons (pv 0) (pa_cons pe_int pa_nil)))))
      (pss_cons (ps_set (i := 6) sc__law_way.nd rfl (Or.inl rfl) (pe_listRg3 rfl (by rfl) T.n_list (prg_3 (by rfl) T.n_range pe_int (pv 4) (pv 5))))
      (C8.pss_cut (ps_if (pt_cmpR op_eq (pe_0 c__law_draw hr (by decide) (pa_cons (pv 0) (pa_cons pe_int pa_nil))) pe_int (nomark _)) (pss_one (ps_setLc (i := 6) (own := [("_law_n", 7)]) (g := gName 7) rfl sc__law_way.nd rfl rfl (sw_true rfl rfl rfl (by decide +kernel)) (pi_range1 (by rfl) T.n_range (pa_cons (pe_callB (call_min2 rfl) (by rfl) T.n_min b_min (pa_cons (pv 4) (pa_cons pe_int pa_nil))) pa_nil)) (blkOk_by (N := ["_law_draws", "_law_base", "_law_step_here", "_law_least", "_law_bound", "_law_m", "_law_yes", "_law_n"]) (sc := defScope s__law_way) (by decide +kernel)) (fun _ _ _ _ _ => (pg_name (i := 7) sc__law_way.nd rfl (Or.inl rfl))) (fun _ _ _ _ _ => (pts_one (pt_cmpR op_eq (pe_0 c__law_draw hr (by decide) (pa_cons (pv 0) (pa_cons pe_int pa_nil))) pe_int (nomark _)))) (fun _ _ _ _ _ => (pv 7)))) pss_nil)
      (pss_one (ps_ret (pe_lst (pa_cons (pv 1) (pa_cons (pv 2) (pa_cons (pv 4) (pa_cons (pv 6) pa_nil))))))))))))))), ?_⟩
    refine ⟨_, rfl, d, l, rfl, hD, fun q b p st H1 q0 hq hb hS hO hL he hD1 u1 => ?_⟩
    refine ⟨q, _, rfl, SqL.of hq, rfl, _, _, rfl, _, _, rfl, rfl, ?_⟩
    refine ⟨_, rfl, _, rfl, _, _, rfl, ⟨_, .int _⟩, hS.known, fun _ => ⟨b, p, st, rfl, rfl, hb, hS, hO, fun _ v T3 H2 s2 lb tm => ?_, fun e => by rw [he] at e; cases e⟩, fun c => ?_⟩
    rotate_left
    · rw [hS.ok hb hO] at c
      cases c
    have hv := tm.bound lb
    have hT := tm.le
    -- a bound above a thousand is left
    refine ⟨fun σ' H' => ∃ (b : Nat) (p : Addr) (s : Stp) (v : Nat), σ' = [some (.ref d), some (.int b), some (.ref p), some (.int v), none, none, none, none] ∧ (2 ≤ b ∧ b ≤ 12) ∧ StepAt H' p s ∧ OkS b s ∧ OkL s ∧ endB b s = true ∧ LB (mk b s) v ∧ (∃ T, Tame (mk b s) T) ∧ v ≤ 1000 ∧ DrawsAt H' d l ∧ But d H H', ?_, ?_⟩
    · refine ⟨_, rfl, _, _, rfl, rfl, _, rfl, ?_⟩
      have hD2 := hD1.mono s2
      have u2 := u1.trans (But.of s2)
      by_cases c : 1000 < v
      · refine iteT' (decide_eq_true (by omega)) ⟨(by show 1 ≤ sizeLine; decide), fun r hr => ⟨(by show 2 ≤ sizeLine; decide), fun p2 hp2 => ⟨(by show 3 ≤ sizeLine; decide), fun t2 ht2 => ⟨t2, _, rfl, SqT.of upd_same, rfl, _, _, rfl, _, _, rfl, _, _, rfl, rfl, ?_⟩⟩⟩⟩
        have s3 := same_upd (o := HO.tup [.int 10, .ref p2, .int 10]) (same_upd (o := HO.tup [.str "weigh", .ref r]) (same_new (o := HO.tup [.int 1]) hr) hp2) ht2
        exact ⟨10, p2, .weigh [1], 10, rfl, by omega, ⟨r, kept upd_same ht2, kept (kept upd_same hp2) ht2⟩, sum_ok, ⟨by decide, fun v m => by rw [List.mem_singleton.mp m]; decide⟩, rfl, sum_lb (by omega) (by omega), ⟨_, sum_tame (by omega) (by omega)⟩, by omega, hD2.mono s3, u2.trans (But.of s3)⟩
      · exact iteF' (decide_eq_false (by omega)) ⟨b, p, st, v, rfl, hb, hS.mono s2, hO, hL, he, lb, ⟨_, tm⟩, by omega, hD2, u2⟩
    clear hD1 u1 hq q0 hb hS hO hL he s2 lb tm hv hT
    rintro σ' H2 ⟨b, p, st, v, rfl, hb, hS, hO, hL, he, lb, tm, v1, hD2, u2⟩
    refine ⟨_, rfl, _, rfl, d, l, _, rfl, by decide, hD2, fun r3 H3 r30 r31 hD3 u3 => ⟨_, _, rfl, rfl, ?_⟩⟩
    have v0 : 1 ≤ v := by
      obtain ⟨a', p', c', l', e⟩ := lb.here
      omega
    have hS3 := hS.but hD2 u3
    obtain ⟨r3, rfl⟩ := Int.eq_ofNat_of_zero_le r30
    refine ⟨fun σ' H' => ∃ bd : Nat, H' = H3 ∧ σ' = [some (.ref d), some (.int b), some (.ref p), some (.int v), some (.int bd), none, none, none] ∧ v ≤ bd ∧ bd ≤ 1000, ?_, ?_⟩
    · refine ⟨_, rfl, _, _, rfl, rfl, _, rfl, ?_⟩
      by_cases c : 1000 < v + r3
      · exact iteT' (decide_eq_true (by omega)) ⟨_, rfl, v, rfl, rfl, Nat.le_refl _, v1⟩
      · exact iteF' (decide_eq_false (by omega)) ⟨v + r3, rfl, by rw [Int.natCast_add]; rfl, by omega, by omega⟩
    rintro σ' _ ⟨bd, rfl, rfl, b1, b2⟩
    have u03 := u2.trans u3
    refine ⟨_, rfl, d, l, _, rfl, by decide, hD3, fun r4 H4 r40 r41 hD4 u4 => ⟨_, _, rfl, rfl, ?_⟩⟩
    obtain ⟨r4, rfl⟩ := Int.eq_ofNat_of_zero_le r40
    refine ⟨_, rfl, _, rfl, bd, 1 + r4, rfl, rfl, by rw [Int.natCast_add]; rfl, by omega, by omega, by omega, fun y1 hy1 => ?_⟩
    have u04 := u03.trans u4
    have hS4 := (hS3.but hD3 u4).mono (same_new (o := HO.lst (nv (mults bd (1 + r4)))) hy1)
    have hD5 := hD4.mono (same_new (o := HO.lst (nv (mults bd (1 + r4)))) hy1)
    have u05 := u04.trans (But.of (same_new (o := HO.lst (nv (mults bd (1 + r4)))) hy1))
    have hy0 := u04.free hD4.there hy1
    refine ⟨fun σ' H' => ∃ y ys, σ' = [some (.ref d), some (.int b), some (.ref p), some (.int v), some (.int bd), some (.int (1 + (r4 : Int))), some (.ref y), none] ∧ H y = none ∧ H' y = some (.lst (nv ys)) ∧ ys.Pairwise (· < ·) ∧ (∀ z ∈ ys, z < bd) ∧ StepAt H' p st ∧ DrawsAt H' d l ∧ But d H H', ?_, ?_⟩
    · refine ⟨_, rfl, d, l, _, rfl, by decide, hD5, fun r6 H6 r60 r61 hD6 u6 => ⟨rfl, _, rfl, ?_⟩⟩
      have u06 := u05.trans u6
      have hS6 := hS4.but hD5 u6
      refine iteB (fun _ => ?_) (fun _ => ?_)
      · refine ⟨_, rfl, _, _, rfl, _, rfl, ?_, ?_, fun D hD0 => lc_range (fun i H' => ∃ ys : List Nat, ys.Pairwise (· < ·) ∧ (∀ z ∈ ys, z < i) ∧ ys.length ≤ i ∧ H' D = some (.lst (nv ys)) ∧ DrawsAt H' d l ∧ But d H6 H')
          ⟨[], .nil, fun _ m => (nomatch m), Nat.le_refl _, upd_same, hD6.mono (same_new hD0), But.of (same_new hD0)⟩ ?_ ?_⟩
        · split <;> omega
        · split <;> omega
        · rintro i H' hi ⟨ys, up, lt, len, hDl, hDr, hB⟩
          have hi40 : i < 40 := by
            revert hi
            split <;> omega
          have z0 : (0 + (i : Int)) = (i : Int) := Int.zero_add _
          refine ⟨rfl, _, rfl, d, l, _, rfl, by decide, hDr, fun r H'' r0 r1 hDr' hB' => ⟨rfl, _, rfl, ?_⟩⟩
          have nDd := hD6.new1 hD0
          have nDl := hD6.new2 hD0
          have hDl' := hB' D _ nDd hDl
          refine iteB (fun _ => ?_) (fun _ => ?_)
          · refine ⟨_, rfl, _, hDl', by rw [nv_len]; exact lsize (by omega), ys ++ [i], ?_, fun z m => ?_, by rw [List.length_append]; show ys.length + 1 ≤ _; omega, ?_, hDr'.updO nDd nDl, ?_⟩
            · rw [List.pairwise_append]
              refine ⟨up, List.pairwise_singleton _ _, fun x hx y hy => ?_⟩
              rw [List.mem_singleton.mp hy]
              exact lt x hx
            · rcases List.mem_append.mp m with m | m
              · have := lt z m
                omega
              · rw [List.mem_singleton.mp m]; omega
            · rw [upd_same, nv_snoc, z0]
            · intro b' o hb' e
              rw [upd_ne (ne_of_none e hD0)]
              exact hB' _ _ hb' (hB _ _ hb' e)
          · exact ⟨ys, up, fun z m => by have := lt z m; omega, by omega, hDl', hDr', hB.trans hB'⟩
        · rintro H' ⟨ys, up, lt, len, hDl, hDr, hB⟩
          refine ⟨D, ys, rfl, u06.free hD6.there hD0, hDl, up, fun z m => ?_, hS6.but hD6 hB, hDr, u06.trans hB⟩
          have := lt z m
          revert this
          split <;> omega
      · refine ⟨y1, mults bd (1 + r4), rfl, hy0, ?_, mults_up (by omega), fun z m => ((mults_mem (by omega)).mp m).1, hS6, hD6, u06⟩
        exact hD5.nums u6 upd_same
    rintro σ' H6 ⟨y, ys, rfl, y0, hy, up, lt, hS6, hD6, u06⟩
    refine ⟨_, rfl, _, rfl, _, rfl, _, rfl, (by show 4 ≤ sizeLine; decide), fun q hq => ?_⟩
    have s7 := same_new (o := HO.lst [.int b, .ref p, .int bd, .ref y]) hq
    exact kk q b p st bd y ys _ (u06.free hD6.there hq) upd_same (hS6.mono s7) ⟨hb, hO, he, by omega, b2, up, lt, ⟨v, lb, b1⟩, tm⟩ hL y0 (s7 _ _ hy) (hD6.mono s7) (u06.trans (But.of s7))
def sp_law_row : Sp := fun vs H Q _ => ∃ (b : Nat) (p : Addr) (s : Stp) (bd n : Nat) (ys : List Nat), vs = [.int b, .ref p, .int bd, .int n] ∧ StepAt H p s ∧ WOk b s bd ys ∧ n < 10000000 ∧
  ∀ k q H', RowIs (mk b s) bd n k → k < 10000000 → Same H H' → H q = none → H' q = some (.lst (nv (orb (mk b s) n (k + 1)))) → Q (.ref q) H'
theorem ok__law_row (T : Txt K mg a) : C0 P w K mg base 3 "_law_row" sp_law_row := by
  have c__law_made := ok__law_made (P := P) (w := w) (base := base) T
  refine T.d__law_row.c0 sc__law_row (fun vs H Q E h => ?_) (fun f cdv A outer s H vs Q E hr h => ?_)
  · obtain ⟨b, p, st, bd, n, ys, rfl, _⟩ := h
    rfl
  · obtain ⟨b, p, st, bd, n, ys, rfl, hs, ok, hn, kk⟩ := h
    refine ⟨_, (pss_cons (ps_set (i := 4) sc__law_row.nd rfl (Or.inl rfl) (pe_lst (pa_cons (pv 3) pa_nil)))
      (pss_cons (ps_while PassesOwn.never (pt_cmpR op_ge (pe_ix ix_list (pv 4) (pe_un un_neg pe_int) (fun _ _ => rfl)) (pv 2) (nomark _)) (pss_one (ps_expr (pe_bm PySem.F.plainAttrs_list PySem.F.slot_list_append PySem.F.type_list_append mt_append (pv 4) (pa_cons (pe_0 c__law_made hr (by decide) (pa_cons (pv 0) (pa_cons (pv 1) (pa_cons (pe_ix ix_list (pv 4) (pe_un un_neg pe_int) (fun _ _ => rfl)) pa_nil)))) pa_nil)))))
      (pss_one (ps_ret (pv 4))))), ?_⟩
    obtain ⟨k, hk⟩ := ok.row n
    obtain ⟨T', tm⟩ := ok.tm
    have kl := hk.len tm (N := 10000000) (by decide) hn
    have hbi : (2 : Int) ≤ (b : Int) ∧ (b : Int) ≤ 12 := by have := ok.hb; omega
    refine ⟨_, rfl, (by show 1 ≤ sizeLine; decide), fun R hR => ?_⟩
    refine ⟨fun m σ H' => ∃ i : Nat, m = k - i ∧ i ≤ k ∧ σ = [some (.int b), some (.ref p), some (.int bd), some (.int n), some (.ref R)] ∧ Same H H' ∧ H' R = some (.lst (nv (orb (mk b st) n (i + 1)))), ⟨_, 0, rfl, Nat.zero_le _, rfl, same_new hR, upd_same⟩, ?_⟩
    rintro m σ H1 ⟨i, rfl, ik, rfl, s1, hR1⟩
    refine ⟨_, rfl, _, rfl, R, _, _, _, rfl, rfl, SqL.of hR1, atI_orb, _, rfl, _, _, rfl, rfl, _, rfl, ?_⟩
    by_cases c : it (mk b st) i n < bd
    · refine iteF' (decide_eq_false (by omega)) ⟨_, rfl, ?_⟩
      have hi : RowIs (mk b st) bd n i := ⟨c, fun j hj => hk.before j (by omega)⟩
      obtain rfl := hi.same hk
      exact kk i R H1 hi kl s1 hR hR1
    · refine iteT' (decide_eq_true (by omega)) ?_
      have ik' : i < k := by
        refine Nat.lt_of_le_of_ne ik fun e => c ?_
        rw [e]; exact hk.end_
      refine ⟨_, fun _ _ h => h, _, rfl, .inl ⟨rfl, _, SqL.of hR1⟩, ?_⟩
      refine ⟨_, rfl, _, rfl, _, rfl, _, rfl, R, _, _, _, rfl, rfl, SqL.of hR1, atI_orb, b, p, _, st, rfl, hbi, hs.mono s1, ok.ok, by omega, ?_⟩
      refine ⟨R, _, _, rfl, rfl, hR1, by rw [nv_len, orb_len]; exact lsizeM (by omega), k - (i + 1), by omega, i + 1, rfl, ik', rfl, same_put s1 hR, ?_⟩
      rw [upd_same, orb_succ (p := i + 1), nv_snoc, it_one]; rfl
end

end Fold
namespace Fold
open PySem PySem.Spec PyProof.Rows L2
theorem kit_self {K : PySem.W.Frag} {C : Addr} : PySem.W.kitOne K (.ref C) (.ref C) = some true := by
  unfold PySem.W.kitOne
  rw [if_pos (by simp)]
theorem kit_list {K : PySem.W.Frag} {C : Addr} (h1 : PySem.W.isClsIn K C = true) (h2 : PySem.W.typeIn K (.ref C) = some (.type "type")) (h3 : PySem.W.subIn K (.type "list") (.ref C) = some false) : PySem.W.kitOne K (.type "list") (.ref C) = some false := by
  have h1' : (PySem.W.clsIn K C).isSome = true := h1
  unfold PySem.W.kitOne
  rw [if_neg (by simp)]
  show (if ((PySem.W.clsIn K C).isSome && PySem.W.typeIn K (.ref C) == some (.type "type")) = true then _ else none) = _
  rw [h1', h2, if_pos (by simp)]
  exact h3
/-! ### a way made as it must be -/
section
variable {P : Program} {w : World} {K : PySem.W.Frag} {mg : Str → Option Value} {base : Heap} {a : Ad}
theorem way_ok {H : Hp} {x dx p y : Addr} {b : Nat} {s : Stp} {bd : Nat} {ys : List Nat} (hx : H x = none) (hdx : H dx = none) (nx : dx ≠ x) (ok : WOk b s bd ys) (hS : StepAt H p s) (hy : H y = some (.tup (nv ys))) {Q : VK} {E : XK}
    (k : ∀ H', WayAt a.Way H' x b s bd ys → Same H H' → Q .non H') : sp_Way_init a [.ref x, .int b, .ref p, .int bd, .ref y] (upd (upd H dx (.own x)) x (.ins a.Way dx [])) Q E := by
  have s2 : Same H (upd (upd H dx (.own x)) x (.ins a.Way dx [])) := same_upd (same_new hdx) (by rw [upd_ne nx.symm]; exact hx)
  have hS2 := hS.mono s2
  have hy2 := s2 _ _ hy
  have hl : ys.length ≤ 1000 := Nat.le_trans (nodup_bound bd _ (ok.up.imp fun h => Nat.ne_of_lt h) ok.lt) ok.b2
  have b1 := ok.b1
  have b2 := ok.b2
  refine ⟨x, dx, _, _, _, _, rfl, upd_same, ⟨_, .int _⟩, hS2.known, ⟨_, .int _⟩, KnT.ints hy2, fun q xs e h => ?_, fun c => ?_, fun _ => ⟨b, p, s, rfl, rfl, ok.hb, hS2, ok.ok, fun c => ?_, fun _ => ⟨bd, y, ys, rfl, rfl, hy2, fun e => ?_, fun _ v T lb tm => ⟨fun c => ?_, fun _ H' hW hB => k H' hW fun c o e => ?_⟩⟩⟩⟩
  · cases e
    rw [hy2] at h
    cases h
    rw [nv_len]
    omega
  · rw [hS2.ok ok.hb ok.ok] at c
    cases c
  · have e1 : wholeB (.int bd) 1 1000 = true := wholeB_iff.mpr ⟨bd, rfl, by omega, by omega⟩
    have e2 : numsB (upd (upd H dx (.own x)) x (.ins a.Way dx [])) (.ref y) (intOf (.int bd)) = true := nums_ok hy2 ok.up ok.lt
    rw [e1, e2] at c
    cases c
  · rw [ok.en] at e
    cases e
  · obtain ⟨v', lb', hv⟩ := ok.lb
    have := lb.same lb'
    omega
  · have n1 := ne_of_none e hx
    exact hB c o n1 (s2 _ _ e)
/-- what a law holds behind its first draws -/
structure WSt (C : Addr) (H : Hp) (d l p y x : Addr) (b : Nat) (s : Stp) (bd : Nat) (ys : List Nat) : Prop where
  dr : DrawsAt H d l
  st : StepAt H p s
  wy : WayAt C H x b s bd ys
  ye : H y = some (.lst (nv ys))
theorem WSt.mono {C : Addr} {H H' : Hp} {d l p y x : Addr} {b : Nat} {s : Stp} {bd : Nat} {ys : List Nat} (h : WSt C H d l p y x b s bd ys) (e : Same H H') : WSt C H' d l p y x b s bd ys :=
  ⟨h.dr.mono e, h.st.mono e, h.wy.mono e, e _ _ h.ye⟩
theorem WSt.but {C : Addr} {H H' : Hp} {d l p y x : Addr} {b : Nat} {s : Stp} {bd : Nat} {ys : List Nat} (h : WSt C H d l p y x b s bd ys) (hD : DrawsAt H' d l) (u : But d H H') : WSt C H' d l p y x b s bd ys :=
  ⟨hD, h.st.but h.dr u, h.wy.but h.dr u, h.dr.nums u h.ye⟩
end

end Fold
namespace Fold
open PySem PySem.Spec PyProof.Rows L2
/-! ### lots of moduli -/
section
variable {P : Program} {w : World} {K : PySem.W.Frag} {mg : Str → Option Value} {base : Heap} {a : Ad}
theorem gcd_step (i j : Int) : Int.gcd j (i.fmod j) = Int.gcd i j := by
  rw [Int.fmod_def, Int.gcd_sub_mul_left_right, Int.gcd_comm]
theorem fmod_less {i j : Int} (h : j ≠ 0) : (i.fmod j).natAbs < j.natAbs := by
  rcases Int.lt_or_gt_of_ne h with c | c
  · have h1 := Int.fmod_nonneg_of_pos (-i) (b := -j) (by omega)
    have h2 := Int.fmod_lt_of_pos (-i) (b := -j) (by omega)
    have e : (-i).fmod (-j) = -(i.fmod j) := by rw [Int.neg_fmod_neg]
    omega
  · have h1 := Int.fmod_nonneg_of_pos i c
    have h2 := Int.fmod_lt_of_pos i c
    omega
def sp_common : Sp := fun vs H Q _ => ∃ (i j : Int), vs = [.int i, .int j] ∧ Q (.int (Int.gcd i j : Nat)) H
theorem ok_common (T : Txt K mg a) : C0 P w K mg base 1 "common" sp_common := by
  refine T.d_common.c0 sc_common (fun vs H Q E h => ?_) (fun f cdv A outer s H vs Q E hr h => ?_)
  · obtain ⟨i, j, rfl, _⟩ := h
    rfl
  · obtain ⟨i, j, rfl, k⟩ := h
    refine ⟨_, (pss_cons (ps_while PassesOwn.never (pt_truth (pv 1) (fun _ => rfl)) (pss_one (ps_par (i := 0) (j := 1) rfl sc_common.nd rfl rfl (by decide) rfl rfl (pa_cons (pv 1) (pa_cons (pe_op op_modN (pv 0) (pv 1)) pa_nil)) (by first | rfl | with_unfolding_all rfl))))
      (pss_one (ps_ret (pe_callB call_abs (by rfl) T.n_abs b_abs (pa_cons (pv 0) pa_nil))))), ?_⟩
    refine g_seq ?_
    refine ⟨fun m σ H' => H' = H ∧ ∃ x y : Int, m = y.natAbs ∧ σ = [some (.int x), some (.int y)] ∧ Int.gcd x y = Int.gcd i j, ⟨j.natAbs, rfl, i, j, rfl, rfl, rfl⟩, ?_⟩
    rintro m σ H' ⟨rfl, x, y, rfl, rfl, e⟩
    refine ⟨_, rfl, _, rfl, ?_⟩
    by_cases c : y = 0
    · subst c
      refine iteF' rfl ⟨_, rfl, _, rfl, q_eq k ?_⟩
      rw [abs_nat, ← e, Int.gcd_zero]
    · refine iteT' (by simpa using c) ⟨_, fun _ _ h => h, _, rfl, _, rfl, _, rfl, _, _, rfl, rfl, c, _, _, rfl, ?_⟩
      exact ⟨(x.fmod y).natAbs, fmod_less c, rfl, y, x.fmod y, rfl, rfl, by rw [gcd_step, e]⟩
def numB : V → Bool
  | .int i => decide (0 ≤ i)
  | _ => false
def sp_is_number : Sp := fun vs H Q _ => ∃ (v : V), vs = [v] ∧ (∃ t, Kn H v t) ∧ Q (.bl (numB v)) H
theorem ok_is_number (T : Txt K mg a) : C0 P w K mg base 1 "is_number" sp_is_number := by
  refine T.d_is_number.c0 sc_is_number (fun vs H Q E h => ?_) (fun f cdv A outer s H vs Q E hr h => ?_)
  · obtain ⟨v, rfl, _⟩ := h
    rfl
  · obtain ⟨v, rfl, ⟨t, hv⟩, k⟩ := h
    refine ⟨_, (pss_one (ps_ret (pe_and (pe_callB call_isi (by rfl) T.n_isinstance b_isinstance (pa_cons (pv 0) (pa_cons (pe_bltn (v := .ty "int") (by rfl) T.n_int b_int rfl) pa_nil))) (pe_and (pe_not (pe_callB call_isi (by rfl) T.n_isinstance b_isinstance (pa_cons (pv 0) (pa_cons (pe_bltn (v := .ty "bool") (by rfl) T.n_bool b_bool rfl) pa_nil)))) (pe_one (pe_cmpR op_ge (pv 0) pe_int (nomark _))))))), ?_⟩
    refine ⟨_, rfl, _, _, _, _, _, rfl, .ty _, hv.ty, kit_ty (isA_int hv), _, rfl, ?_⟩
    cases hv with
    | int i =>
      refine iteT ⟨_, rfl, _, _, _, _, _, rfl, .ty _, (Kn.int i).ty, kit_ty (isA_bool (Kn.int (H := H) i)), _, rfl, _, rfl, ?_⟩
      exact iteT ⟨_, rfl, _, _, rfl, rfl, k⟩
    | bl b => exact iteT ⟨_, rfl, _, _, _, _, _, rfl, .ty _, (Kn.bl b).ty, kit_ty (isA_bool (Kn.bl (H := H) b)), _, rfl, _, rfl, iteF k⟩
    | non => exact iteF k
    | str z => exact iteF k
    | lst e => exact iteF k
    | tup e => exact iteF k
/-- the fields of a lot -/
def kf (n u p q : Nat) : List (Str × V) := putF "part" (.int q) (putF "power" (.int p) (putF "unit" (.int u) (putF "number" (.int n) [])))
theorem nu1 : ¬ (("number" : Str) = "part") := by decide +kernel
theorem nu2 : ¬ (("number" : Str) = "power") := by decide +kernel
theorem nu3 : ¬ (("number" : Str) = "unit") := by decide +kernel
theorem un1 : ¬ (("unit" : Str) = "part") := by decide +kernel
theorem un2 : ¬ (("unit" : Str) = "power") := by decide +kernel
theorem po1 : ¬ (("power" : Str) = "part") := by decide +kernel
theorem kf_number (n u p q : Nat) : (kf n u p q).lookup ("number" : Str) = some (.int n) := by
  unfold kf; rw [lookup_putF, if_neg nu1, lookup_putF, if_neg nu2, lookup_putF, if_neg nu3, lookup_putF, if_pos rfl]
theorem kf_unit (n u p q : Nat) : (kf n u p q).lookup ("unit" : Str) = some (.int u) := by
  unfold kf; rw [lookup_putF, if_neg un1, lookup_putF, if_neg un2, lookup_putF, if_pos rfl]
theorem kf_power (n u p q : Nat) : (kf n u p q).lookup ("power" : Str) = some (.int p) := by
  unfold kf; rw [lookup_putF, if_neg po1, lookup_putF, if_pos rfl]
theorem kf_part (n u p q : Nat) : (kf n u p q).lookup ("part" : Str) = some (.int q) := by
  unfold kf; rw [lookup_putF, if_pos rfl]
theorem kf_no (n u p q : Nat) {m : Str} (h1 : ¬ m = "part") (h2 : ¬ m = "power") (h3 : ¬ m = "unit") (h4 : ¬ m = "number") : (kf n u p q).lookup m = none := by
  unfold kf; rw [lookup_putF, if_neg h1, lookup_putF, if_neg h2, lookup_putF, if_neg h3, lookup_putF, if_neg h4]; rfl
/-- a lot stands at p -/
def KeptAt (C : Addr) (H : Hp) (x : Addr) (n u p q : Nat) : Prop := ∃ dx, H x = some (.ins C dx (kf n u p q))
theorem KeptAt.mono {C : Addr} {H H' : Hp} {x : Addr} {n u p q : Nat} (s : Same H H') (h : KeptAt C H x n u p q) : KeptAt C H' x n u p q := by
  obtain ⟨dx, h⟩ := h
  exact ⟨dx, s _ _ h⟩
def sp_Kept_init (a : Ad) : Sp := fun vs H Q E => ∃ (x dx : Addr) (v1 v2 v3 v4 : V), vs = [.ref x, v1, v2, v3, v4] ∧ H x = some (.ins a.Kept dx []) ∧ (∃ t, Kn H v1 t) ∧ (∃ t, Kn H v2 t) ∧ (∃ t, Kn H v3 t) ∧ (∃ t, Kn H v4 t) ∧
  ((numB v1 && numB v2 && numB v3 && numB v4) = true → ∃ n u p q : Nat, v1 = .int n ∧ v2 = .int u ∧ v3 = .int p ∧ v4 = .int q ∧ ∀ H', KeptAt a.Kept H' x n u p q → But x H H' → Q .non H') ∧
  ((numB v1 && numB v2 && numB v3 && numB v4) = false → ∀ H', Same H H' → E (.ref a.BadKept) none H')
theorem ok_Kept___init__ (T : Txt K mg a) : Mt (L2.CX P w) P w K mg base 2 a.Kept "__init__" (sp_Kept_init a) := by
  have c_is_number := ok_is_number (P := P) (w := w) (base := base) T
  refine T.d_Kept___init__.m1 sc_Kept___init__ (fun vs H Q E h => ?_) (fun f cdv A outer s H vs Q E hr h => ?_)
  · obtain ⟨x, dx, v1, v2, v3, v4, rfl, _⟩ := h
    rfl
  · obtain ⟨x, dx, v1, v2, v3, v4, rfl, hx, k1, k2, k3, k4, kY, kN⟩ := h
    have tk := takes_of (X := cxOf (L2.CX P w) P w K mg base ["self", "number", "unit", "power", "part", "one"] "Kept.__init__" (defScope s_Kept___init__) f cdv A outer s H E) rfl rfl rfl rfl
    refine ⟨_, (pss_cons (ps_if (pt_not (pt_val (pe_callB (cr_all rfl) (by rfl) T.n_all b_all (pa_cons (pe_lc (own := [("one", 5)]) (g := gName 5) rfl sc_Kept___init__.nd (pi_tup (pe_tup (pa_cons (pv 1) (pa_cons (pv 2) (pa_cons (pv 3) (pa_cons (pv 4) pa_nil)))))) (blkOk_by (N := ["self", "number", "unit", "power", "part", "one"]) (sc := defScope s_Kept___init__) (by decide +kernel)) (fun _ _ _ _ _ => (pg_name (i := 5) sc_Kept___init__.nd rfl (Or.inl rfl))) (fun _ _ _ _ _ => pts_nil) (fun _ _ _ _ _ => (pe_0 c_is_number hr (by decide) (pa_cons (pv 5) pa_nil)))) pa_nil)))) (pss_one (ps_raise rfl tk T.x_BadKept.pmk)) pss_nil)
      (pss_cons (ps_fld (pv 0) (pv 1) rfl)
      (pss_cons (ps_fld (pv 0) (pv 2) rfl)
      (pss_cons (ps_fld (pv 0) (pv 3) rfl)
      (pss_one (ps_fld (pv 0) (pv 4) rfl)))))), ?_⟩
    refine ⟨_, rfl, _, rfl, _, rfl, _, rfl, (by show 4 ≤ sizeLine; decide), fun t ht => ⟨t, rfl, ⟨_, SqT.of upd_same⟩, fun D hD => lc_tupM (fun v => .bl (numB v)) upd_same hD (by show 4 < sizeLine; decide) (fun _ => rfl) ?_ ?_⟩⟩
    · intro i v hi H' Q' s' q
      refine ⟨_, rfl, v, rfl, ?_, q⟩
      have m : v ∈ [v1, v2, v3, v4] := List.mem_of_getElem? hi
      have s2 : Same H H' := (same_new ht).trans s'
      simp only [List.mem_cons, List.not_mem_nil, or_false] at m
      rcases m with rfl | rfl | rfl | rfl
      · exact k1.imp fun t k => k.mono s2
      · exact k2.imp fun t k => k.mono s2
      · exact k3.imp fun t k => k.mono s2
      · exact k4.imp fun t k => k.mono s2
    · refine ⟨D, [numB v1, numB v2, numB v3, numB v4], rfl, SqL.of upd_same, _, rfl, ?_⟩
      have e : [numB v1, numB v2, numB v3, numB v4].all id = (numB v1 && numB v2 && numB v3 && numB v4) := by simp [Bool.and_assoc]
      rw [e]
      have s2 : Same H _ := same_upd (o := HO.lst [.bl (numB v1), .bl (numB v2), .bl (numB v3), .bl (numB v4)]) (same_new (o := HO.tup [v1, v2, v3, v4]) ht) hD
      cases c : (numB v1 && numB v2 && numB v3 && numB v4) with
      | false => exact iteT (kN c _ s2)
      | true =>
        obtain ⟨n, u, p, q, rfl, rfl, rfl, rfl, kk⟩ := kY c
        refine iteF (g_next ?_)
        have hx2 := s2 _ _ hx
        refine ⟨_, rfl, _, rfl, x, a.Kept, dx, [], rfl, hx2, T.cl_Kept.cl, T.cl_Kept.na.1, (by decide), _, rfl, _, rfl, x, a.Kept, dx, _, rfl, upd_same, T.cl_Kept.cl, T.cl_Kept.na.2.1, Nat.lt_of_le_of_lt (putF_len _ _ _) (by decide), ?_⟩
        refine ⟨_, rfl, _, rfl, x, a.Kept, dx, _, rfl, upd_same, T.cl_Kept.cl, T.cl_Kept.na.2.2.1, Nat.lt_of_le_of_lt (putF_len _ _ _) (Nat.lt_of_le_of_lt (Nat.succ_le_succ (putF_len _ _ _)) (by decide)),
          _, rfl, _, rfl, x, a.Kept, dx, _, rfl, upd_same, T.cl_Kept.cl, T.cl_Kept.na.2.2.2.1, Nat.lt_of_le_of_lt (putF_len _ _ _) (Nat.lt_of_le_of_lt (Nat.succ_le_succ (Nat.le_trans (putF_len _ _ _) (Nat.succ_le_succ (putF_len _ _ _)))) (by decide)), ?_⟩
        refine kk _ ⟨dx, upd_same⟩ fun b o nb e => ?_
        rw [upd_ne nb, upd_ne nb, upd_ne nb, upd_ne nb]
        exact s2 b o e
/-- whether a modulus is in a lot -/
def inK (n u p q m : Nat) : Bool := (decide (n % m = 0) && decide (Nat.gcd u m = 1)) || (decide (0 < p) && (decide (m % p = 0) && decide (Nat.gcd q (m / p) = 1)))
theorem inK_iff {n u p q m : Nat} : inK n u p q m = true ↔ (n % m = 0 ∧ Nat.gcd u m = 1) ∨ (0 < p ∧ m % p = 0 ∧ Nat.gcd q (m / p) = 1) := by
  simp only [inK, Bool.or_eq_true, Bool.and_eq_true, decide_eq_true_eq]
def inV' (n u p q : Nat) : V → Bool
  | .int m => decide (1 ≤ m) && inK n u p q m.toNat
  | _ => false
def sp_Kept_contains (a : Ad) : Sp := fun vs H Q _ => ∃ (x : Addr) (v : V) (n u p q : Nat), vs = [.ref x, v] ∧ KeptAt a.Kept H x n u p q ∧ (∃ t, Kn H v t) ∧ (∀ m, v = .int m → m < 1000000) ∧ p < 1000000 ∧ Q (.bl (inV' n u p q v)) H
theorem ok_Kept___contains__ (T : Txt K mg a) : Mt CX0 P w K mg base 2 a.Kept "__contains__" (sp_Kept_contains a) := by
  have c_is_number := ok_is_number (P := P) (w := w) (base := base) T; have c_common := ok_common (P := P) (w := w) (base := base) T
  refine T.d_Kept___contains__.m0 sc_Kept___contains__ (fun vs H Q E h => ?_) (fun f cdv A outer s H vs Q E hr h => ?_)
  · obtain ⟨x, v, n, u, p, q, rfl, _⟩ := h
    rfl
  · obtain ⟨x, v, n, u, p, q, rfl, ⟨dx, hx⟩, kv, hm, hp, k⟩ := h
    refine ⟨_, (pss_cons (ps_if (pw_or (pt_not (pt_val (pe_0 c_is_number hr (by decide) (pa_cons (pv 1) pa_nil)))) (pw_or1 (pt_cmpR op_lt (pv 1) pe_int (nomark _)))).pt (pss_one (ps_ret pe_bl)) pss_nil)
      (C8.pss_cut (ps_if (pw_and (pt_cmpR op_eq (pe_op op_mod (pe_fld (pv 0) rfl) (pv 1)) pe_int (nomark _)) (pw_and1 (pt_cmpR op_eq (pe_0 c_common hr (by decide) (pa_cons (pe_fld (pv 0) rfl) (pa_cons (pv 1) pa_nil))) pe_int (nomark _)))).pt (pss_one (ps_ret pe_bl)) pss_nil)
      (pss_one (ps_ret (pe_and (pe_cmpR op_gt (pe_fld (pv 0) rfl) pe_int (nomark _)) (pe_and (pe_cmpR op_eq (pe_op op_mod (pv 1) (pe_fld (pv 0) rfl)) pe_int (nomark _)) (pe_one (pe_cmpR op_eq (pe_0 c_common hr (by decide) (pa_cons (pe_fld (pv 0) rfl) (pa_cons (pe_op op_fdivW (pv 1) (pe_fld (pv 0) rfl)) pa_nil))) pe_int (nomark _))))))))), ?_⟩
    refine ⟨_, rfl, v, rfl, kv, _, rfl, ?_⟩
    by_cases c : numB v = true
    · obtain ⟨m, rfl, m0⟩ : ∃ m, v = .int m ∧ 0 ≤ m := by
        cases v <;> simp only [numB, Bool.false_eq_true, decide_eq_true_eq] at c
        exact ⟨_, rfl, c⟩
      obtain ⟨m, rfl⟩ := Int.eq_ofNat_of_zero_le m0
      refine iteF' (by rw [c]; rfl) ⟨_, rfl, _, _, rfl, rfl, _, rfl, ?_⟩
      by_cases c1 : m = 0
      · subst c1
        exact iteT' (by decide) (q_eq k rfl)
      · have m1 : 0 < m := by omega
        have mi : (0 : Int) < (m : Int) := by omega
        have hm' := hm _ rfl
        refine iteF' (decide_eq_false (by omega)) ?_
        have K1 : Q (.bl (inK n u p q m)) H := q_eq k (by simp only [inV', Int.toNat_natCast, decide_eq_true (show (1 : Int) ≤ (m : Int) by omega), Bool.true_and])
        refine g_next ?_
        refine ⟨fun σ' H' => H' = H ∧ σ' = [some (.ref x), some (.int m)] ∧ ¬ (n % m = 0 ∧ Nat.gcd u m = 1), ?_, ?_⟩
        · refine ⟨_, rfl, x, a.Kept, dx, _, _, rfl, hx, T.cl_Kept.cl, T.cl_Kept.na.1, kf_number _ _ _ _, _, rfl, _, _, rfl, rfl, mi, rfl, _, rfl, ?_⟩
          rw [dec_int]
          by_cases c2 : n % m = 0
          · refine iteT' (decide_eq_true (by rw [← Int.natCast_emod, c2]; rfl)) ⟨_, rfl, x, a.Kept, dx, _, _, rfl, hx, T.cl_Kept.cl, T.cl_Kept.na.2.1, kf_unit _ _ _ _, _, rfl, _, _, rfl, rfl, _, rfl, ?_⟩
            rw [dec_int]
            by_cases c3 : Nat.gcd u m = 1
            · refine iteT' (decide_eq_true (by show ((Nat.gcd u m : Nat) : Int) = 1; omega)) (q_eq K1 ?_)
              simp only [inK, c2, c3, decide_true, Bool.and_self, Bool.true_or]
            · exact iteF' (decide_eq_false (by show ¬ ((Nat.gcd u m : Nat) : Int) = 1; omega)) ⟨rfl, rfl, fun h => c3 h.2⟩
          · exact iteF' (decide_eq_false (fun h => c2 (by omega))) (iteF ⟨rfl, rfl, fun h => c2 h.1⟩)
        · rintro σ' H' ⟨rfl, rfl, no⟩
          have e0 : (decide (n % m = 0) && decide (Nat.gcd u m = 1)) = false := by
            rw [Bool.and_eq_false_imp]
            intro h1
            rw [decide_eq_true_eq] at h1
            exact decide_eq_false fun h2 => no ⟨h1, h2⟩
          refine ⟨_, rfl, x, a.Kept, dx, _, _, rfl, hx, T.cl_Kept.cl, T.cl_Kept.na.2.2.1, kf_power _ _ _ _, _, _, rfl, rfl, _, rfl, ?_⟩
          by_cases p0 : p = 0
          · subst p0
            exact iteF' (by decide) (q_eq K1 (by simp only [inK, e0, Bool.false_or]; rfl))
          · have p1 : (0 : Int) < (p : Int) := by omega
            have e1 : decide (0 < p) = true := decide_eq_true (by omega)
            refine iteT' (decide_eq_true p1) ⟨_, rfl, _, rfl, x, a.Kept, dx, _, _, rfl, hx, T.cl_Kept.cl, T.cl_Kept.na.2.2.1, kf_power _ _ _ _, _, _, rfl, rfl, p1, rfl, _, rfl, ?_⟩
            rw [dec_int]
            by_cases c3 : m % p = 0
            · refine iteT' (decide_eq_true (by rw [← Int.natCast_emod, c3]; rfl)) ⟨_, rfl, x, a.Kept, dx, _, _, rfl, hx, T.cl_Kept.cl, T.cl_Kept.na.2.2.2.1, kf_part _ _ _ _, _, rfl, _, rfl, x, a.Kept, dx, _, _, rfl, hx, T.cl_Kept.cl, T.cl_Kept.na.2.2.1, kf_power _ _ _ _, _, _, rfl, rfl, wdiv p1 (by omega), _, _, rfl, rfl, ?_⟩
              refine q_eq K1 ?_
              simp only [inK, e0, e1, c3, Bool.false_or, decide_true, Bool.true_and]
              rw [dec_int]
              congr 1
              exact decide_eq_decide.mpr ⟨fun h => by exact_mod_cast h, fun h => by exact_mod_cast h⟩
            · refine iteF' (decide_eq_false (fun h => c3 (by omega))) (q_eq K1 ?_)
              simp only [inK, e0, e1, c3, Bool.false_or, decide_false, Bool.false_and, Bool.and_false]
    · exact iteT' (by rw [bf c]; rfl) (iteT (q_eq k (by
        cases v <;> simp only [numB, decide_eq_true_eq] at c <;> try rfl
        simp only [inV']
        rw [decide_eq_false (by omega), Bool.false_and])))
end

end Fold
namespace Fold
open PySem PySem.Spec PyProof.Rows L2
/-! ### what a step keeps: the lot the program makes -/
def wnum (b : Nat) (row : List Int) : Nat → Nat
  | 0 => b ^ row.length - 1
  | i + 1 => Int.gcd (wnum b row i) (row.getD i 0 - row.getD 0 0 * ((b ^ i : Nat) : Int))
def foldOdd (P : Nat) (x y : Int) : Bool := decide (x % (P : Int) = 0) && decide (Int.gcd y P = 1)
def kN (b : Nat) : Stp → Nat
  | .weigh row => wnum b row row.length
  | .fold k x y => (x - y * ((b ^ k : Nat) : Int)).natAbs
def kU : Stp → Nat
  | .weigh row => (row.getD 0 0).natAbs
  | .fold _ _ y => y.natAbs
def kP (b : Nat) : Stp → Nat
  | .weigh _ => 0
  | .fold k x y => if foldOdd (b ^ k) x y = true then b ^ k else 0
def kQ (b : Nat) : Stp → Nat
  | .weigh _ => 0
  | .fold k x y => if foldOdd (b ^ k) x y = true then x.natAbs / b ^ k else 0
def inS (b : Nat) (s : Stp) (m : Nat) : Bool := inK (kN b s) (kU s) (kP b s) (kQ b s) m
section
variable {P : Program} {w : World} {K : PySem.W.Frag} {mg : Str → Option Value} {base : Heap} {a : Ad}
def LotAt (C : Addr) (H : Hp) (x : Addr) (b : Nat) (s : Stp) : Prop := KeptAt C H x (kN b s) (kU s) (kP b s) (kQ b s)
theorem LotAt.mono {C : Addr} {H H' : Hp} {x : Addr} {b : Nat} {st : Stp} (s : Same H H') (h : LotAt C H x b st) : LotAt C H' x b st := KeptAt.mono s h
theorem init_ok {H : Hp} {x dx : Addr} (hx : H x = none) (hdx : H dx = none) (nx : dx ≠ x) (n u p q : Nat) {Q : VK} {E : XK} (k : ∀ H', KeptAt a.Kept H' x n u p q → Same H H' → Q .non H') :
    sp_Kept_init a [.ref x, .int n, .int u, .int p, .int q] (upd (upd H dx (.own x)) x (.ins a.Kept dx [])) Q E := by
  refine ⟨x, dx, _, _, _, _, rfl, upd_same, ⟨_, .int _⟩, ⟨_, .int _⟩, ⟨_, .int _⟩, ⟨_, .int _⟩, fun _ => ⟨n, u, p, q, rfl, rfl, rfl, rfl, fun H3 hK hb => k H3 hK fun b o e => ?_⟩, fun c => ?_⟩
  · have n1 := ne_of_none e hx
    have n2 := ne_of_none e hdx
    refine hb b o n1 ?_
    rw [upd_ne n1, upd_ne n2]
    exact e
  · simp [numB] at c
def sp_weigh_kept (a : Ad) : Sp := fun vs H Q _ => ∃ (b : Nat) (r : Addr) (row : List Int), vs = [.int b, .ref r] ∧ (2 ≤ b ∧ b ≤ 12) ∧ H r = some (.tup (row.map V.int)) ∧ OkS b (.weigh row) ∧ ∀ x H', LotAt a.Kept H' x b (.weigh row) → Same H H' → Q (.ref x) H'
theorem ok_weigh_kept (T : Txt K mg a) : C0 P w K mg base 4 "weigh_kept" (sp_weigh_kept a) := by
  have m_Kept := (ok_Kept___init__ (P := P) (w := w) (base := base) T).make T.cl_Kept; have c_power_of := ok_power_of (P := P) (w := w) (base := base) T; have c_common := ok_common (P := P) (w := w) (base := base) T
  refine T.d_weigh_kept.c0 sc_weigh_kept (fun vs H Q E h => ?_) (fun f cdv A outer s H vs Q E hr h => ?_)
  · obtain ⟨b, r, row, rfl, _⟩ := h
    rfl
  · obtain ⟨b, r, row, rfl, hb, h1, ho, k⟩ := h
    refine ⟨_, (pss_cons (ps_set (i := 2) sc_weigh_kept.nd rfl (Or.inl rfl) (pe_op op_sub (pe_0 c_power_of hr (by decide) (pa_cons (pv 0) (pa_cons (pe_callB call_len_seq (by rfl) T.n_len b_len (pa_cons (pv 1) pa_nil)) pa_nil))) pe_int))
      (pss_cons (ps_for PassesOwn.never rfl (pi_enumT (by rfl) T.n_enumerate (pa_cons (pv 1) pa_nil)) (pg_tup rfl (pgs_cons (pg_name (i := 3) sc_weigh_kept.nd rfl (Or.inl rfl)) (pgs_cons (pg_name (i := 4) sc_weigh_kept.nd rfl (Or.inl rfl)) pgs_nil))) (pss_one (ps_set (i := 2) sc_weigh_kept.nd rfl (Or.inl rfl) (pe_0 c_common hr (by decide) (pa_cons (pv 2) (pa_cons (pe_op op_sub (pv 4) (pe_op op_mul (pe_ix ix_tup (pv 1) pe_int (fun _ _ => rfl)) (pe_0 c_power_of hr (by decide) (pa_cons (pv 0) (pa_cons (pv 3) pa_nil))))) pa_nil))))))
      (pss_one (ps_ret (pe_m10 m_Kept hr (by decide) (pa_cons (pv 2) (pa_cons (pe_callB call_abs (by rfl) T.n_abs b_abs (pa_cons (pe_ix ix_tup (pv 1) pe_int (fun _ _ => rfl)) pa_nil)) (pa_cons pe_int (pa_cons pe_int pa_nil))))))))), ?_⟩
    obtain ⟨o1, o2, o3⟩ := id ho
    have r0 : 0 < row.length := o1
    refine ⟨_, rfl, _, rfl, r, _, rfl, .inr (SqT.of h1), _, _, rfl, ⟨by omega, by omega⟩, ⟨by rw [List.length_map]; omega, by rw [List.length_map]; omega⟩, _, _, rfl, rfl, ?_⟩
    refine ⟨_, rfl, r, _, rfl, SqT.of h1, for_it walk_enumT (fun i σ H' => Same H H' ∧ ∃ v1 v2, σ = [some (.int b), some (.ref r), some (.int (wnum b row i : Nat)), v1, v2]) ⟨Same.refl _, none, none, ?_⟩ (fun i σ H' _ h => SqT.of (h.1 _ _ h1)) ?_ ?_⟩
    · show _ = [some (V.int (b : Int)), some (V.ref r), some (V.int ((b ^ row.length - 1 : Nat) : Int)), none, none]
      have e : ((b : Int).toNat ^ ((row.map V.int).length : Int).toNat : Nat) - (1 : Int) = ((b ^ row.length - 1 : Nat) : Int) := by
        rw [List.length_map, Int.toNat_natCast, Int.toNat_natCast]
        have : 0 < b ^ row.length := Nat.pow_pos (by omega)
        omega
      rw [← e]; rfl
    · rintro i v σ H1 H2 hi ⟨s1, v1, v2, rfl⟩ ⟨T', x, y, rfl, hT, rfl, ex, ey⟩
      cases ex
      rw [List.length_map] at hi
      obtain rfl : V.int (row.getD i 0) = y := Option.some.inj ((rowAt hi).symm.trans ey)
      have s2 := s1.trans (same_new (o := HO.tup [.int (i : Int), .int (row.getD i 0)]) hT)
      have ri := o3 _ (rowIn hi)
      have r00 := o3 _ (rowIn r0)
      refine ⟨T', _, rfl, SqT.of upd_same, rfl, _, _, rfl, _, _, rfl, rfl, ?_⟩
      refine ⟨_, rfl, _, rfl, _, rfl, r, _, _, _, rfl, rfl, SqT.of (s2 _ _ h1), at_of (j := 0) rfl (rowAt r0), _, rfl, _, rfl, _, _, rfl, ⟨by omega, by omega⟩, ⟨by omega, by omega⟩, _, _, rfl, rfl, CMulS r00, _, _, rfl, rfl, _, _, rfl, s2, some (.int (i : Int)), some (.int (row.getD i 0)), rfl⟩
    · rintro σ H1 ⟨s1, v1, v2, rfl⟩
      refine ⟨_, rfl, _, rfl, r, _, _, _, rfl, rfl, SqT.of (s1 _ _ h1), at_of (j := 0) rfl (rowAt r0), _, rfl, fun x dx hx hdx nx => ?_⟩
      rw [abs_nat, List.length_map]
      exact init_ok hx hdx nx _ _ 0 0 fun H' hk s' => ⟨rfl, k x H' hk (s1.trans s')⟩
def sp_fold_kept (a : Ad) : Sp := fun vs H Q _ => ∃ (b k : Nat) (x y : Int), vs = [.int b, .int k, .int x, .int y] ∧ (2 ≤ b ∧ b ≤ 12) ∧ OkS b (.fold k x y) ∧ ∀ z H', LotAt a.Kept H' z b (.fold k x y) → Same H H' → Q (.ref z) H'
theorem ok_fold_kept (T : Txt K mg a) : C0 P w K mg base 4 "fold_kept" (sp_fold_kept a) := by
  have c_power_of := ok_power_of (P := P) (w := w) (base := base) T; have m_Kept := (ok_Kept___init__ (P := P) (w := w) (base := base) T).make T.cl_Kept; have c_common := ok_common (P := P) (w := w) (base := base) T
  refine T.d_fold_kept.c0 sc_fold_kept (fun vs H Q E h => ?_) (fun f cdv A outer s H vs Q E hr h => ?_)
  · obtain ⟨b, k, x, y, rfl, _⟩ := h
    rfl
  · obtain ⟨b, k, x, y, rfl, hb, ⟨o1, o2, o3, o4, o5⟩, kk⟩ := h
    refine ⟨_, (pss_cons (ps_set (i := 4) sc_fold_kept.nd rfl (Or.inl rfl) (pe_0 c_power_of hr (by decide) (pa_cons (pv 0) (pa_cons (pv 1) pa_nil))))
      (pss_cons (ps_set (i := 5) sc_fold_kept.nd rfl (Or.inl rfl) (pe_callB call_abs (by rfl) T.n_abs b_abs (pa_cons (pe_op op_sub (pv 2) (pe_op op_mul (pv 3) (pv 4))) pa_nil)))
      (C8.pss_cut (ps_if (pw_and (pt_cmpR op_eq (pe_op op_mod (pv 2) (pv 4)) pe_int (nomark _)) (pw_and1 (pt_cmpR op_eq (pe_0 c_common hr (by decide) (pa_cons (pv 3) (pa_cons (pv 4) pa_nil))) pe_int (nomark _)))).pt (pss_one (ps_ret (pe_m10 m_Kept hr (by decide) (pa_cons (pv 5) (pa_cons (pe_callB call_abs (by rfl) T.n_abs b_abs (pa_cons (pv 3) pa_nil)) (pa_cons (pv 4) (pa_cons (pe_op op_fdivW (pe_callB call_abs (by rfl) T.n_abs b_abs (pa_cons (pv 2) pa_nil)) (pv 4)) pa_nil))))))) pss_nil)
      (pss_one (ps_ret (pe_m10 m_Kept hr (by decide) (pa_cons (pv 5) (pa_cons (pe_callB call_abs (by rfl) T.n_abs b_abs (pa_cons (pv 3) pa_nil)) (pa_cons pe_int (pa_cons pe_int pa_nil)))))))))), ?_⟩
    have hP : 0 < b ^ k := Nat.pow_pos (by omega)
    have hPi : (0 : Int) < ((b ^ k : Nat) : Int) := by omega
    refine ⟨_, rfl, _, rfl, _, _, rfl, ⟨by omega, by omega⟩, ⟨by omega, by omega⟩, ?_⟩
    refine ⟨_, rfl, _, rfl, _, rfl, _, _, rfl, rfl, .inl ⟨by omega, by omega⟩, _, _, rfl, rfl, _, rfl, ?_⟩
    simp only [Int.toNat_natCast]
    rw [abs_nat]
    refine ⟨fun (σ' : L2.St) (H' : Hp) => H' = H ∧ σ' = [some (.int b), some (.int k), some (.int x), some (.int y), some (.int ((b ^ k : Nat) : Int)), some (.int ((x - y * ((b ^ k : Nat) : Int)).natAbs : Nat))] ∧ foldOdd (b ^ k) x y = false, ?_, ?_⟩
    · refine ⟨_, rfl, _, rfl, _, _, rfl, rfl, hPi, rfl, _, rfl, ?_⟩
      rw [dec_int]
      by_cases c1 : x % ((b ^ k : Nat) : Int) = 0
      · refine iteT' (decide_eq_true c1) ⟨_, rfl, _, rfl, _, _, rfl, rfl, _, rfl, ?_⟩
        rw [dec_int]
        by_cases c2 : Int.gcd y ((b ^ k : Nat) : Int) = 1
        · have ec : foldOdd (b ^ k) x y = true := by rw [foldOdd, decide_eq_true c1, decide_eq_true c2]; rfl
          refine iteT' (decide_eq_true (by omega)) ⟨_, rfl, _, rfl, _, rfl, _, rfl, _, rfl, _, rfl, _, rfl, _, _, rfl, rfl, wdiv hPi (by omega), fun z dz hz hdz nz => ?_⟩
          rw [abs_nat, abs_nat]
          refine init_ok hz hdz nz _ _ (b ^ k) (x.natAbs / b ^ k) fun H' hk s' => ⟨rfl, kk z H' ?_ s'⟩
          simp only [LotAt, kN, kU, kP, kQ, ec, if_true]
          exact hk
        · exact iteF' (decide_eq_false (by omega)) ⟨rfl, rfl, by rw [foldOdd, decide_eq_false c2, Bool.and_false]⟩
      · exact iteF' (decide_eq_false c1) (iteF ⟨rfl, rfl, by rw [foldOdd, decide_eq_false c1, Bool.false_and]⟩)
    · rintro σ' H' ⟨rfl, rfl, ec⟩
      refine ⟨_, rfl, _, rfl, _, rfl, fun z dz hz hdz nz => ?_⟩
      rw [abs_nat]
      refine init_ok hz hdz nz _ _ 0 0 fun H' hk s' => ⟨rfl, kk z H' ?_ s'⟩
      simp only [LotAt, kN, kU, kP, kQ, ec, if_neg Bool.false_ne_true]
      exact hk
def sp_kept (a : Ad) : Sp := fun vs H Q E => ∃ (v u : V), vs = [v, u] ∧ (∃ t, Kn H v t) ∧ KnT H u ∧
  (okB H v u = true → ∃ (b : Nat) (p : Addr) (s : Stp), v = .int b ∧ u = .ref p ∧ (2 ≤ b ∧ b ≤ 12) ∧ StepAt H p s ∧ OkS b s ∧ ∀ x H', LotAt a.Kept H' x b s → Same H H' → Q (.ref x) H') ∧ (okB H v u = false → ∀ H', Same H H' → E (.ref a.BadStep) none H')
theorem ok_kept (T : Txt K mg a) : C1 P w K mg base 5 "kept" (sp_kept a) := by
  have c_check_step := ok_check_step (P := P) (w := w) (base := base) T; have c_weigh_kept := ok_weigh_kept (P := P) (w := w) (base := base) T; have c_fold_kept := ok_fold_kept (P := P) (w := w) (base := base) T
  refine T.d_kept.c1 sc_kept (fun vs H Q E h => ?_) (fun f cdv A outer s H vs Q E hr h => ?_)
  · obtain ⟨v, u, rfl, _⟩ := h
    rfl
  · obtain ⟨v, u, rfl, kv, ku, kY, kN⟩ := h
    have tk := takes_of (X := cxOf (L2.CX P w) P w K mg base ["base", "step"] "kept" (defScope s_kept) f cdv A outer s H E) rfl rfl rfl rfl
    refine ⟨_, (pss_cons (ps_expr (pe_1 c_check_step hr (by decide) tk (by exact (pa_cons (pv 0) (pa_cons (pv 1) pa_nil)))))
      (pss_one (ps_ret (pe_ifExp (pt_cmpR op_eq (pe_ix (ix_tupK (K := K) rfl) (pv 1) pe_int (fun _ _ => rfl)) pe_str (nomark _)) (pe_0 c_weigh_kept hr (by decide) (pa_cons (pv 0) (pa_cons (pe_ix (ix_tupK (K := K) rfl) (pv 1) pe_int (fun _ _ => rfl)) pa_nil))) (pe_0 c_fold_kept hr (by decide) (pa_cons (pv 0) (pa_cons (pe_ix (ix_tupK (K := K) rfl) (pv 1) pe_int (fun _ _ => rfl)) (pa_cons (pe_ix (ix_tupK (K := K) rfl) (pv 1) pe_int (fun _ _ => rfl)) (pa_cons (pe_ix (ix_tupK (K := K) rfl) (pv 1) pe_int (fun _ _ => rfl)) pa_nil))))))))), ?_⟩
    refine ⟨_, rfl, _, rfl, v, u, rfl, kv, ku, fun c H' s' => ?_, fun c H' s' => kN c H' s'⟩
    obtain ⟨b, p, s, rfl, rfl, hb, hs, ho, q⟩ := kY c
    have hs' := hs.mono s'
    cases s with
    | weigh row =>
      obtain ⟨r, h1, h2⟩ := hs'
      exact ⟨_, rfl, _, _, _, _, rfl, rfl, SqT.of h1, rfl, rfl, _, rfl, iteT' (by decide +kernel) ⟨_, rfl, _, rfl, _, _, _, _, rfl, rfl, SqT.of h1, rfl, b, r, row, rfl, hb, h2, ho, fun x H2 hx s2 => q x H2 hx (s'.trans s2)⟩⟩
    | fold kk x y =>
      have h1 : H' p = _ := hs'
      exact ⟨_, rfl, _, _, _, _, rfl, rfl, SqT.of h1, rfl, rfl, _, rfl, iteF' (by decide +kernel) ⟨_, rfl, _, rfl, _, _, _, _, rfl, rfl, SqT.of h1, rfl, _, rfl, _, _, _, _, rfl, rfl, SqT.of h1, rfl, _, rfl, _, _, _, _, rfl, rfl, SqT.of h1, rfl, b, kk, x, y, rfl, hb, ho, fun x H2 hx s2 => q x H2 hx (s'.trans s2)⟩⟩
theorem kP_lt {b : Nat} {s : Stp} (ho : OkS b s) : kP b s < 1000000 := by
  cases s with
  | weigh row => exact (by decide : 0 < 1000000)
  | fold k x y =>
    obtain ⟨o1, o2, o3, _⟩ := ho
    show (if foldOdd (b ^ k) x y = true then b ^ k else 0) < 1000000
    split <;> omega
def sp_keeps (a : Ad) : Sp := fun vs H Q E => ∃ (v u m : V), vs = [v, u, m] ∧ (∃ t, Kn H v t) ∧ KnT H u ∧ (∃ t, Kn H m t) ∧ (∀ j, m = .int j → j < 1000000) ∧
  (okB H v u = true → ∃ (b : Nat) (p : Addr) (s : Stp), v = .int b ∧ u = .ref p ∧ (2 ≤ b ∧ b ≤ 12) ∧ StepAt H p s ∧ OkS b s ∧ ∀ H', Same H H' → Q (.bl (inV' (Fold.kN b s) (kU s) (kP b s) (kQ b s) m)) H') ∧ (okB H v u = false → ∀ H', Same H H' → E (.ref a.BadStep) none H')
theorem ok_keeps (T : Txt K mg a) : C1 P w K mg base 6 "keeps" (sp_keeps a) := by
  have o_Kept___contains__ := ok_Kept___contains__ (P := P) (w := w) (base := base) T; have c_kept := ok_kept (P := P) (w := w) (base := base) T
  refine T.d_keeps.c1 sc_keeps (fun vs H Q E h => ?_) (fun f cdv A outer s H vs Q E hr h => ?_)
  · obtain ⟨v, u, m, rfl, _⟩ := h
    rfl
  · obtain ⟨v, u, m, rfl, kv, ku, km, mb, kY, kN⟩ := h
    have tk := takes_of (X := cxOf (L2.CX P w) P w K mg base ["base", "step", "m"] "keeps" (defScope s_keeps) f cdv A outer s H E) rfl rfl rfl rfl
    refine ⟨_, (pss_one (ps_ret (pe_cmpR (op_inOwn o_Kept___contains__ hr (by decide)) (pv 2) (pe_1 c_kept hr (by decide) tk (by exact (pa_cons (pv 0) (pa_cons (pv 1) pa_nil)))) (by with_unfolding_all rfl)))), ?_⟩
    refine ⟨_, rfl, _, rfl, _, rfl, v, u, rfl, kv, ku, fun c => ?_, fun c H' s' => kN c H' s'⟩
    obtain ⟨b, p, s, rfl, rfl, hb, hs, ho, q⟩ := kY c
    refine ⟨b, p, s, rfl, rfl, hb, hs, ho, fun x H' hx s' => ?_⟩
    obtain ⟨dx, hx'⟩ := id hx
    exact ⟨x, dx, _, rfl, hx', x, m, _, _, _, _, rfl, hx, km.imp fun t z => z.mono s', mb, kP_lt ho, _, rfl, q H' s'⟩
end

end Fold
namespace Fold
open PySem PySem.Spec PyProof.Rows L2
/-! ### the plain law of kept moduli -/
theorem bezout : ∀ a b : Nat, ∃ u v : Int, u * a + v * b = (Nat.gcd a b : Nat) := by
  intro a b
  induction a, b using Nat.gcd.induction with
  | H0 n => exact ⟨0, 1, by rw [Nat.gcd_zero_left]; omega⟩
  | H1 m n h ih =>
    obtain ⟨u, v, e⟩ := ih
    refine ⟨v - u * (n / m : Nat), u, ?_⟩
    rw [Nat.gcd_rec, ← e]
    have h2 : (n : Int) = (m : Int) * ((n / m : Nat) : Int) + ((n % m : Nat) : Int) := by
      have := Nat.div_add_mod n m
      exact_mod_cast this.symm
    generalize ((n / m : Nat) : Int) = c at *
    generalize ((n % m : Nat) : Int) = d at *
    rw [h2]
    grind
theorem gcd_natAbs {y : Int} {m : Nat} : Int.gcd y m = Nat.gcd y.natAbs m := rfl
theorem cop_dvd {m : Nat} {y n : Int} (h : Int.gcd y m = 1) (d : (m : Int) ∣ y * n) : (m : Int) ∣ n := by
  rw [Int.ofNat_dvd_left] at d ⊢
  rw [Int.natAbs_mul] at d
  refine Nat.Coprime.dvd_of_dvd_mul_left (k := m) (m := y.natAbs) ?_ d
  rw [Nat.coprime_iff_gcd_eq_one, Nat.gcd_comm]
  exact h
theorem cop_of {m : Nat} {y : Int} (hm : 1 ≤ m) (h : ∀ r : Nat, r < m → (m : Int) ∣ y * r → r = 0) : Int.gcd y m = 1 := by
  rw [gcd_natAbs]
  obtain ⟨c, ec⟩ := Nat.gcd_dvd_right y.natAbs m
  obtain ⟨e, ee⟩ : ((Nat.gcd y.natAbs m : Nat) : Int) ∣ y := Int.ofNat_dvd_left.mpr (Nat.gcd_dvd_left y.natAbs m)
  have hg : 0 < Nat.gcd y.natAbs m := Nat.gcd_pos_of_pos_right _ hm
  generalize Nat.gcd y.natAbs m = g at *
  refine Decidable.byContradiction fun ne => ?_
  have c1 : 0 < c := by
    rcases Nat.eq_zero_or_pos c with z | z
    · rw [z, Nat.mul_zero] at ec; omega
    · exact z
  have c2 : c < m := by
    rw [ec]
    have := Nat.mul_le_mul_right c (show 2 ≤ g by omega)
    omega
  have := h c c2 ⟨e, by rw [ee, ec]; simp only [Int.natCast_mul]; grind⟩
  omega
/-- the law's own account of a fold -/
def FoldOk (b k : Nat) (x y : Int) (m : Nat) : Prop := ∀ q : Nat, q < m → ∀ r : Nat, r < b ^ k → (((q : Int) * ((b ^ k : Nat) : Int) + r) % m = 0 ↔ (x * q + y * r) % m = 0)
theorem fold_all {P m : Nat} {x y : Int} (hP : 2 ≤ P) (hm : 1 ≤ m) (F : ∀ q : Nat, q < m → ∀ r : Nat, r < P → (((q : Int) * (P : Int) + r) % m = 0 ↔ (x * q + y * r) % m = 0)) (q r : Nat) (hr : r < P) :
    ((m : Int) ∣ (q : Int) * P + r ↔ (m : Int) ∣ x * q + y * r) := by
  have f := F (q % m) (Nat.mod_lt _ hm) r hr
  rw [← Int.dvd_iff_emod_eq_zero, ← Int.dvd_iff_emod_eq_zero] at f
  have e : (q : Int) = (m : Int) * ((q / m : Nat) : Int) + ((q % m : Nat) : Int) := by
    have := Nat.div_add_mod q m
    exact_mod_cast this.symm
  generalize ((q / m : Nat) : Int) = c at *
  generalize ((q % m : Nat) : Int) = d at *
  rw [e]
  rw [show ((m : Int) * c + d) * P + r = (m : Int) * (c * P) + (d * P + r) by grind, show x * ((m : Int) * c + d) + y * r = (m : Int) * (x * c) + (x * d + y * r) by grind, Int.dvd_add_right (Int.dvd_mul_right _ _), Int.dvd_add_right (Int.dvd_mul_right _ _)]
  exact f
theorem small_dvd {P r : Nat} (h : (P : Int) ∣ (r : Int)) (hr : r < P) : r = 0 := by
  have h' : P ∣ r := Int.ofNat_dvd.mp h
  rcases Nat.eq_zero_or_pos r with z | z
  · exact z
  · have := Nat.le_of_dvd z h'
    omega
theorem cancelP {P : Nat} (hP : 2 ≤ P) {a b : Int} (h : (P : Int) * a = (P : Int) * b) : a = b := Int.eq_of_mul_eq_mul_left (by omega) h
theorem fold_back {P m : Nat} {x y : Int} (hP : 2 ≤ P) (h : ((m : Int) ∣ x - y * P ∧ Int.gcd y m = 1) ∨ ∃ (x' : Int) (m' : Nat), x = (P : Int) * x' ∧ m = P * m' ∧ Int.gcd y P = 1 ∧ Int.gcd x' m' = 1) (q r : Nat) (hr : r < P) :
    ((m : Int) ∣ (q : Int) * P + r ↔ (m : Int) ∣ x * q + y * r) := by
  rcases h with ⟨⟨D, eD⟩, hg⟩ | ⟨x', m', rfl, rfl, hy, hx⟩
  · rw [show x * (q : Int) + y * r = (m : Int) * (D * q) + y * ((q : Int) * P + r) by grind, Int.dvd_add_right (Int.dvd_mul_right _ _)]
    exact ⟨fun h => Int.dvd_trans h (Int.dvd_mul_left _ _), cop_dvd hg⟩
  · rw [Int.natCast_mul]
    constructor
    · rintro ⟨c, e⟩
      have h0 := small_dvd (P := P) (r := r) ⟨m' * c - q, by grind⟩ hr
      subst h0
      have e2 : (q : Int) = m' * c := cancelP hP (by grind)
      exact ⟨x' * c, by rw [e2]; grind⟩
    · rintro ⟨c, e⟩
      have h0 := small_dvd (P := P) (r := r) (cop_dvd hy ⟨m' * c - x' * q, by grind⟩) hr
      subst h0
      have e2 : x' * (q : Int) = m' * c := cancelP hP (by grind)
      obtain ⟨d, ed⟩ := cop_dvd hx ⟨c, e2⟩
      exact ⟨d, by rw [ed]; grind⟩
theorem fold_fwd {P m : Nat} {x y : Int} (hP : 2 ≤ P) (hm : 1 ≤ m) (A : ∀ q r : Nat, r < P → ((m : Int) ∣ (q : Int) * P + r ↔ (m : Int) ∣ x * q + y * r)) :
    ((m : Int) ∣ x - y * P ∧ Int.gcd y m = 1) ∨ ∃ (x' : Int) (m' : Nat), x = (P : Int) * x' ∧ m = P * m' ∧ Int.gcd y P = 1 ∧ Int.gcd x' m' = 1 := by
  by_cases hd : P ∣ m
  · right
    obtain ⟨m', rfl⟩ := hd
    have hm' : 0 < m' := by
      rcases Nat.eq_zero_or_pos m' with z | z
      · rw [z, Nat.mul_zero] at hm; omega
      · exact z
    have A0 : ∀ q : Nat, ((P * m' : Nat) : Int) ∣ (q : Int) * P ↔ ((P * m' : Nat) : Int) ∣ x * q := fun q => by
      have := A q 0 (by omega)
      simpa using this
    obtain ⟨c, ec⟩ := (A0 m').mp ⟨1, by rw [Int.natCast_mul]; grind⟩
    have hx : x = (P : Int) * c := by
      refine Int.eq_of_mul_eq_mul_left (show (m' : Int) ≠ 0 by omega) ?_
      rw [Int.natCast_mul] at ec
      grind
    subst hx
    have gx : Int.gcd c m' = 1 := cop_of hm' fun r hr ⟨e, ee⟩ => by
      obtain ⟨z, ez⟩ := (A0 r).mpr ⟨e, by rw [Int.natCast_mul]; grind⟩
      rw [Int.natCast_mul] at ez
      refine small_dvd (P := m') ⟨z, cancelP hP (by grind)⟩ hr
    refine ⟨c, m', rfl, rfl, cop_of (by omega) fun r hr ⟨z, ez⟩ => ?_, gx⟩
    obtain ⟨U, v, eU⟩ : ∃ U v : Int, U * c + v * m' = 1 := by
      obtain ⟨u, v, e⟩ := bezout c.natAbs m'
      rw [← gcd_natAbs, gx] at e
      rcases Int.natAbs_eq c with h | h
      · exact ⟨u, v, by rw [h]; exact e⟩
      · exact ⟨-u, v, by rw [h]; grind⟩
    have h0 : 0 ≤ (-(z * U)) % (m' : Int) := Int.emod_nonneg _ (by omega)
    have eq : (((-(z * U)) % (m' : Int)).toNat : Int) = -(z * U) - m' * ((-(z * U)) / m') := by
      rw [Int.toNat_of_nonneg h0, Int.emod_def]
    have hq := A ((-(z * U)) % (m' : Int)).toNat r hr
    rw [eq] at hq
    generalize (-(z * U)) / (m' : Int) = t at hq
    obtain ⟨w', ew⟩ := hq.mpr ⟨z * v - c * t, by rw [Int.natCast_mul]; grind⟩
    rw [Int.natCast_mul] at ew
    exact small_dvd (P := P) ⟨m' * w' - (-(z * U) - m' * t), by grind⟩ hr
  · left
    have r0 : 0 < m % P := by
      rcases Nat.eq_zero_or_pos (m % P) with z | z
      · exact absurd (Nat.dvd_of_mod_eq_zero z) hd
      · exact z
    have rP : m % P < P := Nat.mod_lt _ (by omega)
    have em : m = P * (m / P) + m % P := (Nat.div_add_mod m P).symm
    obtain ⟨c1, e1⟩ := (A (m / P) (m % P) rP).mp ⟨1, by
      have : (m : Int) = (P : Int) * ((m / P : Nat) : Int) + ((m % P : Nat) : Int) := by exact_mod_cast em
      grind⟩
    obtain ⟨j, j1, j2⟩ : ∃ j : Nat, P ≤ j * (m % P) ∧ j * (m % P) < P + m % P := by
      refine ⟨(P - 1) / (m % P) + 1, ?_, ?_⟩
      · have := Nat.div_add_mod (P - 1) (m % P)
        have := Nat.mod_lt (P - 1) r0
        rw [Nat.add_mul, Nat.one_mul, Nat.mul_comm]
        omega
      · have := Nat.div_mul_le_self (P - 1) (m % P)
        rw [Nat.add_mul, Nat.one_mul]
        omega
    obtain ⟨s, es⟩ := Nat.exists_eq_add_of_le j1
    obtain ⟨c2, e2⟩ := (A (j * (m / P) + 1) s (by omega)).mp ⟨j, by
      have h1 : (m : Int) = (P : Int) * ((m / P : Nat) : Int) + ((m % P : Nat) : Int) := by exact_mod_cast em
      have h2 : (j : Int) * ((m % P : Nat) : Int) = P + s := by exact_mod_cast es
      simp only [Int.natCast_add, Int.natCast_mul, Int.natCast_one]
      generalize ((m / P : Nat) : Int) = a at *
      generalize ((m % P : Nat) : Int) = b at *
      rw [h1]
      grind⟩
    have h1 : (m : Int) = (P : Int) * ((m / P : Nat) : Int) + ((m % P : Nat) : Int) := by exact_mod_cast em
    have h2 : (j : Int) * ((m % P : Nat) : Int) = P + s := by exact_mod_cast es
    simp only [Int.natCast_add, Int.natCast_mul, Int.natCast_one] at e2
    generalize ((m / P : Nat) : Int) = a at *
    generalize ((m % P : Nat) : Int) = b at *
    have hD : (m : Int) ∣ x - y * P := ⟨c2 - j * c1, by grind⟩
    refine ⟨hD, cop_of hm fun r hr h => ?_⟩
    have h3 : (r : Int) = (P : Int) * ((r / P : Nat) : Int) + ((r % P : Nat) : Int) := by
      have := (Nat.div_add_mod r P).symm
      exact_mod_cast this
    have h4 := A (r / P) (r % P) (Nat.mod_lt _ (by omega))
    obtain ⟨d1, ed1⟩ := hD
    obtain ⟨d2, ed2⟩ := h
    refine small_dvd (P := m) (r := r) ?_ hr
    rw [h3, Int.mul_comm]
    refine h4.mpr ⟨d1 * ((r / P : Nat) : Int) + d2, ?_⟩
    generalize ((r / P : Nat) : Int) = u at *
    generalize ((r % P : Nat) : Int) = w at *
    grind
theorem fold_thm {b k m : Nat} {x y : Int} (hb : 2 ≤ b) (hk : 1 ≤ k) (hm : 1 ≤ m) : FoldOk b k x y m ↔ inS b (.fold k x y) m = true := by
  have hP : 2 ≤ b ^ k := by
    have h1 : b ^ 1 ≤ b ^ k := Nat.pow_le_pow_right (by omega) hk
    rw [Nat.pow_one] at h1
    omega
  have key : FoldOk b k x y m ↔ (((m : Int) ∣ x - y * ((b ^ k : Nat) : Int) ∧ Int.gcd y m = 1) ∨ ∃ (x' : Int) (m' : Nat), x = ((b ^ k : Nat) : Int) * x' ∧ m = b ^ k * m' ∧ Int.gcd y ((b ^ k : Nat) : Int) = 1 ∧ Int.gcd x' m' = 1) := by
    constructor
    · exact fun F => fold_fwd hP hm (fold_all hP hm F)
    · intro h q _ r hr
      have := fold_back hP h q r hr
      rw [Int.dvd_iff_emod_eq_zero, Int.dvd_iff_emod_eq_zero] at this
      exact this
  rw [key, inS, inK_iff]
  have e1 : (m : Int) ∣ x - y * ((b ^ k : Nat) : Int) ↔ kN b (.fold k x y) % m = 0 := by
    rw [Int.ofNat_dvd_left]
    exact Nat.dvd_iff_mod_eq_zero
  have e2 : Int.gcd y m = Nat.gcd (kU (.fold k x y)) m := rfl
  rw [e1, e2]
  refine or_congr Iff.rfl ?_
  generalize hQ : b ^ k = P at *
  constructor
  · rintro ⟨x', m', rfl, rfl, hy, hx⟩
    have eo : foldOdd P ((P : Int) * x') y = true := by
      rw [foldOdd, decide_eq_true (by rw [Int.mul_emod_right]), decide_eq_true hy]; rfl
    have ep : kP b (.fold k ((P : Int) * x') y) = P := by simp only [kP, hQ, eo, if_true]
    have eq : kQ b (.fold k ((P : Int) * x') y) = x'.natAbs := by
      simp only [kQ, hQ, eo, if_true, Int.natAbs_mul, Int.natAbs_natCast]
      exact Nat.mul_div_cancel_left _ (by omega)
    rw [ep, eq]
    exact ⟨by omega, Nat.mul_mod_right _ _, by rw [Nat.mul_div_cancel_left _ (by omega)]; exact hx⟩
  · rintro ⟨h1, h2, h3⟩
    by_cases eo : foldOdd P x y = true
    · have ep : kP b (.fold k x y) = P := by simp only [kP, hQ, eo, if_true]
      have eq : kQ b (.fold k x y) = x.natAbs / P := by simp only [kQ, hQ, eo, if_true]
      rw [ep] at h1 h2 h3
      rw [eq] at h3
      rw [foldOdd, Bool.and_eq_true, decide_eq_true_eq, decide_eq_true_eq] at eo
      obtain ⟨x', rfl⟩ := Int.dvd_of_emod_eq_zero eo.1
      obtain ⟨m', rfl⟩ := Nat.dvd_of_mod_eq_zero h2
      refine ⟨x', m', rfl, rfl, eo.2, ?_⟩
      rw [Int.natAbs_mul, Int.natAbs_natCast, Nat.mul_div_cancel_left _ (by omega), Nat.mul_div_cancel_left _ (by omega)] at h3
      exact h3
    · have ep : kP b (.fold k x y) = 0 := by simp only [kP, hQ, if_neg eo]
      rw [ep] at h1
      omega

end Fold
namespace Fold
open PySem PySem.Spec PyProof.Rows L2
section
variable {P : Program} {w : World} {K : PySem.W.Frag} {mg : Str → Option Value} {base : Heap} {a : Ad}
def sp_law_fold_keeps : Sp := fun vs H Q _ => ∃ (b : Nat) (p : Addr) (k : Nat) (x y : Int) (m : Nat), vs = [.int b, .ref p, .int m] ∧ (2 ≤ b ∧ b ≤ 12) ∧ H p = some (.tup [.str "fold", .int k, .int x, .int y]) ∧ OkS b (.fold k x y) ∧ 1 ≤ m ∧ m < 1000 ∧
  (FoldOk b k x y m → Q (.bl true) H) ∧ (¬ FoldOk b k x y m → Q (.bl false) H)
theorem ok__law_fold_keeps (T : Txt K mg a) : C0 P w K mg base 2 "_law_fold_keeps" sp_law_fold_keeps := by
  have c__law_power := ok__law_power (P := P) (w := w) (base := base) T
  refine T.d__law_fold_keeps.c0 sc__law_fold_keeps (fun vs H Q E h => ?_) (fun f cdv A outer s H vs Q E hr h => ?_)
  · obtain ⟨b, p, k, x, y, m, rfl, _⟩ := h
    rfl
  · obtain ⟨b, p, k, x, y, m, rfl, hb, hs, ⟨o1, o2, o3, o4, o5⟩, m1, m2, kT, kF⟩ := h
    refine ⟨_, (pss_cons (ps_set (i := 3) sc__law_fold_keeps.nd rfl (Or.inl rfl) (pe_0 c__law_power hr (by decide) (pa_cons (pv 0) (pa_cons (pe_ix ix_tup (pv 1) pe_int (fun _ _ => rfl)) pa_nil))))
      (pss_cons (ps_for PassesOwn.never rfl (pi_range1 (by rfl) T.n_range (pa_cons (pv 2) pa_nil)) (pg_name (i := 4) sc__law_fold_keeps.nd rfl (Or.inl rfl)) (pss_one (ps_for PassesOwn.never rfl (pi_range1 (by rfl) T.n_range (pa_cons (pv 3) pa_nil)) (pg_name (i := 5) sc__law_fold_keeps.nd rfl (Or.inl rfl)) (pss_cons (ps_set (i := 6) sc__law_fold_keeps.nd rfl (Or.inl rfl) (pe_cmpR op_eq (pe_op op_mod (pe_op op_add (pe_op op_mul (pv 4) (pv 3)) (pv 5)) (pv 2)) pe_int (nomark _)))
      (pss_one (ps_if (pt_cmpR op_ne (pv 6) (pe_cmpR op_eq (pe_op op_mod (pe_op op_add (pe_op op_mul (pe_ix ix_tup (pv 1) pe_int (fun _ _ => rfl)) (pv 4)) (pe_op op_mul (pe_ix ix_tup (pv 1) pe_int (fun _ _ => rfl)) (pv 5))) (pv 2)) pe_int (nomark _)) (nomark _)) (pss_one (ps_ret pe_bl)) pss_nil))))))
      (pss_one (ps_ret pe_bl)))), ?_⟩
    have hP : 0 < b ^ k := Nat.pow_pos (by omega)
    have mi : (0 : Int) < (m : Int) := by omega
    refine ⟨_, rfl, _, rfl, _, _, _, _, rfl, rfl, SqT.of hs, rfl, _, _, rfl, ⟨by omega, by omega⟩, ⟨by omega, by omega⟩, ?_⟩
    simp only [Int.toNat_natCast]
    refine ⟨_, rfl, _, rfl, by omega, by omega, for_range (fun i σ H' => H' = H ∧ (∃ v4 v5 v6, σ = [some (.int b), some (.ref p), some (.int m), some (.int ((b ^ k : Nat) : Int)), v4, v5, v6]) ∧ ∀ q : Nat, q < i → ∀ r : Nat, r < b ^ k → (((q : Int) * ((b ^ k : Nat) : Int) + r) % m = 0 ↔ (x * q + y * r) % m = 0)) ⟨rfl, ⟨_, _, _, rfl⟩, fun q h => by omega⟩ ?_ ?_⟩
    · rintro q σ H' hq ⟨rfl, ⟨v4, v5, v6, rfl⟩, hd⟩
      have hq' : q < m := by omega
      refine ⟨_, rfl, _, rfl, by omega, by omega, for_range (fun j σ H2 => H2 = H' ∧ (∃ (q2 : Int) (v5 v6 : Option V), q2 = q ∧ σ = [some (.int b), some (.ref p), some (.int m), some (.int ((b ^ k : Nat) : Int)), some (.int q2), v5, v6]) ∧ ∀ r : Nat, r < j → (((q : Int) * ((b ^ k : Nat) : Int) + r) % m = 0 ↔ (x * q + y * r) % m = 0)) ⟨rfl, ⟨_, v5, v6, ?_, rfl⟩, fun q h => by omega⟩ ?_ ?_⟩
      · omega
      · rintro r σ H2 hr2 ⟨rfl, ⟨_, v5, v6, rfl, rfl⟩, hd2⟩
        refine ⟨_, rfl, _, rfl, _, _, rfl, rfl, .inr ⟨by omega, by omega⟩, _, rfl, _, _, rfl, rfl, _, rfl, _, _, rfl, rfl, mi, rfl, ?_⟩
        refine ⟨_, rfl, _, rfl, _, _, _, _, rfl, rfl, SqT.of hs, rfl, _, rfl, _, _, rfl, rfl, .inl ⟨by omega, by omega⟩, _, rfl, _, _, _, _, rfl, rfl, SqT.of hs, rfl, _, rfl, _, _, rfl, rfl, .inl ⟨by omega, by omega⟩, _, _, rfl, rfl, _, rfl, _, _, rfl, rfl, mi, rfl, rfl, _, rfl, ?_⟩
        simp only [dec_int, Int.zero_add]
        by_cases c : (((q : Int) * ((b ^ k : Nat) : Int) + r) % m = 0 ↔ (x * q + y * r) % m = 0)
        · refine iteF' ?_ ?_
          · rw [Bool.not_eq_false', decide_eq_true_eq]
            congr 1
            exact decide_eq_decide.mpr c
          · refine ⟨rfl, ⟨_, _, _, rfl, rfl⟩, fun r' h' => ?_⟩
            by_cases e : r' = r
            · rw [e]; exact c
            · exact hd2 r' (by omega)
        · refine iteT' ?_ ?_
          · rw [Bool.not_eq_true', decide_eq_false_iff_not]
            intro e
            injection e with e
            exact c (decide_eq_decide.mp e)
          · exact kF fun z => c (z q hq' r (by omega))
      · rintro σ H2 ⟨rfl, ⟨_, v5, v6, rfl, rfl⟩, hd2⟩
        refine ⟨rfl, ⟨_, _, _, rfl⟩, fun q' h' r h2 => ?_⟩
        by_cases e : q' = q
        · rw [e]; exact hd2 r (by omega)
        · exact hd q' (by omega) r h2
    · rintro σ H2 ⟨rfl, _, hd⟩
      exact kT fun q hq r hr2 => hd q (by omega) r hr2
end

end Fold
namespace Fold
open PySem PySem.Spec PyProof.Rows L2
/-! ### the search of the law, in plain Lean -/
structure Q4 where
  n : Int
  s : Int
  v : Int
  j : Nat
deriving DecidableEq
def keyQ (z : Q4) : List Key := [.inl z.n, .inl z.s, .inl z.v, .inl (z.j : Int)]
def valsQ (z : Q4) : List V := [.int z.n, .int z.s, .int z.v, .int (z.j : Int)]
theorem keyQ_vals (z : Q4) : (keyQ z).map kV = valsQ z := rfl
theorem keyQ_inj {y z : Q4} (h : keyQ y = keyQ z) : y = z := by
  obtain ⟨a, b, c, d⟩ := y
  obtain ⟨a', b', c', d'⟩ := z
  simp only [keyQ, List.cons.injEq, Sum.inl.injEq, and_true] at h
  obtain ⟨rfl, rfl, rfl, h4⟩ := h
  rw [Int.ofNat_inj.mp h4]
def nxQ (b m : Nat) (row : List Int) (z : Q4) (f : Nat) : Q4 := ⟨(z.n + f * z.v) % m, (z.s + f * row.getD z.j 0) % m, z.v * b % m, (z.j + 1) % row.length⟩
inductive Rch (b m : Nat) (row : List Int) : Q4 → Prop
  | start : Rch b m row ⟨0, 0, 1 % (m : Int), 0⟩
  | next {z : Q4} {f : Nat} : Rch b m row z → f < b → Rch b m row (nxQ b m row z f)
def goodQ (z : Q4) : Prop := z.n = 0 ↔ z.s = 0
def boxQ (m t : Nat) (z : Q4) : Prop := (0 ≤ z.n ∧ z.n < m) ∧ (0 ≤ z.s ∧ z.s < m) ∧ (0 ≤ z.v ∧ z.v < m) ∧ z.j < t
theorem box_nx {b m : Nat} {row : List Int} {z : Q4} {f : Nat} (hm : 1 ≤ m) (hl : 1 ≤ row.length) : boxQ m row.length (nxQ b m row z f) := by
  have mi : (0 : Int) < (m : Int) := by omega
  exact ⟨⟨Int.emod_nonneg _ (by omega), Int.emod_lt_of_pos _ mi⟩, ⟨Int.emod_nonneg _ (by omega), Int.emod_lt_of_pos _ mi⟩, ⟨Int.emod_nonneg _ (by omega), Int.emod_lt_of_pos _ mi⟩, Nat.mod_lt _ hl⟩
theorem box_start {m t : Nat} (hm : 1 ≤ m) (hl : 1 ≤ t) : boxQ m t ⟨0, 0, 1 % (m : Int), 0⟩ := by
  have mi : (0 : Int) < (m : Int) := by omega
  exact ⟨⟨Int.le_refl _, mi⟩, ⟨Int.le_refl _, mi⟩, ⟨Int.emod_nonneg _ (by omega), Int.emod_lt_of_pos _ mi⟩, hl⟩
def codeQ (m t : Nat) (z : Q4) : Nat := ((z.n.toNat * m + z.s.toNat) * m + z.v.toNat) * t + z.j
theorem two_inj {a b c d N : Nat} (hb : b < N) (hd : d < N) (h : a * N + b = c * N + d) : a = c ∧ b = d := by
  have h1 : (a * N + b) / N = a := by rw [Nat.mul_comm, Nat.mul_add_div (by omega), Nat.div_eq_of_lt hb, Nat.add_zero]
  have h2 : (c * N + d) / N = c := by rw [Nat.mul_comm, Nat.mul_add_div (by omega), Nat.div_eq_of_lt hd, Nat.add_zero]
  have e : a = c := by rw [← h1, ← h2, h]
  subst e
  exact ⟨rfl, by omega⟩
theorem code_inj {m t : Nat} {y z : Q4} (hy : boxQ m t y) (hz : boxQ m t z) (h : codeQ m t y = codeQ m t z) : y = z := by
  obtain ⟨a, b, c, d⟩ := y
  obtain ⟨a', b', c', d'⟩ := z
  obtain ⟨⟨y1, y2⟩, ⟨y3, y4⟩, ⟨y5, y6⟩, y7⟩ := hy
  obtain ⟨⟨z1, z2⟩, ⟨z3, z4⟩, ⟨z5, z6⟩, z7⟩ := hz
  obtain ⟨h, e4⟩ := two_inj y7 z7 h
  obtain ⟨h, e3⟩ := two_inj (by omega) (by omega) h
  obtain ⟨e1, e2⟩ := two_inj (by omega) (by omega) h
  simp only at e1 e2 e3 e4 y1 y3 y5 z1 z3 z5
  rw [show a = a' by omega, show b = b' by omega, show c = c' by omega, e4]
theorem code_lt {m t : Nat} {z : Q4} (hz : boxQ m t z) : codeQ m t z < m * m * m * t := by
  obtain ⟨⟨z1, z2⟩, ⟨z3, z4⟩, ⟨z5, z6⟩, z7⟩ := hz
  have h1 : z.n.toNat + 1 ≤ m := by omega
  have h2 : z.s.toNat + 1 ≤ m := by omega
  have h3 : z.v.toNat + 1 ≤ m := by omega
  have a1 : z.n.toNat * m + z.s.toNat + 1 ≤ m * m := by
    have := Nat.mul_le_mul_right m h1
    rw [Nat.add_mul] at this
    omega
  have a2 : (z.n.toNat * m + z.s.toNat) * m + z.v.toNat + 1 ≤ m * m * m := by
    have := Nat.mul_le_mul_right m a1
    rw [Nat.add_mul] at this
    omega
  have := Nat.mul_le_mul_right t a2
  rw [Nat.add_mul] at this
  unfold codeQ
  omega
theorem box_bound {m t : Nat} {l : List Q4} (d : l.Nodup) (h : ∀ z ∈ l, boxQ m t z) : l.length ≤ m * m * m * t := by
  rw [← List.length_map (f := codeQ m t)]
  refine nodup_bound _ _ ?_ fun x m' => ?_
  · induction l with
    | nil => exact List.nodup_nil
    | cons x r ih =>
      rw [List.nodup_cons] at d
      rw [List.map_cons, List.nodup_cons]
      refine ⟨fun c => ?_, ih d.2 fun z mz => h z (List.mem_cons_of_mem _ mz)⟩
      obtain ⟨y, my, e⟩ := List.mem_map.mp c
      rw [code_inj (h y (List.mem_cons_of_mem _ my)) (h x List.mem_cons_self) e] at my
      exact d.1 my
  · obtain ⟨z, mz, rfl⟩ := List.mem_map.mp m'
    exact code_lt (h z mz)
def seenD (ss : List Q4) : List (List Key × V) := ss.map fun z => (keyQ z, V.bl true)
theorem seen_val (z : Q4) : ∀ ss : List Q4, valV (seenD ss) (keyQ z) = if z ∈ ss then some (V.bl true) else none
  | [] => rfl
  | y :: r => by
    show valV ((keyQ y, V.bl true) :: seenD r) (keyQ z) = _
    by_cases e : y = z
    · subst e
      rw [valV_pos rfl, if_pos List.mem_cons_self]
    · rw [valV_neg (fun h => e (keyQ_inj h)), seen_val z r]
      by_cases c : z ∈ r
      · rw [if_pos c, if_pos (List.mem_cons_of_mem _ c)]
      · rw [if_neg c, if_neg]
        intro h
        rcases List.mem_cons.mp h with h | h
        · exact e h.symm
        · exact c h
theorem seen_put {z : Q4} {ss : List Q4} (h : z ∉ ss) : putK (seenD ss) (keyQ z) (V.bl true) = seenD (ss ++ [z]) := by
  rw [putK_new _ (by rw [seen_val, if_neg h]), seenD, seenD, List.map_append]; rfl
/-! ### the plain law of a weighing -/
theorem wnum_dvd {b m : Nat} {row : List Int} : ∀ i, m ∣ wnum b row i ↔ m ∣ b ^ row.length - 1 ∧ ∀ j, j < i → (m : Int) ∣ row.getD j 0 - row.getD 0 0 * ((b ^ j : Nat) : Int)
  | 0 => ⟨fun h => ⟨h, fun j hj => absurd hj (Nat.not_lt_zero _)⟩, fun h => h.1⟩
  | i + 1 => by
    show m ∣ Nat.gcd (wnum b row i) (row.getD i 0 - row.getD 0 0 * ((b ^ i : Nat) : Int)).natAbs ↔ _
    rw [Nat.dvd_gcd_iff, wnum_dvd i, ← Int.ofNat_dvd_left]
    constructor
    · rintro ⟨⟨h1, h2⟩, h3⟩
      refine ⟨h1, fun j hj => ?_⟩
      by_cases e : j = i
      · rw [e]; exact h3
      · exact h2 j (by omega)
    · rintro ⟨h1, h2⟩
      exact ⟨⟨h1, fun j hj => h2 j (by omega)⟩, h2 i (by omega)⟩
theorem pow_again (b m t : Nat) (hm : 1 ≤ m) (ht : 1 ≤ t) : ∃ p, 1 ≤ p ∧ t ∣ p ∧ b ^ (p + p) % m = b ^ p % m := by
  have hx : ∃ i j : Nat, i < j ∧ b ^ (t * i) % m = b ^ (t * j) % m := by
    refine Classical.byContradiction fun no => ?_
    have nd : ((List.range (m + 1)).map fun k => b ^ (t * k) % m).Nodup := by
      rw [List.Nodup, List.pairwise_map]
      exact List.pairwise_lt_range.imp fun {i j} h e => no ⟨i, j, h, e⟩
    have := nodup_bound m _ nd fun x hx => by
      obtain ⟨k, _, rfl⟩ := List.mem_map.mp hx
      exact Nat.mod_lt _ hm
    rw [List.length_map, List.length_range] at this
    omega
  obtain ⟨i, j, hij, e⟩ := hx
  obtain ⟨d, rfl⟩ : ∃ d, j = i + 1 + d := ⟨j - (i + 1), by omega⟩
  have step : ∀ a, t * i ≤ a → b ^ (a + t * (d + 1)) % m = b ^ a % m := fun a ha => by
    obtain ⟨c, rfl⟩ := Nat.exists_eq_add_of_le ha
    rw [show t * i + c + t * (d + 1) = t * (i + 1 + d) + c by grind, Nat.pow_add b (t * (i + 1 + d)), Nat.pow_add b (t * i), Nat.mul_mod, ← e, ← Nat.mul_mod]
  have many : ∀ n a, t * i ≤ a → b ^ (a + n * (t * (d + 1))) % m = b ^ a % m := fun n => by
    induction n with
    | zero => intro a _; rw [Nat.zero_mul, Nat.add_zero]
    | succ n ih =>
      intro a ha
      rw [show a + (n + 1) * (t * (d + 1)) = (a + n * (t * (d + 1))) + t * (d + 1) by grind, step _ (by omega), ih a ha]
  refine ⟨(i + 1) * (t * (d + 1)), ?_, ⟨(i + 1) * (d + 1), by grind⟩, many _ _ ?_⟩
  · exact Nat.mul_pos (by omega) (Nat.mul_pos ht (by omega))
  · have h1 : t * i ≤ t * (i + 1) := Nat.mul_le_mul_left _ (by omega)
    have h2 : t * (i + 1) * 1 ≤ t * (i + 1) * (d + 1) := Nat.mul_le_mul_left _ (by omega)
    have h3 : (i + 1) * (t * (d + 1)) = t * (i + 1) * (d + 1) := by grind
    omega
/-- a place i, the sums so far N, S (modulo m) -/
def Rc (b m : Nat) (row : List Int) (i : Nat) (N S : Int) : Prop := Rch b m row ⟨N % m, S % m, ((b ^ i : Nat) : Int) % m, i % row.length⟩
theorem Rc.zero {b m : Nat} {row : List Int} : Rc b m row 0 0 0 := by
  unfold Rc
  rw [Int.zero_emod, Nat.zero_mod, Nat.pow_zero]
  exact .start
theorem Rc.next {b m : Nat} {row : List Int} {i : Nat} {N S : Int} (h : Rc b m row i N S) {f : Nat} (hf : f < b) : Rc b m row (i + 1) (N + f * ((b ^ i : Nat) : Int)) (S + f * row.getD (i % row.length) 0) := by
  have := Rch.next h hf
  unfold Rc
  have e : nxQ b m row ⟨N % m, S % m, ((b ^ i : Nat) : Int) % m, i % row.length⟩ f = ⟨(N + f * ((b ^ i : Nat) : Int)) % m, (S + f * row.getD (i % row.length) 0) % m, ((b ^ (i + 1) : Nat) : Int) % m, (i + 1) % row.length⟩ := by
    simp only [nxQ]
    congr 1
    · rw [Int.emod_add_emod, Int.add_emod, Int.mul_emod, Int.emod_emod, ← Int.mul_emod, ← Int.add_emod]
    · rw [Int.emod_add_emod]
    · rw [Nat.pow_succ, Int.natCast_mul, Int.mul_emod, Int.emod_emod, ← Int.mul_emod]
    · rw [Nat.mod_add_mod]
  rw [← e]
  exact this
theorem Rc.congr {b m : Nat} {row : List Int} {i : Nat} {N S N' S' : Int} (h : Rc b m row i N S) (e1 : N % m = N' % m) (e2 : S % m = S' % m) : Rc b m row i N' S' := by
  unfold Rc at *
  rw [← e1, ← e2]
  exact h
theorem Rc.skip {b m : Nat} {row : List Int} (hb : 2 ≤ b) {i : Nat} {N S : Int} (h : Rc b m row i N S) : ∀ n, Rc b m row (i + n) N S
  | 0 => h
  | n + 1 => by
    have := (Rc.skip hb h n).next (f := 0) (by omega)
    have h2 : Rc b m row (i + n + 1) N S := by simpa using this
    exact h2
theorem Rc.copy {b m : Nat} {row : List Int} (hb : 2 ≤ b) {p : Nat} (p1 : 1 ≤ p) (pt : row.length ∣ p) (pe : ∀ k, b ^ ((k + 1) * p) % m = b ^ p % m) {i : Nat} {N S : Int} (h : Rc b m row i N S) : ∃ i', Rc b m row i' (N + ((b ^ p : Nat) : Int)) (S + row.getD 0 0) := by
  have hi : i ≤ (i + 1) * p := by
    have := Nat.mul_le_mul_left (i + 1) p1
    omega
  obtain ⟨n, en⟩ := Nat.exists_eq_add_of_le hi
  have h2 := (h.skip hb n).next (f := 1) (by omega)
  rw [← en] at h2
  have e0 : (i + 1) * p % row.length = 0 := Nat.mod_eq_zero_of_dvd (Nat.dvd_trans pt (Nat.dvd_mul_left _ _))
  rw [e0] at h2
  refine ⟨_, h2.congr ?_ (by simp)⟩
  have e1 : ((b ^ ((i + 1) * p) : Nat) : Int) % m = ((b ^ p : Nat) : Int) % m := by exact_mod_cast pe i
  rw [Int.natCast_one, Int.one_mul, Int.add_emod, e1, ← Int.add_emod]
theorem Rc.copies {b m : Nat} {row : List Int} (hb : 2 ≤ b) {p : Nat} (p1 : 1 ≤ p) (pt : row.length ∣ p) (pe : ∀ k, b ^ ((k + 1) * p) % m = b ^ p % m) {i : Nat} {N S : Int} (h : Rc b m row i N S) : ∀ c : Nat, ∃ i', Rc b m row i' (N + c * ((b ^ p : Nat) : Int)) (S + c * row.getD 0 0)
  | 0 => ⟨i, by simpa using h⟩
  | c + 1 => by
    obtain ⟨i', h'⟩ := Rc.copies hb p1 pt pe h c
    obtain ⟨i2, h2⟩ := h'.copy hb p1 pt pe
    refine ⟨i2, ?_⟩
    have e1 : N + (c : Int) * ((b ^ p : Nat) : Int) + ((b ^ p : Nat) : Int) = N + ((c + 1 : Nat) : Int) * ((b ^ p : Nat) : Int) := by simp only [Int.natCast_add, Int.natCast_one]; grind
    have e2 : S + (c : Int) * row.getD 0 0 + row.getD 0 0 = S + ((c + 1 : Nat) : Int) * row.getD 0 0 := by simp only [Int.natCast_add, Int.natCast_one]; grind
    rw [e1, e2] at h2
    exact h2
theorem weigh_fwd {b m : Nat} {row : List Int} (hb : 2 ≤ b) (hl : 1 ≤ row.length) (hm : 1 ≤ m) (G : ∀ z, Rch b m row z → goodQ z) : (m ∣ b ^ row.length - 1 ∧ ∀ j, j < row.length → (m : Int) ∣ row.getD j 0 - row.getD 0 0 * ((b ^ j : Nat) : Int)) ∧ Int.gcd (row.getD 0 0) m = 1 := by
  obtain ⟨p, p1, pt, pp⟩ := pow_again b m row.length hm hl
  have pe : ∀ k, b ^ ((k + 1) * p) % m = b ^ p % m := fun k => by
    induction k with
    | zero => rw [Nat.zero_add, Nat.one_mul]
    | succ k ih =>
      rw [Nat.add_mul (k + 1), Nat.one_mul, Nat.pow_add, Nat.mul_mod, ih, ← Nat.mul_mod, ← Nat.pow_add, pp]
  have gd : ∀ {i N S}, Rc b m row i N S → ((m : Int) ∣ N ↔ (m : Int) ∣ S) := fun {i N S} h => by
    have := G _ h
    rw [Int.dvd_iff_emod_eq_zero, Int.dvd_iff_emod_eq_zero]
    exact this
  have w1 : ∀ j : Nat, Rc b m row (j + 1) ((b ^ j : Nat) : Int) (row.getD (j % row.length) 0) := fun j => by
    have := ((Rc.zero (b := b) (m := m) (row := row)).skip hb j).next (f := 1) (by omega)
    simpa using this
  generalize hE : ((b ^ p : Nat) : Int) = E at *
  have hE1 : (m : Int) ∣ E - 1 := by
    obtain ⟨i, h⟩ := (w1 0).copies hb p1 pt pe (m - 1)
    rw [hE] at h
    have em : ((m - 1 : Nat) : Int) = (m : Int) - 1 := by omega
    rw [em, Nat.zero_mod, Nat.pow_zero] at h
    obtain ⟨c, ec⟩ := (gd h).mpr ⟨row.getD 0 0, by grind⟩
    exact ⟨E - c, by simp only [Int.natCast_one] at ec; grind⟩
  obtain ⟨u, eu⟩ := hE1
  have hg : Int.gcd (row.getD 0 0) m = 1 := cop_of hm fun r hr ⟨c, ec⟩ => by
    obtain ⟨i, h⟩ := (Rc.zero (b := b) (m := m) (row := row)).copies hb p1 pt pe r
    rw [hE] at h
    obtain ⟨d, ed⟩ := (gd h).mpr ⟨c, by grind⟩
    exact small_dvd (P := m) ⟨d - r * u, by grind⟩ hr
  have hj : ∀ j : Nat, (m : Int) ∣ row.getD (j % row.length) 0 - row.getD 0 0 * ((b ^ j : Nat) : Int) := fun j => by
    obtain ⟨i, h⟩ := (w1 j).copies hb p1 pt pe ((m - 1) * b ^ j)
    rw [hE] at h
    have em : (((m - 1) * b ^ j : Nat) : Int) = ((m : Int) - 1) * ((b ^ j : Nat) : Int) := by
      rw [Int.natCast_mul]; congr 1; omega
    rw [em] at h
    generalize ((b ^ j : Nat) : Int) = B at *
    obtain ⟨c, ec⟩ := (gd h).mp ⟨B + (m - 1) * B * u, by grind⟩
    exact ⟨c - B * row.getD 0 0, by grind⟩
  refine ⟨⟨?_, fun j hjl => ?_⟩, hg⟩
  · have h := hj row.length
    rw [Nat.mod_self] at h
    obtain ⟨c, ec⟩ := h
    have h2 := cop_dvd hg (n := 1 - ((b ^ row.length : Nat) : Int)) ⟨c, by grind⟩
    have hp : 0 < b ^ row.length := Nat.pow_pos (by omega)
    rw [Int.ofNat_dvd_left] at h2
    rw [show b ^ row.length - 1 = (1 - ((b ^ row.length : Nat) : Int)).natAbs by omega]
    exact h2
  · have h := hj j
    rw [Nat.mod_eq_of_lt hjl] at h
    exact h
theorem weigh_back {b m : Nat} {row : List Int} (hb : 2 ≤ b) (hl : 1 ≤ row.length) (hm : 1 ≤ m) (h1 : m ∣ b ^ row.length - 1) (h2 : ∀ j, j < row.length → (m : Int) ∣ row.getD j 0 - row.getD 0 0 * ((b ^ j : Nat) : Int)) (hg : Int.gcd (row.getD 0 0) m = 1) (z : Q4) (hz : Rch b m row z) : goodQ z := by
  have hp : 0 < b ^ row.length := Nat.pow_pos (by omega)
  obtain ⟨e1, ee1⟩ := h1
  have ee : ((b ^ row.length : Nat) : Int) = 1 + m * e1 := by
    have : b ^ row.length = 1 + m * e1 := by omega
    exact_mod_cast this
  have key : boxQ m row.length z ∧ (m : Int) ∣ z.v - ((b ^ z.j : Nat) : Int) ∧ (m : Int) ∣ z.s - row.getD 0 0 * z.n := by
    induction hz with
    | start =>
      refine ⟨box_start hm hl, ?_, ⟨0, by simp⟩⟩
      rw [Nat.pow_zero]
      exact ⟨-(1 / (m : Int)), by
        show 1 % (m : Int) - ((1 : Nat) : Int) = _
        rw [Int.emod_def, Int.natCast_one]; grind⟩
    | @next z f hz hf ih =>
      obtain ⟨⟨bn, bs, bv, bj⟩, ⟨c, ec⟩, ⟨d, ed⟩⟩ := ih
      refine ⟨box_nx hm hl, ?_, ?_⟩
      · show (m : Int) ∣ z.v * b % m - ((b ^ ((z.j + 1) % row.length) : Nat) : Int)
        rw [Int.emod_def]
        by_cases e : z.j + 1 = row.length
        · rw [e, Nat.mod_self, Nat.pow_zero]
          have h3 : ((b ^ row.length : Nat) : Int) = ((b ^ z.j : Nat) : Int) * b := by rw [← e, Nat.pow_succ, Int.natCast_mul]
          rw [h3] at ee
          generalize ((b ^ z.j : Nat) : Int) = B at *
          generalize z.v * (b : Int) / m = q
          exact ⟨c * b + e1 - q, by rw [Int.natCast_one]; grind⟩
        · rw [Nat.mod_eq_of_lt (by omega), Nat.pow_succ, Int.natCast_mul]
          generalize ((b ^ z.j : Nat) : Int) = B at *
          generalize z.v * (b : Int) / m = q
          exact ⟨c * b - q, by grind⟩
      · obtain ⟨g, eg⟩ := h2 z.j bj
        show (m : Int) ∣ (z.s + f * row.getD z.j 0) % m - row.getD 0 0 * ((z.n + f * z.v) % m)
        rw [Int.emod_def, Int.emod_def]
        generalize ((b ^ z.j : Nat) : Int) = B at *
        generalize (z.s + f * row.getD z.j 0) / (m : Int) = q1
        generalize (z.n + f * z.v) / (m : Int) = q2
        exact ⟨d + f * g - f * row.getD 0 0 * c - q1 + row.getD 0 0 * q2, by grind⟩
  obtain ⟨⟨bn, bs, bv, bj⟩, _, ⟨d, ed⟩⟩ := key
  have sm : ∀ v : Int, 0 ≤ v → v < m → (m : Int) ∣ v → v = 0 := fun v v0 v1 hv => by
    obtain ⟨k, rfl⟩ := Int.eq_ofNat_of_zero_le v0
    rw [small_dvd (P := m) hv (by omega)]; rfl
  constructor
  · intro h
    exact sm _ bs.1 bs.2 ⟨d, by rw [h] at ed; grind⟩
  · intro h
    exact sm _ bn.1 bn.2 (cop_dvd hg ⟨-d, by rw [h] at ed; grind⟩)
theorem weigh_thm {b m : Nat} {row : List Int} (hb : 2 ≤ b) (hl : 1 ≤ row.length) (hm : 1 ≤ m) : (∀ z, Rch b m row z → goodQ z) ↔ inS b (.weigh row) m = true := by
  rw [inS, inK_iff]
  have e : (kN b (.weigh row) % m = 0) ↔ m ∣ b ^ row.length - 1 ∧ ∀ j, j < row.length → (m : Int) ∣ row.getD j 0 - row.getD 0 0 * ((b ^ j : Nat) : Int) := by
    rw [← wnum_dvd]
    exact Nat.dvd_iff_mod_eq_zero.symm
  have e2 : Nat.gcd (kU (.weigh row)) m = Int.gcd (row.getD 0 0) m := rfl
  rw [e, e2]
  constructor
  · exact fun G => .inl (weigh_fwd hb hl hm G)
  · rintro (⟨⟨h1, h2⟩, hg⟩ | ⟨h1, _⟩)
    · exact weigh_back hb hl hm h1 h2 hg
    · exact absurd h1 (Nat.lt_irrefl 0)

end Fold
namespace Fold
open PySem PySem.Spec PyProof.Rows L2
section
variable {P : Program} {w : World} {K : PySem.W.Frag} {mg : Str → Option Value} {base : Heap} {a : Ad}
theorem none_upd {H : Hp} {t D : Addr} {o : HO} (h : upd H t o D = none) : D ≠ t ∧ H D = none := by
  by_cases e : D = t
  · subst e
    rw [upd_same] at h
    cases h
  · rw [upd_ne e] at h
    exact ⟨e, h⟩
/-- how the search stands -/
structure SWI (H H' : Hp) (b m : Nat) (row : List Int) (D L : Addr) (ss : List Q4) (ws : List (Addr × Q4)) : Prop where
  same : Same H H'
  hD : H D = none
  hL : H L = none
  ne : D ≠ L
  dD : H' D = some (.dT (seenD ss))
  dL : H' L = some (.lst (ws.map fun p => V.ref p.1))
  tup : ∀ p ∈ ws, H' p.1 = some (.tup (valsQ p.2))
  mem : ∀ p ∈ ws, p.2 ∈ ss
  nd : ss.Nodup
  box : ∀ z ∈ ss, boxQ m row.length z ∧ Rch b m row z
  st : (⟨0, 0, 1 % (m : Int), 0⟩ : Q4) ∈ ss
  len : ws.length ≤ ss.length
theorem SWI.new {H H' : Hp} {b m : Nat} {row : List Int} {D L : Addr} {ss : List Q4} {ws : List (Addr × Q4)} (W : SWI H H' b m row D L ss ws) {t : Addr} {o : HO} (ht : H' t = none) : SWI H (upd H' t o) b m row D L ss ws :=
  ⟨W.same.trans (same_new ht), W.hD, W.hL, W.ne, kept W.dD ht, kept W.dL ht, fun p mp => kept (W.tup p mp) ht, W.mem, W.nd, W.box, W.st, W.len⟩
theorem SWI.put {H H' : Hp} {b m : Nat} {row : List Int} {D L : Addr} {ss : List Q4} {ws : List (Addr × Q4)} (W : SWI H H' b m row D L ss ws) {t : Addr} {y : Q4} (ht : H' t = some (.tup (valsQ y))) (hy : y ∉ ss) (hb : boxQ m row.length y ∧ Rch b m row y) :
    SWI H (upd (upd H' D (.dT (seenD (ss ++ [y])))) L (.lst ((ws.map fun p => V.ref p.1) ++ [.ref t]))) b m row D L (ss ++ [y]) (ws ++ [(t, y)]) := by
  have tp : ∀ {q : Addr} {xs : List V}, H' q = some (.tup xs) → upd (upd H' D (.dT (seenD (ss ++ [y])))) L (.lst ((ws.map fun p => V.ref p.1) ++ [.ref t])) q = some (.tup xs) := fun {q xs} e => by
    rw [upd_ne (ne_of e W.dL (fun z => nomatch z)), upd_ne (ne_of e W.dD (fun z => nomatch z))]
    exact e
  refine ⟨fun c o e => ?_, W.hD, W.hL, W.ne, ?_, ?_, fun p mp => ?_, fun p mp => ?_, ?_, fun z mz => ?_, List.mem_append_left _ W.st, ?_⟩
  · rw [upd_ne (ne_of_none e W.hL), upd_ne (ne_of_none e W.hD)]
    exact W.same _ _ e
  · rw [upd_ne W.ne, upd_same]
  · rw [upd_same, List.map_append]; rfl
  · rcases List.mem_append.mp mp with mp | mp
    · exact tp (W.tup p mp)
    · rw [List.mem_singleton.mp mp]; exact tp ht
  · rcases List.mem_append.mp mp with mp | mp
    · exact List.mem_append_left _ (W.mem p mp)
    · rw [List.mem_singleton.mp mp]; exact List.mem_append_right _ (List.mem_singleton.mpr rfl)
  · rw [List.nodup_append]
    refine ⟨W.nd, List.nodup_cons.mpr ⟨List.not_mem_nil, List.nodup_nil⟩, fun x mx z mz e => ?_⟩
    rw [List.mem_singleton.mp mz] at e
    rw [e] at mx
    exact hy mx
  · rcases List.mem_append.mp mz with mz | mz
    · exact W.box z mz
    · rw [List.mem_singleton.mp mz]; exact hb
  · rw [List.length_append, List.length_append]
    exact Nat.add_le_add_right W.len 1
def sp_law_weigh_keeps : Sp := fun vs H Q _ => ∃ (b : Nat) (r : Addr) (row : List Int) (m : Nat), vs = [.int b, .ref r, .int m] ∧ (2 ≤ b ∧ b ≤ 12) ∧ H r = some (.tup (row.map V.int)) ∧ OkS b (.weigh row) ∧ 1 ≤ m ∧ m ≤ 60 ∧
  ((∀ z, Rch b m row z → goodQ z) → ∀ H', Same H H' → Q (.bl true) H') ∧ ((∃ z, Rch b m row z ∧ ¬ goodQ z) → ∀ H', Same H H' → Q (.bl false) H')
theorem ok__law_weigh_keeps (T : Txt K mg a) : C0 P w K mg base 1 "_law_weigh_keeps" sp_law_weigh_keeps := by
  refine T.d__law_weigh_keeps.c0 sc__law_weigh_keeps (fun vs H Q E h => ?_) (fun f cdv A outer s H vs Q E hr h => ?_)
  · obtain ⟨b, r, row, m, rfl, _⟩ := h
    rfl
  · obtain ⟨b, r, row, m, rfl, hb, h1, ⟨o1, o2, o3⟩, m1, m2, kT, kF⟩ := h
    refine ⟨_, (pss_cons (ps_set (i := 3) sc__law_weigh_keeps.nd rfl (Or.inl rfl) (pe_tup (pa_cons pe_int (pa_cons pe_int (pa_cons (pe_op op_mod pe_int (pv 2)) (pa_cons pe_int pa_nil))))))
      (pss_cons (ps_set (i := 4) sc__law_weigh_keeps.nd rfl (Or.inl rfl) (pe_disp1T (hu_of hr) (pv 3) pe_bl))
      (pss_cons (ps_set (i := 5) sc__law_weigh_keeps.nd rfl (Or.inl rfl) (pe_lst (pa_cons (pv 3) pa_nil)))
      (pss_cons (ps_while PassesOwn.never (pt_cmpR op_gt (pe_callB call_len_seq (by rfl) T.n_len b_len (pa_cons (pv 5) pa_nil)) pe_int (nomark _)) (pss_cons (ps_asg (pe_bm0 PySem.F.plainAttrs_list PySem.F.slot_list_pop PySem.F.type_list_pop mt_pop (pv 5)) (pg_tup rfl (pgs_cons (pg_name (i := 6) sc__law_weigh_keeps.nd rfl (Or.inl rfl)) (pgs_cons (pg_name (i := 7) sc__law_weigh_keeps.nd rfl (Or.inl rfl)) (pgs_cons (pg_name (i := 8) sc__law_weigh_keeps.nd rfl (Or.inl rfl)) (pgs_cons (pg_name (i := 9) sc__law_weigh_keeps.nd rfl (Or.inl rfl)) pgs_nil))))))
      (pss_cons (ps_if (pt_cmpR op_ne (pe_cmpR op_eq (pv 6) pe_int (nomark _)) (pe_cmpR op_eq (pv 7) pe_int (nomark _)) (nomark _)) (pss_one (ps_ret pe_bl)) pss_nil)
      (pss_one (ps_for PassesOwn.never rfl (pi_range1 (by rfl) T.n_range (pa_cons (pv 0) pa_nil)) (pg_name (i := 10) sc__law_weigh_keeps.nd rfl (Or.inl rfl)) (pss_cons (ps_set (i := 11) sc__law_weigh_keeps.nd rfl (Or.inl rfl) (pe_op op_mod (pe_op op_add (pv 6) (pe_op op_mul (pv 10) (pv 8))) (pv 2)))
      (pss_cons (ps_set (i := 12) sc__law_weigh_keeps.nd rfl (Or.inl rfl) (pe_op op_mod (pe_op op_add (pv 7) (pe_op op_mul (pv 10) (pe_ix ix_tup (pv 1) (pv 9) (fun _ _ => rfl)))) (pv 2)))
      (pss_cons (ps_set (i := 13) sc__law_weigh_keeps.nd rfl (Or.inl rfl) (pe_tup (pa_cons (pv 11) (pa_cons (pv 12) (pa_cons (pe_op op_mod (pe_op op_mul (pv 8) (pv 0)) (pv 2)) (pa_cons (pe_op op_mod (pe_op op_add (pv 9) pe_int) (pe_callB call_len_seq (by rfl) T.n_len b_len (pa_cons (pv 1) pa_nil))) pa_nil))))))
      (pss_one (ps_if (pt_cmp (pc_dnotin (hu_of hr) (pv 13) (pv 4))) (pss_cons (ps_dput (hu_of hr) (pv 4) (pv 13) pe_bl rfl)
      (pss_one (ps_expr (pe_bm PySem.F.plainAttrs_list PySem.F.slot_list_append PySem.F.type_list_append mt_append (pv 5) (pa_cons (pv 13) pa_nil))))) pss_nil))))))))))
      (pss_one (ps_ret pe_bl)))))), ?_⟩
    have mi : (0 : Int) < (m : Int) := by omega
    have r0 : 0 < row.length := o1
    have hN : m * m * m * row.length ≤ 2000000 := by
      have a1 : m * m ≤ 60 * 60 := Nat.mul_le_mul m2 m2
      have a2 : m * m * m ≤ 60 * 60 * 60 := Nat.mul_le_mul a1 m2
      have a3 : m * m * m * row.length ≤ 60 * 60 * 60 * 6 := Nat.mul_le_mul a2 o2
      omega
    refine ⟨_, rfl, _, _, rfl, rfl, mi, (by show 4 ≤ sizeLine; decide), fun t ht => ?_⟩
    refine fun D hD => ⟨_, rfl, upd_same, t, keyQ ⟨0, 0, 1 % (m : Int), 0⟩, rfl, kept upd_same hD, ?_⟩
    refine ⟨_, rfl, (by show 1 ≤ sizeLine; decide), fun L hL => ?_⟩
    rw [upd_upd] at hL ⊢
    obtain ⟨nDt, hD0⟩ := none_upd hD
    obtain ⟨nLD, hL1⟩ := none_upd hL
    obtain ⟨nLt, hL0⟩ := none_upd hL1
    have hs0 : SWI H (upd (upd (upd H t (.tup (valsQ ⟨0, 0, 1 % (m : Int), 0⟩))) D (.dT (seenD [⟨0, 0, 1 % (m : Int), 0⟩]))) L (.lst [.ref t])) b m row D L [⟨0, 0, 1 % (m : Int), 0⟩] [(t, ⟨0, 0, 1 % (m : Int), 0⟩)] :=
      ⟨(same_new ht).trans ((same_new hD).trans (same_new hL)), hD0, hL0, nLD.symm, by rw [upd_ne nLD.symm]; exact upd_same, upd_same,
        fun p mp => by rw [List.mem_singleton.mp mp]; exact kept (kept upd_same hD) hL, fun p mp => by rw [List.mem_singleton.mp mp]; exact List.mem_singleton.mpr rfl,
        List.nodup_cons.mpr ⟨List.not_mem_nil, List.nodup_nil⟩, fun z mz => by rw [List.mem_singleton.mp mz]; exact ⟨box_start m1 o1, .start⟩, List.mem_singleton.mpr rfl, Nat.le_refl 1⟩
    refine g_seq ?_
    refine ⟨fun mm σ H' => ∃ ss ws v6 v7 v8 v9 v10 v11 v12 v13, mm = ws.length + 2 * (m * m * m * row.length - ss.length) ∧ σ = [some (.int b), some (.ref r), some (.int m), some (.ref t), some (.ref D), some (.ref L), v6, v7, v8, v9, v10, v11, v12, v13] ∧ SWI H H' b m row D L ss ws ∧
      (∀ z ∈ ss, (∃ p ∈ ws, p.2 = z) ∨ (goodQ z ∧ ∀ f, f < b → nxQ b m row z f ∈ ss)), ⟨_, _, _, none, none, none, none, none, none, none, none, rfl, rfl, hs0, fun z mz => .inl ⟨(t, ⟨0, 0, 1 % (m : Int), 0⟩), List.mem_singleton.mpr rfl, (List.mem_singleton.mp mz).symm⟩⟩, ?_⟩
    rintro mm σ H' ⟨ss, ws, v6, v7, v8, v9, v10, v11, v12, v13, rfl, rfl, W, hw⟩
    refine ⟨_, rfl, L, _, rfl, .inl (SqL.of W.dL), _, _, rfl, rfl, _, rfl, ?_⟩
    rcases List.eq_nil_or_concat ws with rfl | ⟨w0, p, rfl⟩
    · refine iteF' rfl (kT (fun z hz => ?_) H' W.same)
      have dn : ∀ z ∈ ss, goodQ z ∧ ∀ f, f < b → nxQ b m row z f ∈ ss := fun z mz => by
        rcases hw z mz with ⟨p, mp, _⟩ | h
        · exact absurd mp List.not_mem_nil
        · exact h
      have all : z ∈ ss := by
        induction hz with
        | start => exact W.st
        | next hz hf ih => exact (dn _ ih).2 _ hf
      exact (dn z all).1
    · rw [List.concat_eq_append] at W hw ⊢
      obtain ⟨pa, z⟩ := p
      have hp := W.tup (pa, z) (by simp)
      have hz := W.mem (pa, z) (by simp)
      obtain ⟨⟨bn, bs, bv, bj⟩, hR⟩ := W.box z hz
      have lL : ((w0 ++ [(pa, z)]).map fun p => V.ref p.1)[((w0 ++ [(pa, z)]).map fun p => V.ref p.1).length - 1]? = some (.ref pa) := by
        rw [List.map_append, List.length_append]; simp
      have lD : ((w0 ++ [(pa, z)]).map fun p => V.ref p.1).dropLast = w0.map fun p => V.ref p.1 := by
        rw [List.map_append]; simp
      refine iteT' ?_ ?_
      · rw [decide_eq_true_eq, List.length_map, List.length_append]
        show (0 : Int) < ((w0.length + 1 : Nat) : Int)
        omega
      refine ⟨_, fun _ _ h => h, _, rfl, .inl ⟨rfl, _, SqL.of W.dL⟩, L, _, _, rfl, rfl, W.dL, lL, ?_⟩
      rw [lD]
      have nL : ∀ p o, H' p = some o → p ≠ L → upd H' L (.lst (w0.map fun p => V.ref p.1)) p = some o := fun p o e n => by rw [upd_ne n]; exact e
      have pL : ∀ p ∈ w0 ++ [(pa, z)], p.1 ≠ L := fun p mp => ne_of (W.tup p mp) W.dL (fun q => nomatch q)
      have W1 : SWI H (upd H' L (.lst (w0.map fun p => V.ref p.1))) b m row D L ss w0 :=
        ⟨fun c o e => nL _ _ (W.same _ _ e) (ne_of_none e W.hL), W.hD, W.hL, W.ne, nL _ _ W.dD W.ne, upd_same, fun p mp => nL _ _ (W.tup p (List.mem_append_left _ mp)) (pL p (List.mem_append_left _ mp)),
          fun p mp => W.mem p (List.mem_append_left _ mp), W.nd, W.box, W.st, by have := W.len; rw [List.length_append] at this; exact Nat.le_trans (Nat.le_add_right _ _) this⟩
      have hp1 := nL _ _ hp (pL (pa, z) (by simp))
      have hw1 : ∀ y ∈ ss, y = z ∨ (∃ p ∈ w0, p.2 = y) ∨ (goodQ y ∧ ∀ f, f < b → nxQ b m row y f ∈ ss) := fun y my => by
        rcases hw y my with ⟨p, mp, e⟩ | h
        · rcases List.mem_append.mp mp with mp | mp
          · exact .inr (.inl ⟨p, mp, e⟩)
          · rw [List.mem_singleton.mp mp] at e
            exact .inl e.symm
        · exact .inr (.inr h)
      revert hp1 W1
      generalize upd H' L (.lst (w0.map fun p => V.ref p.1)) = H1
      intro W1 hp1
      refine ⟨pa, _, rfl, SqT.of hp1, rfl, _, _, rfl, _, _, rfl, _, _, rfl, _, _, rfl, rfl, ?_⟩
      refine ⟨_, rfl, rfl, _, rfl, rfl, rfl, _, rfl, ?_⟩
      by_cases c : goodQ z
      · refine iteF' ?_ ?_
        · rw [Bool.not_eq_false', decide_eq_true_eq]
          congr 1
          simp only [dec_int]
          exact decide_eq_decide.mpr c
        refine g_next ?_
        refine ⟨_, rfl, _, rfl, by omega, by omega, for_range (fun f σ H2 => ∃ ss2 w2 v10 v11 v12 v13, σ = [some (.int b), some (.ref r), some (.int m), some (.ref t), some (.ref D), some (.ref L), some (.int z.n), some (.int z.s), some (.int z.v), some (.int (z.j : Int)), v10, v11, v12, v13] ∧ SWI H H2 b m row D L ss2 w2 ∧
          (∀ y ∈ ss2, y = z ∨ (∃ p ∈ w2, p.2 = y) ∨ (goodQ y ∧ ∀ f, f < b → nxQ b m row y f ∈ ss2)) ∧ (∀ f', f' < f → nxQ b m row z f' ∈ ss2) ∧ z ∈ ss2 ∧ w2.length + 2 * (m * m * m * row.length - ss2.length) ≤ w0.length + 2 * (m * m * m * row.length - ss.length)) ?_ ?_ ?_⟩
        · exact ⟨ss, w0, _, _, _, _, rfl, W1, hw1, fun f' h => by omega, hz, Nat.le_refl _⟩
        · rintro f σ H2 hf ⟨ss2, w2, v10, v11, v12, v13, rfl, W2, hw2, hd2, hz2, hm2⟩
          have hfi : f < b := by omega
          have hj : z.j < row.length := bj
          have rj := o3 _ (rowIn hj)
          have hr2 := W2.same _ _ h1
          refine ⟨_, rfl, _, rfl, _, rfl, _, _, rfl, rfl, .inl ⟨by omega, by omega⟩, _, _, rfl, rfl, _, rfl, _, _, rfl, rfl, mi, ?_⟩
          refine ⟨_, rfl, _, rfl, _, rfl, _, rfl, r, _, _, _, rfl, rfl, SqT.of hr2, at_of (j := z.j) rfl (rowAt hj), _, _, rfl, rfl, .inl ⟨by omega, by omega⟩, _, _, rfl, rfl, _, rfl, _, _, rfl, rfl, mi, ?_⟩
          refine ⟨_, rfl, _, rfl, _, rfl, _, rfl, _, _, rfl, rfl, .inl ⟨by omega, by omega⟩, _, rfl, _, _, rfl, rfl, mi, _, rfl, _, _, rfl, rfl, _, rfl, r, _, rfl, .inr (SqT.of hr2), _, _, rfl, rfl, ?_, (by show 4 ≤ sizeLine; decide), fun T' hT' => ?_⟩
          · rw [List.length_map]; show (0 : Int) < (row.length : Int); omega
          have hyR : Rch b m row (nxQ b m row z f) := hR.next hfi
          have hyB : boxQ m row.length (nxQ b m row z f) := box_nx m1 o1
          have eT : ([.int ((z.n + (0 + (f : Int)) * z.v) % (m : Int)), .int ((z.s + (0 + (f : Int)) * row.getD z.j 0) % (m : Int)), .int (z.v * (b : Int) % (m : Int)), .int (((z.j : Int) + 1) % ((row.map V.int).length : Int))] : List V) = valsQ (nxQ b m row z f) := by
            rw [List.length_map]
            simp only [valsQ, nxQ, Int.zero_add]
            rfl
          have W3 := W2.new (o := HO.tup [.int ((z.n + (0 + (f : Int)) * z.v) % (m : Int)), .int ((z.s + (0 + (f : Int)) * row.getD z.j 0) % (m : Int)), .int (z.v * (b : Int) % (m : Int)), .int (((z.j : Int) + 1) % ((row.map V.int).length : Int))]) hT'
          have hT3 : upd H2 T' (HO.tup [.int ((z.n + (0 + (f : Int)) * z.v) % (m : Int)), .int ((z.s + (0 + (f : Int)) * row.getD z.j 0) % (m : Int)), .int (z.v * (b : Int) % (m : Int)), .int (((z.j : Int) + 1) % ((row.map V.int).length : Int))]) T' = some (.tup (valsQ (nxQ b m row z f))) := by rw [upd_same, eT]
          have hL2 : ss2.length ≤ 2000000 := Nat.le_trans (box_bound W2.nd fun y my => (W2.box y my).1) hN
          refine ⟨_, rfl, _, rfl, D, _, rfl, DGet.t (k := keyQ (nxQ b m row z f)) W3.dD hT3, _, rfl, ?_⟩
          rw [seen_val]
          by_cases cy : nxQ b m row z f ∈ ss2
          · rw [if_pos cy]
            refine iteF' rfl ⟨ss2, w2, some (.int (0 + (f : Int))), some (.int ((z.n + (0 + (f : Int)) * z.v) % (m : Int))), some (.int ((z.s + (0 + (f : Int)) * row.getD z.j 0) % (m : Int))), some (.ref T'), rfl, W3, hw2, fun f' h' => ?_, hz2, hm2⟩
            · by_cases e : f' = f
              · rw [e]; exact cy
              · exact hd2 f' (by omega)
          · rw [if_neg cy]
            refine iteT' rfl ?_
            refine ⟨_, rfl, _, rfl, D, _, rfl, DPut.t (k := keyQ (nxQ b m row z f)) W3.dD hT3 ?_, ?_⟩
            · rw [seenD, List.length_map]; exact Nat.lt_of_le_of_lt hL2 (by decide)
            · rw [seen_put cy]
              have W4 := W3.put hT3 cy ⟨hyB, hyR⟩
              have eL : upd (upd H2 T' (HO.tup [.int ((z.n + (0 + (f : Int)) * z.v) % (m : Int)), .int ((z.s + (0 + (f : Int)) * row.getD z.j 0) % (m : Int)), .int (z.v * (b : Int) % (m : Int)), .int (((z.j : Int) + 1) % ((row.map V.int).length : Int))])) D (HO.dT (seenD (ss2 ++ [nxQ b m row z f]))) L = some (.lst (w2.map fun p => V.ref p.1)) := by
                rw [upd_ne W3.ne.symm]; exact W3.dL
              have bL : (w2.map fun p => V.ref p.1).length < sizeLine := by
                rw [List.length_map]; exact Nat.lt_of_le_of_lt (Nat.le_trans W2.len hL2) (by decide)
              refine ⟨_, rfl, .inl ⟨rfl, _, SqL.of eL⟩, _, rfl, L, _, _, rfl, rfl, eL, bL, ss2 ++ [nxQ b m row z f], w2 ++ [(T', nxQ b m row z f)], some (.int (0 + (f : Int))), some (.int ((z.n + (0 + (f : Int)) * z.v) % (m : Int))), some (.int ((z.s + (0 + (f : Int)) * row.getD z.j 0) % (m : Int))), some (.ref T'), rfl, W4, fun y my => ?_, fun f' h' => ?_, List.mem_append_left _ hz2, ?_⟩
              · rcases List.mem_append.mp my with my | my
                · rcases hw2 y my with h | ⟨p, mp, e⟩ | ⟨g, h⟩
                  · exact .inl h
                  · exact .inr (.inl ⟨p, List.mem_append_left _ mp, e⟩)
                  · exact .inr (.inr ⟨g, fun f hf => List.mem_append_left _ (h f hf)⟩)
                · exact .inr (.inl ⟨_, List.mem_append_right _ (List.mem_singleton.mpr rfl), (List.mem_singleton.mp my).symm⟩)
              · by_cases e : f' = f
                · rw [e]; exact List.mem_append_right _ (List.mem_singleton.mpr rfl)
                · exact List.mem_append_left _ (hd2 f' (by omega))
              · have b4 := box_bound W4.nd fun y my => (W4.box y my).1
                rw [List.length_append] at b4 ⊢
                rw [List.length_append]
                simp only [List.length_singleton] at b4 ⊢
                omega
        · rintro σ H2 ⟨ss2, w2, v10, v11, v12, v13, rfl, W2, hw2, hd2, hz2, hm2⟩
          refine ⟨_, ?_, ss2, w2, _, _, _, _, _, _, _, _, rfl, rfl, W2, fun y my => ?_⟩
          · rw [List.length_append]
            show _ < w0.length + 1 + _
            omega
          · rcases hw2 y my with rfl | h | h
            · exact .inr ⟨c, fun f hf => hd2 f (by omega)⟩
            · exact .inl h
            · exact .inr h
      · refine iteT' ?_ ?_
        · rw [Bool.not_eq_true', decide_eq_false_iff_not]
          intro e
          injection e with e
          simp only [dec_int] at e
          exact c (decide_eq_decide.mp e)
        · exact kF ⟨z, hR, c⟩ H1 W1.same
end

end Fold
namespace Fold
open PySem PySem.Spec PyProof.Rows L2
section
variable {P : Program} {w : World} {K : PySem.W.Frag} {mg : Str → Option Value} {base : Heap} {a : Ad}
def sp_law_keeps : Sp := fun vs H Q _ => ∃ (b : Nat) (p : Addr) (s : Stp) (m : Nat), vs = [.int b, .ref p, .int m] ∧ (2 ≤ b ∧ b ≤ 12) ∧ StepAt H p s ∧ OkS b s ∧ 1 ≤ m ∧ m < 1000 ∧ (∀ row, s = .weigh row → m ≤ 60) ∧ ∀ H', Same H H' → Q (.bl (inS b s m)) H'
theorem ok__law_keeps (T : Txt K mg a) : C0 P w K mg base 3 "_law_keeps" sp_law_keeps := by
  have c__law_weigh_keeps := ok__law_weigh_keeps (P := P) (w := w) (base := base) T; have c__law_fold_keeps := ok__law_fold_keeps (P := P) (w := w) (base := base) T
  refine T.d__law_keeps.c0 sc__law_keeps (fun vs H Q E h => ?_) (fun f cdv A outer s H vs Q E hr h => ?_)
  · obtain ⟨b, p, s, m, rfl, _⟩ := h
    rfl
  · obtain ⟨b, p, s, m, rfl, hb, hs, ho, m1, m2, m3, kk⟩ := h
    refine ⟨_, (pss_cons (ps_if (pt_cmpR op_eq (pe_ix ix_tup (pv 1) pe_int (fun _ _ => rfl)) pe_str (nomark _)) (pss_one (ps_ret (pe_0 c__law_fold_keeps hr (by decide) (pa_cons (pv 0) (pa_cons (pv 1) (pa_cons (pv 2) pa_nil)))))) pss_nil)
      (pss_one (ps_ret (pe_0 c__law_weigh_keeps hr (by decide) (pa_cons (pv 0) (pa_cons (pe_ix ix_tup (pv 1) pe_int (fun _ _ => rfl)) (pa_cons (pv 2) pa_nil))))))), ?_⟩
    cases s with
    | weigh row =>
      obtain ⟨r, h1, h2⟩ := hs
      have th := weigh_thm (b := b) (m := m) (row := row) hb.1 ho.1 m1
      refine ⟨_, rfl, _, _, _, _, rfl, rfl, SqT.of h1, rfl, rfl, _, rfl, iteF' (by decide +kernel) (g_next ⟨_, rfl, _, rfl, _, _, _, _, rfl, rfl, SqT.of h1, rfl, _, rfl, b, r, row, m, rfl, hb, h2, ho, m1, m3 row rfl, fun t H' s' => ?_, fun t H' s' => ?_⟩)⟩
      · exact q_eq (kk H' s') (by rw [th.mp t])
      · refine q_eq (kk H' s') ?_
        have e : inS b (.weigh row) m = false := by
          rw [Bool.eq_false_iff]
          intro c
          obtain ⟨z, hz, hg⟩ := t
          exact hg (th.mpr c z hz)
        rw [e]
    | fold k x y =>
      have h1 : H p = _ := hs
      have th := fold_thm (b := b) (k := k) (m := m) (x := x) (y := y) hb.1 ho.1 m1
      refine ⟨_, rfl, _, _, _, _, rfl, rfl, SqT.of h1, rfl, rfl, _, rfl, iteT' (by decide +kernel) ⟨_, rfl, _, rfl, _, rfl, b, p, k, x, y, m, rfl, hb, h1, ho, m1, m2, fun t => ?_, fun t => ?_⟩⟩
      · exact q_eq (kk H (Same.refl _)) (by rw [th.mp t])
      · refine q_eq (kk H (Same.refl _)) ?_
        have e : inS b (.fold k x y) m = false := by
          rw [Bool.eq_false_iff]
          exact fun c => t (th.mpr c)
        rw [e]
end

end Fold
namespace Fold
open PySem PySem.Spec PyProof.Rows L2
/-! ### for the steps found -/
theorem inV'_pos {n u p q m : Nat} (h : 1 ≤ m) : inV' n u p q (.int (m : Int)) = inK n u p q m := by
  show (decide ((1 : Int) ≤ (m : Int)) && _) = _
  rw [decide_eq_true (by omega), Bool.true_and, Int.toNat_natCast]
theorem KnT.fold {H : Hp} {p : Addr} {k x y : Int} (h : H p = some (.tup [.str "fold", .int k, .int x, .int y])) : KnT H (.ref p) := by
  have : KnAll H [.str "fold", .int k, .int x, .int y] := fun z m => by
    simp only [List.mem_cons, List.not_mem_nil, or_false] at m
    rcases m with rfl | rfl | rfl | rfl
    · exact ⟨_, .str _⟩
    · exact ⟨_, .int _⟩
    · exact ⟨_, .int _⟩
    · exact ⟨_, .int _⟩
  refine ⟨⟨_, .tup h⟩, fun q xs e hq => ?_⟩
  cases e
  rw [h] at hq
  cases hq
  refine ⟨this, fun r ys m _ => ?_⟩
  simp only [List.mem_cons, List.not_mem_nil, or_false] at m
  rcases m with m | m | m | m <;> cases m
theorem pe_tupleOfK {X : Cx} {a : Expr} {ta : TE} {K : PySem.W.Frag} (hk : X.K = K) {p pos : Pos} (hg : Gl X "tuple") (hm : X.mg "tuple" = none) (ha : PE X a ta) (na : starEach [a] X.env = (false, eval a X.env) :: starEach [] X.env := by rfl) :
    PE X (.Call (.Name "tuple" p) [a] [] pos) (tThen ta (kTup K)) := hk ▸ pe_tupleOf hg hm ha na
/-- a list walked; the element's reckoning makes a new thing, of which R tells -/
theorem lc_listR {K : PySem.W.Frag} {p : Addr} {xs : List V} {j : Nat} {te : TE} {vs : List Nat} {σ : L2.St} {H1 : Hp} {D : Addr} {Qd : Hp → Prop} (R : V → V → Hp → Prop) (hp : H1 p = some (.lst xs)) (hD : H1 D = none) (hl : xs.length < sizeLine)
    (hw : ∀ x, wipe ((wipe σ vs).set j (some x)) vs = wipe σ vs)
    (mono : ∀ x y H H', Same H H' → R x y H → R x y H') (put : ∀ x y H acc acc', H D = some (.lst acc) → R x y H → R x y (upd H D (.lst acc')))
    (ev : ∀ (i : Nat) (x : V), xs[i]? = some x → ∀ (H' : Hp) (Q : VK), Same H1 H' → (∃ acc, H' D = some (.lst acc)) → (∀ y H'', Same H' H'' → R x y H'' → Q y H'') → te ((wipe σ vs).set j (some x)) H' Q)
    (hd : ∀ H' acc, Same H1 H' → H' D = some (.lst acc) → acc.length = xs.length → (∀ (i : Nat) x y, xs[i]? = some x → acc[i]? = some y → R x y H') → Qd H') :
    ∃ W : Nat → Nat → Hp → Prop, (∃ m, W 0 m (upd H1 D (.lst []))) ∧ ∀ i m H, W i m H →
      ((Itl K p).stop i H ∧ Qd H) ∨ ((Itl K p).go i H ∧ ∃ Nx : Hp → Prop, (∀ H', Nx H' → ∃ m', m' < m ∧ W (i + 1) m' H') ∧ ∀ x H', (Itl K p).yld i H x H' → gName j x (wipe σ vs) H' fun σ2 H2 => wipe σ2 vs = wipe σ vs ∧ tYes σ2 H2 fun b H3 =>
        if b = true then te σ2 H3 fun y H4 => ∃ acc, H4 D = some (.lst acc) ∧ acc.length < sizeLine ∧ Nx (upd H4 D (.lst (acc ++ [y]))) else Nx H3) := by
  refine lc_list (xs := xs) (fun i H' => Same H1 H' ∧ ∃ acc, H' D = some (.lst acc) ∧ acc.length = i ∧ ∀ (k : Nat) x y, k < i → xs[k]? = some x → acc[k]? = some y → R x y H') ⟨same_new hD, [], upd_same, rfl, fun k x y h => absurd h (Nat.not_lt_zero _)⟩ ?_ ?_ ?_
  · rintro i H' _ ⟨s, _⟩
    exact SqL.of (s _ _ hp)
  · rintro i x H' hi ⟨s, acc, hDl, hlen, hR⟩
    have hix := idx_lt hi
    refine ⟨hw x, ?_⟩
    unfold tYes
    dsimp only
    rw [if_pos rfl]
    refine ev i x hi _ _ s ⟨_, hDl⟩ fun y H'' s'' r => ⟨acc, s'' _ _ hDl, by omega, fun b u e => ?_, acc ++ [y], upd_same, by rw [List.length_append]; show acc.length + 1 = _; omega, fun k x' y' hk h1 h2 => ?_⟩
    · rw [upd_ne (ne_of_none e hD)]
      exact s'' _ _ (s _ _ e)
    · refine put _ _ _ _ _ (s'' _ _ hDl) ?_
      by_cases c : k = i
      · subst c
        rw [hi] at h1
        rw [List.getElem?_append_right (by omega), hlen, Nat.sub_self] at h2
        cases h1
        cases h2
        exact r
      · rw [List.getElem?_append_left (by omega)] at h2
        exact mono _ _ _ _ s'' (hR k x' y' (by omega) h1 h2)
  · rintro H' ⟨s, acc, hDl, hlen, hR⟩
    exact hd _ acc s hDl hlen fun i x y h1 h2 => hR i x y (idx_lt h1) h1 h2

end Fold
namespace Fold
open PySem PySem.Spec PyProof.Rows L2
/-! ### divisors -/
section
variable {P : Program} {w : World} {K : PySem.W.Frag} {mg : Str → Option Value} {base : Heap} {a : Ad}
def dvL (N : Nat) : Nat → List Nat
  | 0 => []
  | i + 1 => if N % (i + 1) = 0 then dvL N i ++ [i + 1, N / (i + 1)] else dvL N i
/-- how many numbers up to one divide -/
def dvC (N : Nat) : Nat → Nat
  | 0 => 0
  | i + 1 => if N % (i + 1) = 0 then dvC N i + 1 else dvC N i
theorem dvL_len (N : Nat) : ∀ i, (dvL N i).length = 2 * dvC N i
  | 0 => rfl
  | i + 1 => by
    rw [dvL, dvC]
    split
    · rw [List.length_append, dvL_len N i]; show _ + 2 = _; omega
    · exact dvL_len N i
theorem dvC_le (N : Nat) : ∀ i, dvC N i ≤ i
  | 0 => Nat.le_refl _
  | i + 1 => by
    have := dvC_le N i
    rw [dvC]
    split <;> omega
theorem dvC_mono {N : Nat} {i : Nat} : ∀ {j : Nat}, i ≤ j → dvC N i ≤ dvC N j
  | 0, h => by
    obtain rfl : i = 0 := by omega
    exact Nat.le_refl _
  | j + 1, h => by
    by_cases e : i = j + 1
    · rw [e]; exact Nat.le_refl _
    · have := dvC_mono (N := N) (show i ≤ j by omega)
      rw [dvC]
      split <;> omega
theorem dvC_dvd {N M : Nat} (h : N ∣ M) : ∀ i, dvC N i ≤ dvC M i
  | 0 => Nat.le_refl _
  | i + 1 => by
    have ih := dvC_dvd h i
    rw [dvC, dvC]
    by_cases c : N % (i + 1) = 0
    · rw [if_pos c, if_pos (Nat.mod_eq_zero_of_dvd (Nat.dvd_trans (Nat.dvd_of_mod_eq_zero c) h))]
      omega
    · rw [if_neg c]
      split <;> omega
theorem dvL_dvd {N : Nat} (hN : 1 ≤ N) : ∀ {i d : Nat}, d ∈ dvL N i → d ∣ N ∧ 1 ≤ d
  | 0, d, m => nomatch m
  | i + 1, d, m => by
    rw [dvL] at m
    split at m
    · rename_i c
      have hd := Nat.dvd_of_mod_eq_zero c
      rcases List.mem_append.mp m with m | m
      · exact dvL_dvd hN m
      · simp only [List.mem_cons, List.not_mem_nil, or_false] at m
        rcases m with rfl | rfl
        · exact ⟨hd, by omega⟩
        · refine ⟨⟨i + 1, (Nat.div_mul_cancel hd).symm⟩, Nat.div_pos (Nat.le_of_dvd (by omega) hd) (by omega)⟩
    · exact dvL_dvd hN m
theorem dvL_has {N j : Nat} (hj : 1 ≤ j) (hd : j ∣ N) : ∀ {i : Nat}, j ≤ i → j ∈ dvL N i ∧ N / j ∈ dvL N i
  | 0, h => by omega
  | i + 1, h => by
    rw [dvL]
    by_cases e : j = i + 1
    · subst e
      rw [if_pos (Nat.mod_eq_zero_of_dvd hd)]
      exact ⟨List.mem_append_right _ (by simp), List.mem_append_right _ (by simp)⟩
    · have ih := dvL_has hj hd (show j ≤ i by omega)
      split
      · exact ⟨List.mem_append_left _ ih.1, List.mem_append_left _ ih.2⟩
      · exact ih
/-- all divisors are seen up to the root -/
theorem dvL_all {N r d : Nat} (hN : 1 ≤ N) (hr : N < (r + 1) * (r + 1)) (hd : d ∣ N) (d1 : 1 ≤ d) : d ∈ dvL N r := by
  by_cases c : d ≤ r
  · exact (dvL_has d1 hd c).1
  · obtain ⟨e, he⟩ := hd
    have e1 : 1 ≤ e := by
      refine Nat.pos_of_ne_zero fun z => ?_
      rw [z, Nat.mul_zero] at he
      omega
    have e2 : e ≤ r := by
      refine Nat.le_of_not_lt fun z => ?_
      have := Nat.mul_le_mul (show r + 1 ≤ d by omega) (show r + 1 ≤ e by omega)
      omega
    have h := (dvL_has (N := N) e1 ⟨d, by rw [he, Nat.mul_comm]⟩ e2).2
    have e3 : N / e = d := by rw [he, Nat.mul_div_cancel _ (by omega)]
    rw [e3] at h
    exact h
def sp_divisors : Sp := fun vs H Q _ => ∃ (N : Nat), vs = [.int N] ∧ N < 1000000 ∧ ∀ q r H', Same H H' → H q = none → H' q = some (.lst (nv (dvL N r))) → N < (r + 1) * (r + 1) → (r = 0 ∨ r * r ≤ N) → Q (.ref q) H'
theorem ok_divisors (T : Txt K mg a) : C0 P w K mg base 1 "divisors" sp_divisors := by
  skip
  refine T.d_divisors.c0 sc_divisors (fun vs H Q E h => ?_) (fun f cdv A outer s H vs Q E hr h => ?_)
  · obtain ⟨N, rfl, _⟩ := h
    rfl
  · obtain ⟨N, rfl, hN, k⟩ := h
    refine ⟨_, (pss_cons (ps_set (i := 1) sc_divisors.nd rfl (Or.inl rfl) (pe_lst pa_nil))
      (pss_cons (ps_set (i := 2) sc_divisors.nd rfl (Or.inl rfl) pe_int)
      (pss_cons (ps_while PassesOwn.never (pt_cmpR op_le (pe_op op_mul (pv 2) (pv 2)) (pv 0) (nomark _)) (pss_cons (ps_if (pt_cmpR op_eq (pe_op op_mod (pv 0) (pv 2)) pe_int (nomark _)) (pss_one (ps_set (i := 1) sc_divisors.nd rfl (Or.inl rfl) (pe_op op_cat (pv 1) (pe_lst (pa_cons (pv 2) (pa_cons (pe_op op_fdivW (pv 0) (pv 2)) pa_nil)))))) pss_nil)
      (pss_one (ps_aug (i := 2) sc_divisors.nd rfl (Or.inl rfl) pe_int ip_add))))
      (pss_one (ps_ret (pv 1)))))), ?_⟩
    refine ⟨(by show 0 ≤ sizeLine; decide), fun q hq => ?_⟩
    refine g_setC ?_
    refine ⟨fun m σ H' => ∃ (i : Nat) (q : Addr), m = N + 1 - i * i ∧ Same H H' ∧ H q = none ∧ H' q = some (.lst (nv (dvL N i))) ∧ (i = 0 ∨ i * i ≤ N) ∧ σ = [some (.int N), some (.ref q), some (.int ((i + 1 : Nat) : Int))], ⟨_, 0, q, rfl, same_new hq, hq, upd_same, .inl rfl, rfl⟩, ?_⟩
    rintro m σ H' ⟨i, q, rfl, s', q0, hq', hi, rfl⟩
    have hi' : i < 1000 := by
      refine Nat.lt_of_not_le fun z => ?_
      have := Nat.mul_le_mul z z
      omega
    refine ⟨_, rfl, _, rfl, _, _, rfl, rfl, .inl ⟨by omega, by omega⟩, _, rfl, _, _, rfl, rfl, _, rfl, ?_⟩
    have ec : ((i + 1 : Nat) : Int) * ((i + 1 : Nat) : Int) = (((i + 1) * (i + 1) : Nat) : Int) := (Int.natCast_mul _ _).symm
    by_cases c : (i + 1) * (i + 1) ≤ N
    · refine iteT' (decide_eq_true (by rw [ec]; omega)) ⟨_, fun _ _ h => h, ?_⟩
      have hm : N + 1 - (i + 1) * (i + 1) < N + 1 - i * i := by
        have : i * i < (i + 1) * (i + 1) := Nat.mul_lt_mul_of_lt_of_lt (by omega) (by omega)
        omega
      refine ⟨_, rfl, _, rfl, _, _, rfl, rfl, (by omega), rfl, _, rfl, ?_⟩
      rw [dec_int, ← Int.natCast_emod]
      by_cases cd : N % (i + 1) = 0
      · refine iteT' (decide_eq_true (by omega)) ⟨_, rfl, _, rfl, _, rfl, _, rfl, _, _, rfl, rfl, ?_, (by show 2 ≤ sizeLine; decide), fun l hl => ?_⟩
        · exact wdiv (by omega) (by omega)
        refine ⟨q, l, _, _, rfl, rfl, kept hq' hl, upd_same, ?_, fun p hp => ?_⟩
        · rw [nv_len, dvL_len]
          have := dvC_le N i
          exact lsize' (by show 2 * dvC N i + 2 ≤ 1000000; omega)
        have sl := same_put s' (same_none s' hl) (o := HO.lst [V.int ((i + 1 : Nat) : Int), V.int ((N : Int) / ((i + 1 : Nat) : Int))])
        refine ⟨_, rfl, _, _, rfl, rfl, _, hm, i + 1, p, rfl, same_put sl (same_none sl hp), same_none sl hp, ?_, .inr c, ?_⟩
        · rw [upd_same, dvL, if_pos cd, nv_app]
          rfl
        · show [_, _, some (V.int (((i + 1 : Nat) : Int) + 1))] = _
          rw [show ((i + 1 : Nat) : Int) + 1 = ((i + 1 + 1 : Nat) : Int) by omega]
      · refine iteF' (decide_eq_false (by omega)) ⟨_, rfl, _, _, rfl, rfl, _, hm, i + 1, q, rfl, s', q0, ?_, .inr c, ?_⟩
        · rw [dvL, if_neg cd]
          exact hq'
        · show [_, _, some (V.int (((i + 1 : Nat) : Int) + 1))] = _
          rw [show ((i + 1 : Nat) : Int) + 1 = ((i + 1 + 1 : Nat) : Int) by omega]
    · refine iteF' (decide_eq_false (by rw [ec]; omega)) ⟨_, rfl, k q i H' s' q0 hq' (by omega) hi⟩
end

end Fold
namespace Fold
open PySem PySem.Spec PyProof.Rows L2
/-! ### for which moduli a way is right -/
/-- a list walked with a test; the test's reckoning may make new things -/
theorem lc_listFS {K : PySem.W.Frag} {p : Addr} {xs : List V} {j : Nat} {te : TE} {tt : TT} {vs : List Nat} {σ : L2.St} {H1 : Hp} {D : Addr} {Qd : Hp → Prop} (b : V → Bool) (hp : H1 p = some (.lst xs)) (hD : H1 D = none) (hl : xs.length < sizeLine)
    (hw : ∀ x, wipe ((wipe σ vs).set j (some x)) vs = wipe σ vs)
    (et : ∀ (i : Nat) (x : V), xs[i]? = some x → ∀ (H' : Hp) (Q : Bool → Hp → Prop), Same H1 H' → (∀ H'', Same H' H'' → Q (b x) H'') → tt ((wipe σ vs).set j (some x)) H' Q)
    (ev : ∀ (i : Nat) (x : V), xs[i]? = some x → ∀ (H' : Hp) (Q : VK), Same H1 H' → Q x H' → te ((wipe σ vs).set j (some x)) H' Q) (hd : ∀ H', Same H1 H' → H' D = some (.lst (xs.filter b)) → Qd H') :
    ∃ W : Nat → Nat → Hp → Prop, (∃ m, W 0 m (upd H1 D (.lst []))) ∧ ∀ i m H, W i m H →
      ((Itl K p).stop i H ∧ Qd H) ∨ ((Itl K p).go i H ∧ ∃ Nx : Hp → Prop, (∀ H', Nx H' → ∃ m', m' < m ∧ W (i + 1) m' H') ∧ ∀ x H', (Itl K p).yld i H x H' → gName j x (wipe σ vs) H' fun σ2 H2 => wipe σ2 vs = wipe σ vs ∧ tt σ2 H2 fun b H3 =>
        if b = true then te σ2 H3 fun y H4 => ∃ acc, H4 D = some (.lst acc) ∧ acc.length < sizeLine ∧ Nx (upd H4 D (.lst (acc ++ [y]))) else Nx H3) := by
  refine lc_list (xs := xs) (fun i H' => Same H1 H' ∧ H' D = some (.lst ((xs.take i).filter b))) ⟨same_new hD, upd_same⟩ ?_ ?_ ?_
  · rintro i H' _ ⟨s, _⟩
    exact SqL.of (s _ _ hp)
  · rintro i x H' hi ⟨s, hDl⟩
    refine ⟨hw x, et i x hi _ _ s fun H'' s'' => ?_⟩
    cases c : b x with
    | true =>
      rw [if_pos rfl]
      refine ev i x hi _ _ (s.trans s'') ⟨_, s'' _ _ hDl, ?_, fun b u e => ?_, ?_⟩
      · have := List.length_filter_le b (xs.take i)
        rw [List.length_take] at this
        omega
      · rw [upd_ne (ne_of_none e hD)]
        exact s'' _ _ (s _ _ e)
      · rw [upd_same, take_snoc hi, List.filter_append, List.filter_cons_of_pos c]; rfl
    | false =>
      rw [if_neg Bool.false_ne_true, take_snoc hi, List.filter_append, List.filter_cons_of_neg (by rw [c]; exact Bool.false_ne_true), List.filter_nil, List.append_nil]
      exact ⟨s.trans s'', s'' _ _ hDl⟩
  · rintro H' ⟨s, hDl⟩
    rw [List.take_length] at hDl
    exact hd _ s hDl
theorem dc_list {K : PySem.W.Frag} {a : Addr} {xs : List V} {g : TG} {tt : TT} {tk tv : TE} {vs : List Nat} {σ : L2.St} {H1 : Hp} {D : Addr} {Qd : Hp → Prop} (Pv : Nat → Hp → Prop) (h0 : Pv 0 (upd H1 D (.dK []))) (hl : ∀ i H, i ≤ xs.length → Pv i H → SqL K H a xs)
    (hs : ∀ i x H, xs[i]? = some x → Pv i H → g x (wipe σ vs) H fun σ2 H2 => wipe σ2 vs = wipe σ vs ∧ tt σ2 H2 fun b H3 =>
      if b = true then tk σ2 H3 fun y H4 => tv σ2 H4 fun z H5 => ∃ kvs k, y = kV k ∧ H5 D = some (.dK kvs) ∧ kvs.length < sizeLine ∧ Pv (i + 1) (upd H5 D (.dK (putK kvs k z))) else Pv (i + 1) H3) (hd : ∀ H, Pv xs.length H → Qd H) :
    ∃ W : Nat → Nat → Hp → Prop, (∃ m, W 0 m (upd H1 D (.dK []))) ∧ ∀ i m H, W i m H →
      ((Itl K a).stop i H ∧ Qd H) ∨ ((Itl K a).go i H ∧ ∃ Nx : Hp → Prop, (∀ H', Nx H' → ∃ m', m' < m ∧ W (i + 1) m' H') ∧ ∀ x H', (Itl K a).yld i H x H' → g x (wipe σ vs) H' fun σ2 H2 => wipe σ2 vs = wipe σ vs ∧ tt σ2 H2 fun b H3 =>
        if b = true then tk σ2 H3 fun y H4 => tv σ2 H4 fun z H5 => ∃ kvs k, y = kV k ∧ H5 D = some (.dK kvs) ∧ kvs.length < sizeLine ∧ Nx (upd H5 D (.dK (putK kvs k z))) else Nx H3) := by
  refine ⟨fun i m H => m = xs.length - i ∧ i ≤ xs.length ∧ Pv i H, ⟨xs.length, by simp, Nat.zero_le _, h0⟩, ?_⟩
  rintro i m H ⟨rfl, hi, p⟩
  have q := hl i H hi p
  by_cases hlt : i < xs.length
  · refine .inr ⟨⟨xs, xs[i], q, by simp [hlt]⟩, Pv (i + 1), fun H' p' => ⟨xs.length - (i + 1), by omega, rfl, hlt, p'⟩, fun x H' y => ?_⟩
    obtain ⟨e, y⟩ := y
    subst e
    exact hs i x _ (y xs q) p
  · have e : i = xs.length := by omega
    subst e
    exact .inl ⟨⟨xs, q, Nat.le_refl _⟩, hd H p⟩
theorem put_keys (ps : List (Nat × V)) (n : Nat) (v : V) : ∃ ps', putK (pk ps) (Sum.inl (n : Int)) v = pk ps' ∧ keys ps' = if n ∈ keys ps then keys ps else keys ps ++ [n] := by
  by_cases c : n ∈ keys ps
  · refine ⟨ps.map fun p => if p.1 = n then (p.1, v) else p, ?_, ?_⟩
    · rw [putK, if_pos]
      · rw [pk, pk, List.map_map, List.map_map]
        refine List.map_congr_left fun p _ => ?_
        show (if (Sum.inl (p.1 : Int) : Key) = Sum.inl (n : Int) then _ else _) = ((Sum.inl (((if p.1 = n then (p.1, v) else p).1 : Nat) : Int) : Key), (if p.1 = n then (p.1, v) else p).2)
        by_cases e : p.1 = n
        · rw [if_pos e, if_pos (by rw [e])]
        · rw [if_neg e, if_neg (fun z => e (by injection z with z; omega))]
      · rw [List.any_eq_true]
        obtain ⟨p, hp, rfl⟩ := List.mem_map.mp c
        exact ⟨_, List.mem_map.mpr ⟨p, hp, rfl⟩, decide_eq_true rfl⟩
    · rw [if_pos c, keys, keys, List.map_map]
      refine List.map_congr_left fun p _ => ?_
      show (if p.1 = n then (p.1, v) else p).1 = p.1
      split <;> rfl
  · refine ⟨ps ++ [(n, v)], ?_, by rw [if_neg c, keys_app]; rfl⟩
    rw [putK_new v (by rw [pk_val, look_none c]), pk, pk, List.map_append]; rfl
theorem wnum_dvdN (b : Nat) (row : List Int) : ∀ i, wnum b row i ∣ b ^ row.length - 1
  | 0 => Nat.dvd_refl _
  | i + 1 => Nat.dvd_trans (by
      have : (Int.gcd (wnum b row i : Int) (row.getD i 0 - row.getD 0 0 * ((b ^ i : Nat) : Int)) : Nat) ∣ ((wnum b row i : Nat) : Int).natAbs := Int.gcd_dvd_natAbs_left _ _
      exact this) (wnum_dvdN b row i)
/-- what a step that ends keeps is a divisor of its number, or 1, or its power -/
theorem kept_in {b : Nat} {s : Stp} (hb : 2 ≤ b) (ho : OkS b s) (he : endB b s = true) {m : Nat} (m1 : 1 ≤ m) (h : inS b s m = true) : (1 ≤ kN b s ∧ m ∣ kN b s) ∨ m = 1 ∨ m = max 1 (kP b s) := by
  rcases inK_iff.mp h with ⟨h1, h2⟩ | ⟨h1, h2, h3⟩
  · by_cases c : 1 ≤ kN b s
    · exact .inl ⟨c, Nat.dvd_of_mod_eq_zero h1⟩
    · refine .inr (.inl ?_)
      cases s with
      | weigh row =>
        have d := wnum_dvdN b row row.length
        have z : wnum b row row.length = 0 := by
          have : ¬ 1 ≤ wnum b row row.length := c
          omega
        rw [z] at d
        have e := Nat.eq_zero_of_zero_dvd d
        have p : 2 ≤ b ^ row.length := Nat.le_trans hb (Nat.le_self_pow (by have := ho.1; omega) b)
        omega
      | fold k x y =>
        have hx : x.natAbs < b ^ k := by
          have := of_decide_eq_true he
          omega
        have z : x - y * ((b ^ k : Nat) : Int) = 0 := by
          have : ¬ 1 ≤ (x - y * ((b ^ k : Nat) : Int)).natAbs := c
          omega
        have y0 : y = 0 := by
          refine Classical.byContradiction fun n => ?_
          have e : x.natAbs = y.natAbs * b ^ k := by
            rw [show x = y * ((b ^ k : Nat) : Int) by omega, Int.natAbs_mul, Int.natAbs_natCast]
          have := Nat.le_mul_of_pos_left (b ^ k) (show 0 < y.natAbs by omega)
          omega
        subst y0
        have : Nat.gcd (Int.natAbs 0) m = 1 := h2
        rw [Int.natAbs_zero, Nat.gcd_zero_left] at this
        exact this
  · cases s with
    | weigh row => exact absurd h1 (Nat.lt_irrefl 0)
    | fold k x y =>
      refine .inr (.inr ?_)
      have hx : x.natAbs < b ^ k := by
        have := of_decide_eq_true he
        omega
      by_cases c : foldOdd (b ^ k) x y = true
      · have eP : kP b (.fold k x y) = b ^ k := if_pos c
        have eQ : kQ b (.fold k x y) = x.natAbs / b ^ k := if_pos c
        rw [eP] at h1 h2 h3 ⊢
        rw [eQ, Nat.div_eq_of_lt hx, Nat.gcd_zero_left] at h3
        have := Nat.div_add_mod m (b ^ k)
        rw [h2, h3] at this
        omega
      · have eP : kP b (.fold k x y) = 0 := if_neg c
        rw [eP] at h1
        omega
/-- the number and how many divisors it has are small -/
structure RtOk (b : Nat) (s : Stp) : Prop where
  n6 : kN b s < 1000000
  few : ∀ r, r * r ≤ kN b s → dvC (kN b s) r ≤ 30
theorem rt_ok {b : Nat} {s : Stp} (hb : 2 ≤ b ∧ b ≤ 12) (ho : OkS b s) (hL : OkL s) : RtOk b s := by
  cases s with
  | fold k x y =>
    obtain ⟨o1, o2, o3, o4, o5⟩ := ho
    have h1 : (y * ((b ^ k : Nat) : Int)).natAbs ≤ 12 * 60 := by
      rw [Int.natAbs_mul, Int.natAbs_natCast]
      exact Nat.mul_le_mul (by omega) o3
    have hN : kN b (.fold k x y) ≤ 732 := by
      show (x - y * ((b ^ k : Nat) : Int)).natAbs ≤ 732
      omega
    refine ⟨by omega, fun r hr => Nat.le_trans (dvC_le _ r) (Nat.le_of_not_lt fun z => ?_)⟩
    have := Nat.mul_le_mul (show 31 ≤ r from z) (show 31 ≤ r from z)
    omega
  | weigh row =>
    have l4 := hL.1
    have d := wnum_dvdN b row row.length
    have hM : (show Prop from ∀ (b : Fin 13) (l : Fin 5), 2 ≤ b.val → 1 ≤ b.val ^ l.val ∧ b.val ^ l.val - 1 ≤ 20735 ∧ dvC (b.val ^ l.val - 1) 144 ≤ 30 ∨ l.val = 0) := by decide +kernel
    obtain ⟨h1, h2, h3⟩ : 1 ≤ b ^ row.length ∧ b ^ row.length - 1 ≤ 20735 ∧ dvC (b ^ row.length - 1) 144 ≤ 30 := by
      rcases hM ⟨b, by omega⟩ ⟨row.length, by omega⟩ hb.1 with h | h
      · exact h
      · have := ho.1
        have h : row.length = 0 := h
        omega
    have p : 2 ≤ b ^ row.length := Nat.le_trans hb.1 (Nat.le_self_pow (by have := ho.1; omega) b)
    have hN : wnum b row row.length ≤ 20735 := Nat.le_trans (Nat.le_of_dvd (by omega) d) h2
    refine ⟨by show wnum b row row.length < 1000000; omega, fun r hr => ?_⟩
    have hr : r * r ≤ wnum b row row.length := hr
    have hr2 : r ≤ 144 := Nat.le_of_not_lt fun z => by
      have := Nat.mul_le_mul (show 145 ≤ r from z) (show 145 ≤ r from z)
      omega
    exact Nat.le_trans (dvC_dvd d r) (Nat.le_trans (dvC_mono hr2) h3)
section
variable {P : Program} {w : World} {K : PySem.W.Frag} {mg : Str → Option Value} {base : Heap} {a : Ad}
def sp_Way_fits (a : Ad) : Sp := fun vs H Q _ => ∃ (x : Addr) (b : Nat) (s : Stp) (bd : Nat) (ys : List Nat) (m : Nat), vs = [.ref x, .int m] ∧ WayAt a.Way H x b s bd ys ∧ WOk b s bd ys ∧ 1 ≤ m ∧ m < 1000000 ∧ ∀ H', Same H H' → Q (.bl (decide (ys = mults bd m))) H'
theorem ok_Way_fits (T : Txt K mg a) : Mt CX0 P w K mg base 1 a.Way "fits" (sp_Way_fits a) := by
  skip
  refine T.d_Way_fits.m0 sc_Way_fits (fun vs H Q E h => ?_) (fun f cdv A outer s H vs Q E hr h => ?_)
  · obtain ⟨x, b, st, bd, ys, m, rfl, _⟩ := h
    rfl
  · obtain ⟨x, b, st, bd, ys, m, rfl, hW, ok, m1, m2, kk⟩ := h
    refine ⟨_, (pss_one (ps_ret (pe_cmpR (op_eqD (hu64 hr)) (pe_callTy call_list_of (by rfl) T.n_list b_list (pa_cons (pe_fld (pv 0) rfl) pa_nil)) (pe_listRg3 rfl (by rfl) T.n_list (prg_3 (by rfl) T.n_range pe_int (pe_fld (pv 0) rfl) (pv 1))) (nomark _)))), ?_⟩
    obtain ⟨dx, p, y, hx, hS, hy⟩ := id hW
    have b2 := ok.b2
    refine ⟨_, rfl, x, a.Way, dx, _, _, rfl, hx, T.cl_Way.cl, T.cl_Way.na.2.2.2.1, wf_yes _ _ _ _, y, _, rfl, .inr (SqT.of hy), fun q hq => ?_⟩
    have s1 := same_new (o := HO.lst (nv ys)) hq
    have hx1 := s1 _ _ hx
    refine ⟨_, rfl, x, a.Way, dx, _, _, rfl, hx1, T.cl_Way.cl, T.cl_Way.na.2.2.1, wf_bound _ _ _ _, _, rfl, bd, m, rfl, rfl, rfl, by omega, m1, m2, fun q2 hq2 => ?_⟩
    refine ⟨_, _, iD_dp (ns := ri ys) (SqL.of (kept upd_same hq2)), iD_dp (ns := ri (mults bd m)) (SqL.of upd_same), iD_shaped _, iD_shaped _, ?_⟩
    rw [iD_eqv]
    refine q_eq (kk _ (same_upd s1 hq2)) ?_
    congr 1
    exact decide_eq_decide.mpr ⟨fun h => ri_inj h, fun h => by rw [h]⟩
def sp_Way_is_right (a : Ad) : Sp := fun vs H Q _ => ∃ (x : Addr) (b : Nat) (s : Stp) (bd : Nat) (ys : List Nat) (m : Nat), vs = [.ref x, .int m] ∧ WayAt a.Way H x b s bd ys ∧ WOk b s bd ys ∧ 1 ≤ m ∧ m < 1000000 ∧ ∀ H', Same H H' → Q (.bl (decide (ys = mults bd m) && inS b s m)) H'
theorem ok_Way_is_right (T : Txt K mg a) : Mt (L2.CX P w) P w K mg base 6 a.Way "is_right" (sp_Way_is_right a) := by
  have o_Way_fits := ok_Way_fits (P := P) (w := w) (base := base) T; have o_Kept___contains__ := ok_Kept___contains__ (P := P) (w := w) (base := base) T; have c_kept := ok_kept (P := P) (w := w) (base := base) T
  refine T.d_Way_is_right.m1 sc_Way_is_right (fun vs H Q E h => ?_) (fun f cdv A outer s H vs Q E hr h => ?_)
  · obtain ⟨x, b, st, bd, ys, m, rfl, _⟩ := h
    rfl
  · obtain ⟨x, b, st, bd, ys, m, rfl, hW, ok, m1, m2, kk⟩ := h
    have tk := takes_of (X := cxOf (L2.CX P w) P w K mg base ["self", "m"] "Way.is_right" (defScope s_Way_is_right) f cdv A outer s H E) rfl rfl rfl rfl
    refine ⟨_, (pss_one (ps_ret (pe_and (pe_o0 o_Way_fits hr (by decide) (pv 0) T.cl_Way.cl (pa_cons (pv 1) pa_nil)) (pe_one (pe_cmpR (op_inOwn o_Kept___contains__ hr (by decide)) (pv 1) (pe_1 c_kept hr (by decide) tk (by exact (pa_cons (pe_fld (pv 0) rfl) (pa_cons (pe_fld (pv 0) rfl) pa_nil)))) (by with_unfolding_all rfl)))))), ?_⟩
    obtain ⟨dx, p, y, hx, hS, hy⟩ := id hW
    refine ⟨_, rfl, x, dx, _, rfl, hx, wf_no _ _ _ _ (by decide +kernel) (by decide +kernel) (by decide +kernel) (by decide +kernel), _, rfl, x, b, st, bd, ys, m, rfl, hW, ok, m1, m2, fun H1 s1 => ⟨_, rfl, ?_⟩⟩
    by_cases c : ys = mults bd m
    · rw [decide_eq_true c, Bool.true_and] at kk
      have hx1 := s1 _ _ hx
      have hS1 := hS.mono s1
      refine iteT' (decide_eq_true c) ⟨_, rfl, _, rfl, x, a.Way, dx, _, _, rfl, hx1, T.cl_Way.cl, T.cl_Way.na.1, wf_base _ _ _ _, _, rfl, x, a.Way, dx, _, _, rfl, hx1, T.cl_Way.cl, T.cl_Way.na.2.1, wf_step _ _ _ _, _, _, rfl, ⟨_, .int _⟩, hS1.known, fun _ => ⟨b, p, st, rfl, rfl, ok.hb, hS1, ok.ok, fun z H2 hz s2 => ?_⟩, fun c => ?_⟩
      · obtain ⟨dz, hz'⟩ := id hz
        refine ⟨z, dz, _, rfl, hz', z, _, _, _, _, _, rfl, hz, ⟨_, .int _⟩, fun t e => by injection e with e; omega, kP_lt ok.ok, _, rfl, ?_⟩
        refine q_eq (kk H2 (s1.trans s2)) ?_
        rw [inV'_pos m1]
        rfl
      · rw [hS1.ok ok.hb ok.ok] at c
        cases c
    · rw [decide_eq_false c, Bool.false_and] at kk
      exact iteF' (decide_eq_false c) (kk H1 s1)
end

end Fold
namespace Fold
open PySem PySem.Spec PyProof.Rows L2
section
variable {P : Program} {w : World} {K : PySem.W.Frag} {mg : Str → Option Value} {base : Heap} {a : Ad}
def rightB (b : Nat) (s : Stp) (bd : Nat) (ys : List Nat) (m : Nat) : Bool := inS b s m && decide (ys = mults bd m)
def rightV (b : Nat) (s : Stp) (bd : Nat) (ys : List Nat) : V → Bool
  | .int j => rightB b s bd ys j.toNat
  | _ => false
theorem nv_at {l : List Nat} {i : Nat} {v : V} (h : (nv l)[i]? = some v) : ∃ n, l[i]? = some n ∧ v = .int (n : Int) := by
  rw [nv, ri, List.getElem?_map, List.getElem?_map] at h
  cases e : l[i]? with
  | none => rw [e] at h; cases h
  | some n =>
    rw [e] at h
    cases h
    exact ⟨n, rfl, rfl⟩
theorem nv_filter (f : Nat → Bool) (g : V → Bool) (h : ∀ n : Nat, g (.int n) = f n) : ∀ l : List Nat, (nv l).filter g = nv (l.filter f)
  | [] => rfl
  | x :: l => by
    have e : nv (x :: l) = .int (x : Int) :: nv l := rfl
    rw [e]
    by_cases c : f x = true
    · rw [List.filter_cons_of_pos (by rw [h]; exact c), List.filter_cons_of_pos c, nv_filter f g h l]; rfl
    · rw [List.filter_cons_of_neg (by rw [h]; exact c), List.filter_cons_of_neg c, nv_filter f g h l]
def sp_Way_right (a : Ad) : Sp := fun vs H Q _ => ∃ (x : Addr) (b : Nat) (s : Stp) (bd : Nat) (ys : List Nat), vs = [.ref x] ∧ WayAt a.Way H x b s bd ys ∧ WOk b s bd ys ∧ RtOk b s ∧
  ∀ q rs H', Same H H' → H q = none → H' q = some (.lst (nv rs)) → rs.Pairwise (· < ·) → (∀ m, m ∈ rs ↔ 1 ≤ m ∧ rightB b s bd ys m = true) → rs.length < 64 → Q (.ref q) H'
theorem ok_Way_right (T : Txt K mg a) : Mt (L2.CX P w) P w K mg base 6 a.Way "right" (sp_Way_right a) := by
  have c_kept := ok_kept (P := P) (w := w) (base := base) T; have o_Kept___contains__ := ok_Kept___contains__ (P := P) (w := w) (base := base) T; have o_Way_fits := ok_Way_fits (P := P) (w := w) (base := base) T; have c_divisors := ok_divisors (P := P) (w := w) (base := base) T
  refine T.d_Way_right.m1 sc_Way_right (fun vs H Q E h => ?_) (fun f cdv A outer s H vs Q E hr h => ?_)
  · obtain ⟨x, b, st, bd, ys, rfl, _⟩ := h
    rfl
  · obtain ⟨x, b, st, bd, ys, rfl, hW, ok, rt, kk⟩ := h
    have tk := takes_of (X := cxOf (L2.CX P w) P w K mg base ["self", "lot", "some", "m"] "Way.right" (defScope s_Way_right) f cdv A outer s H E) rfl rfl rfl rfl
    refine ⟨_, (pss_cons (ps_set (i := 1) sc_Way_right.nd rfl (Or.inr rfl) (pe_1 c_kept hr (by decide) tk (by exact (pa_cons (pe_fld (pv 0) rfl) (pa_cons (pe_fld (pv 0) rfl) pa_nil)))))
      (pss_cons (ps_set (i := 2) sc_Way_right.nd rfl (Or.inl rfl) (pe_callB (call_sortedDI rfl) (by rfl) T.n_sorted b_sorted (pa_cons (pe_dc (own := [("m", 3)]) (g := gName 3) rfl sc_Way_right.nd (pi_list (pe_op op_cat (pe_0 c_divisors hr (by decide) (pa_cons (pe_fld (pv 1) rfl) pa_nil)) (pe_lst (pa_cons pe_int (pa_cons (pe_callB (call_max2 rfl) (by rfl) T.n_max b_max (pa_cons pe_int (pa_cons (pe_fld (pv 1) rfl) pa_nil))) pa_nil))))) (blkOk_by (N := ["self", "lot", "some", "m"]) (sc := defScope s_Way_right) (by decide +kernel)) (fun _ _ _ _ _ => (pg_name (i := 3) sc_Way_right.nd rfl (Or.inl rfl))) (fun _ _ _ _ _ => pts_nil) (fun _ _ _ _ _ => (pv 3)) (fun _ _ _ _ _ => pe_bl)) pa_nil)))
      (pss_one (ps_ret (pe_lc (own := [("m", 3)]) (g := gName 3) rfl sc_Way_right.nd (pi_list (pv 2)) (blkOk_by (N := ["self", "lot", "some", "m"]) (sc := defScope s_Way_right) (by decide +kernel)) (fun _ _ _ _ _ => (pg_name (i := 3) sc_Way_right.nd rfl (Or.inl rfl))) (fun _ _ _ _ _ => (pts_one (pw_and (pt_cmpR (op_inOwn o_Kept___contains__ hr (by decide)) (pv 3) (pv 1) (by with_unfolding_all rfl)) (pw_and1 (pt_val (pe_o0 o_Way_fits hr (by decide) (pv 0) T.cl_Way.cl (pa_cons (pv 3) pa_nil))))).pt)) (fun _ _ _ _ _ => (pv 3))))))), ?_⟩
    obtain ⟨dx, p, y, hx, hS, hy⟩ := id hW
    refine ⟨_, rfl, x, a.Way, dx, _, _, rfl, hx, T.cl_Way.cl, T.cl_Way.na.1, wf_base _ _ _ _, _, rfl, x, a.Way, dx, _, _, rfl, hx, T.cl_Way.cl, T.cl_Way.na.2.1, wf_step _ _ _ _, _, _, rfl, ⟨_, .int _⟩, hS.known, fun _ => ⟨b, p, st, rfl, rfl, ok.hb, hS, ok.ok, fun z H1 hz s1 => ?_⟩, fun c => ?_⟩
    rotate_left
    · rw [hS.ok ok.hb ok.ok] at c
      cases c
    obtain ⟨dz, hz'⟩ := id hz
    refine ⟨_, rfl, z, a.Kept, dz, _, _, rfl, hz', T.cl_Kept.cl, T.cl_Kept.na.1, kf_number _ _ _ _, kN b st, rfl, rt.n6, fun q r H2 s2 q0 hq hr1 hr2 => ?_⟩
    have hz2 := s2 _ _ hz'
    refine ⟨_, rfl, z, a.Kept, dz, _, _, rfl, hz2, T.cl_Kept.cl, T.cl_Kept.na.2.2.1, kf_power _ _ _ _, _, _, rfl, (by show 2 ≤ sizeLine; decide), fun l hl => ?_⟩
    have eM : (if ((kP b st : Nat) : Int) > 1 then ((kP b st : Nat) : Int) else 1) = ((max 1 (kP b st) : Nat) : Int) := by
      split <;> omega
    obtain ⟨xs, hxs⟩ : ∃ xs, xs = dvL (kN b st) r ++ [1, max 1 (kP b st)] := ⟨_, rfl⟩
    have exs : nv (dvL (kN b st) r) ++ [V.int 1, V.int (if ((kP b st : Nat) : Int) > 1 then ((kP b st : Nat) : Int) else 1)] = nv xs := by
      rw [eM, hxs, nv_app]; rfl
    have xlen : xs.length ≤ 62 := by
      rw [hxs, List.length_append, dvL_len]
      have : dvC (kN b st) r ≤ 30 := by
        rcases hr2 with rfl | h
        · exact Nat.zero_le _
        · exact rt.few r h
      show 2 * dvC (kN b st) r + 2 ≤ 62
      omega
    have x1 : ∀ m ∈ xs, 1 ≤ m ∧ m < 1000000 := fun m hm => by
      rw [hxs] at hm
      rcases List.mem_append.mp hm with h | h
      · by_cases c : 1 ≤ kN b st
        · obtain ⟨h1, h2⟩ := dvL_dvd c h
          have := Nat.le_of_dvd c h1
          have := rt.n6
          omega
        · have r0 : r = 0 := by
            rcases hr2 with h | h
            · exact h
            · refine Classical.byContradiction fun z => ?_
              have := Nat.mul_le_mul (show 1 ≤ r by omega) (show 1 ≤ r by omega)
              omega
          rw [r0] at h
          exact nomatch h
      · have := kP_lt ok.ok
        simp only [List.mem_cons, List.not_mem_nil, or_false] at h
        rcases h with rfl | rfl <;> omega
    have xall : ∀ m, 1 ≤ m → inS b st m = true → m ∈ xs := fun m m1 h => by
      rw [hxs]
      rcases kept_in ok.hb.1 ok.ok ok.en m1 h with ⟨h1, h2⟩ | h | h
      · exact List.mem_append_left _ (dvL_all h1 hr1 h2 m1)
      · exact List.mem_append_right _ (by rw [h]; simp)
      · exact List.mem_append_right _ (by rw [h]; simp)
    refine ⟨q, l, _, _, rfl, rfl, kept hq hl, upd_same, ?_, fun q3 hq3 => ?_⟩
    · rw [nv_len]
      rw [hxs, List.length_append] at xlen
      exact lsize' (Nat.le_trans xlen (by decide))
    have s12 := s1.trans s2
    have sl := same_new (o := HO.lst [V.int 1, V.int (if ((kP b st : Nat) : Int) > 1 then ((kP b st : Nat) : Int) else 1)]) hl
    have hq3' : upd (upd H2 l (.lst [V.int 1, V.int (if ((kP b st : Nat) : Int) > 1 then ((kP b st : Nat) : Int) else 1)])) q3 (.lst (nv (dvL (kN b st) r) ++ [V.int 1, V.int (if ((kP b st : Nat) : Int) > 1 then ((kP b st : Nat) : Int) else 1)])) q3 = some (.lst (nv xs)) := by rw [upd_same, exs]
    have s3 : Same H _ := (s12.trans sl).trans (same_new hq3 (o := .lst (nv (dvL (kN b st) r) ++ [V.int 1, V.int (if ((kP b st : Nat) : Int) > 1 then ((kP b st : Nat) : Int) else 1)])))
    have s13 : Same H1 _ := (s2.trans sl).trans (same_new hq3 (o := .lst (nv (dvL (kN b st) r) ++ [V.int 1, V.int (if ((kP b st : Nat) : Int) > 1 then ((kP b st : Nat) : Int) else 1)])))
    refine ⟨q3, rfl, ⟨_, SqL.of upd_same⟩, fun D hD => ?_⟩
    generalize upd (upd H2 l (.lst [V.int 1, V.int (if ((kP b st : Nat) : Int) > 1 then ((kP b st : Nat) : Int) else 1)])) q3 (.lst (nv (dvL (kN b st) r) ++ [V.int 1, V.int (if ((kP b st : Nat) : Int) > 1 then ((kP b st : Nat) : Int) else 1)])) = H3 at hq3' s3 s13 hD ⊢
    clear exs eM sl hl hq3
    refine dc_list (xs := nv xs) (fun i H' => Same H3 H' ∧ ∃ ps, H' D = some (.dK (pk ps)) ∧ (keys ps).Nodup ∧ (∀ n, n ∈ keys ps ↔ n ∈ xs.take i) ∧ ps.length ≤ i) ⟨same_new hD, [], upd_same, .nil, fun n => by simp [keys], Nat.le_refl _⟩ ?_ ?_ ?_
    · rintro i H' _ ⟨s', _⟩
      exact SqL.of (s' _ _ hq3')
    · rintro i v H' hi ⟨s', ps, h1, h2, h3, h4⟩
      obtain ⟨n, hn, rfl⟩ := nv_at hi
      obtain ⟨ps', e1, e2⟩ := put_keys ps n (.bl true)
      have e3 : ps'.length = (if n ∈ keys ps then keys ps else keys ps ++ [n]).length := by rw [← e2, keys, List.length_map]
      have kl : (keys ps).length = ps.length := List.length_map _
      refine ⟨rfl, ?_⟩
      unfold tYes
      dsimp only
      rw [if_pos rfl]
      refine ⟨_, rfl, pk ps, Sum.inl (n : Int), rfl, h1, ?_, same_put s' hD, ps', by rw [upd_same, e1], ?_, fun k => ?_, ?_⟩
      · rw [pk, List.length_map]
        exact lsize (by have := idx_lt hn; omega)
      · rw [e2]
        split
        · exact h2
        · rename_i c
          refine List.nodup_append.mpr ⟨h2, by simp, fun u hu v hv => ?_⟩
          rw [List.mem_singleton.mp hv]
          exact fun z => c (z ▸ hu)
      · rw [e2, take_snoc hn, List.mem_append, ← h3 k]
        split
        · rename_i c
          constructor
          · exact .inl
          · rintro (h | h)
            · exact h
            · rw [List.mem_singleton.mp h]; exact c
        · rw [List.mem_append]
      · rw [e3]
        split
        · omega
        · rw [List.length_append]; show _ + 1 ≤ _; omega
    · rintro H' ⟨s', ps, h1, h2, h3, h4⟩
      rw [nv_len, List.take_length] at h3
      rw [nv_len] at h4
      refine ⟨D, pk ps, (keys ps).map fun n : Nat => (n : Int), rfl, .of h1, ?_, ?_, fun zs p' z1 z2 hp' => ?_⟩
      · rw [pk, keys, List.map_map, List.map_map, List.map_map]; rfl
      · rw [List.length_map, keys, List.length_map]; omega
      have zp : ∀ v ∈ zs, ∃ n ∈ keys ps, v = (n : Int) := fun v hv => by
        obtain ⟨n, hn, rfl⟩ := List.mem_map.mp (z1.mem_iff.mp hv)
        exact ⟨n, hn, rfl⟩
      obtain ⟨ts, rfl⟩ : ∃ ts, zs = ri ts := ⟨zs.map Int.toNat, by
        rw [ri, List.map_map]
        refine (List.map_id zs).symm.trans (List.map_congr_left fun v hv => ?_)
        obtain ⟨n, _, rfl⟩ := zp v hv
        simp⟩
      have tm : ∀ n, n ∈ ts ↔ n ∈ xs := fun n => by
        rw [← h3 n]
        have := z1.mem_iff (a := (n : Int))
        rw [ri, List.mem_map, List.mem_map] at this
        constructor
        · intro h
          obtain ⟨k, hk, e⟩ := this.mp ⟨n, h, rfl⟩
          have : k = n := by omega
          exact this ▸ hk
        · intro h
          obtain ⟨k, hk, e⟩ := this.mpr ⟨n, h, rfl⟩
          have : k = n := by omega
          exact this ▸ hk
      have tn : ts.Nodup := by
        have := z1.nodup_iff.mpr (List.pairwise_map.mpr (h2.imp fun {x y} h => fun e => h (by omega)))
        rw [ri] at this
        exact (List.pairwise_map.mp this).imp fun {x y} h => fun e => h (by rw [e])
      have tu : ts.Pairwise (· < ·) := by
        rw [ri] at z2
        exact ((List.pairwise_map.mp z2).and tn).imp fun {x y} h => by have := h.1; have := h.2; omega
      have tl : ts.length < 64 := by
        have := z1.length_eq
        rw [ri, List.length_map, List.length_map, keys, List.length_map] at this
        omega
      have s5 : Same H3 (upd H' p' (.lst ((ri ts).map V.int))) := s'.trans (same_new hp')
      have s15 := s13.trans s5
      have s35 := s3.trans s5
      refine ⟨_, rfl, p', rfl, ⟨_, SqL.of upd_same⟩, fun D2 hD2 => ?_⟩
      refine lc_listFS (rightV b st bd ys) (xs := nv ts) upd_same hD2 (by rw [nv_len]; exact lsize (by omega)) (fun _ => rfl) ?_ ?_ ?_
      · intro i v hi H5 Q' s6 qq
        obtain ⟨m, hm, rfl⟩ := nv_at hi
        obtain ⟨m1, m2⟩ := x1 m ((tm m).mp (List.mem_of_getElem? hm))
        have hz5 := hz.mono (s15.trans s6)
        obtain ⟨dz5, hz5'⟩ := id hz5
        refine ⟨_, rfl, _, rfl, z, dz5, _, rfl, hz5', z, _, _, _, _, _, rfl, hz5, ⟨_, .int _⟩, fun t e => by injection e with e; omega, kP_lt ok.ok, _, rfl, _, rfl, ?_⟩
        have eR : rightV b st bd ys (.int (m : Int)) = (inS b st m && decide (ys = mults bd m)) := rfl
        rw [eR] at qq
        rw [inV'_pos m1]
        cases c : inS b st m with
        | false =>
          rw [c] at qq
          have c : inK (kN b st) (kU st) (kP b st) (kQ b st) m = false := c
          rw [c]
          exact qq _ (Same.refl _)
        | true =>
          rw [c, Bool.true_and] at qq
          have c : inK (kN b st) (kU st) (kP b st) (kQ b st) m = true := c
          rw [c]
          have hW5 := hW.mono (s35.trans s6)
          have hx5 := (s35.trans s6) _ _ hx
          exact ⟨_, rfl, x, dx, _, rfl, hx5, wf_no _ _ _ _ (by decide +kernel) (by decide +kernel) (by decide +kernel) (by decide +kernel), _, rfl, x, b, st, bd, ys, m, rfl, hW5, ok, m1, m2, fun H6 s7 => ⟨_, rfl, qq _ s7⟩⟩
      · intro i v hi H5 Q' s6 qq
        exact ⟨_, rfl, qq⟩
      · intro H5 s6 hD5
        refine kk D2 (ts.filter fun m => rightB b st bd ys m) H5 (s35.trans s6) (same_none s35 hD2) ?_ (tu.filter _) (fun m => ?_) (Nat.lt_of_le_of_lt (List.length_filter_le _ _) tl)
        · rw [hD5]
          rw [nv_filter (fun m => rightB b st bd ys m) (rightV b st bd ys) (fun n => rfl)]
        · rw [List.mem_filter, tm]
          constructor
          · rintro ⟨h, h'⟩
            exact ⟨(x1 m h).1, h'⟩
          · rintro ⟨h, h'⟩
            refine ⟨xall m h ?_, h'⟩
            have h' : (inS b st m && decide (ys = mults bd m)) = true := h'
            rw [Bool.and_eq_true] at h'
            exact h'.1
end

end Fold
namespace Fold
open PySem PySem.Spec PyProof.Rows L2
/-! ### numbers and the states a search reaches -/
theorem wsum_snoc {b : Nat} {row : List Int} (hb : 2 ≤ b) {f : Nat} (hf : f < b) : ∀ (i n j : Nat), n < b ^ i → wsum b row (n + f * b ^ i) j = wsum b row n j + f * row.getD ((j + i) % row.length) 0
  | 0, n, j, hn => by
    have e : n = 0 := by rw [Nat.pow_zero] at hn; omega
    rw [e, Nat.pow_zero, Nat.mul_one, Nat.zero_add, wsum_zero, Nat.add_zero]
    by_cases c : f = 0
    · rw [c, wsum_zero]; simp
    · rw [wsum_pos row j hb (by omega), Nat.mod_eq_of_lt hf, Nat.div_eq_of_lt hf, wsum_zero]
      grind
  | i + 1, n, j, hn => by
    have hP : b ^ (i + 1) = b * b ^ i := by rw [Nat.pow_succ, Nat.mul_comm]
    have e0 : n + f * b ^ (i + 1) = n + b * (f * b ^ i) := by rw [hP]; grind
    have e1 : (n + f * b ^ (i + 1)) % b = n % b := by rw [e0, Nat.add_mul_mod_self_left]
    have e2 : (n + f * b ^ (i + 1)) / b = n / b + f * b ^ i := by rw [e0, Nat.add_mul_div_left _ _ (by omega)]
    have hq : n / b < b ^ i := by
      rw [Nat.div_lt_iff_lt_mul (by omega), Nat.mul_comm, ← hP]
      exact hn
    have ih := wsum_snoc (row := row) hb hf i (n / b) (j + 1) hq
    have e3 : (j + 1 + i) % row.length = (j + (i + 1)) % row.length := by rw [show j + 1 + i = j + (i + 1) by omega]
    rw [e3] at ih
    by_cases c : n + f * b ^ (i + 1) = 0
    · have h1 : n = 0 := by omega
      have h2 : f = 0 := by
        have : f * b ^ (i + 1) = 0 := by omega
        rcases Nat.mul_eq_zero.mp this with h | h
        · exact h
        · have := Nat.pow_pos (n := i + 1) (show 0 < b by omega)
          omega
      rw [h1, h2]
      simp
    · rw [wsum_pos row j hb (by omega), e1, e2, ih]
      by_cases c2 : n = 0
      · subst c2
        rw [wsum_zero, Nat.zero_div, wsum_zero, Nat.zero_mod]
        simp
      · rw [wsum_pos row j hb (by omega)]
        grind
/-- a number's figures lead from a state to a state -/
theorem Rc.num {b m : Nat} {row : List Int} (hb : 2 ≤ b) : ∀ (n : Nat) {i : Nat} {N S : Int}, Rc b m row i N S → ∃ i', Rc b m row i' (N + (n : Int) * ((b ^ i : Nat) : Int)) (S + wsum b row n i) := by
  intro n
  induction n using Nat.strongRecOn with
  | ind n ih =>
    intro i N S h
    by_cases c : n = 0
    · subst c
      refine ⟨i, ?_⟩
      rw [wsum_zero]
      simpa using h
    · obtain ⟨i', h'⟩ := ih (n / b) (Nat.div_lt_self (by omega) (by omega)) (h.next (f := n % b) (Nat.mod_lt _ (by omega)))
      refine ⟨i', ?_⟩
      rw [wsum_pos row i hb (by omega)]
      have e1 : N + ((n % b : Nat) : Int) * ((b ^ i : Nat) : Int) + ((n / b : Nat) : Int) * ((b ^ (i + 1) : Nat) : Int) = N + (n : Int) * ((b ^ i : Nat) : Int) := by
        have hn : (n : Int) = (b : Int) * ((n / b : Nat) : Int) + ((n % b : Nat) : Int) := by exact_mod_cast (Nat.div_add_mod n b).symm
        rw [Nat.pow_succ, Int.natCast_mul]
        generalize ((b ^ i : Nat) : Int) = P at *
        rw [hn]
        generalize ((n / b : Nat) : Int) = q at *
        generalize ((n % b : Nat) : Int) = r at *
        grind
      have e2 : S + ((n % b : Nat) : Int) * row.getD (i % row.length) 0 + wsum b row (n / b) (i + 1) = S + (row.getD (i % row.length) 0 * ((n % b : Nat) : Int) + wsum b row (n / b) (i + 1)) := by grind
      rw [← e1, ← e2]
      exact h'
theorem abs_mod {z : Int} {m : Nat} (hm : 1 ≤ m) : z.natAbs % m = 0 ↔ z % (m : Int) = 0 := by
  rw [← Nat.dvd_iff_mod_eq_zero, ← Int.dvd_iff_emod_eq_zero]
  exact (Int.ofNat_dvd_left (n := m) (z := z)).symm
/-- what keeps a modulus says so of every number -/
theorem keeps_all {b m : Nat} {s : Stp} (hb : 2 ≤ b) (ho : OkS b s) (m1 : 1 ≤ m) (h : inS b s m = true) (n : Nat) : n % m = 0 ↔ mk b s n % m = 0 := by
  cases s with
  | weigh row =>
    have g := (weigh_thm (b := b) (m := m) (row := row) hb ho.1 m1).mpr h
    obtain ⟨i', hr⟩ := Rc.num hb n (Rc.zero (b := b) (m := m) (row := row))
    have := g _ hr
    show n % m = 0 ↔ (wsum b row n 0).natAbs % m = 0
    rw [abs_mod m1]
    have this : (0 + (n : Int) * ((b ^ 0 : Nat) : Int)) % (m : Int) = 0 ↔ (0 + wsum b row n 0) % (m : Int) = 0 := this
    rw [Nat.pow_zero, Int.natCast_one, Int.mul_one, Int.zero_add, Int.zero_add, ← Int.natCast_emod] at this
    rw [← this]
    exact ⟨fun e => by omega, fun e => by omega⟩
  | fold k x y =>
    have g := (fold_thm (b := b) (k := k) (m := m) (x := x) (y := y) hb ho.1 m1).mpr h
    have hP : 2 ≤ b ^ k := by
      have h1 : b ^ 1 ≤ b ^ k := Nat.pow_le_pow_right (by omega) ho.1
      rw [Nat.pow_one] at h1
      omega
    have f := fold_all hP m1 g (n / b ^ k) (n % b ^ k) (Nat.mod_lt _ (by omega))
    show n % m = 0 ↔ (x * ((n / b ^ k : Nat) : Int) + y * ((n % b ^ k : Nat) : Int)).natAbs % m = 0
    rw [abs_mod m1, ← Int.dvd_iff_emod_eq_zero, ← f]
    have e : ((n / b ^ k : Nat) : Int) * ((b ^ k : Nat) : Int) + ((n % b ^ k : Nat) : Int) = (n : Int) := by
      have := Nat.div_add_mod n (b ^ k)
      rw [Nat.mul_comm] at this
      exact_mod_cast this
    rw [e, Int.natCast_dvd_natCast]
    exact Nat.dvd_iff_mod_eq_zero.symm

end Fold
namespace Fold
open PySem PySem.Spec PyProof.Rows L2
/-! ### the states are reached within few figures -/
def runQ (b m : Nat) (row : List Int) (z : Q4) (ds : List Nat) : Q4 := ds.foldl (nxQ b m row) z
def s0Q (m : Nat) : Q4 := ⟨0, 0, 1 % (m : Int), 0⟩
theorem runQ_app (b m : Nat) (row : List Int) (z : Q4) (ds es : List Nat) : runQ b m row z (ds ++ es) = runQ b m row (runQ b m row z ds) es := List.foldl_append
theorem rch_run {b m : Nat} {row : List Int} {z : Q4} (h : Rch b m row z) : ∃ ds : List Nat, (∀ f ∈ ds, f < b) ∧ runQ b m row (s0Q m) ds = z := by
  induction h with
  | start => exact ⟨[], (fun f m => (nomatch m)), rfl⟩
  | @next z f h hf ih =>
    obtain ⟨ds, h1, h2⟩ := ih
    refine ⟨ds ++ [f], fun g hg => ?_, by rw [runQ_app, h2]; rfl⟩
    rcases List.mem_append.mp hg with hg | hg
    · exact h1 g hg
    · rw [List.mem_singleton.mp hg]; exact hf
theorem run_box {b m : Nat} {row : List Int} (hm : 1 ≤ m) (hl : 1 ≤ row.length) : ∀ (ds : List Nat) (z : Q4), boxQ m row.length z → boxQ m row.length (runQ b m row z ds)
  | [], _, h => h
  | f :: ds, z, _ => run_box hm hl ds _ (box_nx hm hl)
theorem run_short {b m : Nat} {row : List Int} (hm : 1 ≤ m) (hl : 1 ≤ row.length) : ∀ (N : Nat) (ds : List Nat), ds.length = N → (∀ f ∈ ds, f < b) → ∃ es : List Nat, es.length ≤ m * m * m * row.length ∧ (∀ f ∈ es, f < b) ∧ runQ b m row (s0Q m) es = runQ b m row (s0Q m) ds := by
  intro N
  induction N using Nat.strongRecOn with
  | ind N ih =>
    intro ds hN hd
    by_cases c : N ≤ m * m * m * row.length
    · exact ⟨ds, by omega, hd, rfl⟩
    · have : ∃ x y, x < y ∧ y ≤ N ∧ runQ b m row (s0Q m) (ds.take x) = runQ b m row (s0Q m) (ds.take y) := by
        refine Classical.byContradiction fun no => ?_
        have nd : ((List.range (N + 1)).map fun k => runQ b m row (s0Q m) (ds.take k)).Nodup := by
          refine List.pairwise_map.mpr (List.Pairwise.imp_of_mem (fun {x y} hx hy hlt => fun e => no ⟨x, y, hlt, ?_, e⟩) List.pairwise_lt_range)
          have := List.mem_range.mp hy
          omega
        have := box_bound (m := m) (t := row.length) nd fun z hz => by
          obtain ⟨k, _, rfl⟩ := List.mem_map.mp hz
          exact run_box hm hl _ _ (box_start hm hl)
        rw [List.length_map, List.length_range] at this
        omega
      obtain ⟨x, y, hxy, hy, e⟩ := this
      have le : (ds.take x ++ ds.drop y).length < N := by
        rw [List.length_append, List.length_take, List.length_drop]
        omega
      obtain ⟨es, h1, h2, h3⟩ := ih _ le (ds.take x ++ ds.drop y) rfl fun f hf => by
        rcases List.mem_append.mp hf with hf | hf
        · exact hd f (List.mem_of_mem_take hf)
        · exact hd f (List.mem_of_mem_drop hf)
      refine ⟨es, h1, h2, h3.trans ?_⟩
      rw [runQ_app, e, ← runQ_app, List.take_append_drop]
/-- the number whose figures these are -/
def numQ (b : Nat) : List Nat → Nat
  | [] => 0
  | f :: ds => f + b * numQ b ds
theorem numQ_lt {b : Nat} (hb : 2 ≤ b) : ∀ {ds : List Nat}, (∀ f ∈ ds, f < b) → numQ b ds < b ^ ds.length
  | [], _ => Nat.one_pos
  | f :: ds, h => by
    have ih := numQ_lt hb fun g m => h g (List.mem_cons_of_mem _ m)
    have hf := h f List.mem_cons_self
    have : b * (numQ b ds + 1) ≤ b * b ^ ds.length := Nat.mul_le_mul_left b ih
    rw [List.length_cons, Nat.pow_succ, Nat.mul_comm (b ^ ds.length)]
    show f + b * numQ b ds < _
    rw [Nat.mul_add, Nat.mul_one] at this
    omega

end Fold
namespace Fold
open PySem PySem.Spec PyProof.Rows L2
theorem nx_eq {b m : Nat} {row : List Int} (i : Nat) (N S : Int) (f : Nat) : nxQ b m row ⟨N % m, S % m, ((b ^ i : Nat) : Int) % m, i % row.length⟩ f = ⟨(N + f * ((b ^ i : Nat) : Int)) % m, (S + f * row.getD (i % row.length) 0) % m, ((b ^ (i + 1) : Nat) : Int) % m, (i + 1) % row.length⟩ := by
  simp only [nxQ]
  congr 1
  · rw [Int.emod_add_emod, Int.add_emod, Int.mul_emod, Int.emod_emod, ← Int.mul_emod, ← Int.add_emod]
  · rw [Int.emod_add_emod]
  · rw [Nat.pow_succ, Int.natCast_mul, Int.mul_emod, Int.emod_emod, ← Int.mul_emod]
  · rw [Nat.mod_add_mod]
theorem wsum_cons {b : Nat} {row : List Int} (hb : 2 ≤ b) {f : Nat} (hf : f < b) (n i : Nat) : wsum b row (f + b * n) i = f * row.getD (i % row.length) 0 + wsum b row n (i + 1) := by
  by_cases c : f + b * n = 0
  · have h1 : f = 0 := by omega
    have h2 : n = 0 := by
      have : b * n = 0 := by omega
      rcases Nat.mul_eq_zero.mp this with h | h
      · omega
      · exact h
    rw [h1, h2, Nat.mul_zero, Nat.add_zero, wsum_zero, wsum_zero]
    simp
  · rw [wsum_pos row i hb (by omega), Nat.add_mul_mod_self_left, Nat.mod_eq_of_lt hf, Nat.add_mul_div_left _ _ (by omega), Nat.div_eq_of_lt hf, Nat.zero_add, Int.mul_comm]
theorem run_num {b m : Nat} {row : List Int} (hb : 2 ≤ b) : ∀ (ds : List Nat) (i : Nat) (N S : Int), (∀ f ∈ ds, f < b) →
    runQ b m row ⟨N % m, S % m, ((b ^ i : Nat) : Int) % m, i % row.length⟩ ds = ⟨(N + (numQ b ds : Int) * ((b ^ i : Nat) : Int)) % m, (S + wsum b row (numQ b ds) i) % m, ((b ^ (i + ds.length) : Nat) : Int) % m, (i + ds.length) % row.length⟩
  | [], i, N, S, _ => by
    show (⟨_, _, _, _⟩ : Q4) = _
    simp [numQ, wsum_zero]
  | f :: ds, i, N, S, h => by
    have ih := run_num (m := m) (row := row) hb ds (i + 1) (N + f * ((b ^ i : Nat) : Int)) (S + f * row.getD (i % row.length) 0) fun g m => h g (List.mem_cons_of_mem _ m)
    show runQ b m row (nxQ b m row _ f) ds = _
    rw [nx_eq, ih]
    have e1 : N + (f : Int) * ((b ^ i : Nat) : Int) + (numQ b ds : Int) * ((b ^ (i + 1) : Nat) : Int) = N + (numQ b (f :: ds) : Int) * ((b ^ i : Nat) : Int) := by
      have hn : (numQ b (f :: ds) : Int) = (f : Int) + (b : Int) * (numQ b ds : Int) := by show ((f + b * numQ b ds : Nat) : Int) = _; rw [Int.natCast_add, Int.natCast_mul]
      rw [hn, Nat.pow_succ, Int.natCast_mul]
      generalize ((b ^ i : Nat) : Int) = P
      generalize (numQ b ds : Int) = q
      grind
    have e2 : S + (f : Int) * row.getD (i % row.length) 0 + wsum b row (numQ b ds) (i + 1) = S + wsum b row (numQ b (f :: ds)) i := by
      show _ = S + wsum b row (f + b * numQ b ds) i
      rw [wsum_cons hb (h f List.mem_cons_self)]
      grind
    rw [e1, e2, List.length_cons, show i + 1 + ds.length = i + (ds.length + 1) by omega]
/-- where a modulus is not kept a number of few figures shows it -/
theorem bad_num {b m : Nat} {row : List Int} (hb : 2 ≤ b) (hl : 1 ≤ row.length) (m1 : 1 ≤ m) (h : inS b (.weigh row) m = false) : ∃ n, n < b ^ (m * m * m * row.length) ∧ ¬ (n % m = 0 ↔ mk b (.weigh row) n % m = 0) := by
  have : ∃ z, Rch b m row z ∧ ¬ goodQ z := by
    refine Classical.byContradiction fun no => ?_
    have := (weigh_thm (b := b) (m := m) (row := row) hb hl m1).mp fun z hz => Classical.byContradiction fun g => no ⟨z, hz, g⟩
    rw [h] at this
    cases this
  obtain ⟨z, hz, hg⟩ := this
  obtain ⟨ds, hd, hr⟩ := rch_run hz
  obtain ⟨es, el, eb, er⟩ := run_short m1 hl _ ds rfl hd
  have e0 : s0Q m = ⟨(0 : Int) % m, (0 : Int) % m, ((b ^ 0 : Nat) : Int) % m, 0 % row.length⟩ := by
    rw [Int.zero_emod, Nat.zero_mod, Nat.pow_zero]; rfl
  have hn := run_num (m := m) (row := row) hb es 0 0 0 eb
  rw [← e0, er, hr] at hn
  refine ⟨numQ b es, Nat.lt_of_lt_of_le (numQ_lt hb eb) (Nat.pow_le_pow_right (by omega) el), fun g => hg ?_⟩
  rw [hn]
  show (0 + (numQ b es : Int) * ((b ^ 0 : Nat) : Int)) % (m : Int) = 0 ↔ (0 + wsum b row (numQ b es) 0) % (m : Int) = 0
  rw [Nat.pow_zero, Int.natCast_one, Int.mul_one, Int.zero_add, Int.zero_add, ← Int.natCast_emod, ← abs_mod m1]
  have g : numQ b es % m = 0 ↔ (wsum b row (numQ b es) 0).natAbs % m = 0 := g
  rw [← g]
  exact ⟨fun e => by omega, fun e => by omega⟩

end Fold
namespace Fold
open PySem PySem.Spec PyProof.Rows L2
/-! ### great numbers at which a step errs -/
theorem getD_small {row : List Int} (h : ∀ v ∈ row, -12 ≤ v ∧ v ≤ 12) (j : Nat) : (row.getD j 0).natAbs ≤ 12 := by
  rw [List.getD_eq_getElem?_getD]
  cases e : row[j]? with
  | none => decide
  | some v =>
    have := h v (List.mem_of_getElem? e)
    show v.natAbs ≤ 12
    omega
theorem wsum_fig {b : Nat} {row : List Int} (hb : 2 ≤ b ∧ b ≤ 12) (h : ∀ v ∈ row, -12 ≤ v ∧ v ≤ 12) : ∀ (i n j : Nat), n < b ^ i → (wsum b row n j).natAbs ≤ 132 * i
  | 0, n, j, hn => by
    have e : n = 0 := by rw [Nat.pow_zero] at hn; omega
    rw [e, wsum_zero]
    exact Nat.zero_le _
  | i + 1, n, j, hn => by
    by_cases c : n = 0
    · rw [c, wsum_zero]
      exact Nat.zero_le _
    · have hq : n / b < b ^ i := by
        rw [Nat.div_lt_iff_lt_mul (by omega), ← Nat.pow_succ]
        exact hn
      have ih := wsum_fig hb h i (n / b) (j + 1) hq
      rw [wsum_pos row j hb.1 (by omega)]
      have h1 : (row.getD (j % row.length) 0 * ((n % b : Nat) : Int)).natAbs ≤ 12 * 11 := by
        rw [Int.natAbs_mul, Int.natAbs_natCast]
        exact Nat.mul_le_mul (getD_small h _) (by have := Nat.mod_lt n (show 0 < b by omega); omega)
      have := Int.natAbs_add_le (row.getD (j % row.length) 0 * ((n % b : Nat) : Int)) (wsum b row (n / b) (j + 1))
      omega
theorem pe60 {b m : Nat} (hb : 2 ≤ b ∧ b ≤ 12) (hm : 1 ≤ m ∧ m ≤ 14) : ∀ k, b ^ ((k + 1) * 60) % m = b ^ 60 % m
  | 0 => by rw [Nat.zero_add, Nat.one_mul]
  | k + 1 => by
    have h := (show ∀ (b : Fin 13) (m : Fin 15), 2 ≤ b.val → 1 ≤ m.val → (b.val ^ 60 % m.val) * (b.val ^ 60 % m.val) % m.val = b.val ^ 60 % m.val by decide +kernel) ⟨b, by omega⟩ ⟨m, by omega⟩ hb.1 hm.1
    have h : (b ^ 60 % m) * (b ^ 60 % m) % m = b ^ 60 % m := h
    rw [Nat.succ_mul (k + 1), Nat.pow_add, Nat.mul_mod, pe60 hb hm k]
    exact h
theorem ones {b m : Nat} {row : List Int} (hb : 2 ≤ b ∧ b ≤ 12) (hm : 1 ≤ m ∧ m ≤ 14) (ht : row.length ∣ 60) {n j0 : Nat} (hn : n < b ^ ((j0 + 1) * 60)) : ∀ c : Nat, ∃ n', n' < b ^ ((j0 + 1 + c) * 60) ∧ (1 ≤ c → b ^ 60 ≤ n') ∧ n' % m = (n + c * b ^ 60) % m ∧ wsum b row n' 0 = wsum b row n 0 + c * row.getD 0 0
  | 0 => ⟨n, hn, fun h => absurd h (by decide), by rw [Nat.zero_mul, Nat.add_zero], by simp⟩
  | c + 1 => by
    obtain ⟨n', h1, h2, h3, h4⟩ := ones hb hm ht hn c
    have hj : b ^ 60 ≤ b ^ ((j0 + 1 + c) * 60) := Nat.pow_le_pow_right (by omega) (by omega)
    have e0 : (0 + (j0 + 1 + c) * 60) % row.length = 0 := by
      rw [Nat.zero_add]
      exact Nat.mod_eq_zero_of_dvd (Nat.dvd_trans ht (Nat.dvd_mul_left _ _))
    refine ⟨n' + 1 * b ^ ((j0 + 1 + c) * 60), ?_, fun _ => by omega, ?_, ?_⟩
    · have e : b ^ ((j0 + 1 + (c + 1)) * 60) = b ^ ((j0 + 1 + c) * 60) * b ^ 60 := by
        rw [← Nat.pow_add]
        congr 1
        omega
      have : 2 ≤ b ^ 60 := Nat.le_trans hb.1 (Nat.le_self_pow (by decide) b)
      have := Nat.mul_le_mul_left (b ^ ((j0 + 1 + c) * 60)) this
      rw [e]
      omega
    · rw [Nat.one_mul, show j0 + 1 + c = j0 + c + 1 by omega, Nat.add_mod, h3, pe60 hb hm, ← Nat.add_mod]
      congr 1
      rw [Nat.succ_mul]
      omega
    · rw [wsum_snoc hb.1 (by omega) _ _ _ h1, h4, e0, Int.natCast_add]
      grind
/-- a great number at which a weighing errs -/
theorem big_weigh {b m : Nat} {row : List Int} (hb : 2 ≤ b ∧ b ≤ 12) (ho : OkS b (.weigh row)) (hl : row.length ≤ 4) (hm : 1 ≤ m ∧ m ≤ 14) (h : inS b (.weigh row) m = false) :
    ∃ n, 1000 ≤ n ∧ n < b ^ 13000 ∧ ¬ (n % m = 0 ↔ mk b (.weigh row) n % m = 0) := by
  obtain ⟨n, h1, h2⟩ := bad_num hb.1 ho.1 hm.1 h
  have hM : m * m * m * row.length ≤ 10976 := Nat.le_trans (Nat.mul_le_mul (Nat.mul_le_mul (Nat.mul_le_mul hm.2 hm.2) hm.2) hl) (by decide)
  have ht : row.length ∣ 60 := by
    have o1 := ho.1
    obtain e | e | e | e : row.length = 1 ∨ row.length = 2 ∨ row.length = 3 ∨ row.length = 4 := by omega
    all_goals rw [e]; decide
  have hn : n < b ^ ((182 + 1) * 60) := Nat.lt_of_lt_of_le h1 (Nat.pow_le_pow_right (by omega) (by omega))
  obtain ⟨n', g1, g2, g3, g4⟩ := ones hb hm ht hn m
  have g2 := g2 hm.1
  have e60 : 1000 ≤ b ^ 60 := Nat.le_trans (by decide : 1000 ≤ 2 ^ 10) (Nat.le_trans (Nat.pow_le_pow_left hb.1 10) (Nat.pow_le_pow_right (by omega) (by decide)))
  refine ⟨n', by omega, Nat.lt_of_lt_of_le g1 (Nat.pow_le_pow_right (by omega) (by omega)), fun g => h2 ?_⟩
  have e1 : n' % m = n % m := by rw [g3, Nat.add_mul_mod_self_left]
  have e2 : (wsum b row n' 0).natAbs % m = 0 ↔ (wsum b row n 0).natAbs % m = 0 := by
    rw [abs_mod hm.1, abs_mod hm.1, g4, Int.add_mul_emod_self_left]
  have g : n' % m = 0 ↔ (wsum b row n' 0).natAbs % m = 0 := g
  show n % m = 0 ↔ (wsum b row n 0).natAbs % m = 0
  rw [← e2, ← e1]
  exact g
/-- a great number at which a fold errs -/
theorem big_fold {b m k : Nat} {x y : Int} (hb : 2 ≤ b ∧ b ≤ 12) (ho : OkS b (.fold k x y)) (hm : 1 ≤ m ∧ m ≤ 14) (h : inS b (.fold k x y) m = false) :
    ∃ n, 1000 ≤ n ∧ n < 1000000 ∧ ¬ (n % m = 0 ↔ mk b (.fold k x y) n % m = 0) := by
  obtain ⟨o1, o2, o3, o4, o5⟩ := id ho
  have hP : 2 ≤ b ^ k := by
    have h1 : b ^ 1 ≤ b ^ k := Nat.pow_le_pow_right (by omega) o1
    rw [Nat.pow_one] at h1
    omega
  have : ¬ FoldOk b k x y m := fun c => by
    rw [(fold_thm hb.1 o1 hm.1).mp c] at h
    cases h
  obtain ⟨q, hq, r, hr, hne⟩ : ∃ q, q < m ∧ ∃ r, r < b ^ k ∧ ¬ (((q : Int) * ((b ^ k : Nat) : Int) + r) % m = 0 ↔ (x * q + y * r) % m = 0) := by
    refine Classical.byContradiction fun no => this fun q hq r hr => Classical.byContradiction fun c => no ⟨q, hq, r, hr, c⟩
  have z1 : 1000 * 2 ≤ (q + m * 1000) * b ^ k := Nat.mul_le_mul (by omega) hP
  have z2 : (q + m * 1000) * b ^ k ≤ 14014 * 60 := Nat.mul_le_mul (by omega) o3
  refine ⟨(q + m * 1000) * b ^ k + r, by omega, by omega, fun g => hne ?_⟩
  have ed : ((q + m * 1000) * b ^ k + r) / b ^ k = q + m * 1000 := by
    rw [Nat.add_comm, Nat.add_mul_div_right _ _ (by omega), Nat.div_eq_of_lt hr, Nat.zero_add]
  have em : ((q + m * 1000) * b ^ k + r) % b ^ k = r := by
    rw [Nat.add_comm, Nat.add_mul_mod_self_right, Nat.mod_eq_of_lt hr]
  have g : ((q + m * 1000) * b ^ k + r) % m = 0 ↔ (x * ((((q + m * 1000) * b ^ k + r) / b ^ k : Nat) : Int) + y * ((((q + m * 1000) * b ^ k + r) % b ^ k : Nat) : Int)).natAbs % m = 0 := g
  rw [ed, em, abs_mod hm.1] at g
  have e1 : ((q + m * 1000) * b ^ k + r) % m = 0 ↔ ((q : Int) * ((b ^ k : Nat) : Int) + r) % m = 0 := by
    have e : (((q + m * 1000) * b ^ k + r : Nat) : Int) = ((q : Int) * ((b ^ k : Nat) : Int) + r) + (m : Int) * (1000 * ((b ^ k : Nat) : Int)) := by
      simp only [Int.natCast_add, Int.natCast_mul]
      generalize ((b ^ k : Nat) : Int) = P
      grind
    have e2 : (((q + m * 1000) * b ^ k + r : Nat) : Int) % (m : Int) = ((q : Int) * ((b ^ k : Nat) : Int) + r) % m := by rw [e, Int.add_mul_emod_self_left]
    rw [← e2, ← Int.natCast_emod]
    exact ⟨fun h => by omega, fun h => by omega⟩
  have e3 : (x * ((q + m * 1000 : Nat) : Int) + y * (r : Int)) % (m : Int) = (x * q + y * r) % m := by
    have e : x * ((q + m * 1000 : Nat) : Int) + y * (r : Int) = (x * q + y * r) + (m : Int) * (1000 * x) := by
      simp only [Int.natCast_add, Int.natCast_mul]
      grind
    rw [e, Int.add_mul_emod_self_left]
  rw [e3] at g
  exact e1.symm.trans g

end Fold
namespace Fold
open PySem PySem.Spec PyProof.Rows L2
/-! ### what a way says, and where it errs -/
theorem err_exists {b m : Nat} {s : Stp} (hb : 2 ≤ b ∧ b ≤ 12) (ho : OkS b s) (hL : OkL s) (hm : 1 ≤ m ∧ m ≤ 14) (h : inS b s m = false) :
    ∃ n, 1000 ≤ n ∧ ¬ (n % m = 0 ↔ mk b s n % m = 0) ∧ mk b s n < 9000000 ∧ ∀ i, i ≤ n → RowN b s i := by
  cases s with
  | weigh row =>
    obtain ⟨n, h1, h2, h3⟩ := big_weigh hb ho hL.1 hm h
    have le : ∀ i, i ≤ n → mk b (.weigh row) i < 9000000 := fun i hi => by
      have := wsum_fig hb ho.2.2 13000 i 0 (by omega)
      show (wsum b row i 0).natAbs < 9000000
      omega
    exact ⟨n, h1, h3, le n (Nat.le_refl _), fun i hi => .inr (le i hi)⟩
  | fold k x y =>
    obtain ⟨n, h1, h2, h3⟩ := big_fold hb ho hm h
    obtain ⟨o1, o2, o3, o4, o5⟩ := id ho
    refine ⟨n, h1, h3, ?_, fun i hi => .inl (by omega)⟩
    show (x * ((n / b ^ k : Nat) : Int) + y * ((n % b ^ k : Nat) : Int)).natAbs < 9000000
    have hP : 2 ≤ b ^ k := by
      have h1 : b ^ 1 ≤ b ^ k := Nat.pow_le_pow_right (by omega) o1
      rw [Nat.pow_one] at h1
      omega
    have a1 : (x * ((n / b ^ k : Nat) : Int)).natAbs ≤ 12 * (n / 2) := by
      rw [Int.natAbs_mul, Int.natAbs_natCast]
      exact Nat.mul_le_mul (by omega) (Nat.div_le_div_left hP (by decide))
    have a2 : (y * ((n % b ^ k : Nat) : Int)).natAbs ≤ 12 * 60 := by
      rw [Int.natAbs_mul, Int.natAbs_natCast]
      exact Nat.mul_le_mul (by omega) (by have := Nat.mod_lt n (show 0 < b ^ k by omega); omega)
    have := Int.natAbs_add_le (x * ((n / b ^ k : Nat) : Int)) (y * ((n % b ^ k : Nat) : Int))
    omega
def SaidP (f : Nat → Nat) (bd : Nat) (ys : List Nat) (n : Nat) : Prop := ∃ k, RowIs f bd n k ∧ it f k n ∈ ys
theorem said_of {f : Nat → Nat} {bd n k : Nat} {ys : List Nat} (h : RowIs f bd n k) : SaidP f bd ys n ↔ it f k n ∈ ys :=
  ⟨fun ⟨k', h', m⟩ => by rw [h.same h']; exact m, fun m => ⟨k, h, m⟩⟩
theorem said_small {f : Nat → Nat} {bd n : Nat} {ys : List Nat} (h : n < bd) : SaidP f bd ys n ↔ n ∈ ys :=
  said_of (k := 0) ⟨h, fun i hi => absurd hi (Nat.not_lt_zero _)⟩
theorem said_step {f : Nat → Nat} {bd n : Nat} {ys : List Nat} (h : bd ≤ n) : SaidP f bd ys n ↔ SaidP f bd ys (f n) := by
  constructor
  · rintro ⟨k, hk, m⟩
    cases k with
    | zero => exact absurd hk.end_ (Nat.not_lt.mpr h)
    | succ k => exact ⟨k, ⟨hk.end_, fun i hi => hk.before (i + 1) (by omega)⟩, m⟩
  · rintro ⟨k, hk, m⟩
    refine ⟨k + 1, ⟨hk.end_, fun i hi => ?_⟩, m⟩
    cases i with
    | zero => exact h
    | succ i => exact hk.before i (by omega)
/-- a right way says what is so -/
theorem right_says {b m bd : Nat} {s : Stp} {ys : List Nat} (ok : WOk b s bd ys) (m1 : 1 ≤ m) (hi : inS b s m = true) (hy : ys = mults bd m) (n : Nat) : SaidP (mk b s) bd ys n ↔ n % m = 0 := by
  obtain ⟨k, hk⟩ := ok.row n
  induction k generalizing n with
  | zero =>
    have hn : n < bd := hk.end_
    rw [said_small hn, hy, mults_mem m1]
    exact ⟨fun h => h.2, fun h => ⟨hn, h⟩⟩
  | succ k ih =>
    have hn : bd ≤ n := hk.before 0 (by omega)
    rw [said_step hn, ih (mk b s n) ⟨hk.end_, fun i hi => hk.before (i + 1) (by omega)⟩]
    exact (keeps_all ok.hb.1 ok.ok m1 hi n).symm
/-- a way that is not right errs at a number -/
theorem err_says {b m bd : Nat} {s : Stp} {ys : List Nat} (ok : WOk b s bd ys) (hL : OkL s) (hm : 1 ≤ m ∧ m ≤ 14) (h : ¬ (ys = mults bd m ∧ inS b s m = true)) : ∃ n, ¬ (SaidP (mk b s) bd ys n ↔ n % m = 0) ∧ ∀ i, i ≤ n → RowN b s i := by
  have b2 := ok.b2
  by_cases hy : ys = mults bd m
  · have hi : inS b s m = false := by
      rw [Bool.eq_false_iff]
      exact fun c => h ⟨hy, c⟩
    obtain ⟨n, h1, h2, h3, h4⟩ := err_exists ok.hb ok.ok hL hm hi
    by_cases c : SaidP (mk b s) bd ys n ↔ n % m = 0
    · refine ⟨mk b s n, fun g => h2 ?_, fun i hi => .inl (by omega)⟩
      rw [← c, said_step (by omega)]
      exact g
    · exact ⟨n, c, h4⟩
  · obtain ⟨n, hn, hne⟩ : ∃ n, n < bd ∧ ¬ (n ∈ ys ↔ n % m = 0) := by
      refine Classical.byContradiction fun no => hy ?_
      have e : ∀ n, n ∈ ys ↔ n ∈ mults bd m := fun n => by
        rw [mults_mem hm.1]
        constructor
        · intro g
          have hn := ok.lt n g
          exact ⟨hn, (Classical.byContradiction fun c => no ⟨n, hn, c⟩ : n ∈ ys ↔ n % m = 0).mp g⟩
        · rintro ⟨hn, g⟩
          exact (Classical.byContradiction fun c => no ⟨n, hn, c⟩ : n ∈ ys ↔ n % m = 0).mpr g
      have u1 := ok.up
      have u2 := mults_up (b := bd) hm.1
      exact List.Perm.eq_of_pairwise (le := (· < ·)) (fun x y _ _ h1 h2 => by omega) u1 u2 (perm_nodup (u1.imp fun h => Nat.ne_of_lt h) (u2.imp fun h => Nat.ne_of_lt h) e)
    refine ⟨n, ?_, fun i hi => .inl (by omega)⟩
    rw [said_small hn]
    exact hne

end Fold
namespace Fold
open PySem PySem.Spec PyProof.Rows L2
section
variable {X : Cx} {C : Addr} {m : Str} {sp : Sp} {k j : Nat} {o e : Expr} {es : List Expr} {ta : TE} {t : TA} {pos apos : Pos} {W : WX}
/-- o.m(e, ..), what is raised wished for at the slots -/
theorem pe_o1 {pl : Sem Bool} (c : Mt (L2.CX X.prog X.w) X.prog X.w X.K X.mg X.base k C m sp) (hr : Room j X.A) (hk : k ≤ j) (tk : Takes X W) (he : PE X o ta) (cl : Cls X.K C) (ha : PA X (e :: es) t)
    (hst : starEach (e :: es) X.env = (false, eval e X.env) :: starEach es X.env := by rfl) (hpl : (backTo pos (starEach es X.env)).any (·.1) = false := by rfl)
    (ht : eval (.Call (.Attribute o m apos) (e :: es) [] pos) X.env = (do
      let ov ← eval o X.env
      standAt apos.atName
      let (f, first) ← holding [ov] (getMethod ov m pl)
      callWith pos f first (backTo pos (starEach (e :: es) X.env)) (backToKw pos (keywordEach [] X.env))) := by rfl) :
    PE X (.Call (.Attribute o m apos) (e :: es) [] pos) (tMethS C m sp (WE W) ta t) := by
  obtain ⟨f, fd, ps, F, hm, b⟩ := c.ex
  refine ⟨fun pins s σ H Q I h => ?_⟩
  refine PySem.W.methodCall_KW (pl := pl) (thn (he.run pins s σ H _ I h) fun u s1 ⟨x, H1, I1, rx, a, dx, fs, ex, ea, l, q⟩ => ?_) ht
  subst ex
  obtain rfl : u = Value.ref a := rx
  refine getmeth_ok I1 ea cl hm l ?_
  refine PySem.W.callWith_K (first := [.ref a]) (h₀ := X.base) I1.ok.mod.kin hm.kp (thn (ha.run pos pins s1 σ H1 _ I1 q) fun us s2 ⟨vs, H2, I2, r, q2⟩ => ⟨I2.kIn, ?_⟩) hst hpl
  exact run_fnS (us := .ref a :: us) (vs := .ref a :: vs) F (hr.mono hk) b (passAt tk σ) I2 (.cons rfl r) q2
end
section
variable {P : Program} {w : World} {K : PySem.W.Frag} {mg : Str → Option Value} {base : Heap} {a : Ad}
def sp_Way_least_error (a : Ad) : Sp := fun vs H Q _ => ∃ (x : Addr) (b : Nat) (s : Stp) (bd : Nat) (ys : List Nat) (m : Nat), vs = [.ref x, .int m] ∧ WayAt a.Way H x b s bd ys ∧ WOk b s bd ys ∧ OkL s ∧ (1 ≤ m ∧ m ≤ 14) ∧
  (ys = mults bd m ∧ inS b s m = true → ∀ H', Same H H' → Q .non H') ∧
  (¬ (ys = mults bd m ∧ inS b s m = true) → ∀ (n : Nat) H', Same H H' → ¬ (SaidP (mk b s) bd ys n ↔ n % m = 0) → (∀ i, i < n → (SaidP (mk b s) bd ys i ↔ i % m = 0)) → Q (.int n) H')
theorem ok_Way_least_error (T : Txt K mg a) : Mt (L2.CX P w) P w K mg base 7 a.Way "least_error" (sp_Way_least_error a) := by
  have o_Way_is_right := ok_Way_is_right (P := P) (w := w) (base := base) T; have o_Way_says := ok_Way_says (P := P) (w := w) (base := base) T
  refine T.d_Way_least_error.m1 sc_Way_least_error (fun vs H Q E h => ?_) (fun f cdv A outer s H vs Q E hr h => ?_)
  · obtain ⟨x, b, st, bd, ys, m, rfl, _⟩ := h
    rfl
  · obtain ⟨x, b, st, bd, ys, m, rfl, hW, ok, hL, hm, kR, kE⟩ := h
    have tk := takes_of (X := cxOf (L2.CX P w) P w K mg base ["self", "m", "n"] "Way.least_error" (defScope s_Way_least_error) f cdv A outer s H E) rfl rfl rfl rfl
    refine ⟨_, (pss_cons (ps_if (pt_val (pe_o1 o_Way_is_right hr (by decide) tk (pv 0) T.cl_Way.cl (by exact (pa_cons (pv 1) pa_nil)))) (pss_one (ps_ret pe_non)) pss_nil)
      (pss_cons (ps_set (i := 2) sc_Way_least_error.nd rfl (Or.inl rfl) pe_int)
      (pss_cons (ps_while (passes_of rfl) (pt_cmpR op_eq (pe_o0 o_Way_says hr (by decide) (pv 0) T.cl_Way.cl (pa_cons (pv 2) pa_nil)) (pe_cmpR op_eq (pe_op op_mod (pv 2) (pv 1)) pe_int (nomark _)) (nomark _)) (pss_one (ps_aug (i := 2) sc_Way_least_error.nd rfl (Or.inl rfl) pe_int ip_add)))
      (pss_one (ps_ret (pv 2)))))), ?_⟩
    obtain ⟨dx, p, y, hx, hS, hy⟩ := id hW
    refine ⟨_, rfl, x, dx, _, rfl, hx, wf_no _ _ _ _ (by decide +kernel) (by decide +kernel) (by decide +kernel) (by decide +kernel), _, rfl, x, b, st, bd, ys, m, rfl, hW, ok, hm.1, by omega, fun H1 s1 => ⟨_, rfl, ?_⟩⟩
    by_cases c : ys = mults bd m ∧ inS b st m = true
    · exact iteT' (by rw [decide_eq_true c.1, c.2]; rfl) (kR c H1 s1)
    · refine iteF' ?_ (g_next (g_setC ?_))
      · rw [Bool.and_eq_false_iff]
        by_cases c1 : ys = mults bd m
        · exact .inr (Bool.eq_false_iff.mpr fun c2 => c ⟨c1, c2⟩)
        · exact .inl (decide_eq_false c1)
      obtain ⟨e, he, hle⟩ := err_says ok hL hm c
      refine ⟨fun μ σ H' => ∃ n : Nat, μ = e - n ∧ n ≤ e ∧ Same H H' ∧ (∀ i, i < n → (SaidP (mk b st) bd ys i ↔ i % m = 0)) ∧ σ = [some (.ref x), some (.int m), some (.int n)], ⟨_, 0, rfl, Nat.zero_le _, s1, fun i hi => absurd hi (Nat.not_lt_zero _), rfl⟩, ?_⟩
      rintro μ σ H2 ⟨n, rfl, ne, s2, hn, rfl⟩
      have hx2 := s2 _ _ hx
      refine ⟨_, rfl, x, dx, _, rfl, hx2, wf_no _ _ _ _ (by decide +kernel) (by decide +kernel) (by decide +kernel) (by decide +kernel), _, rfl, x, n, b, st, bd, ys, rfl, hW.mono s2, ok, hle n ne, fun k H3 hk s3 => ?_⟩
      have hs := said_of (ys := ys) hk
      have em : decide (V.int ((n : Int) % (m : Int)) = V.int 0) = decide (n % m = 0) := by
        rw [dec_int, ← Int.natCast_emod]
        exact decide_eq_decide.mpr ⟨fun h => by omega, fun h => by omega⟩
      refine ⟨_, rfl, _, rfl, _, _, rfl, rfl, (by show (0 : Int) < (m : Int); omega), rfl, rfl, _, rfl, ?_⟩
      by_cases g : SaidP (mk b st) bd ys n ↔ n % m = 0
      · have gd : decide (it (mk b st) k n ∈ ys) = decide (n % m = 0) := decide_eq_decide.mpr (hs.symm.trans g)
        have ne' : n ≠ e := fun z => he (z ▸ g)
        refine iteT' (decide_eq_true (congrArg V.bl (gd.trans em.symm))) ⟨_, fun _ _ h => h, _, rfl, _, _, rfl, rfl, e - (n + 1), by omega, n + 1, rfl, by omega, s2.trans s3, fun i hi => ?_, ?_⟩
        · by_cases z : i = n
          · rw [z]; exact g
          · exact hn i (by omega)
        · show [_, _, some (V.int ((n : Int) + 1))] = _
          rw [show (n : Int) + 1 = ((n + 1 : Nat) : Int) by omega]
      · refine iteF' (decide_eq_false fun z => g ?_) ⟨_, rfl, kE c n H3 (s2.trans s3) g hn⟩
        have z : V.bl (decide (it (mk b st) k n ∈ ys)) = V.bl (decide (V.int ((n : Int) % (m : Int)) = V.int 0)) := z
        injection z with z
        rw [em] at z
        exact hs.trans (decide_eq_decide.mp z)
end

end Fold
namespace Fold
open PySem PySem.Spec PyProof.Rows L2
section
variable {P : Program} {w : World} {K : PySem.W.Frag} {mg : Str → Option Value} {base : Heap} {a : Ad}
def sp_law_wrong : Sp := fun vs H Q _ => ∃ (b : Nat) (p y : Addr) (s : Stp) (bd : Nat) (ys : List Nat) (m : Nat), vs = [.int b, .ref p, .int bd, .ref y, .int m] ∧ StepAt H p s ∧ H y = some (.lst (nv ys)) ∧ WOk b s bd ys ∧ (1 ≤ m ∧ m ≤ 14) ∧
  ((∀ n, n < 2000 → (SaidP (mk b s) bd ys n ↔ n % m = 0)) → ∀ H', Same H H' → Q .non H') ∧
  (∀ (n : Nat) H', Same H H' → n < 2000 → ¬ (SaidP (mk b s) bd ys n ↔ n % m = 0) → (∀ i, i < n → (SaidP (mk b s) bd ys i ↔ i % m = 0)) → Q (.int n) H')
theorem ok__law_wrong (T : Txt K mg a) : C0 P w K mg base 4 "_law_wrong" sp_law_wrong := by
  have c__law_row := ok__law_row (P := P) (w := w) (base := base) T
  refine T.d__law_wrong.c0 sc__law_wrong (fun vs H Q E h => ?_) (fun f cdv A outer s H vs Q E hr h => ?_)
  · obtain ⟨b, p, y, st, bd, ys, m, rfl, _⟩ := h
    rfl
  · obtain ⟨b, p, y, st, bd, ys, m, rfl, hS, hy, ok, hm, k1, k2⟩ := h
    refine ⟨_, (pss_cons (ps_for PassesOwn.never rfl (pi_range1 (by rfl) T.n_range (pa_cons pe_int pa_nil)) (pg_name (i := 5) sc__law_wrong.nd rfl (Or.inl rfl)) (pss_one (ps_if (pt_cmpR op_ne (pe_cmpR op_in_seq (pe_ix ix_list (pe_0 c__law_row hr (by decide) (pa_cons (pv 0) (pa_cons (pv 1) (pa_cons (pv 2) (pa_cons (pv 5) pa_nil))))) (pe_un un_neg pe_int) (fun _ _ => rfl)) (pv 3) (by with_unfolding_all rfl)) (pe_cmpR op_eq (pe_op op_mod (pv 5) (pv 4)) pe_int (nomark _)) (nomark _)) (pss_one (ps_ret (pv 5))) pss_nil)))
      (pss_one (ps_ret pe_non))), ?_⟩
    refine ⟨_, rfl, by decide, by decide, for_range (fun i σ H' => Same H H' ∧ (∀ j, j < i → (SaidP (mk b st) bd ys j ↔ j % m = 0)) ∧ ∃ v5, σ = [some (.int b), some (.ref p), some (.int bd), some (.ref y), some (.int m), v5]) ⟨Same.refl _, fun j hj => absurd hj (Nat.not_lt_zero _), none, rfl⟩ ?_ ?_⟩
    · rintro i σ H1 hi ⟨s1, hj, v5, rfl⟩
      have hi' : i < 2000 := hi
      refine ⟨_, rfl, _, rfl, _, rfl, _, rfl, b, p, st, bd, i, ys, (by rw [Int.zero_add]; rfl), hS.mono s1, ok, by omega, fun kk q H2 hk kl s2 q0 hq => ?_⟩
      have hs := said_of (ys := ys) hk
      have em : decide (V.int ((0 + (i : Int)) % (m : Int)) = V.int 0) = decide (i % m = 0) := by
        rw [dec_int, Int.zero_add, ← Int.natCast_emod]
        exact decide_eq_decide.mpr ⟨fun h => by omega, fun h => by omega⟩
      refine ⟨_, rfl, q, _, _, .int (it (mk b st) kk i : Nat), rfl, rfl, SqL.of hq, atI_orb, _, rfl, y, _, rfl, .inl (SqL.of ((s1.trans s2) _ _ hy)), rfl, nv_flat _, _, rfl, _, rfl, _, _, rfl, rfl, (by show (0 : Int) < (m : Int); omega), rfl, rfl, _, rfl, ?_⟩
      have ei : inV (.int (it (mk b st) kk i : Nat)) (nv ys) = decide (it (mk b st) kk i ∈ ys) := inV_nv _ _
      by_cases g : SaidP (mk b st) bd ys i ↔ i % m = 0
      · have gd : decide (it (mk b st) kk i ∈ ys) = decide (i % m = 0) := decide_eq_decide.mpr (hs.symm.trans g)
        refine iteF' ?_ ⟨s1.trans s2, fun j hj' => ?_, _, rfl⟩
        · rw [Bool.not_eq_false', decide_eq_true_eq]
          exact congrArg V.bl ((ei.trans gd).trans em.symm)
        · by_cases z : j = i
          · rw [z]; exact g
          · exact hj j (by omega)
      · refine iteT' ?_ ⟨_, rfl, q_eq (k2 i H2 (s1.trans s2) hi' g hj) (by rw [Int.zero_add])⟩
        rw [Bool.not_eq_true', decide_eq_false_iff_not]
        intro z
        refine g ?_
        have z : V.bl (inV (.int (it (mk b st) kk i : Nat)) (nv ys)) = V.bl (decide (V.int ((0 + (i : Int)) % (m : Int)) = V.int 0)) := z
        injection z with z
        rw [ei, em] at z
        exact hs.trans (decide_eq_decide.mp z)
    · rintro σ H1 ⟨s1, hj, v5, rfl⟩
      exact k1 (fun n hn => hj n hn) H1 s1
end

end Fold
namespace Fold
open PySem PySem.Spec PyProof.Rows L2
section
variable {X : Cx} {C : Addr} {m : Str} {sp : Sp} {k j : Nat} {o e : Expr} {es : List Expr} {ta : TE} {t : TA} {pos apos : Pos}
/-- o.m(e, ..), m raises, nobody catches it here -/
theorem pe_o1L {pl : Sem Bool} (c : Mt (L2.CX X.prog X.w) X.prog X.w X.K X.mg X.base k C m sp) (hr : Room j X.A) (hk : k ≤ j) (he : PE X o ta) (cl : Cls X.K C) (ha : PA X (e :: es) t)
    (hst : starEach (e :: es) X.env = (false, eval e X.env) :: starEach es X.env := by rfl) (hpl : (backTo pos (starEach es X.env)).any (·.1) = false := by rfl)
    (ht : eval (.Call (.Attribute o m apos) (e :: es) [] pos) X.env = (do
      let ov ← eval o X.env
      standAt apos.atName
      let (f, first) ← holding [ov] (getMethod ov m pl)
      callWith pos f first (backTo pos (starEach (e :: es) X.env)) (backToKw pos (keywordEach [] X.env))) := by rfl) :
    PE X (.Call (.Attribute o m apos) (e :: es) [] pos) (tMeth C m sp [] E0 ta t) := by
  obtain ⟨f, fd, ps, F, M, b⟩ := c.ex
  exact pe_meth he cl M F (hr.mono hk) b .nil passL ha hst hpl ht
end

end Fold
namespace Fold
open PySem PySem.Spec PyProof.Rows L2
/-- the law's promise -/
def spLaw (K : PySem.W.Frag) : Sp := fun vs H Q _ => ∃ (p : Addr) (ns : List Int), vs = [.ref p] ∧ SqL K H p (ns.map V.int) ∧ ns.length ≤ 63 ∧ ∀ H', Q (.bl true) H'

end Fold
namespace Fold
open PySem PySem.Spec PyProof.Rows L2
section
variable {P : Program} {w : World} {K : PySem.W.Frag} {mg : Str → Option Value} {base : Heap} {a : Ad}
theorem law_fn {f : Addr} {fd : FuncData} (T : Txt K mg a) (F : Fun K "law" "law" s_law f fd) : FnOk P w K mg base CX0 9 f fd ["_law_script"] (spLaw K) := by
  have c__law_begin := ok__law_begin (P := P) (w := w) (base := base) T; have c__law_way := ok__law_way (P := P) (w := w) (base := base) T; have m_Way := (ok_Way___init__ (P := P) (w := w) (base := base) T).make T.cl_Way; have o_Way_right := ok_Way_right (P := P) (w := w) (base := base) T; have c__law_wrong := ok__law_wrong (P := P) (w := w) (base := base) T; have o_Way_is_right := ok_Way_is_right (P := P) (w := w) (base := base) T; have c__law_draw := ok__law_draw (P := P) (w := w) (base := base) T; have o_Way_least_error := ok_Way_least_error (P := P) (w := w) (base := base) T; have c__law_keeps := ok__law_keeps (P := P) (w := w) (base := base) T; have c_keeps := ok_keeps (P := P) (w := w) (base := base) T
  refine F.ok sc_law (fun vs H Q E h => ?_) (fun cdv A outer s H vs Q E hr h => ?_)
  · obtain ⟨p, ns, rfl, _⟩ := h
    rfl
  · obtain ⟨sp, ns, rfl, hp, hn, k⟩ := h
    refine ⟨_, (C8.pss_cut (ps_set (i := 1) sc_law.nd rfl (Or.inl rfl) (pe_0 c__law_begin hr (by decide) (pa_cons (pv 0) pa_nil)))
      (C8.pss_cut (ps_asg (pe_0 c__law_way hr (by decide) (pa_cons (pv 1) pa_nil)) (pg_unl rfl (pgs_cons (pg_name (i := 2) sc_law.nd rfl (Or.inl rfl)) (pgs_cons (pg_name (i := 3) sc_law.nd rfl (Or.inl rfl)) (pgs_cons (pg_name (i := 4) sc_law.nd rfl (Or.inl rfl)) (pgs_cons (pg_name (i := 5) sc_law.nd rfl (Or.inl rfl)) pgs_nil))))))
      (C8.pss_cut (ps_set (i := 6) sc_law.nd rfl (Or.inl rfl) (pe_m10 m_Way hr (by decide) (pa_cons (pv 2) (pa_cons (pv 3) (pa_cons (pv 4) (pa_cons (pe_tupleOf (by rfl) T.n_tuple (pv 5)) pa_nil))))))
      (C8.pss_cut (ps_set (i := 7) sc_law.nd rfl (Or.inl rfl) (pe_o100 o_Way_right hr (by decide) (pv 6) T.cl_Way.cl))
      (C8.pss_cut (ps_for PassesOwn.never rfl (pi_range2 (by rfl) T.n_range (pa_cons pe_int (pa_cons pe_int pa_nil))) (pg_name (i := 8) sc_law.nd rfl (Or.inl rfl)) (C8.pss_cut (ps_set (i := 9) sc_law.nd rfl (Or.inl rfl) (pe_cmpR (op_eqD (hu64 hr)) (pv 5) (pe_listRg3 rfl (by rfl) T.n_list (prg_3 (by rfl) T.n_range pe_int (pv 4) (pv 8))) (nomark _)))
      (C8.pss_cut (ps_set (i := 10) sc_law.nd rfl (Or.inl rfl) (pe_and (pv 9) (pe_one (pe_0 c__law_keeps hr (by decide) (pa_cons (pv 2) (pa_cons (pv 3) (pa_cons (pv 8) pa_nil)))))))
      (pss_one (ps_if (pw_or (pt_cmpR op_ne (pe_o1L o_Way_is_right hr (by decide) (pv 6) T.cl_Way.cl (pa_cons (pv 8) pa_nil)) (pv 10) (nomark _)) (pw_or1 (pt_cmpR op_ne (pe_cmpR op_in_seq (pv 8) (pv 7) (by with_unfolding_all rfl)) (pv 10) (nomark _)))).pt (pss_one (ps_ret pe_bl)) pss_nil)))))
      (C8.pss_cut (ps_set (i := 8) sc_law.nd rfl (Or.inl rfl) (pe_op op_add pe_int (pe_0 c__law_draw hr (by decide) (pa_cons (pv 1) (pa_cons pe_int pa_nil)))))
      (C8.pss_cut (ps_set (i := 11) sc_law.nd rfl (Or.inl rfl) (pe_0 c__law_wrong hr (by decide) (pa_cons (pv 2) (pa_cons (pv 3) (pa_cons (pv 4) (pa_cons (pv 5) (pa_cons (pv 8) pa_nil)))))))
      (C8.pss_cut (ps_if (pt_val (pe_o1L o_Way_is_right hr (by decide) (pv 6) T.cl_Way.cl (pa_cons (pv 8) pa_nil))) (pss_one (ps_ret (pe_and (pe_cmpR op_isN (pv 11) pe_non (nomark _)) (pe_one (pe_cmpR op_isN (pe_o1L o_Way_least_error hr (by decide) (pv 6) T.cl_Way.cl (pa_cons (pv 8) pa_nil)) pe_non (nomark _)))))) pss_nil)
      (C8.pss_cut (ps_if (pt_cmpR op_isN (pv 11) pe_non (nomark _)) (pss_one (ps_ret (pe_cmpR op_ge (pe_o1L o_Way_least_error hr (by decide) (pv 6) T.cl_Way.cl (pa_cons (pv 8) pa_nil)) pe_int (nomark _)))) pss_nil)
      (C8.pss_cut (ps_for PassesOwn.never rfl (pi_list (pv 7)) (pg_name (i := 12) sc_law.nd rfl (Or.inl rfl)) (pss_one (ps_if (pw_or (pt_not (pt_val (pe_o1L o_Way_is_right hr (by decide) (pv 6) T.cl_Way.cl (pa_cons (pv 12) pa_nil)))) (pw_or1 (pt_not (pt_val (pe_10 c_keeps hr (by decide) (pa_cons (pv 2) (pa_cons (pv 3) (pa_cons (pv 12) pa_nil)))))))).pt (pss_one (ps_ret pe_bl)) pss_nil)))
      (C8.pss_cut (ps_if (pt_cmpR (op_neD (hu64 hr)) (pv 7) (pe_callB cr_sortedI (by rfl) T.n_sorted b_sorted (pa_cons (pv 7) pa_nil)) (nomark _)) (pss_one (ps_ret pe_bl)) pss_nil)
      (pss_one (ps_ret (pe_cmpR op_eq (pe_o1L o_Way_least_error hr (by decide) (pv 6) T.cl_Way.cl (pa_cons (pv 8) pa_nil)) (pv 11) (nomark _))))))))))))))), ?_⟩
    refine ⟨fun σ H' => ∃ d l, DrawsAt H' d l ∧ σ = [some (.ref sp), some (.ref d), none, none, none, none, none, none, none, none, none, none, none], ?_, ?_⟩
    · exact ⟨_, rfl, sp, ns, rfl, hp, fun d l H1 d0 s1 hD1 => ⟨d, l, hD1, rfl⟩⟩
    rintro _ H1 ⟨d, l, hD1, rfl⟩
    clear hp
    refine ⟨fun σ H' => ∃ (b : Nat) (p : Addr) (st : Stp) (bd : Nat) (y : Addr) (ys : List Nat), StepAt H' p st ∧ WOk b st bd ys ∧ OkL st ∧ H' y = some (.lst (nv ys)) ∧ DrawsAt H' d l ∧ σ = [some (.ref sp), some (.ref d), some (.int (b : Nat)), some (.ref p), some (.int (bd : Nat)), some (.ref y), none, none, none, none, none, none, none], ?_, ?_⟩
    · exact ⟨_, rfl, d, l, rfl, hD1, fun q b p st bd y ys H2 q0 hq hS ok hL y0 hy hD2 u2 => ⟨q, _, rfl, SqL.of hq, rfl, _, _, rfl, _, _, rfl, _, _, rfl, _, _, rfl, rfl, b, p, st, bd, y, ys, hS, ok, hL, hy, hD2, rfl⟩⟩
    rintro _ H2 ⟨b, p, st, bd, y, ys, hS2, ok, hL, hy2, hD2, rfl⟩
    clear hD1
    refine ⟨fun σ H' => ∃ x, WSt a.Way H' d l p y x b st bd ys ∧ σ = [some (.ref sp), some (.ref d), some (.int (b : Nat)), some (.ref p), some (.int (bd : Nat)), some (.ref y), some (.ref x), none, none, none, none, none, none], ?_, ?_⟩
    · refine ⟨_, rfl, _, rfl, _, rfl, _, rfl, .inl ⟨y, _, rfl, SqL.of hy2, fun y2 hy3 => fun x dx hx hdx nx => ?_⟩⟩
      have s3 := same_new (o := HO.tup (nv ys)) hy3
      exact way_ok hx hdx nx ok (hS2.mono s3) upd_same fun H4 hW s4 => ⟨rfl, x, ⟨(hD2.mono s3).mono s4, (hS2.mono s3).mono s4, hW, s4 _ _ (s3 _ _ hy2)⟩, rfl⟩
    rintro _ H3 ⟨x, W3, rfl⟩
    clear hD2 hy2 hS2
    have hb := ok.hb
    have b2 := ok.b2
    refine ⟨fun σ H' => ∃ q7 rs, WSt a.Way H' d l p y x b st bd ys ∧ H' q7 = some (.lst (nv rs)) ∧ rs.Pairwise (· < ·) ∧ (∀ m, m ∈ rs ↔ 1 ≤ m ∧ rightB b st bd ys m = true) ∧ rs.length < 64 ∧ σ = [some (.ref sp), some (.ref d), some (.int (b : Nat)), some (.ref p), some (.int (bd : Nat)), some (.ref y), some (.ref x), some (.ref q7), none, none, none, none, none], ?_, ?_⟩
    · obtain ⟨dx, pw, yw, hx, _, _⟩ := id W3.wy
      exact ⟨_, rfl, x, dx, _, rfl, hx, wf_no _ _ _ _ (by decide +kernel) (by decide +kernel) (by decide +kernel) (by decide +kernel), x, b, st, bd, ys, rfl, W3.wy, ok, rt_ok hb ok.ok hL, fun q7 rs H4 s4 q0 hq up mem len => ⟨q7, rs, W3.mono s4, hq, up, mem, len, rfl⟩⟩
    rintro _ H4 ⟨q7, rs, W4, hr4, up, mem, len, rfl⟩
    clear W3
    -- the moduli to 24
    refine ⟨fun σ H' => WSt a.Way H' d l p y x b st bd ys ∧ H' q7 = some (.lst (nv rs)) ∧ ∃ v8 v9 v10, σ = [some (.ref sp), some (.ref d), some (.int (b : Nat)), some (.ref p), some (.int (bd : Nat)), some (.ref y), some (.ref x), some (.ref q7), v8, v9, v10, none, none], ?_, ?_⟩
    · refine ⟨_, _, rfl, ⟨by decide, by decide, by decide, by decide⟩, for_range (fun i σ H' => WSt a.Way H' d l p y x b st bd ys ∧ H' q7 = some (.lst (nv rs)) ∧ ∃ v8 v9 v10, σ = [some (.ref sp), some (.ref d), some (.int (b : Nat)), some (.ref p), some (.int (bd : Nat)), some (.ref y), some (.ref x), some (.ref q7), v8, v9, v10, none, none]) ⟨W4, hr4, none, none, none, rfl⟩ ?_ ?_⟩
      · rintro i σ H5 hi ⟨W5, hr5, v8, v9, v10, rfl⟩
        have hi : i < 24 := hi
        have ei : (1 : Int) + (i : Int) = ((i + 1 : Nat) : Int) := by omega
        refine ⟨fun σ H' => WSt a.Way H' d l p y x b st bd ys ∧ H' q7 = some (.lst (nv rs)) ∧ ∃ v10, σ = [some (.ref sp), some (.ref d), some (.int (b : Nat)), some (.ref p), some (.int (bd : Nat)), some (.ref y), some (.ref x), some (.ref q7), some (.int (1 + (i : Int))), some (.bl (decide (ys = mults bd (i + 1)))), v10, none, none], ?_, ?_⟩
        · refine ⟨_, rfl, _, rfl, _, rfl, bd, i + 1, rfl, rfl, (by rw [← ei]), by omega, by omega, by omega, fun q8 hq8 => ⟨_, _, iD_dp (ns := ri ys) (SqL.of (kept W5.ye hq8)), iD_dp (ns := ri (mults bd (i + 1))) (SqL.of upd_same), iD_shaped _, iD_shaped _, W5.mono (same_new hq8), same_new hq8 _ _ hr5, v10, ?_⟩⟩
          rw [iD_eqv, show decide (ri ys = ri (mults bd (i + 1))) = decide (ys = mults bd (i + 1)) from decide_eq_decide.mpr ⟨fun h => ri_inj h, fun h => by rw [h]⟩]
          rfl
        rintro _ H6 ⟨W6, hr6, v10, rfl⟩
        refine ⟨fun σ H' => WSt a.Way H' d l p y x b st bd ys ∧ H' q7 = some (.lst (nv rs)) ∧ σ = [some (.ref sp), some (.ref d), some (.int (b : Nat)), some (.ref p), some (.int (bd : Nat)), some (.ref y), some (.ref x), some (.ref q7), some (.int (1 + (i : Int))), some (.bl (decide (ys = mults bd (i + 1)))), some (.bl (decide (ys = mults bd (i + 1)) && inS b st (i + 1))), none, none], ?_, ?_⟩
        · refine ⟨_, rfl, _, rfl, ?_⟩
          cases c : decide (ys = mults bd (i + 1)) with
          | false => exact iteF' rfl ⟨W6, hr6, rfl⟩
          | true => exact iteT' rfl ⟨_, rfl, _, rfl, _, rfl, b, p, st, i + 1, (by rw [ei]; rfl), hb, W6.st, ok.ok, by omega, by omega, fun row _ => by omega, fun H7 s7 => ⟨W6.mono s7, s7 _ _ hr6, by rw [Bool.true_and]; rfl⟩⟩
        rintro _ H7 ⟨W7, hr7, rfl⟩
        obtain ⟨dx, pw, yw, hx, _, _⟩ := id W7.wy
        have mi : (decide (i + 1 ∈ rs)) = (decide (ys = mults bd (i + 1)) && inS b st (i + 1)) := by
          rw [Bool.eq_iff_iff, decide_eq_true_eq, mem, rightB, Bool.and_comm]
          exact ⟨fun h => h.2, fun h => ⟨by omega, h⟩⟩
        refine ⟨_, rfl, x, dx, _, rfl, hx, wf_no _ _ _ _ (by decide +kernel) (by decide +kernel) (by decide +kernel) (by decide +kernel), _, rfl, x, b, st, bd, ys, i + 1, (by rw [ei]; rfl), W7.wy, ok, by omega, by omega, fun H8 s8 => ⟨_, rfl, rfl, _, rfl, iteF' (by rw [Bool.not_eq_false', decide_eq_true_eq]) ?_⟩⟩
        refine ⟨_, rfl, _, rfl, q7, _, rfl, .inl (SqL.of (s8 _ _ hr7)), rfl, nv_flat _, _, rfl, rfl, _, rfl, iteF' ?_ ⟨W7.mono s8, s8 _ _ hr7, _, _, _, rfl⟩⟩
        rw [Bool.not_eq_false', decide_eq_true_eq, ei]
        show V.bl (inV (.int ((i + 1 : Nat) : Int)) (nv rs)) = _
        rw [inV_nv, mi]
      · rintro σ H5 ⟨W5, hr5, v8, v9, v10, rfl⟩
        exact ⟨W5, hr5, _, _, _, rfl⟩
    rintro _ H5 ⟨W5, hr5, v8, v9, v10, rfl⟩
    clear W4 hr4
    refine ⟨fun σ H' => ∃ m : Nat, (1 ≤ m ∧ m ≤ 14) ∧ WSt a.Way H' d l p y x b st bd ys ∧ H' q7 = some (.lst (nv rs)) ∧ σ = [some (.ref sp), some (.ref d), some (.int (b : Nat)), some (.ref p), some (.int (bd : Nat)), some (.ref y), some (.ref x), some (.ref q7), some (.int (m : Nat)), v9, v10, none, none], ?_, ?_⟩
    · refine ⟨_, rfl, d, l, _, rfl, by decide, W5.dr, fun rb H6 b0 b1 hD6 u6 => ⟨_, _, rfl, rfl, ?_⟩⟩
      obtain ⟨rb, rfl⟩ := Int.eq_ofNat_of_zero_le b0
      refine ⟨1 + rb, by omega, W5.but hD6 u6, W5.dr.nums u6 hr5, ?_⟩
      rw [show ((1 + rb : Nat) : Int) = 1 + (rb : Int) by omega]
      rfl
    rintro _ H6 ⟨m, hm, W6, hr6, rfl⟩
    clear W5 hr5
    refine ⟨fun σ H' => ∃ vw, WSt a.Way H' d l p y x b st bd ys ∧ H' q7 = some (.lst (nv rs)) ∧ ((vw = .non ∧ ∀ n, n < 2000 → (SaidP (mk b st) bd ys n ↔ n % m = 0)) ∨ ∃ n : Nat, n < 2000 ∧ ¬ (SaidP (mk b st) bd ys n ↔ n % m = 0) ∧ (∀ i, i < n → (SaidP (mk b st) bd ys i ↔ i % m = 0)) ∧ vw = .int n) ∧ σ = [some (.ref sp), some (.ref d), some (.int (b : Nat)), some (.ref p), some (.int (bd : Nat)), some (.ref y), some (.ref x), some (.ref q7), some (.int (m : Nat)), v9, v10, some vw, none], ?_, ?_⟩
    · exact ⟨_, rfl, _, rfl, _, rfl, _, rfl, _, rfl, b, p, y, st, bd, ys, m, rfl, W6.st, W6.ye, ok, hm, fun g H7 s7 => ⟨_, W6.mono s7, s7 _ _ hr6, .inl ⟨rfl, g⟩, rfl⟩, fun n H7 s7 hn he hl => ⟨_, W6.mono s7, s7 _ _ hr6, .inr ⟨n, hn, he, hl, rfl⟩, rfl⟩⟩
    rintro _ H7 ⟨vw, W7, hr7, hw, rfl⟩
    clear W6 hr6
    refine ⟨fun σ H' => ¬ (ys = mults bd m ∧ inS b st m = true) ∧ WSt a.Way H' d l p y x b st bd ys ∧ H' q7 = some (.lst (nv rs)) ∧ σ = [some (.ref sp), some (.ref d), some (.int (b : Nat)), some (.ref p), some (.int (bd : Nat)), some (.ref y), some (.ref x), some (.ref q7), some (.int (m : Nat)), v9, v10, some vw, none], ?_, ?_⟩
    · obtain ⟨dx, pw, yw, hx, _, _⟩ := id W7.wy
      refine ⟨_, rfl, x, dx, _, rfl, hx, wf_no _ _ _ _ (by decide +kernel) (by decide +kernel) (by decide +kernel) (by decide +kernel), _, rfl, x, b, st, bd, ys, m, rfl, W7.wy, ok, hm.1, by omega, fun H8 s8 => ⟨_, rfl, ?_⟩⟩
      have W8 := W7.mono s8
      have hx8 := s8 _ _ hx
      by_cases c : ys = mults bd m ∧ inS b st m = true
      · refine iteT' (by rw [decide_eq_true c.1, c.2]; rfl) ?_
        rcases hw with ⟨rfl, _⟩ | ⟨n, _, he, _⟩
        · exact ⟨_, rfl, rfl, _, rfl, iteT' rfl ⟨_, rfl, x, dx, _, rfl, hx8, wf_no _ _ _ _ (by decide +kernel) (by decide +kernel) (by decide +kernel) (by decide +kernel), _, rfl, x, b, st, bd, ys, m, rfl, W8.wy, ok, hL, hm, fun _ H9 s9 => ⟨rfl, k _⟩, fun c' => absurd c c'⟩⟩
        · exact absurd (right_says ok hm.1 c.2 c.1 n) he
      · refine iteF' ?_ ⟨c, W8, s8 _ _ hr7, rfl⟩
        rw [Bool.and_eq_false_iff]
        by_cases c1 : ys = mults bd m
        · exact .inr (Bool.eq_false_iff.mpr fun c2 => c ⟨c1, c2⟩)
        · exact .inl (decide_eq_false c1)
    rintro _ H8 ⟨nr, W8, hr8, rfl⟩
    clear W7 hr7
    refine ⟨fun σ H' => ∃ n : Nat, WSt a.Way H' d l p y x b st bd ys ∧ H' q7 = some (.lst (nv rs)) ∧ ¬ (SaidP (mk b st) bd ys n ↔ n % m = 0) ∧ (∀ i, i < n → (SaidP (mk b st) bd ys i ↔ i % m = 0)) ∧ ∃ vw, vw = .int n ∧ σ = [some (.ref sp), some (.ref d), some (.int (b : Nat)), some (.ref p), some (.int (bd : Nat)), some (.ref y), some (.ref x), some (.ref q7), some (.int (m : Nat)), v9, v10, some vw, none], ?_, ?_⟩
    · obtain ⟨dx, pw, yw, hx, _, _⟩ := id W8.wy
      rcases hw with ⟨rfl, g⟩ | ⟨n, hn, he, hl, rfl⟩
      · refine ⟨_, rfl, rfl, _, rfl, iteT' rfl ⟨_, rfl, x, dx, _, rfl, hx, wf_no _ _ _ _ (by decide +kernel) (by decide +kernel) (by decide +kernel) (by decide +kernel), _, rfl, x, b, st, bd, ys, m, rfl, W8.wy, ok, hL, hm, fun c => absurd c nr, fun _ n H9 s9 he hl => ⟨_, _, rfl, rfl, q_eq (k _) ?_⟩⟩⟩
        have : 2000 ≤ n := Nat.le_of_not_lt fun z => he (g n z)
        exact congrArg V.bl (decide_eq_true (by omega))
      · exact ⟨_, rfl, rfl, _, rfl, iteF' rfl ⟨n, W8, hr8, he, hl, _, rfl, rfl⟩⟩
    rintro _ H9 ⟨n, W9, hr9, he, hl, vw, rfl, rfl⟩
    clear W8 hr8 hw
    refine ⟨fun σ H' => WSt a.Way H' d l p y x b st bd ys ∧ H' q7 = some (.lst (nv rs)) ∧ ∃ vw v12, vw = .int n ∧ σ = [some (.ref sp), some (.ref d), some (.int (b : Nat)), some (.ref p), some (.int (bd : Nat)), some (.ref y), some (.ref x), some (.ref q7), some (.int (m : Nat)), v9, v10, some vw, v12], ?_, ?_⟩
    · refine ⟨_, rfl, q7, rfl, ⟨_, SqL.of hr9⟩, for_list (xs := nv rs) (fun i σ H' => WSt a.Way H' d l p y x b st bd ys ∧ H' q7 = some (.lst (nv rs)) ∧ ∃ vw v12, vw = .int n ∧ σ = [some (.ref sp), some (.ref d), some (.int (b : Nat)), some (.ref p), some (.int (bd : Nat)), some (.ref y), some (.ref x), some (.ref q7), some (.int (m : Nat)), v9, v10, some vw, v12]) ⟨W9, hr9, _, none, rfl, rfl⟩ ?_ ?_ ?_⟩
      · rintro i σ H' _ ⟨_, h, _⟩
        exact SqL.of h
      · rintro i v σ H10 hi ⟨W10, hr10, vw, v12, rfl, rfl⟩
        obtain ⟨o, ho, rfl⟩ := nv_at hi
        obtain ⟨o1, oR⟩ := (mem o).mp (List.mem_of_getElem? ho)
        have oR : (inS b st o && decide (ys = mults bd o)) = true := oR
        rw [Bool.and_eq_true, decide_eq_true_eq] at oR
        have o6 : o < 1000000 := by
          have rt := rt_ok hb ok.ok hL
          have r6 := rt.n6
          have p6 := kP_lt ok.ok
          rcases kept_in hb.1 ok.ok ok.en o1 oR.1 with ⟨h1, h2⟩ | h | h
          · have := Nat.le_of_dvd h1 h2
            omega
          · omega
          · omega
        obtain ⟨dx, pw, yw, hx, _, _⟩ := id W10.wy
        refine ⟨_, rfl, x, dx, _, rfl, hx, wf_no _ _ _ _ (by decide +kernel) (by decide +kernel) (by decide +kernel) (by decide +kernel), _, rfl, x, b, st, bd, ys, o, rfl, W10.wy, ok, o1, o6, fun H11 s11 => ⟨_, rfl, iteF' (by rw [decide_eq_true oR.2, oR.1]; rfl) ?_⟩⟩
        have W11 := W10.mono s11
        refine ⟨_, rfl, _, rfl, _, rfl, _, _, _, rfl, ⟨_, .int _⟩, W11.st.known, ⟨_, .int _⟩, fun j e => by injection e with e; omega, fun _ => ⟨b, p, st, rfl, rfl, hb, W11.st, ok.ok, fun H12 s12 => ⟨_, rfl, iteF' ?_ ⟨W11.mono s12, (s11.trans s12) _ _ hr10, _, _, rfl, rfl⟩⟩⟩, fun c => ?_⟩
        · rw [inV'_pos o1]
          have z : inK (kN b st) (kU st) (kP b st) (kQ b st) o = true := oR.1
          rw [z]
          rfl
        · rw [W11.st.ok hb ok.ok] at c
          cases c
      · rintro σ H10 ⟨W10, hr10, vw, v12, rfl, rfl⟩
        exact ⟨W10, hr10, _, _, rfl, rfl⟩
    rintro _ H10 ⟨W10, hr10, vw, v12, rfl, rfl⟩
    clear W9 hr9
    refine ⟨fun σ H' => WSt a.Way H' d l p y x b st bd ys ∧ ∃ vw, vw = .int n ∧ σ = [some (.ref sp), some (.ref d), some (.int (b : Nat)), some (.ref p), some (.int (bd : Nat)), some (.ref y), some (.ref x), some (.ref q7), some (.int (m : Nat)), v9, v10, some vw, v12], ?_, ?_⟩
    · refine ⟨_, rfl, _, rfl, q7, ri rs, rfl, SqL.of hr10, fun ns' p' pm up' hp' => ?_⟩
      have er : ns' = ri rs := List.Perm.eq_of_pairwise (le := (· ≤ ·)) (fun x y _ _ h1 h2 => by omega) up' (by
        rw [ri]
        exact List.pairwise_map.mpr (up.imp fun {x y} h => by omega)) pm
      subst er
      exact ⟨_, _, iD_dp (SqL.of (kept hr10 hp')), iD_dp (SqL.of upd_same), iD_shaped _, iD_shaped _, _, rfl, iteF' (by rw [iD_eqv, decide_eq_true rfl]; rfl) ⟨W10.mono (same_new hp'), _, rfl, rfl⟩⟩
    rintro _ H11 ⟨W11, vw, rfl, rfl⟩
    obtain ⟨dx, pw, yw, hx, _, _⟩ := id W11.wy
    refine ⟨_, rfl, x, dx, _, rfl, hx, wf_no _ _ _ _ (by decide +kernel) (by decide +kernel) (by decide +kernel) (by decide +kernel), _, rfl, x, b, st, bd, ys, m, rfl, W11.wy, ok, hL, hm, fun c => absurd c nr, fun _ n' H12 s12 he' hl' => ⟨_, rfl, rfl, q_eq (k _) ?_⟩⟩
    have : n' = n := by
      rcases Nat.lt_trichotomy n' n with c | c | c
      · exact absurd (hl n' c) he'
      · exact c
      · exact absurd (hl' n c) he
    rw [this]
    exact congrArg V.bl (decide_eq_true rfl)
end

end Fold
namespace Fold
open PySem PySem.Spec PyProof.Rows L2
theorem all_mk {l : PySem.W.OpenLaw} {w : World} {K : PySem.W.Frag} {h : Heap} {mg : Str → Option Value} {fa : Addr} (X : K.In h) (G : h.Ns mainGlobals mg) (hfa : mg "law" = some (.ref fa))
    {t_MOST_POWER : Tok}
    {t_MOST : Tok}
    {t_MOST_BOUND : Tok}
    {C_FoldError : Addr}
    {C_BadStep : Addr}
    {C_BadKept : Addr}
    {C_BadWay : Addr}
    {C_NoEnd : Addr}
    {f_is_whole : Addr} {od_is_whole an_is_whole : Option Addr} {sl_is_whole : Array (Option Value)} {oc_is_whole kV_is_whole dc_is_whole pm_is_whole cd_is_whole ct_is_whole : Value}
    {f_power_of : Addr} {od_power_of an_power_of : Option Addr} {sl_power_of : Array (Option Value)} {oc_power_of kV_power_of dc_power_of pm_power_of cd_power_of ct_power_of : Value}
    {f_is_fold : Addr} {od_is_fold an_is_fold : Option Addr} {sl_is_fold : Array (Option Value)} {oc_is_fold kV_is_fold dc_is_fold pm_is_fold cd_is_fold ct_is_fold : Value}
    {f_is_weigh : Addr} {od_is_weigh an_is_weigh : Option Addr} {sl_is_weigh : Array (Option Value)} {oc_is_weigh kV_is_weigh dc_is_weigh pm_is_weigh cd_is_weigh ct_is_weigh : Value}
    {f_is_step : Addr} {od_is_step an_is_step : Option Addr} {sl_is_step : Array (Option Value)} {oc_is_step kV_is_step dc_is_step pm_is_step cd_is_step ct_is_step : Value}
    {f_check_step : Addr} {od_check_step an_check_step : Option Addr} {sl_check_step : Array (Option Value)} {oc_check_step kV_check_step dc_check_step pm_check_step cd_check_step ct_check_step : Value}
    {f_weighed : Addr} {od_weighed an_weighed : Option Addr} {sl_weighed : Array (Option Value)} {oc_weighed kV_weighed dc_weighed pm_weighed cd_weighed ct_weighed : Value}
    {f_after : Addr} {od_after an_after : Option Addr} {sl_after : Array (Option Value)} {oc_after kV_after dc_after pm_after cd_after ct_after : Value}
    {f_common : Addr} {od_common an_common : Option Addr} {sl_common : Array (Option Value)} {oc_common kV_common dc_common pm_common cd_common ct_common : Value}
    {f_is_number : Addr} {od_is_number an_is_number : Option Addr} {sl_is_number : Array (Option Value)} {oc_is_number kV_is_number dc_is_number pm_is_number cd_is_number ct_is_number : Value}
    {f_weigh_kept : Addr} {od_weigh_kept an_weigh_kept : Option Addr} {sl_weigh_kept : Array (Option Value)} {oc_weigh_kept kV_weigh_kept dc_weigh_kept pm_weigh_kept cd_weigh_kept ct_weigh_kept : Value}
    {f_fold_kept : Addr} {od_fold_kept an_fold_kept : Option Addr} {sl_fold_kept : Array (Option Value)} {oc_fold_kept kV_fold_kept dc_fold_kept pm_fold_kept cd_fold_kept ct_fold_kept : Value}
    {f_kept : Addr} {od_kept an_kept : Option Addr} {sl_kept : Array (Option Value)} {oc_kept kV_kept dc_kept pm_kept cd_kept ct_kept : Value}
    {f_keeps : Addr} {od_keeps an_keeps : Option Addr} {sl_keeps : Array (Option Value)} {oc_keeps kV_keeps dc_keeps pm_keeps cd_keeps ct_keeps : Value}
    {f_fold_reach : Addr} {od_fold_reach an_fold_reach : Option Addr} {sl_fold_reach : Array (Option Value)} {oc_fold_reach kV_fold_reach dc_fold_reach pm_fold_reach cd_fold_reach ct_fold_reach : Value}
    {f_weigh_reach : Addr} {od_weigh_reach an_weigh_reach : Option Addr} {sl_weigh_reach : Array (Option Value)} {oc_weigh_reach kV_weigh_reach dc_weigh_reach pm_weigh_reach cd_weigh_reach ct_weigh_reach : Value}
    {f_reach : Addr} {od_reach an_reach : Option Addr} {sl_reach : Array (Option Value)} {oc_reach kV_reach dc_reach pm_reach cd_reach ct_reach : Value}
    {f_from_least : Addr} {od_from_least an_from_least : Option Addr} {sl_from_least : Array (Option Value)} {oc_from_least kV_from_least dc_from_least pm_from_least cd_from_least ct_from_least : Value}
    {f_all_rings : Addr} {od_all_rings an_all_rings : Option Addr} {sl_all_rings : Array (Option Value)} {oc_all_rings kV_all_rings dc_all_rings pm_all_rings cd_all_rings ct_all_rings : Value}
    {f_rings : Addr} {od_rings an_rings : Option Addr} {sl_rings : Array (Option Value)} {oc_rings kV_rings dc_rings pm_rings cd_rings ct_rings : Value}
    {f_least_bound : Addr} {od_least_bound an_least_bound : Option Addr} {sl_least_bound : Array (Option Value)} {oc_least_bound kV_least_bound dc_least_bound pm_least_bound cd_least_bound ct_least_bound : Value}
    {f_are_numbers : Addr} {od_are_numbers an_are_numbers : Option Addr} {sl_are_numbers : Array (Option Value)} {oc_are_numbers kV_are_numbers dc_are_numbers pm_are_numbers cd_are_numbers ct_are_numbers : Value}
    {f_divisors : Addr} {od_divisors an_divisors : Option Addr} {sl_divisors : Array (Option Value)} {oc_divisors kV_divisors dc_divisors pm_divisors cd_divisors ct_divisors : Value}
    {f__law_begin : Addr} {od__law_begin an__law_begin : Option Addr} {sl__law_begin : Array (Option Value)} {oc__law_begin kV__law_begin dc__law_begin pm__law_begin cd__law_begin ct__law_begin : Value}
    {f__law_draw : Addr} {od__law_draw an__law_draw : Option Addr} {sl__law_draw : Array (Option Value)} {oc__law_draw kV__law_draw dc__law_draw pm__law_draw cd__law_draw ct__law_draw : Value}
    {f__law_power : Addr} {od__law_power an__law_power : Option Addr} {sl__law_power : Array (Option Value)} {oc__law_power kV__law_power dc__law_power pm__law_power cd__law_power ct__law_power : Value}
    {f__law_step : Addr} {od__law_step an__law_step : Option Addr} {sl__law_step : Array (Option Value)} {oc__law_step kV__law_step dc__law_step pm__law_step cd__law_step ct__law_step : Value}
    {f__law_made : Addr} {od__law_made an__law_made : Option Addr} {sl__law_made : Array (Option Value)} {oc__law_made kV__law_made dc__law_made pm__law_made cd__law_made ct__law_made : Value}
    {f__law_fold_keeps : Addr} {od__law_fold_keeps an__law_fold_keeps : Option Addr} {sl__law_fold_keeps : Array (Option Value)} {oc__law_fold_keeps kV__law_fold_keeps dc__law_fold_keeps pm__law_fold_keeps cd__law_fold_keeps ct__law_fold_keeps : Value}
    {f__law_weigh_keeps : Addr} {od__law_weigh_keeps an__law_weigh_keeps : Option Addr} {sl__law_weigh_keeps : Array (Option Value)} {oc__law_weigh_keeps kV__law_weigh_keeps dc__law_weigh_keeps pm__law_weigh_keeps cd__law_weigh_keeps ct__law_weigh_keeps : Value}
    {f__law_keeps : Addr} {od__law_keeps an__law_keeps : Option Addr} {sl__law_keeps : Array (Option Value)} {oc__law_keeps kV__law_keeps dc__law_keeps pm__law_keeps cd__law_keeps ct__law_keeps : Value}
    {f__law_ended : Addr} {od__law_ended an__law_ended : Option Addr} {sl__law_ended : Array (Option Value)} {oc__law_ended kV__law_ended dc__law_ended pm__law_ended cd__law_ended ct__law_ended : Value}
    {f__law_way : Addr} {od__law_way an__law_way : Option Addr} {sl__law_way : Array (Option Value)} {oc__law_way kV__law_way dc__law_way pm__law_way cd__law_way ct__law_way : Value}
    {f__law_row : Addr} {od__law_row an__law_row : Option Addr} {sl__law_row : Array (Option Value)} {oc__law_row kV__law_row dc__law_row pm__law_row cd__law_row ct__law_row : Value}
    {f__law_wrong : Addr} {od__law_wrong an__law_wrong : Option Addr} {sl__law_wrong : Array (Option Value)} {oc__law_wrong kV__law_wrong dc__law_wrong pm__law_wrong cd__law_wrong ct__law_wrong : Value}
    {f_law : Addr} {od_law an_law : Option Addr} {sl_law : Array (Option Value)} {oc_law kV_law dc_law pm_law cd_law ct_law : Value}
    {C_Kept : Addr}
    {f_Kept___init__ : Addr} {od_Kept___init__ an_Kept___init__ : Option Addr} {sl_Kept___init__ : Array (Option Value)} {oc_Kept___init__ kV_Kept___init__ dc_Kept___init__ pm_Kept___init__ cd_Kept___init__ ct_Kept___init__ : Value}
    {f_Kept___contains__ : Addr} {od_Kept___contains__ an_Kept___contains__ : Option Addr} {sl_Kept___contains__ : Array (Option Value)} {oc_Kept___contains__ kV_Kept___contains__ dc_Kept___contains__ pm_Kept___contains__ cd_Kept___contains__ ct_Kept___contains__ : Value}
    {C_Way : Addr}
    {f_Way___init__ : Addr} {od_Way___init__ an_Way___init__ : Option Addr} {sl_Way___init__ : Array (Option Value)} {oc_Way___init__ kV_Way___init__ dc_Way___init__ pm_Way___init__ cd_Way___init__ ct_Way___init__ : Value}
    {f_Way___eq__ : Addr} {od_Way___eq__ an_Way___eq__ : Option Addr} {sl_Way___eq__ : Array (Option Value)} {oc_Way___eq__ kV_Way___eq__ dc_Way___eq__ pm_Way___eq__ cd_Way___eq__ ct_Way___eq__ : Value}
    {f_Way_row : Addr} {od_Way_row an_Way_row : Option Addr} {sl_Way_row : Array (Option Value)} {oc_Way_row kV_Way_row dc_Way_row pm_Way_row cd_Way_row ct_Way_row : Value}
    {f_Way_says : Addr} {od_Way_says an_Way_says : Option Addr} {sl_Way_says : Array (Option Value)} {oc_Way_says kV_Way_says dc_Way_says pm_Way_says cd_Way_says ct_Way_says : Value}
    {f_Way_fits : Addr} {od_Way_fits an_Way_fits : Option Addr} {sl_Way_fits : Array (Option Value)} {oc_Way_fits kV_Way_fits dc_Way_fits pm_Way_fits cd_Way_fits ct_Way_fits : Value}
    {f_Way_is_right : Addr} {od_Way_is_right an_Way_is_right : Option Addr} {sl_Way_is_right : Array (Option Value)} {oc_Way_is_right kV_Way_is_right dc_Way_is_right pm_Way_is_right cd_Way_is_right ct_Way_is_right : Value}
    {f_Way_right : Addr} {od_Way_right an_Way_right : Option Addr} {sl_Way_right : Array (Option Value)} {oc_Way_right kV_Way_right dc_Way_right pm_Way_right cd_Way_right ct_Way_right : Value}
    {f_Way_least_error : Addr} {od_Way_least_error an_Way_least_error : Option Addr} {sl_Way_least_error : Array (Option Value)} {oc_Way_least_error kV_Way_least_error dc_Way_least_error pm_Way_least_error cd_Way_least_error ct_Way_least_error : Value}
    (n_abs : PySem.W.nsIn K mainGlobals "abs" = some none)
    (n_all : PySem.W.nsIn K mainGlobals "all" = some none)
    (n_bool : PySem.W.nsIn K mainGlobals "bool" = some none)
    (n_enumerate : PySem.W.nsIn K mainGlobals "enumerate" = some none)
    (n_int : PySem.W.nsIn K mainGlobals "int" = some none)
    (n_isinstance : PySem.W.nsIn K mainGlobals "isinstance" = some none)
    (n_len : PySem.W.nsIn K mainGlobals "len" = some none)
    (n_list : PySem.W.nsIn K mainGlobals "list" = some none)
    (n_max : PySem.W.nsIn K mainGlobals "max" = some none)
    (n_min : PySem.W.nsIn K mainGlobals "min" = some none)
    (n_range : PySem.W.nsIn K mainGlobals "range" = some none)
    (n_sorted : PySem.W.nsIn K mainGlobals "sorted" = some none)
    (n_str : PySem.W.nsIn K mainGlobals "str" = some none)
    (n_tuple : PySem.W.nsIn K mainGlobals "tuple" = some none)
    (n_zip : PySem.W.nsIn K mainGlobals "zip" = some none)
    (g_MOST_POWER : PySem.W.nsIn K mainGlobals "MOST_POWER" = some (some (.int 60 t_MOST_POWER)))
    (g_MOST : PySem.W.nsIn K mainGlobals "MOST" = some (some (.int 12 t_MOST)))
    (g_MOST_BOUND : PySem.W.nsIn K mainGlobals "MOST_BOUND" = some (some (.int 1000 t_MOST_BOUND)))
    (gx_FoldError : PySem.W.nsIn K mainGlobals "FoldError" = some (some (.ref C_FoldError)))
    (xx_FoldError : PySem.W.excIn K C_FoldError veB "ValueError.__new__" = true)
    (kx_FoldError : PySem.W.keepIn K (.ref C_FoldError) = true)
    (bx_FoldError : PySem.W.subIn K (.ref C_FoldError) (.type "BaseException") = some true)
    (tx_FoldError : PySem.W.typeIn K (.ref C_FoldError) = some (.type "type"))
    (ix_FoldError : PySem.W.isClsIn K C_FoldError = true)
    (gx_BadStep : PySem.W.nsIn K mainGlobals "BadStep" = some (some (.ref C_BadStep)))
    (xx_BadStep : PySem.W.excIn K C_BadStep veB "ValueError.__new__" = true)
    (kx_BadStep : PySem.W.keepIn K (.ref C_BadStep) = true)
    (bx_BadStep : PySem.W.subIn K (.ref C_BadStep) (.type "BaseException") = some true)
    (tx_BadStep : PySem.W.typeIn K (.ref C_BadStep) = some (.type "type"))
    (ix_BadStep : PySem.W.isClsIn K C_BadStep = true)
    (gx_BadKept : PySem.W.nsIn K mainGlobals "BadKept" = some (some (.ref C_BadKept)))
    (xx_BadKept : PySem.W.excIn K C_BadKept veB "ValueError.__new__" = true)
    (kx_BadKept : PySem.W.keepIn K (.ref C_BadKept) = true)
    (bx_BadKept : PySem.W.subIn K (.ref C_BadKept) (.type "BaseException") = some true)
    (tx_BadKept : PySem.W.typeIn K (.ref C_BadKept) = some (.type "type"))
    (ix_BadKept : PySem.W.isClsIn K C_BadKept = true)
    (gx_BadWay : PySem.W.nsIn K mainGlobals "BadWay" = some (some (.ref C_BadWay)))
    (xx_BadWay : PySem.W.excIn K C_BadWay veB "ValueError.__new__" = true)
    (kx_BadWay : PySem.W.keepIn K (.ref C_BadWay) = true)
    (bx_BadWay : PySem.W.subIn K (.ref C_BadWay) (.type "BaseException") = some true)
    (tx_BadWay : PySem.W.typeIn K (.ref C_BadWay) = some (.type "type"))
    (ix_BadWay : PySem.W.isClsIn K C_BadWay = true)
    (gx_NoEnd : PySem.W.nsIn K mainGlobals "NoEnd" = some (some (.ref C_NoEnd)))
    (xx_NoEnd : PySem.W.excIn K C_NoEnd veB "ValueError.__new__" = true)
    (kx_NoEnd : PySem.W.keepIn K (.ref C_NoEnd) = true)
    (bx_NoEnd : PySem.W.subIn K (.ref C_NoEnd) (.type "BaseException") = some true)
    (tx_NoEnd : PySem.W.typeIn K (.ref C_NoEnd) = some (.type "type"))
    (ix_NoEnd : PySem.W.isClsIn K C_NoEnd = true)
    (a_is_whole : PySem.W.nsIn K mainGlobals "is_whole" = some (some (.ref f_is_whole)))
    (l_is_whole : K.lookup f_is_whole = some ⟨oc_is_whole, od_is_whole, .func (PySem.W.fnOf "is_whole" "is_whole" (defArgs s_is_whole) (defBody s_is_whole) (defScope s_is_whole) .none kV_is_whole dc_is_whole pm_is_whole an_is_whole cd_is_whole ct_is_whole), sl_is_whole⟩)
    (c_is_whole : PySem.W.codeIn K cd_is_whole "is_whole" = true)
    (k_is_whole : PySem.W.keepIn K (.ref f_is_whole) = true)
    (a_power_of : PySem.W.nsIn K mainGlobals "power_of" = some (some (.ref f_power_of)))
    (l_power_of : K.lookup f_power_of = some ⟨oc_power_of, od_power_of, .func (PySem.W.fnOf "power_of" "power_of" (defArgs s_power_of) (defBody s_power_of) (defScope s_power_of) .none kV_power_of dc_power_of pm_power_of an_power_of cd_power_of ct_power_of), sl_power_of⟩)
    (c_power_of : PySem.W.codeIn K cd_power_of "power_of" = true)
    (k_power_of : PySem.W.keepIn K (.ref f_power_of) = true)
    (a_is_fold : PySem.W.nsIn K mainGlobals "is_fold" = some (some (.ref f_is_fold)))
    (l_is_fold : K.lookup f_is_fold = some ⟨oc_is_fold, od_is_fold, .func (PySem.W.fnOf "is_fold" "is_fold" (defArgs s_is_fold) (defBody s_is_fold) (defScope s_is_fold) .none kV_is_fold dc_is_fold pm_is_fold an_is_fold cd_is_fold ct_is_fold), sl_is_fold⟩)
    (c_is_fold : PySem.W.codeIn K cd_is_fold "is_fold" = true)
    (k_is_fold : PySem.W.keepIn K (.ref f_is_fold) = true)
    (a_is_weigh : PySem.W.nsIn K mainGlobals "is_weigh" = some (some (.ref f_is_weigh)))
    (l_is_weigh : K.lookup f_is_weigh = some ⟨oc_is_weigh, od_is_weigh, .func (PySem.W.fnOf "is_weigh" "is_weigh" (defArgs s_is_weigh) (defBody s_is_weigh) (defScope s_is_weigh) .none kV_is_weigh dc_is_weigh pm_is_weigh an_is_weigh cd_is_weigh ct_is_weigh), sl_is_weigh⟩)
    (c_is_weigh : PySem.W.codeIn K cd_is_weigh "is_weigh" = true)
    (k_is_weigh : PySem.W.keepIn K (.ref f_is_weigh) = true)
    (a_is_step : PySem.W.nsIn K mainGlobals "is_step" = some (some (.ref f_is_step)))
    (l_is_step : K.lookup f_is_step = some ⟨oc_is_step, od_is_step, .func (PySem.W.fnOf "is_step" "is_step" (defArgs s_is_step) (defBody s_is_step) (defScope s_is_step) .none kV_is_step dc_is_step pm_is_step an_is_step cd_is_step ct_is_step), sl_is_step⟩)
    (c_is_step : PySem.W.codeIn K cd_is_step "is_step" = true)
    (k_is_step : PySem.W.keepIn K (.ref f_is_step) = true)
    (a_check_step : PySem.W.nsIn K mainGlobals "check_step" = some (some (.ref f_check_step)))
    (l_check_step : K.lookup f_check_step = some ⟨oc_check_step, od_check_step, .func (PySem.W.fnOf "check_step" "check_step" (defArgs s_check_step) (defBody s_check_step) (defScope s_check_step) .none kV_check_step dc_check_step pm_check_step an_check_step cd_check_step ct_check_step), sl_check_step⟩)
    (c_check_step : PySem.W.codeIn K cd_check_step "check_step" = true)
    (k_check_step : PySem.W.keepIn K (.ref f_check_step) = true)
    (a_weighed : PySem.W.nsIn K mainGlobals "weighed" = some (some (.ref f_weighed)))
    (l_weighed : K.lookup f_weighed = some ⟨oc_weighed, od_weighed, .func (PySem.W.fnOf "weighed" "weighed" (defArgs s_weighed) (defBody s_weighed) (defScope s_weighed) .none kV_weighed dc_weighed pm_weighed an_weighed cd_weighed ct_weighed), sl_weighed⟩)
    (c_weighed : PySem.W.codeIn K cd_weighed "weighed" = true)
    (k_weighed : PySem.W.keepIn K (.ref f_weighed) = true)
    (a_after : PySem.W.nsIn K mainGlobals "after" = some (some (.ref f_after)))
    (l_after : K.lookup f_after = some ⟨oc_after, od_after, .func (PySem.W.fnOf "after" "after" (defArgs s_after) (defBody s_after) (defScope s_after) .none kV_after dc_after pm_after an_after cd_after ct_after), sl_after⟩)
    (c_after : PySem.W.codeIn K cd_after "after" = true)
    (k_after : PySem.W.keepIn K (.ref f_after) = true)
    (a_common : PySem.W.nsIn K mainGlobals "common" = some (some (.ref f_common)))
    (l_common : K.lookup f_common = some ⟨oc_common, od_common, .func (PySem.W.fnOf "common" "common" (defArgs s_common) (defBody s_common) (defScope s_common) .none kV_common dc_common pm_common an_common cd_common ct_common), sl_common⟩)
    (c_common : PySem.W.codeIn K cd_common "common" = true)
    (k_common : PySem.W.keepIn K (.ref f_common) = true)
    (a_is_number : PySem.W.nsIn K mainGlobals "is_number" = some (some (.ref f_is_number)))
    (l_is_number : K.lookup f_is_number = some ⟨oc_is_number, od_is_number, .func (PySem.W.fnOf "is_number" "is_number" (defArgs s_is_number) (defBody s_is_number) (defScope s_is_number) .none kV_is_number dc_is_number pm_is_number an_is_number cd_is_number ct_is_number), sl_is_number⟩)
    (c_is_number : PySem.W.codeIn K cd_is_number "is_number" = true)
    (k_is_number : PySem.W.keepIn K (.ref f_is_number) = true)
    (a_weigh_kept : PySem.W.nsIn K mainGlobals "weigh_kept" = some (some (.ref f_weigh_kept)))
    (l_weigh_kept : K.lookup f_weigh_kept = some ⟨oc_weigh_kept, od_weigh_kept, .func (PySem.W.fnOf "weigh_kept" "weigh_kept" (defArgs s_weigh_kept) (defBody s_weigh_kept) (defScope s_weigh_kept) .none kV_weigh_kept dc_weigh_kept pm_weigh_kept an_weigh_kept cd_weigh_kept ct_weigh_kept), sl_weigh_kept⟩)
    (c_weigh_kept : PySem.W.codeIn K cd_weigh_kept "weigh_kept" = true)
    (k_weigh_kept : PySem.W.keepIn K (.ref f_weigh_kept) = true)
    (a_fold_kept : PySem.W.nsIn K mainGlobals "fold_kept" = some (some (.ref f_fold_kept)))
    (l_fold_kept : K.lookup f_fold_kept = some ⟨oc_fold_kept, od_fold_kept, .func (PySem.W.fnOf "fold_kept" "fold_kept" (defArgs s_fold_kept) (defBody s_fold_kept) (defScope s_fold_kept) .none kV_fold_kept dc_fold_kept pm_fold_kept an_fold_kept cd_fold_kept ct_fold_kept), sl_fold_kept⟩)
    (c_fold_kept : PySem.W.codeIn K cd_fold_kept "fold_kept" = true)
    (k_fold_kept : PySem.W.keepIn K (.ref f_fold_kept) = true)
    (a_kept : PySem.W.nsIn K mainGlobals "kept" = some (some (.ref f_kept)))
    (l_kept : K.lookup f_kept = some ⟨oc_kept, od_kept, .func (PySem.W.fnOf "kept" "kept" (defArgs s_kept) (defBody s_kept) (defScope s_kept) .none kV_kept dc_kept pm_kept an_kept cd_kept ct_kept), sl_kept⟩)
    (c_kept : PySem.W.codeIn K cd_kept "kept" = true)
    (k_kept : PySem.W.keepIn K (.ref f_kept) = true)
    (a_keeps : PySem.W.nsIn K mainGlobals "keeps" = some (some (.ref f_keeps)))
    (l_keeps : K.lookup f_keeps = some ⟨oc_keeps, od_keeps, .func (PySem.W.fnOf "keeps" "keeps" (defArgs s_keeps) (defBody s_keeps) (defScope s_keeps) .none kV_keeps dc_keeps pm_keeps an_keeps cd_keeps ct_keeps), sl_keeps⟩)
    (c_keeps : PySem.W.codeIn K cd_keeps "keeps" = true)
    (k_keeps : PySem.W.keepIn K (.ref f_keeps) = true)
    (a_fold_reach : PySem.W.nsIn K mainGlobals "fold_reach" = some (some (.ref f_fold_reach)))
    (l_fold_reach : K.lookup f_fold_reach = some ⟨oc_fold_reach, od_fold_reach, .func (PySem.W.fnOf "fold_reach" "fold_reach" (defArgs s_fold_reach) (defBody s_fold_reach) (defScope s_fold_reach) .none kV_fold_reach dc_fold_reach pm_fold_reach an_fold_reach cd_fold_reach ct_fold_reach), sl_fold_reach⟩)
    (c_fold_reach : PySem.W.codeIn K cd_fold_reach "fold_reach" = true)
    (k_fold_reach : PySem.W.keepIn K (.ref f_fold_reach) = true)
    (a_weigh_reach : PySem.W.nsIn K mainGlobals "weigh_reach" = some (some (.ref f_weigh_reach)))
    (l_weigh_reach : K.lookup f_weigh_reach = some ⟨oc_weigh_reach, od_weigh_reach, .func (PySem.W.fnOf "weigh_reach" "weigh_reach" (defArgs s_weigh_reach) (defBody s_weigh_reach) (defScope s_weigh_reach) .none kV_weigh_reach dc_weigh_reach pm_weigh_reach an_weigh_reach cd_weigh_reach ct_weigh_reach), sl_weigh_reach⟩)
    (c_weigh_reach : PySem.W.codeIn K cd_weigh_reach "weigh_reach" = true)
    (k_weigh_reach : PySem.W.keepIn K (.ref f_weigh_reach) = true)
    (a_reach : PySem.W.nsIn K mainGlobals "reach" = some (some (.ref f_reach)))
    (l_reach : K.lookup f_reach = some ⟨oc_reach, od_reach, .func (PySem.W.fnOf "reach" "reach" (defArgs s_reach) (defBody s_reach) (defScope s_reach) .none kV_reach dc_reach pm_reach an_reach cd_reach ct_reach), sl_reach⟩)
    (c_reach : PySem.W.codeIn K cd_reach "reach" = true)
    (k_reach : PySem.W.keepIn K (.ref f_reach) = true)
    (a_from_least : PySem.W.nsIn K mainGlobals "from_least" = some (some (.ref f_from_least)))
    (l_from_least : K.lookup f_from_least = some ⟨oc_from_least, od_from_least, .func (PySem.W.fnOf "from_least" "from_least" (defArgs s_from_least) (defBody s_from_least) (defScope s_from_least) .none kV_from_least dc_from_least pm_from_least an_from_least cd_from_least ct_from_least), sl_from_least⟩)
    (c_from_least : PySem.W.codeIn K cd_from_least "from_least" = true)
    (k_from_least : PySem.W.keepIn K (.ref f_from_least) = true)
    (a_all_rings : PySem.W.nsIn K mainGlobals "all_rings" = some (some (.ref f_all_rings)))
    (l_all_rings : K.lookup f_all_rings = some ⟨oc_all_rings, od_all_rings, .func (PySem.W.fnOf "all_rings" "all_rings" (defArgs s_all_rings) (defBody s_all_rings) (defScope s_all_rings) .none kV_all_rings dc_all_rings pm_all_rings an_all_rings cd_all_rings ct_all_rings), sl_all_rings⟩)
    (c_all_rings : PySem.W.codeIn K cd_all_rings "all_rings" = true)
    (k_all_rings : PySem.W.keepIn K (.ref f_all_rings) = true)
    (a_rings : PySem.W.nsIn K mainGlobals "rings" = some (some (.ref f_rings)))
    (l_rings : K.lookup f_rings = some ⟨oc_rings, od_rings, .func (PySem.W.fnOf "rings" "rings" (defArgs s_rings) (defBody s_rings) (defScope s_rings) .none kV_rings dc_rings pm_rings an_rings cd_rings ct_rings), sl_rings⟩)
    (c_rings : PySem.W.codeIn K cd_rings "rings" = true)
    (k_rings : PySem.W.keepIn K (.ref f_rings) = true)
    (a_least_bound : PySem.W.nsIn K mainGlobals "least_bound" = some (some (.ref f_least_bound)))
    (l_least_bound : K.lookup f_least_bound = some ⟨oc_least_bound, od_least_bound, .func (PySem.W.fnOf "least_bound" "least_bound" (defArgs s_least_bound) (defBody s_least_bound) (defScope s_least_bound) .none kV_least_bound dc_least_bound pm_least_bound an_least_bound cd_least_bound ct_least_bound), sl_least_bound⟩)
    (c_least_bound : PySem.W.codeIn K cd_least_bound "least_bound" = true)
    (k_least_bound : PySem.W.keepIn K (.ref f_least_bound) = true)
    (a_are_numbers : PySem.W.nsIn K mainGlobals "are_numbers" = some (some (.ref f_are_numbers)))
    (l_are_numbers : K.lookup f_are_numbers = some ⟨oc_are_numbers, od_are_numbers, .func (PySem.W.fnOf "are_numbers" "are_numbers" (defArgs s_are_numbers) (defBody s_are_numbers) (defScope s_are_numbers) .none kV_are_numbers dc_are_numbers pm_are_numbers an_are_numbers cd_are_numbers ct_are_numbers), sl_are_numbers⟩)
    (c_are_numbers : PySem.W.codeIn K cd_are_numbers "are_numbers" = true)
    (k_are_numbers : PySem.W.keepIn K (.ref f_are_numbers) = true)
    (a_divisors : PySem.W.nsIn K mainGlobals "divisors" = some (some (.ref f_divisors)))
    (l_divisors : K.lookup f_divisors = some ⟨oc_divisors, od_divisors, .func (PySem.W.fnOf "divisors" "divisors" (defArgs s_divisors) (defBody s_divisors) (defScope s_divisors) .none kV_divisors dc_divisors pm_divisors an_divisors cd_divisors ct_divisors), sl_divisors⟩)
    (c_divisors : PySem.W.codeIn K cd_divisors "divisors" = true)
    (k_divisors : PySem.W.keepIn K (.ref f_divisors) = true)
    (a__law_begin : PySem.W.nsIn K mainGlobals "_law_begin" = some (some (.ref f__law_begin)))
    (l__law_begin : K.lookup f__law_begin = some ⟨oc__law_begin, od__law_begin, .func (PySem.W.fnOf "_law_begin" "_law_begin" (defArgs s__law_begin) (defBody s__law_begin) (defScope s__law_begin) .none kV__law_begin dc__law_begin pm__law_begin an__law_begin cd__law_begin ct__law_begin), sl__law_begin⟩)
    (c__law_begin : PySem.W.codeIn K cd__law_begin "_law_begin" = true)
    (k__law_begin : PySem.W.keepIn K (.ref f__law_begin) = true)
    (a__law_draw : PySem.W.nsIn K mainGlobals "_law_draw" = some (some (.ref f__law_draw)))
    (l__law_draw : K.lookup f__law_draw = some ⟨oc__law_draw, od__law_draw, .func (PySem.W.fnOf "_law_draw" "_law_draw" (defArgs s__law_draw) (defBody s__law_draw) (defScope s__law_draw) .none kV__law_draw dc__law_draw pm__law_draw an__law_draw cd__law_draw ct__law_draw), sl__law_draw⟩)
    (c__law_draw : PySem.W.codeIn K cd__law_draw "_law_draw" = true)
    (k__law_draw : PySem.W.keepIn K (.ref f__law_draw) = true)
    (a__law_power : PySem.W.nsIn K mainGlobals "_law_power" = some (some (.ref f__law_power)))
    (l__law_power : K.lookup f__law_power = some ⟨oc__law_power, od__law_power, .func (PySem.W.fnOf "_law_power" "_law_power" (defArgs s__law_power) (defBody s__law_power) (defScope s__law_power) .none kV__law_power dc__law_power pm__law_power an__law_power cd__law_power ct__law_power), sl__law_power⟩)
    (c__law_power : PySem.W.codeIn K cd__law_power "_law_power" = true)
    (k__law_power : PySem.W.keepIn K (.ref f__law_power) = true)
    (a__law_step : PySem.W.nsIn K mainGlobals "_law_step" = some (some (.ref f__law_step)))
    (l__law_step : K.lookup f__law_step = some ⟨oc__law_step, od__law_step, .func (PySem.W.fnOf "_law_step" "_law_step" (defArgs s__law_step) (defBody s__law_step) (defScope s__law_step) .none kV__law_step dc__law_step pm__law_step an__law_step cd__law_step ct__law_step), sl__law_step⟩)
    (c__law_step : PySem.W.codeIn K cd__law_step "_law_step" = true)
    (k__law_step : PySem.W.keepIn K (.ref f__law_step) = true)
    (a__law_made : PySem.W.nsIn K mainGlobals "_law_made" = some (some (.ref f__law_made)))
    (l__law_made : K.lookup f__law_made = some ⟨oc__law_made, od__law_made, .func (PySem.W.fnOf "_law_made" "_law_made" (defArgs s__law_made) (defBody s__law_made) (defScope s__law_made) .none kV__law_made dc__law_made pm__law_made an__law_made cd__law_made ct__law_made), sl__law_made⟩)
    (c__law_made : PySem.W.codeIn K cd__law_made "_law_made" = true)
    (k__law_made : PySem.W.keepIn K (.ref f__law_made) = true)
    (a__law_fold_keeps : PySem.W.nsIn K mainGlobals "_law_fold_keeps" = some (some (.ref f__law_fold_keeps)))
    (l__law_fold_keeps : K.lookup f__law_fold_keeps = some ⟨oc__law_fold_keeps, od__law_fold_keeps, .func (PySem.W.fnOf "_law_fold_keeps" "_law_fold_keeps" (defArgs s__law_fold_keeps) (defBody s__law_fold_keeps) (defScope s__law_fold_keeps) .none kV__law_fold_keeps dc__law_fold_keeps pm__law_fold_keeps an__law_fold_keeps cd__law_fold_keeps ct__law_fold_keeps), sl__law_fold_keeps⟩)
    (c__law_fold_keeps : PySem.W.codeIn K cd__law_fold_keeps "_law_fold_keeps" = true)
    (k__law_fold_keeps : PySem.W.keepIn K (.ref f__law_fold_keeps) = true)
    (a__law_weigh_keeps : PySem.W.nsIn K mainGlobals "_law_weigh_keeps" = some (some (.ref f__law_weigh_keeps)))
    (l__law_weigh_keeps : K.lookup f__law_weigh_keeps = some ⟨oc__law_weigh_keeps, od__law_weigh_keeps, .func (PySem.W.fnOf "_law_weigh_keeps" "_law_weigh_keeps" (defArgs s__law_weigh_keeps) (defBody s__law_weigh_keeps) (defScope s__law_weigh_keeps) .none kV__law_weigh_keeps dc__law_weigh_keeps pm__law_weigh_keeps an__law_weigh_keeps cd__law_weigh_keeps ct__law_weigh_keeps), sl__law_weigh_keeps⟩)
    (c__law_weigh_keeps : PySem.W.codeIn K cd__law_weigh_keeps "_law_weigh_keeps" = true)
    (k__law_weigh_keeps : PySem.W.keepIn K (.ref f__law_weigh_keeps) = true)
    (a__law_keeps : PySem.W.nsIn K mainGlobals "_law_keeps" = some (some (.ref f__law_keeps)))
    (l__law_keeps : K.lookup f__law_keeps = some ⟨oc__law_keeps, od__law_keeps, .func (PySem.W.fnOf "_law_keeps" "_law_keeps" (defArgs s__law_keeps) (defBody s__law_keeps) (defScope s__law_keeps) .none kV__law_keeps dc__law_keeps pm__law_keeps an__law_keeps cd__law_keeps ct__law_keeps), sl__law_keeps⟩)
    (c__law_keeps : PySem.W.codeIn K cd__law_keeps "_law_keeps" = true)
    (k__law_keeps : PySem.W.keepIn K (.ref f__law_keeps) = true)
    (a__law_ended : PySem.W.nsIn K mainGlobals "_law_ended" = some (some (.ref f__law_ended)))
    (l__law_ended : K.lookup f__law_ended = some ⟨oc__law_ended, od__law_ended, .func (PySem.W.fnOf "_law_ended" "_law_ended" (defArgs s__law_ended) (defBody s__law_ended) (defScope s__law_ended) .none kV__law_ended dc__law_ended pm__law_ended an__law_ended cd__law_ended ct__law_ended), sl__law_ended⟩)
    (c__law_ended : PySem.W.codeIn K cd__law_ended "_law_ended" = true)
    (k__law_ended : PySem.W.keepIn K (.ref f__law_ended) = true)
    (a__law_way : PySem.W.nsIn K mainGlobals "_law_way" = some (some (.ref f__law_way)))
    (l__law_way : K.lookup f__law_way = some ⟨oc__law_way, od__law_way, .func (PySem.W.fnOf "_law_way" "_law_way" (defArgs s__law_way) (defBody s__law_way) (defScope s__law_way) .none kV__law_way dc__law_way pm__law_way an__law_way cd__law_way ct__law_way), sl__law_way⟩)
    (c__law_way : PySem.W.codeIn K cd__law_way "_law_way" = true)
    (k__law_way : PySem.W.keepIn K (.ref f__law_way) = true)
    (a__law_row : PySem.W.nsIn K mainGlobals "_law_row" = some (some (.ref f__law_row)))
    (l__law_row : K.lookup f__law_row = some ⟨oc__law_row, od__law_row, .func (PySem.W.fnOf "_law_row" "_law_row" (defArgs s__law_row) (defBody s__law_row) (defScope s__law_row) .none kV__law_row dc__law_row pm__law_row an__law_row cd__law_row ct__law_row), sl__law_row⟩)
    (c__law_row : PySem.W.codeIn K cd__law_row "_law_row" = true)
    (k__law_row : PySem.W.keepIn K (.ref f__law_row) = true)
    (a__law_wrong : PySem.W.nsIn K mainGlobals "_law_wrong" = some (some (.ref f__law_wrong)))
    (l__law_wrong : K.lookup f__law_wrong = some ⟨oc__law_wrong, od__law_wrong, .func (PySem.W.fnOf "_law_wrong" "_law_wrong" (defArgs s__law_wrong) (defBody s__law_wrong) (defScope s__law_wrong) .none kV__law_wrong dc__law_wrong pm__law_wrong an__law_wrong cd__law_wrong ct__law_wrong), sl__law_wrong⟩)
    (c__law_wrong : PySem.W.codeIn K cd__law_wrong "_law_wrong" = true)
    (k__law_wrong : PySem.W.keepIn K (.ref f__law_wrong) = true)
    (a_law : PySem.W.nsIn K mainGlobals "law" = some (some (.ref f_law)))
    (l_law : K.lookup f_law = some ⟨oc_law, od_law, .func (PySem.W.fnOf "law" "law" (defArgs s_law) (defBody s_law) (defScope s_law) .none kV_law dc_law pm_law an_law cd_law ct_law), sl_law⟩)
    (c_law : PySem.W.codeIn K cd_law "law" = true)
    (k_law : PySem.W.keepIn K (.ref f_law) = true)
    (gc_Kept : PySem.W.nsIn K mainGlobals "Kept" = some (some (.ref C_Kept)))
    (pg_Kept : PySem.W.plainGet K C_Kept Str.empty = true)
    (hd_Kept : PySem.W.hasDictIn K C_Kept = true)
    (po_Kept : PySem.W.plainOver K C_Kept = true)
    (sa_Kept : PySem.W.findIn K (.ref C_Kept) "__setattr__" = some (some (.builtin "object.__setattr__")))
    (mk_Kept : PySem.W.makesIn K C_Kept = true)
    (kc_Kept : PySem.W.keepIn K (.ref C_Kept) = true)
    (na_Kept_number : PySem.W.findIn K (.ref C_Kept) "number" = some none)
    (na_Kept_unit : PySem.W.findIn K (.ref C_Kept) "unit" = some none)
    (na_Kept_power : PySem.W.findIn K (.ref C_Kept) "power" = some none)
    (na_Kept_part : PySem.W.findIn K (.ref C_Kept) "part" = some none)
    (a_Kept___init__ : PySem.W.findIn K (.ref C_Kept) "__init__" = some (some (.ref f_Kept___init__)))
    (l_Kept___init__ : K.lookup f_Kept___init__ = some ⟨oc_Kept___init__, od_Kept___init__, .func (PySem.W.fnOf "__init__" "Kept.__init__" (defArgs s_Kept___init__) (defBody s_Kept___init__) (defScope s_Kept___init__) .none kV_Kept___init__ dc_Kept___init__ pm_Kept___init__ an_Kept___init__ cd_Kept___init__ ct_Kept___init__), sl_Kept___init__⟩)
    (c_Kept___init__ : PySem.W.codeIn K cd_Kept___init__ "Kept.__init__" = true)
    (k_Kept___init__ : PySem.W.keepIn K (.ref f_Kept___init__) = true)
    (i_Kept___init__ : PySem.W.isFn K (.ref f_Kept___init__) = true)
    (a_Kept___contains__ : PySem.W.findIn K (.ref C_Kept) "__contains__" = some (some (.ref f_Kept___contains__)))
    (l_Kept___contains__ : K.lookup f_Kept___contains__ = some ⟨oc_Kept___contains__, od_Kept___contains__, .func (PySem.W.fnOf "__contains__" "Kept.__contains__" (defArgs s_Kept___contains__) (defBody s_Kept___contains__) (defScope s_Kept___contains__) .none kV_Kept___contains__ dc_Kept___contains__ pm_Kept___contains__ an_Kept___contains__ cd_Kept___contains__ ct_Kept___contains__), sl_Kept___contains__⟩)
    (c_Kept___contains__ : PySem.W.codeIn K cd_Kept___contains__ "Kept.__contains__" = true)
    (k_Kept___contains__ : PySem.W.keepIn K (.ref f_Kept___contains__) = true)
    (i_Kept___contains__ : PySem.W.isFn K (.ref f_Kept___contains__) = true)
    (gc_Way : PySem.W.nsIn K mainGlobals "Way" = some (some (.ref C_Way)))
    (pg_Way : PySem.W.plainGet K C_Way Str.empty = true)
    (hd_Way : PySem.W.hasDictIn K C_Way = true)
    (po_Way : PySem.W.plainOver K C_Way = true)
    (sa_Way : PySem.W.findIn K (.ref C_Way) "__setattr__" = some (some (.builtin "object.__setattr__")))
    (mk_Way : PySem.W.makesIn K C_Way = true)
    (kc_Way : PySem.W.keepIn K (.ref C_Way) = true)
    (na_Way_base : PySem.W.findIn K (.ref C_Way) "base" = some none)
    (na_Way_step : PySem.W.findIn K (.ref C_Way) "step" = some none)
    (na_Way_bound : PySem.W.findIn K (.ref C_Way) "bound" = some none)
    (na_Way_yes : PySem.W.findIn K (.ref C_Way) "yes" = some none)
    (ia_Way : PySem.W.findIn K (.ref C_Way) "__class__" = some (some (.builtin "object.__class__")))
    (in_Way : PySem.W.specialIn K (.builtin "object.__class__") "__get__" = some (some (.builtin "getset_descriptor.__get__")))
    (it_Way : PySem.W.takesIn K (.builtin "object.__class__") = some true)
    (im_Way : PySem.W.mroIn K C_Way (.type "object") = some true)
    (ty_Way : PySem.W.typeIn K (.ref C_Way) = some (.type "type"))
    (cc_Way : PySem.W.isClsIn K C_Way = true)
    (nl_Way : PySem.W.subIn K (.type "list") (.ref C_Way) = some false)
    (a_Way___init__ : PySem.W.findIn K (.ref C_Way) "__init__" = some (some (.ref f_Way___init__)))
    (l_Way___init__ : K.lookup f_Way___init__ = some ⟨oc_Way___init__, od_Way___init__, .func (PySem.W.fnOf "__init__" "Way.__init__" (defArgs s_Way___init__) (defBody s_Way___init__) (defScope s_Way___init__) .none kV_Way___init__ dc_Way___init__ pm_Way___init__ an_Way___init__ cd_Way___init__ ct_Way___init__), sl_Way___init__⟩)
    (c_Way___init__ : PySem.W.codeIn K cd_Way___init__ "Way.__init__" = true)
    (k_Way___init__ : PySem.W.keepIn K (.ref f_Way___init__) = true)
    (i_Way___init__ : PySem.W.isFn K (.ref f_Way___init__) = true)
    (a_Way___eq__ : PySem.W.findIn K (.ref C_Way) "__eq__" = some (some (.ref f_Way___eq__)))
    (l_Way___eq__ : K.lookup f_Way___eq__ = some ⟨oc_Way___eq__, od_Way___eq__, .func (PySem.W.fnOf "__eq__" "Way.__eq__" (defArgs s_Way___eq__) (defBody s_Way___eq__) (defScope s_Way___eq__) .none kV_Way___eq__ dc_Way___eq__ pm_Way___eq__ an_Way___eq__ cd_Way___eq__ ct_Way___eq__), sl_Way___eq__⟩)
    (c_Way___eq__ : PySem.W.codeIn K cd_Way___eq__ "Way.__eq__" = true)
    (k_Way___eq__ : PySem.W.keepIn K (.ref f_Way___eq__) = true)
    (i_Way___eq__ : PySem.W.isFn K (.ref f_Way___eq__) = true)
    (a_Way_row : PySem.W.findIn K (.ref C_Way) "row" = some (some (.ref f_Way_row)))
    (l_Way_row : K.lookup f_Way_row = some ⟨oc_Way_row, od_Way_row, .func (PySem.W.fnOf "row" "Way.row" (defArgs s_Way_row) (defBody s_Way_row) (defScope s_Way_row) .none kV_Way_row dc_Way_row pm_Way_row an_Way_row cd_Way_row ct_Way_row), sl_Way_row⟩)
    (c_Way_row : PySem.W.codeIn K cd_Way_row "Way.row" = true)
    (k_Way_row : PySem.W.keepIn K (.ref f_Way_row) = true)
    (i_Way_row : PySem.W.isFn K (.ref f_Way_row) = true)
    (a_Way_says : PySem.W.findIn K (.ref C_Way) "says" = some (some (.ref f_Way_says)))
    (l_Way_says : K.lookup f_Way_says = some ⟨oc_Way_says, od_Way_says, .func (PySem.W.fnOf "says" "Way.says" (defArgs s_Way_says) (defBody s_Way_says) (defScope s_Way_says) .none kV_Way_says dc_Way_says pm_Way_says an_Way_says cd_Way_says ct_Way_says), sl_Way_says⟩)
    (c_Way_says : PySem.W.codeIn K cd_Way_says "Way.says" = true)
    (k_Way_says : PySem.W.keepIn K (.ref f_Way_says) = true)
    (i_Way_says : PySem.W.isFn K (.ref f_Way_says) = true)
    (a_Way_fits : PySem.W.findIn K (.ref C_Way) "fits" = some (some (.ref f_Way_fits)))
    (l_Way_fits : K.lookup f_Way_fits = some ⟨oc_Way_fits, od_Way_fits, .func (PySem.W.fnOf "fits" "Way.fits" (defArgs s_Way_fits) (defBody s_Way_fits) (defScope s_Way_fits) .none kV_Way_fits dc_Way_fits pm_Way_fits an_Way_fits cd_Way_fits ct_Way_fits), sl_Way_fits⟩)
    (c_Way_fits : PySem.W.codeIn K cd_Way_fits "Way.fits" = true)
    (k_Way_fits : PySem.W.keepIn K (.ref f_Way_fits) = true)
    (i_Way_fits : PySem.W.isFn K (.ref f_Way_fits) = true)
    (a_Way_is_right : PySem.W.findIn K (.ref C_Way) "is_right" = some (some (.ref f_Way_is_right)))
    (l_Way_is_right : K.lookup f_Way_is_right = some ⟨oc_Way_is_right, od_Way_is_right, .func (PySem.W.fnOf "is_right" "Way.is_right" (defArgs s_Way_is_right) (defBody s_Way_is_right) (defScope s_Way_is_right) .none kV_Way_is_right dc_Way_is_right pm_Way_is_right an_Way_is_right cd_Way_is_right ct_Way_is_right), sl_Way_is_right⟩)
    (c_Way_is_right : PySem.W.codeIn K cd_Way_is_right "Way.is_right" = true)
    (k_Way_is_right : PySem.W.keepIn K (.ref f_Way_is_right) = true)
    (i_Way_is_right : PySem.W.isFn K (.ref f_Way_is_right) = true)
    (a_Way_right : PySem.W.findIn K (.ref C_Way) "right" = some (some (.ref f_Way_right)))
    (l_Way_right : K.lookup f_Way_right = some ⟨oc_Way_right, od_Way_right, .func (PySem.W.fnOf "right" "Way.right" (defArgs s_Way_right) (defBody s_Way_right) (defScope s_Way_right) .none kV_Way_right dc_Way_right pm_Way_right an_Way_right cd_Way_right ct_Way_right), sl_Way_right⟩)
    (c_Way_right : PySem.W.codeIn K cd_Way_right "Way.right" = true)
    (k_Way_right : PySem.W.keepIn K (.ref f_Way_right) = true)
    (i_Way_right : PySem.W.isFn K (.ref f_Way_right) = true)
    (a_Way_least_error : PySem.W.findIn K (.ref C_Way) "least_error" = some (some (.ref f_Way_least_error)))
    (l_Way_least_error : K.lookup f_Way_least_error = some ⟨oc_Way_least_error, od_Way_least_error, .func (PySem.W.fnOf "least_error" "Way.least_error" (defArgs s_Way_least_error) (defBody s_Way_least_error) (defScope s_Way_least_error) .none kV_Way_least_error dc_Way_least_error pm_Way_least_error an_Way_least_error cd_Way_least_error ct_Way_least_error), sl_Way_least_error⟩)
    (c_Way_least_error : PySem.W.codeIn K cd_Way_least_error "Way.least_error" = true)
    (k_Way_least_error : PySem.W.keepIn K (.ref f_Way_least_error) = true)
    (i_Way_least_error : PySem.W.isFn K (.ref f_Way_least_error) = true) :
    ∃ fd : FuncData, (∀ (s : Shared) (v : Value), BindsTo s fd ⟨[v], []⟩ [("_law_script", v)]) ∧ ∀ base : Heap, K.In base → base.Ns mainGlobals mg → FnOk l.prog w K mg base CX0 9 fa fd ["_law_script"] (spLaw K) := by
  have e := hfa.symm.trans (PySem.W.mg_of X G a_law)
  cases e
  have T : Txt K mg ⟨C_FoldError, C_BadStep, C_BadKept, C_BadWay, C_NoEnd, C_Kept, C_Way⟩ := ⟨PySem.W.mg_none_of X G n_abs, PySem.W.mg_none_of X G n_all, PySem.W.mg_none_of X G n_bool, PySem.W.mg_none_of X G n_enumerate, PySem.W.mg_none_of X G n_int, PySem.W.mg_none_of X G n_isinstance, PySem.W.mg_none_of X G n_len, PySem.W.mg_none_of X G n_list, PySem.W.mg_none_of X G n_max, PySem.W.mg_none_of X G n_min, PySem.W.mg_none_of X G n_range, PySem.W.mg_none_of X G n_sorted, PySem.W.mg_none_of X G n_str, PySem.W.mg_none_of X G n_tuple, PySem.W.mg_none_of X G n_zip, ⟨t_MOST_POWER, PySem.W.mg_of X G g_MOST_POWER⟩, ⟨t_MOST, PySem.W.mg_of X G g_MOST⟩, ⟨t_MOST_BOUND, PySem.W.mg_of X G g_MOST_BOUND⟩, ⟨PySem.W.mg_of X G gx_FoldError, xx_FoldError, kx_FoldError, bx_FoldError, tx_FoldError, ix_FoldError⟩, ⟨PySem.W.mg_of X G gx_BadStep, xx_BadStep, kx_BadStep, bx_BadStep, tx_BadStep, ix_BadStep⟩, ⟨PySem.W.mg_of X G gx_BadKept, xx_BadKept, kx_BadKept, bx_BadKept, tx_BadKept, ix_BadKept⟩, ⟨PySem.W.mg_of X G gx_BadWay, xx_BadWay, kx_BadWay, bx_BadWay, tx_BadWay, ix_BadWay⟩, ⟨PySem.W.mg_of X G gx_NoEnd, xx_NoEnd, kx_NoEnd, bx_NoEnd, tx_NoEnd, ix_NoEnd⟩, ⟨_, _, fun_mk (st := s_is_whole) l_is_whole c_is_whole k_is_whole, PySem.W.mg_of X G a_is_whole, (fun_mk (st := s_is_whole) l_is_whole c_is_whole k_is_whole).binds (ps := ["thing", "least", "most"]) fun _ _ _ _ _ _ us hl => match us, hl with | [_, _, _], _ => rfl⟩, ⟨_, _, fun_mk (st := s_power_of) l_power_of c_power_of k_power_of, PySem.W.mg_of X G a_power_of, (fun_mk (st := s_power_of) l_power_of c_power_of k_power_of).binds (ps := ["base", "times"]) fun _ _ _ _ _ _ us hl => match us, hl with | [_, _], _ => rfl⟩, ⟨_, _, fun_mk (st := s_is_fold) l_is_fold c_is_fold k_is_fold, PySem.W.mg_of X G a_is_fold, (fun_mk (st := s_is_fold) l_is_fold c_is_fold k_is_fold).binds (ps := ["base", "thing"]) fun _ _ _ _ _ _ us hl => match us, hl with | [_, _], _ => rfl⟩, ⟨_, _, fun_mk (st := s_is_weigh) l_is_weigh c_is_weigh k_is_weigh, PySem.W.mg_of X G a_is_weigh, (fun_mk (st := s_is_weigh) l_is_weigh c_is_weigh k_is_weigh).binds (ps := ["thing"]) fun _ _ _ _ _ _ us hl => match us, hl with | [_], _ => rfl⟩, ⟨_, _, fun_mk (st := s_is_step) l_is_step c_is_step k_is_step, PySem.W.mg_of X G a_is_step, (fun_mk (st := s_is_step) l_is_step c_is_step k_is_step).binds (ps := ["base", "thing"]) fun _ _ _ _ _ _ us hl => match us, hl with | [_, _], _ => rfl⟩, ⟨_, _, fun_mk (st := s_check_step) l_check_step c_check_step k_check_step, PySem.W.mg_of X G a_check_step, (fun_mk (st := s_check_step) l_check_step c_check_step k_check_step).binds (ps := ["base", "step"]) fun _ _ _ _ _ _ us hl => match us, hl with | [_, _], _ => rfl⟩, ⟨_, _, fun_mk (st := s_weighed) l_weighed c_weighed k_weighed, PySem.W.mg_of X G a_weighed, (fun_mk (st := s_weighed) l_weighed c_weighed k_weighed).binds (ps := ["base", "row", "n"]) fun _ _ _ _ _ _ us hl => match us, hl with | [_, _, _], _ => rfl⟩, ⟨_, _, fun_mk (st := s_after) l_after c_after k_after, PySem.W.mg_of X G a_after, (fun_mk (st := s_after) l_after c_after k_after).binds (ps := ["base", "step", "n"]) fun _ _ _ _ _ _ us hl => match us, hl with | [_, _, _], _ => rfl⟩, ⟨_, _, fun_mk (st := s_common) l_common c_common k_common, PySem.W.mg_of X G a_common, (fun_mk (st := s_common) l_common c_common k_common).binds (ps := ["one", "other"]) fun _ _ _ _ _ _ us hl => match us, hl with | [_, _], _ => rfl⟩, ⟨_, _, fun_mk (st := s_is_number) l_is_number c_is_number k_is_number, PySem.W.mg_of X G a_is_number, (fun_mk (st := s_is_number) l_is_number c_is_number k_is_number).binds (ps := ["thing"]) fun _ _ _ _ _ _ us hl => match us, hl with | [_], _ => rfl⟩, ⟨_, _, fun_mk (st := s_weigh_kept) l_weigh_kept c_weigh_kept k_weigh_kept, PySem.W.mg_of X G a_weigh_kept, (fun_mk (st := s_weigh_kept) l_weigh_kept c_weigh_kept k_weigh_kept).binds (ps := ["base", "row"]) fun _ _ _ _ _ _ us hl => match us, hl with | [_, _], _ => rfl⟩, ⟨_, _, fun_mk (st := s_fold_kept) l_fold_kept c_fold_kept k_fold_kept, PySem.W.mg_of X G a_fold_kept, (fun_mk (st := s_fold_kept) l_fold_kept c_fold_kept k_fold_kept).binds (ps := ["base", "k", "x", "y"]) fun _ _ _ _ _ _ us hl => match us, hl with | [_, _, _, _], _ => rfl⟩, ⟨_, _, fun_mk (st := s_kept) l_kept c_kept k_kept, PySem.W.mg_of X G a_kept, (fun_mk (st := s_kept) l_kept c_kept k_kept).binds (ps := ["base", "step"]) fun _ _ _ _ _ _ us hl => match us, hl with | [_, _], _ => rfl⟩, ⟨_, _, fun_mk (st := s_keeps) l_keeps c_keeps k_keeps, PySem.W.mg_of X G a_keeps, (fun_mk (st := s_keeps) l_keeps c_keeps k_keeps).binds (ps := ["base", "step", "m"]) fun _ _ _ _ _ _ us hl => match us, hl with | [_, _, _], _ => rfl⟩, ⟨_, _, fun_mk (st := s_fold_reach) l_fold_reach c_fold_reach k_fold_reach, PySem.W.mg_of X G a_fold_reach, (fun_mk (st := s_fold_reach) l_fold_reach c_fold_reach k_fold_reach).binds (ps := ["base", "step"]) fun _ _ _ _ _ _ us hl => match us, hl with | [_, _], _ => rfl⟩, ⟨_, _, fun_mk (st := s_weigh_reach) l_weigh_reach c_weigh_reach k_weigh_reach, PySem.W.mg_of X G a_weigh_reach, (fun_mk (st := s_weigh_reach) l_weigh_reach c_weigh_reach k_weigh_reach).binds (ps := ["base", "row"]) fun _ _ _ _ _ _ us hl => match us, hl with | [_, _], _ => rfl⟩, ⟨_, _, fun_mk (st := s_reach) l_reach c_reach k_reach, PySem.W.mg_of X G a_reach, (fun_mk (st := s_reach) l_reach c_reach k_reach).binds (ps := ["base", "step"]) fun _ _ _ _ _ _ us hl => match us, hl with | [_, _], _ => rfl⟩, ⟨_, _, fun_mk (st := s_from_least) l_from_least c_from_least k_from_least, PySem.W.mg_of X G a_from_least, (fun_mk (st := s_from_least) l_from_least c_from_least k_from_least).binds (ps := ["ring"]) fun _ _ _ _ _ _ us hl => match us, hl with | [_], _ => rfl⟩, ⟨_, _, fun_mk (st := s_all_rings) l_all_rings c_all_rings k_all_rings, PySem.W.mg_of X G a_all_rings, (fun_mk (st := s_all_rings) l_all_rings c_all_rings k_all_rings).binds (ps := ["base", "step", "top"]) fun _ _ _ _ _ _ us hl => match us, hl with | [_, _, _], _ => rfl⟩, ⟨_, _, fun_mk (st := s_rings) l_rings c_rings k_rings, PySem.W.mg_of X G a_rings, (fun_mk (st := s_rings) l_rings c_rings k_rings).binds (ps := ["base", "step"]) fun _ _ _ _ _ _ us hl => match us, hl with | [_, _], _ => rfl⟩, ⟨_, _, fun_mk (st := s_least_bound) l_least_bound c_least_bound k_least_bound, PySem.W.mg_of X G a_least_bound, (fun_mk (st := s_least_bound) l_least_bound c_least_bound k_least_bound).binds (ps := ["base", "step"]) fun _ _ _ _ _ _ us hl => match us, hl with | [_, _], _ => rfl⟩, ⟨_, _, fun_mk (st := s_are_numbers) l_are_numbers c_are_numbers k_are_numbers, PySem.W.mg_of X G a_are_numbers, (fun_mk (st := s_are_numbers) l_are_numbers c_are_numbers k_are_numbers).binds (ps := ["thing", "bound"]) fun _ _ _ _ _ _ us hl => match us, hl with | [_, _], _ => rfl⟩, ⟨_, _, fun_mk (st := s_divisors) l_divisors c_divisors k_divisors, PySem.W.mg_of X G a_divisors, (fun_mk (st := s_divisors) l_divisors c_divisors k_divisors).binds (ps := ["number"]) fun _ _ _ _ _ _ us hl => match us, hl with | [_], _ => rfl⟩, ⟨_, _, fun_mk (st := s__law_begin) l__law_begin c__law_begin k__law_begin, PySem.W.mg_of X G a__law_begin, (fun_mk (st := s__law_begin) l__law_begin c__law_begin k__law_begin).binds (ps := ["_law_script"]) fun _ _ _ _ _ _ us hl => match us, hl with | [_], _ => rfl⟩, ⟨_, _, fun_mk (st := s__law_draw) l__law_draw c__law_draw k__law_draw, PySem.W.mg_of X G a__law_draw, (fun_mk (st := s__law_draw) l__law_draw c__law_draw k__law_draw).binds (ps := ["_law_draws", "_law_size"]) fun _ _ _ _ _ _ us hl => match us, hl with | [_, _], _ => rfl⟩, ⟨_, _, fun_mk (st := s__law_power) l__law_power c__law_power k__law_power, PySem.W.mg_of X G a__law_power, (fun_mk (st := s__law_power) l__law_power c__law_power k__law_power).binds (ps := ["_law_base", "_law_times"]) fun _ _ _ _ _ _ us hl => match us, hl with | [_, _], _ => rfl⟩, ⟨_, _, fun_mk (st := s__law_step) l__law_step c__law_step k__law_step, PySem.W.mg_of X G a__law_step, (fun_mk (st := s__law_step) l__law_step c__law_step k__law_step).binds (ps := ["_law_draws", "_law_base"]) fun _ _ _ _ _ _ us hl => match us, hl with | [_, _], _ => rfl⟩, ⟨_, _, fun_mk (st := s__law_made) l__law_made c__law_made k__law_made, PySem.W.mg_of X G a__law_made, (fun_mk (st := s__law_made) l__law_made c__law_made k__law_made).binds (ps := ["_law_base", "_law_step_here", "_law_n"]) fun _ _ _ _ _ _ us hl => match us, hl with | [_, _, _], _ => rfl⟩, ⟨_, _, fun_mk (st := s__law_fold_keeps) l__law_fold_keeps c__law_fold_keeps k__law_fold_keeps, PySem.W.mg_of X G a__law_fold_keeps, (fun_mk (st := s__law_fold_keeps) l__law_fold_keeps c__law_fold_keeps k__law_fold_keeps).binds (ps := ["_law_base", "_law_step_here", "_law_m"]) fun _ _ _ _ _ _ us hl => match us, hl with | [_, _, _], _ => rfl⟩, ⟨_, _, fun_mk (st := s__law_weigh_keeps) l__law_weigh_keeps c__law_weigh_keeps k__law_weigh_keeps, PySem.W.mg_of X G a__law_weigh_keeps, (fun_mk (st := s__law_weigh_keeps) l__law_weigh_keeps c__law_weigh_keeps k__law_weigh_keeps).binds (ps := ["_law_base", "_law_row_here", "_law_m"]) fun _ _ _ _ _ _ us hl => match us, hl with | [_, _, _], _ => rfl⟩, ⟨_, _, fun_mk (st := s__law_keeps) l__law_keeps c__law_keeps k__law_keeps, PySem.W.mg_of X G a__law_keeps, (fun_mk (st := s__law_keeps) l__law_keeps c__law_keeps k__law_keeps).binds (ps := ["_law_base", "_law_step_here", "_law_m"]) fun _ _ _ _ _ _ us hl => match us, hl with | [_, _, _], _ => rfl⟩, ⟨_, _, fun_mk (st := s__law_ended) l__law_ended c__law_ended k__law_ended, PySem.W.mg_of X G a__law_ended, (fun_mk (st := s__law_ended) l__law_ended c__law_ended k__law_ended).binds (ps := ["_law_draws"]) fun _ _ _ _ _ _ us hl => match us, hl with | [_], _ => rfl⟩, ⟨_, _, fun_mk (st := s__law_way) l__law_way c__law_way k__law_way, PySem.W.mg_of X G a__law_way, (fun_mk (st := s__law_way) l__law_way c__law_way k__law_way).binds (ps := ["_law_draws"]) fun _ _ _ _ _ _ us hl => match us, hl with | [_], _ => rfl⟩, ⟨_, _, fun_mk (st := s__law_row) l__law_row c__law_row k__law_row, PySem.W.mg_of X G a__law_row, (fun_mk (st := s__law_row) l__law_row c__law_row k__law_row).binds (ps := ["_law_base", "_law_step_here", "_law_bound", "_law_n"]) fun _ _ _ _ _ _ us hl => match us, hl with | [_, _, _, _], _ => rfl⟩, ⟨_, _, fun_mk (st := s__law_wrong) l__law_wrong c__law_wrong k__law_wrong, PySem.W.mg_of X G a__law_wrong, (fun_mk (st := s__law_wrong) l__law_wrong c__law_wrong k__law_wrong).binds (ps := ["_law_base", "_law_step_here", "_law_bound", "_law_yes", "_law_m"]) fun _ _ _ _ _ _ us hl => match us, hl with | [_, _, _, _, _], _ => rfl⟩, ⟨_, _, fun_mk (st := s_law) l_law c_law k_law, PySem.W.mg_of X G a_law, (fun_mk (st := s_law) l_law c_law k_law).binds (ps := ["_law_script"]) fun _ _ _ _ _ _ us hl => match us, hl with | [_], _ => rfl⟩, ⟨⟨pg_Kept, hd_Kept, po_Kept, sa_Kept⟩, PySem.W.mg_of X G gc_Kept, mk_Kept, kc_Kept, na_all ⟨na_Kept_number, na_Kept_unit, na_Kept_power, na_Kept_part, trivial⟩⟩, ⟨_, _, fun_mk (st := s_Kept___init__) l_Kept___init__ c_Kept___init__ k_Kept___init__, a_Kept___init__, i_Kept___init__, (fun_mk (st := s_Kept___init__) l_Kept___init__ c_Kept___init__ k_Kept___init__).binds (ps := ["self", "number", "unit", "power", "part"]) fun _ _ _ _ _ _ us hl => match us, hl with | [_, _, _, _, _], _ => rfl⟩, ⟨_, _, fun_mk (st := s_Kept___contains__) l_Kept___contains__ c_Kept___contains__ k_Kept___contains__, a_Kept___contains__, i_Kept___contains__, (fun_mk (st := s_Kept___contains__) l_Kept___contains__ c_Kept___contains__ k_Kept___contains__).binds (ps := ["self", "m"]) fun _ _ _ _ _ _ us hl => match us, hl with | [_, _], _ => rfl⟩, ⟨⟨pg_Way, hd_Way, po_Way, sa_Way⟩, PySem.W.mg_of X G gc_Way, mk_Way, kc_Way, na_all ⟨na_Way_base, na_Way_step, na_Way_bound, na_Way_yes, trivial⟩⟩, ⟨⟨pg_Way, hd_Way, po_Way, sa_Way⟩, ia_Way, in_Way, it_Way, im_Way, kit_self⟩, nl_Way, (kit_list cc_Way ty_Way nl_Way), ⟨_, _, fun_mk (st := s_Way___init__) l_Way___init__ c_Way___init__ k_Way___init__, a_Way___init__, i_Way___init__, (fun_mk (st := s_Way___init__) l_Way___init__ c_Way___init__ k_Way___init__).binds (ps := ["self", "base", "step", "bound", "yes"]) fun _ _ _ _ _ _ us hl => match us, hl with | [_, _, _, _, _], _ => rfl⟩, ⟨_, _, fun_mk (st := s_Way___eq__) l_Way___eq__ c_Way___eq__ k_Way___eq__, a_Way___eq__, i_Way___eq__, (fun_mk (st := s_Way___eq__) l_Way___eq__ c_Way___eq__ k_Way___eq__).binds (ps := ["self", "other"]) fun _ _ _ _ _ _ us hl => match us, hl with | [_, _], _ => rfl⟩, ⟨_, _, fun_mk (st := s_Way_row) l_Way_row c_Way_row k_Way_row, a_Way_row, i_Way_row, (fun_mk (st := s_Way_row) l_Way_row c_Way_row k_Way_row).binds (ps := ["self", "n"]) fun _ _ _ _ _ _ us hl => match us, hl with | [_, _], _ => rfl⟩, ⟨_, _, fun_mk (st := s_Way_says) l_Way_says c_Way_says k_Way_says, a_Way_says, i_Way_says, (fun_mk (st := s_Way_says) l_Way_says c_Way_says k_Way_says).binds (ps := ["self", "n"]) fun _ _ _ _ _ _ us hl => match us, hl with | [_, _], _ => rfl⟩, ⟨_, _, fun_mk (st := s_Way_fits) l_Way_fits c_Way_fits k_Way_fits, a_Way_fits, i_Way_fits, (fun_mk (st := s_Way_fits) l_Way_fits c_Way_fits k_Way_fits).binds (ps := ["self", "m"]) fun _ _ _ _ _ _ us hl => match us, hl with | [_, _], _ => rfl⟩, ⟨_, _, fun_mk (st := s_Way_is_right) l_Way_is_right c_Way_is_right k_Way_is_right, a_Way_is_right, i_Way_is_right, (fun_mk (st := s_Way_is_right) l_Way_is_right c_Way_is_right k_Way_is_right).binds (ps := ["self", "m"]) fun _ _ _ _ _ _ us hl => match us, hl with | [_, _], _ => rfl⟩, ⟨_, _, fun_mk (st := s_Way_right) l_Way_right c_Way_right k_Way_right, a_Way_right, i_Way_right, (fun_mk (st := s_Way_right) l_Way_right c_Way_right k_Way_right).binds (ps := ["self"]) fun _ _ _ _ _ _ us hl => match us, hl with | [_], _ => rfl⟩, ⟨_, _, fun_mk (st := s_Way_least_error) l_Way_least_error c_Way_least_error k_Way_least_error, a_Way_least_error, i_Way_least_error, (fun_mk (st := s_Way_least_error) l_Way_least_error c_Way_least_error k_Way_least_error).binds (ps := ["self", "m"]) fun _ _ _ _ _ _ us hl => match us, hl with | [_, _], _ => rfl⟩⟩
  exact ⟨PySem.W.fnOf "law" "law" (defArgs s_law) (defBody s_law) (defScope s_law) .none kV_law dc_law pm_law an_law cd_law ct_law, fun s v => .of_eq rfl, fun base _ _ => law_fn T (fun_mk (st := s_law) l_law c_law k_law)⟩
theorem walk {l : PySem.W.OpenLaw} {q : Program} {loose : List Str} {XP : (Str → Option Value) → Heap → Prop} {YP : World → Heap → Prop} {d : DefRec} {K : Params → PySem.W.Frag} (hn : l.most = some 63) (hdf : d.params.defaults = [])
    (hY : ∀ (w : World) (h : Heap), YP w h → (K w.params).In h)
    (F : ∀ (w : World) (mg : Str → Option Value) (fa : Addr) (h : Heap), (K w.params).In h → h.Ns mainGlobals mg → mg d.name = some (.ref fa) →
      ∃ fd : FuncData, (∀ (s : Shared) (u : Value), BindsTo s fd ⟨[u], []⟩ [("_law_script", u)]) ∧ ∀ base : Heap, (K w.params).In base → base.Ns mainGlobals mg → FnOk l.prog w (K w.params) mg base CX0 9 fa fd ["_law_script"] (spLaw (K w.params))) :
    PySem.W.WalkO q loose XP YP l.row.toRowW d [] (fun f vs => PySem.call f vs) :=
  L2.walk_of (n := 63) (k := 9) (x := "_law_script") (CX := fun _ => CX0) (sp := fun w => spLaw (K w.params)) hn (by decide) hdf ⟨rfl, by decide, by decide⟩ hY F (fun _ _ a ns hl _ hS => ⟨a, ns, rfl, hS, hl, fun _ => rfl⟩) fun _ _ _ _ _ z => z
end Fold
open PySem PySem.W PyProof.Rows
set_option maxRecDepth 100000 in
set_option maxHeartbeats 0 in
theorem PySem.Challenge.cw_figurefolds_k06_whole_right_ways_holds : PySem.Challenge.rw_figurefolds_k06_whole_right_ways.Holds := by
  w_on; o_law; k_head; (case hw => w_witness2)
  k_fill
  refine Fold.walk (l := PySem.Challenge.rw_figurefolds_k06_whole_right_ways) rfl rfl (fun w h Y => PySem.W.kIn_of Y) ?F
  case F =>
    intro w mg fa h KX G hmg
    refine' Fold.all_mk KX G hmg ?n_abs ?n_all ?n_bool ?n_enumerate ?n_int ?n_isinstance ?n_len ?n_list ?n_max ?n_min ?n_range ?n_sorted ?n_str ?n_tuple ?n_zip ?g_MOST_POWER ?g_MOST ?g_MOST_BOUND ?gx_FoldError ?xx_FoldError ?kx_FoldError ?bx_FoldError ?tx_FoldError ?ix_FoldError ?gx_BadStep ?xx_BadStep ?kx_BadStep ?bx_BadStep ?tx_BadStep ?ix_BadStep ?gx_BadKept ?xx_BadKept ?kx_BadKept ?bx_BadKept ?tx_BadKept ?ix_BadKept ?gx_BadWay ?xx_BadWay ?kx_BadWay ?bx_BadWay ?tx_BadWay ?ix_BadWay ?gx_NoEnd ?xx_NoEnd ?kx_NoEnd ?bx_NoEnd ?tx_NoEnd ?ix_NoEnd ?a_is_whole ?l_is_whole ?c_is_whole ?k_is_whole ?a_power_of ?l_power_of ?c_power_of ?k_power_of ?a_is_fold ?l_is_fold ?c_is_fold ?k_is_fold ?a_is_weigh ?l_is_weigh ?c_is_weigh ?k_is_weigh ?a_is_step ?l_is_step ?c_is_step ?k_is_step ?a_check_step ?l_check_step ?c_check_step ?k_check_step ?a_weighed ?l_weighed ?c_weighed ?k_weighed ?a_after ?l_after ?c_after ?k_after ?a_common ?l_common ?c_common ?k_common ?a_is_number ?l_is_number ?c_is_number ?k_is_number ?a_weigh_kept ?l_weigh_kept ?c_weigh_kept ?k_weigh_kept ?a_fold_kept ?l_fold_kept ?c_fold_kept ?k_fold_kept ?a_kept ?l_kept ?c_kept ?k_kept ?a_keeps ?l_keeps ?c_keeps ?k_keeps ?a_fold_reach ?l_fold_reach ?c_fold_reach ?k_fold_reach ?a_weigh_reach ?l_weigh_reach ?c_weigh_reach ?k_weigh_reach ?a_reach ?l_reach ?c_reach ?k_reach ?a_from_least ?l_from_least ?c_from_least ?k_from_least ?a_all_rings ?l_all_rings ?c_all_rings ?k_all_rings ?a_rings ?l_rings ?c_rings ?k_rings ?a_least_bound ?l_least_bound ?c_least_bound ?k_least_bound ?a_are_numbers ?l_are_numbers ?c_are_numbers ?k_are_numbers ?a_divisors ?l_divisors ?c_divisors ?k_divisors ?a__law_begin ?l__law_begin ?c__law_begin ?k__law_begin ?a__law_draw ?l__law_draw ?c__law_draw ?k__law_draw ?a__law_power ?l__law_power ?c__law_power ?k__law_power ?a__law_step ?l__law_step ?c__law_step ?k__law_step ?a__law_made ?l__law_made ?c__law_made ?k__law_made ?a__law_fold_keeps ?l__law_fold_keeps ?c__law_fold_keeps ?k__law_fold_keeps ?a__law_weigh_keeps ?l__law_weigh_keeps ?c__law_weigh_keeps ?k__law_weigh_keeps ?a__law_keeps ?l__law_keeps ?c__law_keeps ?k__law_keeps ?a__law_ended ?l__law_ended ?c__law_ended ?k__law_ended ?a__law_way ?l__law_way ?c__law_way ?k__law_way ?a__law_row ?l__law_row ?c__law_row ?k__law_row ?a__law_wrong ?l__law_wrong ?c__law_wrong ?k__law_wrong ?a_law ?l_law ?c_law ?k_law ?gc_Kept ?pg_Kept ?hd_Kept ?po_Kept ?sa_Kept ?mk_Kept ?kc_Kept ?na_Kept_number ?na_Kept_unit ?na_Kept_power ?na_Kept_part ?a_Kept___init__ ?l_Kept___init__ ?c_Kept___init__ ?k_Kept___init__ ?i_Kept___init__ ?a_Kept___contains__ ?l_Kept___contains__ ?c_Kept___contains__ ?k_Kept___contains__ ?i_Kept___contains__ ?gc_Way ?pg_Way ?hd_Way ?po_Way ?sa_Way ?mk_Way ?kc_Way ?na_Way_base ?na_Way_step ?na_Way_bound ?na_Way_yes ?ia_Way ?in_Way ?it_Way ?im_Way ?ty_Way ?cc_Way ?nl_Way ?a_Way___init__ ?l_Way___init__ ?c_Way___init__ ?k_Way___init__ ?i_Way___init__ ?a_Way___eq__ ?l_Way___eq__ ?c_Way___eq__ ?k_Way___eq__ ?i_Way___eq__ ?a_Way_row ?l_Way_row ?c_Way_row ?k_Way_row ?i_Way_row ?a_Way_says ?l_Way_says ?c_Way_says ?k_Way_says ?i_Way_says ?a_Way_fits ?l_Way_fits ?c_Way_fits ?k_Way_fits ?i_Way_fits ?a_Way_is_right ?l_Way_is_right ?c_Way_is_right ?k_Way_is_right ?i_Way_is_right ?a_Way_right ?l_Way_right ?c_Way_right ?k_Way_right ?i_Way_right ?a_Way_least_error ?l_Way_least_error ?c_Way_least_error ?k_Way_least_error ?i_Way_least_error
    (case n_abs => k_is)
    (case n_all => k_is)
    (case n_bool => k_is)
    (case n_enumerate => k_is)
    (case n_int => k_is)
    (case n_isinstance => k_is)
    (case n_len => k_is)
    (case n_list => k_is)
    (case n_max => k_is)
    (case n_min => k_is)
    (case n_range => k_is)
    (case n_sorted => k_is)
    (case n_str => k_is)
    (case n_tuple => k_is)
    (case n_zip => k_is)
    (case g_MOST_POWER => k_is)
    (case g_MOST => k_is)
    (case g_MOST_BOUND => k_is)
    (case gx_FoldError => k_is)
    (case xx_FoldError => k_exc)
    (case kx_FoldError => k_is)
    (case bx_FoldError => k_is)
    (case tx_FoldError => k_is)
    (case ix_FoldError => k_is)
    (case gx_BadStep => k_is)
    (case xx_BadStep => k_exc)
    (case kx_BadStep => k_is)
    (case bx_BadStep => k_is)
    (case tx_BadStep => k_is)
    (case ix_BadStep => k_is)
    (case gx_BadKept => k_is)
    (case xx_BadKept => k_exc)
    (case kx_BadKept => k_is)
    (case bx_BadKept => k_is)
    (case tx_BadKept => k_is)
    (case ix_BadKept => k_is)
    (case gx_BadWay => k_is)
    (case xx_BadWay => k_exc)
    (case kx_BadWay => k_is)
    (case bx_BadWay => k_is)
    (case tx_BadWay => k_is)
    (case ix_BadWay => k_is)
    (case gx_NoEnd => k_is)
    (case xx_NoEnd => k_exc)
    (case kx_NoEnd => k_is)
    (case bx_NoEnd => k_is)
    (case tx_NoEnd => k_is)
    (case ix_NoEnd => k_is)
    (case a_is_whole => k_is)
    (case l_is_whole => k_is)
    (case c_is_whole => k_is)
    (case k_is_whole => k_is)
    (case a_power_of => k_is)
    (case l_power_of => k_is)
    (case c_power_of => k_is)
    (case k_power_of => k_is)
    (case a_is_fold => k_is)
    (case l_is_fold => k_is)
    (case c_is_fold => k_is)
    (case k_is_fold => k_is)
    (case a_is_weigh => k_is)
    (case l_is_weigh => k_is)
    (case c_is_weigh => k_is)
    (case k_is_weigh => k_is)
    (case a_is_step => k_is)
    (case l_is_step => k_is)
    (case c_is_step => k_is)
    (case k_is_step => k_is)
    (case a_check_step => k_is)
    (case l_check_step => k_is)
    (case c_check_step => k_is)
    (case k_check_step => k_is)
    (case a_weighed => k_is)
    (case l_weighed => k_is)
    (case c_weighed => k_is)
    (case k_weighed => k_is)
    (case a_after => k_is)
    (case l_after => k_is)
    (case c_after => k_is)
    (case k_after => k_is)
    (case a_common => k_is)
    (case l_common => k_is)
    (case c_common => k_is)
    (case k_common => k_is)
    (case a_is_number => k_is)
    (case l_is_number => k_is)
    (case c_is_number => k_is)
    (case k_is_number => k_is)
    (case a_weigh_kept => k_is)
    (case l_weigh_kept => k_is)
    (case c_weigh_kept => k_is)
    (case k_weigh_kept => k_is)
    (case a_fold_kept => k_is)
    (case l_fold_kept => k_is)
    (case c_fold_kept => k_is)
    (case k_fold_kept => k_is)
    (case a_kept => k_is)
    (case l_kept => k_is)
    (case c_kept => k_is)
    (case k_kept => k_is)
    (case a_keeps => k_is)
    (case l_keeps => k_is)
    (case c_keeps => k_is)
    (case k_keeps => k_is)
    (case a_fold_reach => k_is)
    (case l_fold_reach => k_is)
    (case c_fold_reach => k_is)
    (case k_fold_reach => k_is)
    (case a_weigh_reach => k_is)
    (case l_weigh_reach => k_is)
    (case c_weigh_reach => k_is)
    (case k_weigh_reach => k_is)
    (case a_reach => k_is)
    (case l_reach => k_is)
    (case c_reach => k_is)
    (case k_reach => k_is)
    (case a_from_least => k_is)
    (case l_from_least => k_is)
    (case c_from_least => k_is)
    (case k_from_least => k_is)
    (case a_all_rings => k_is)
    (case l_all_rings => k_is)
    (case c_all_rings => k_is)
    (case k_all_rings => k_is)
    (case a_rings => k_is)
    (case l_rings => k_is)
    (case c_rings => k_is)
    (case k_rings => k_is)
    (case a_least_bound => k_is)
    (case l_least_bound => k_is)
    (case c_least_bound => k_is)
    (case k_least_bound => k_is)
    (case a_are_numbers => k_is)
    (case l_are_numbers => k_is)
    (case c_are_numbers => k_is)
    (case k_are_numbers => k_is)
    (case a_divisors => k_is)
    (case l_divisors => k_is)
    (case c_divisors => k_is)
    (case k_divisors => k_is)
    (case a__law_begin => k_is)
    (case l__law_begin => k_is)
    (case c__law_begin => k_is)
    (case k__law_begin => k_is)
    (case a__law_draw => k_is)
    (case l__law_draw => k_is)
    (case c__law_draw => k_is)
    (case k__law_draw => k_is)
    (case a__law_power => k_is)
    (case l__law_power => k_is)
    (case c__law_power => k_is)
    (case k__law_power => k_is)
    (case a__law_step => k_is)
    (case l__law_step => k_is)
    (case c__law_step => k_is)
    (case k__law_step => k_is)
    (case a__law_made => k_is)
    (case l__law_made => k_is)
    (case c__law_made => k_is)
    (case k__law_made => k_is)
    (case a__law_fold_keeps => k_is)
    (case l__law_fold_keeps => k_is)
    (case c__law_fold_keeps => k_is)
    (case k__law_fold_keeps => k_is)
    (case a__law_weigh_keeps => k_is)
    (case l__law_weigh_keeps => k_is)
    (case c__law_weigh_keeps => k_is)
    (case k__law_weigh_keeps => k_is)
    (case a__law_keeps => k_is)
    (case l__law_keeps => k_is)
    (case c__law_keeps => k_is)
    (case k__law_keeps => k_is)
    (case a__law_ended => k_is)
    (case l__law_ended => k_is)
    (case c__law_ended => k_is)
    (case k__law_ended => k_is)
    (case a__law_way => k_is)
    (case l__law_way => k_is)
    (case c__law_way => k_is)
    (case k__law_way => k_is)
    (case a__law_row => k_is)
    (case l__law_row => k_is)
    (case c__law_row => k_is)
    (case k__law_row => k_is)
    (case a__law_wrong => k_is)
    (case l__law_wrong => k_is)
    (case c__law_wrong => k_is)
    (case k__law_wrong => k_is)
    (case a_law => k_is)
    (case l_law => k_is)
    (case c_law => k_is)
    (case k_law => k_is)
    (case gc_Kept => k_is)
    (case pg_Kept => k_is)
    (case hd_Kept => k_is)
    (case po_Kept => k_is)
    (case sa_Kept => k_is)
    (case mk_Kept => k_is)
    (case kc_Kept => k_is)
    (case na_Kept_number => k_is)
    (case na_Kept_unit => k_is)
    (case na_Kept_power => k_is)
    (case na_Kept_part => k_is)
    (case a_Kept___init__ => k_is)
    (case l_Kept___init__ => k_is)
    (case c_Kept___init__ => k_is)
    (case k_Kept___init__ => k_is)
    (case i_Kept___init__ => k_is)
    (case a_Kept___contains__ => k_is)
    (case l_Kept___contains__ => k_is)
    (case c_Kept___contains__ => k_is)
    (case k_Kept___contains__ => k_is)
    (case i_Kept___contains__ => k_is)
    (case gc_Way => k_is)
    (case pg_Way => k_is)
    (case hd_Way => k_is)
    (case po_Way => k_is)
    (case sa_Way => k_is)
    (case mk_Way => k_is)
    (case kc_Way => k_is)
    (case na_Way_base => k_is)
    (case na_Way_step => k_is)
    (case na_Way_bound => k_is)
    (case na_Way_yes => k_is)
    (case ia_Way => k_is)
    (case in_Way => k_is)
    (case it_Way => k_is)
    (case im_Way => k_is)
    (case ty_Way => k_is)
    (case cc_Way => k_is)
    (case nl_Way => k_is)
    (case a_Way___init__ => k_is)
    (case l_Way___init__ => k_is)
    (case c_Way___init__ => k_is)
    (case k_Way___init__ => k_is)
    (case i_Way___init__ => k_is)
    (case a_Way___eq__ => k_is)
    (case l_Way___eq__ => k_is)
    (case c_Way___eq__ => k_is)
    (case k_Way___eq__ => k_is)
    (case i_Way___eq__ => k_is)
    (case a_Way_row => k_is)
    (case l_Way_row => k_is)
    (case c_Way_row => k_is)
    (case k_Way_row => k_is)
    (case i_Way_row => k_is)
    (case a_Way_says => k_is)
    (case l_Way_says => k_is)
    (case c_Way_says => k_is)
    (case k_Way_says => k_is)
    (case i_Way_says => k_is)
    (case a_Way_fits => k_is)
    (case l_Way_fits => k_is)
    (case c_Way_fits => k_is)
    (case k_Way_fits => k_is)
    (case i_Way_fits => k_is)
    (case a_Way_is_right => k_is)
    (case l_Way_is_right => k_is)
    (case c_Way_is_right => k_is)
    (case k_Way_is_right => k_is)
    (case i_Way_is_right => k_is)
    (case a_Way_right => k_is)
    (case l_Way_right => k_is)
    (case c_Way_right => k_is)
    (case k_Way_right => k_is)
    (case i_Way_right => k_is)
    (case a_Way_least_error => k_is)
    (case l_Way_least_error => k_is)
    (case c_Way_least_error => k_is)
    (case k_Way_least_error => k_is)
    (case i_Way_least_error => k_is)
