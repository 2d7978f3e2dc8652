import PyProof.Rows.All
import Wide.All
import OpenK.AllK
import Wide.FinOn
import Lean
import HandS.ForMost
import HandS.ForExc
import HandS.Defaults
import HandS.Head0
import HandS.Head1
import HandS.Head2
import HandS.HeadEnd
import HandS.HeadHook1
import HandS.HeadHook2
import HandS.IsInst
import HandS.TupAny
import HandS.Style
import HandS.TryMany
import HandS.ExcIs
import PyProof.Rows.SetFrom
import PyProof.StrWalks
import KE.GoesEnum
import KE.KDictDisplayH
import PyProof.ListStr
import PyProof.StrLawsRepr
import PyProof.Rows.StrFirst
import HandS.TupLen
import HandS.TupSets
import KE.KeyNested
import PyProof.Rows.TupTab
import PyProof.ReprRoads
import PyProof.ReprLen
import HandS.FStr
import HandS.TupMul
import PyProof.TupleOfStr
import HandS.HeadHook3
import HandS.Star
import HandS.Flow
import HandS.NoneIn
import HandS.StrMore
import HandS.ExcInit
import HandS.ExcField
import HandS.Nested
import KE.KExcSuper
import HandS.DictComp
import HandS.SetKeys
import PySem.Challenge.RW_signwright_k08_plain_steps
set_option Elab.async false
set_option linter.all false
set_option maxRecDepth 100000
set_option maxHeartbeats 0
namespace Sg
open PySem PySem.Spec PyProof.Rows L2
/-! ### plain data by kinds; isinstance of built-in classes -/
abbrev FnP (K : PySem.W.Frag) (x : Str) (st : Stmt) (f : Addr) (fd : FuncData) : Prop := FunD K x x (defArgs st) (defBody st) (defScope st) [] [] f fd
inductive Kd (K : PySem.W.Frag) (H : Hp) : V → Prop where
  | int (i : Int) : Kd K H (.int i)
  | bl (b : Bool) : Kd K H (.bl b)
  | non : Kd K H .non
  | str (x : Str) : Kd K H (.str x)
  | tup {a : Addr} {xs : List V} (h : SqT K H a xs) : Kd K H (.ref a)
def kdn : V → String
  | .int _ => "int"
  | .bl _ => "bool"
  | .non => "NoneType"
  | .str _ => "str"
  | _ => "tuple"
theorem sqT_ty {K : PySem.W.Frag} {H : Hp} {a : Addr} {xs : List V} (h : SqT K H a xs) : TyX K H (.ref a) (.type "tuple") := by
  rcases h with (h | ⟨o, h⟩) | ⟨o, its, n, h1, h2, _⟩
  · exact .base (.tup h)
  · exact .fTuple h
  · exact .kTuple h1 h2
theorem Kd.ty {K : PySem.W.Frag} {H : Hp} {x : V} (h : Kd K H x) : TyX K H x (.type (kdn x)) := by
  cases h with
  | int i => exact .base (.int i)
  | bl i => exact .base (.bl i)
  | non => exact .base .non
  | str i => exact .base (.str i)
  | tup h => exact sqT_ty h
def isaB (n : String) (x : V) : Bool := match x with
  | .int _ => n == "int"
  | .bl _ => n == "int" || n == "bool"
  | .str _ => n == "str"
  | .ref _ => n == "tuple"
  | _ => false
theorem Kd.kit {K : PySem.W.Frag} {H : Hp} {x : V} (h : Kd K H x) {n : String} (hn : n = "int" ∨ n = "bool" ∨ n = "str" ∨ n = "tuple") : PySem.W.kitOne K (.type (kdn x)) (.type n) = some (isaB n x) := by
  refine kit_ty ?_
  have a1 : kitB "int" "int" = some true ∧ kitB "int" "bool" = some false ∧ kitB "int" "str" = some false ∧ kitB "int" "tuple" = some false := by decide +kernel
  have a2 : kitB "bool" "int" = some true ∧ kitB "bool" "bool" = some true ∧ kitB "bool" "str" = some false ∧ kitB "bool" "tuple" = some false := by decide +kernel
  have a3 : kitB "NoneType" "int" = some false ∧ kitB "NoneType" "bool" = some false ∧ kitB "NoneType" "str" = some false ∧ kitB "NoneType" "tuple" = some false := by decide +kernel
  have a4 : kitB "str" "int" = some false ∧ kitB "str" "bool" = some false ∧ kitB "str" "str" = some true ∧ kitB "str" "tuple" = some false := by decide +kernel
  have a5 : kitB "tuple" "int" = some false ∧ kitB "tuple" "bool" = some false ∧ kitB "tuple" "str" = some false ∧ kitB "tuple" "tuple" = some true := by decide +kernel
  rcases hn with rfl | rfl | rfl | rfl <;> cases h <;> simp only [kdn, isaB, a1, a2, a3, a4, a5] <;> decide
/-- isinstance(x, T), x plain data, T one of int, bool, str, tuple -/
def rIsK (K : PySem.W.Frag) : List V → Hp → VK → Prop := fun xs H Q => match xs with
  | [x, .ty n] => (n = "int" ∨ n = "bool" ∨ n = "str" ∨ n = "tuple") ∧ Kd K H x ∧ Q (.bl (isaB n x)) H
  | _ => False
theorem call_isK {X : Cx} : CallR X (.builtin "isinstance") (rIsK X.K) := by
  intro pins s σ H xs us Q I r h
  match xs, h with
  | [x, .ty n], ⟨hn, hx, q⟩ => exact call_isi pins s σ H _ us Q I r ⟨x, .ty n, _, _, _, rfl, .ty n, hx.ty, hx.kit hn, q⟩
/-! ### defs, and calls of them -/
structure Dk (P : Program) (w : World) (K : PySem.W.Frag) (mg : Str → Option Value) (base : Heap) (k : Nat) (x : Str) (ps : List Str) (sp : Sp) : Prop where
  ok : ∃ fd, FnOk P w K mg base (L2.CX P w) k (He.ga K x) fd ps sp ∧ Binds K fd ps []
  kp : PySem.W.keepIn K (.ref (He.ga K x)) = true
  gm : mg x = some (.ref (He.ga K x))
def tCallR (sp : Sp) (W : WX) (t : TA) : TE := fun σ H Q => t σ H fun vs H1 => sp vs H1 Q fun cls d H' => W cls d σ H'
theorem pe_callR {X : Cx} {k : Nat} {x : Str} {ps : List Str} {sp : Sp} {W : WX} {e : Expr} {es : List Expr} {t : TA} {p pos : Pos} (D : Dk X.prog X.w X.K X.mg X.base k x ps sp) (hr : Room k X.A) (tk : Takes X W) (ha : PA X (e :: es) t) (hg : Gl X x := by rfl)
    (hdb : (x == ("__debug__" : Str)) = false := by decide) (he : starEach (e :: es) X.env = (false, eval e X.env) :: starEach es X.env := by rfl) (hpl : (backTo pos (starEach es X.env)).any (·.1) = false := by rfl) :
    PE X (.Call (.Name x p) (e :: es) [] pos) (tCallR sp W t) := by
  obtain ⟨fd, F, B⟩ := D.ok
  exact pe_callS (E := fun σ cls d H' => W cls d σ H') F hr hg D.gm D.kp B (fun σ => passAt tk σ) ha hdb he hpl
structure ExcF (K : PySem.W.Frag) (mg : Str → Option Value) (x : Str) : Prop where
  gm : mg x = some (.ref (He.ga K x))
  ex : PySem.W.excIn K (He.ga K x) He.veBase "ValueError.__new__" = true
  kp : PySem.W.keepIn K (.ref (He.ga K x)) = true
  sb : PySem.W.subIn K (.ref (He.ga K x)) (.type "BaseException") = some true
  tc : PySem.W.typeIn K (.ref (He.ga K x)) = some (.type "type")
theorem excF_mk {K : PySem.W.Frag} {mg : Str → Option Value} {x : Str} (g : mg x = some (.ref (He.ga K x))) (c : (He.Fa.exc x).ok K = true) : ExcF K mg x :=
  let ⟨h1, h2, h3, h4⟩ := He.exc_ok c
  ⟨g, h1, h2, h3, h4⟩
theorem ExcF.rs {X : Cx} {mg : Str → Option Value} {x : Str} (h : ExcF X.K mg x) : Raises X (.ref (He.ga X.K x)) := raises_own h.sb h.tc
/-! ### the hook of facts, with one Bool more -/
def obsX (ex : PySem.W.Frag → Bool) (fa : List He.Fa) (fn : List He.DefD) (K : PySem.W.Frag) : Bool × He.AlD := (ex K, He.obsD fa fn K)
def obsXG (n : Nat) (ex : PySem.W.Frag → Bool) (fa : List He.Fa) (fn : List He.DefD) (g : Addr → Option Obj) : Bool × He.AlD := obsX ex fa fn (He.frG g (He.asD g n))
def SaysX (ex : PySem.W.Frag → Bool) (fa : List He.Fa) (fn : List He.DefD) (K : PySem.W.Frag) : Prop := He.SaysD fa fn K ∧ ex K = true
def hookX (n : Nat) (ex : PySem.W.Frag → Bool) (fa : List He.Fa) (fn : List He.DefD) : PySem.W.Hook where
  α := Bool × He.AlD
  obs := fun s => obsXG n ex fa fn s.heap.get?
  val := fun _ => (true, He.valD fn)
  says := fun _ h => ∃ K : PySem.W.Frag, K.In h ∧ SaysX ex fa fn K
  of := fun _ _ e => ⟨_, He.frG_in, congrArg (fun z : Bool × He.AlD => z.2) e, congrArg (fun z : Bool × He.AlD => z.1) e⟩
  keeps := fun _ _ _ ⟨K, hK, c⟩ k => ⟨K, PySem.W.Frag.In.keeps hK k, c⟩
theorem obsXG_eq {n : Nat} {ex : PySem.W.Frag → Bool} {fa : List He.Fa} {fn : List He.DefD} {g : Addr → Option Obj} {s : Shared} (h : ∀ a, g a = s.heap.get? a) : obsXG n ex fa fn g = (hookX n ex fa fn).obs s := by
  have e : g = s.heap.get? := funext h
  rw [e]; rfl
/-! ### heaps -/
/-- what stood but the list at p is as it was -/
def But (p : Addr) (H H' : Hp) : Prop := ∀ b o, b ≠ p → H b = some o → H' b = some o
/-- tuples stay -/
def TK (H H' : Hp) : Prop := (∀ b xs, H b = some (.tup xs) → H' b = some (.tup xs)) ∧ ∀ b o u, H b = some (.frz o u) → H' b = some (.frz o u)
theorem TK.refl (H : Hp) : TK H H := ⟨fun _ _ h => h, fun _ _ _ h => h⟩
theorem TK.trans {H H1 H2 : Hp} (a : TK H H1) (b : TK H1 H2) : TK H H2 := ⟨fun c xs h => b.1 c xs (a.1 c xs h), fun c o u h => b.2 c o u (a.2 c o u h)⟩
theorem TK.of_same {H H' : Hp} (s : Same H H') : TK H H' := ⟨fun b _ h => s b _ h, fun b _ _ h => s b _ h⟩
theorem TK.of_but {H H' : Hp} {p : Addr} {xs : List V} (s : But p H H') (hp : H p = some (.lst xs)) : TK H H' :=
  ⟨fun b _ h => s b _ (fun z => by rw [z, hp] at h; cases h) h, fun b _ _ h => s b _ (fun z => by rw [z, hp] at h; cases h) h⟩
theorem TK.sqT {K : PySem.W.Frag} {H H' : Hp} {a : Addr} {xs : List V} (k : TK H H') (h : SqT K H a xs) : SqT K H' a xs := by
  rcases h with (h | ⟨o, h⟩) | h
  · exact .inl (.inl (k.1 _ _ h))
  · exact .inl (.inr ⟨o, k.2 _ _ _ h⟩)
  · exact .inr h
theorem Same.sqT {K : PySem.W.Frag} {H H' : Hp} {a : Addr} {xs : List V} (e : Same H H') (h : SqT K H a xs) : SqT K H' a xs := (TK.of_same e).sqT h
theorem same_upd {H : Hp} {p : Addr} {o : HO} (h : H p = none) : Same H (upd H p o) := fun b x e => by
  rw [upd_ne (ne_of_none e h)]
  exact e
theorem But.refl (p : Addr) (H : Hp) : But p H H := fun _ _ _ h => h
theorem But.trans {p : Addr} {H H1 H2 : Hp} (a : But p H H1) (b : But p H1 H2) : But p H H2 := fun c o n h => b c o n (a c o n h)
theorem But.of_same {p : Addr} {H H' : Hp} (s : Same H H') : But p H H' := fun b o _ h => s b o h
theorem But.upd {p : Addr} {H : Hp} {o : HO} : But p H (upd H p o) := fun b _ n h => by rw [upd_ne n]; exact h
/-! ### loops over any iterator of a known number of turns -/
theorem for_gen {J : It} {n : Nat} {g : TG} {tb : TS} {D : Ends} {σ : L2.St} {H : Hp} (Pv : Nat → L2.St → Hp → Prop) (h0 : Pv 0 σ H) (hg : ∀ i σ H, i < n → Pv i σ H → J.go i H) (he : ∀ σ H, Pv n σ H → J.stop n H)
    (hs : ∀ i x σ H H', i < n → Pv i σ H → J.yld i H x H' → g x σ H' fun σ2 H2 => tb { D with nx := Pv (i + 1), ct := Pv (i + 1), bk := D.nx } σ2 H2) (hd : ∀ σ H, Pv n σ H → D.nx σ H) :
    ∃ W : Nat → Nat → L2.St → Hp → Prop, (∃ m, W 0 m σ H) ∧ ∀ i m σ H, W i m σ H →
      (J.stop i H ∧ D.nx σ H) ∨ (J.go i H ∧ ∃ N : L2.St → Hp → Prop, (∀ σ' H', N σ' H' → ∃ m', m' < m ∧ W (i + 1) m' σ' H') ∧ ∀ x H', J.yld i H x H' → g x σ H' fun σ2 H2 => tb { D with nx := N, ct := N, bk := D.nx } σ2 H2) := by
  refine ⟨fun i m σ H => m + i = n ∧ Pv i σ H, ⟨n, rfl, h0⟩, fun i m σ H hW => ?_⟩
  obtain ⟨e, p⟩ := hW
  cases m with
  | zero =>
    have e2 : i = n := by omega
    subst e2
    exact .inl ⟨he σ H p, hd σ H p⟩
  | succ m =>
    have hlt : i < n := by omega
    exact .inr ⟨hg i σ H hlt p, Pv (i + 1), fun σ' H' p' => ⟨m, Nat.lt_succ_self m, by omega, p'⟩, fun x H' y => hs i x σ H H' hlt p y⟩
theorem lc_gen {J : It} {n : Nat} {g : TG} {tt : TT} {te : TE} {vs : List Nat} {σ : L2.St} {H1 : Hp} {D : Addr} {Qd : Hp → Prop} (Pv : Nat → Hp → Prop) (h0 : Pv 0 (upd H1 D (.lst []))) (hg : ∀ i H, i < n → Pv i H → J.go i H) (he : ∀ H, Pv n H → J.stop n H)
    (hs : ∀ i x H H', i < n → Pv i H → J.yld i H x H' → g x (wipe σ vs) H' fun σ2 H2 => wipe σ2 vs = wipe σ vs ∧ tt σ2 H2 fun b H3 =>
      if b = true then te σ2 H3 fun y H4 => ∃ acc, H4 D = some (.lst acc) ∧ acc.length < sizeLine ∧ Pv (i + 1) (upd H4 D (.lst (acc ++ [y]))) else Pv (i + 1) H3) (hd : ∀ H, Pv n H → Qd H) :
    ∃ W : Nat → Nat → Hp → Prop, (∃ m, W 0 m (upd H1 D (.lst []))) ∧ ∀ i m H, W i m H →
      (J.stop i H ∧ Qd H) ∨ (J.go i H ∧ ∃ Nx : Hp → Prop, (∀ H', Nx H' → ∃ m', m' < m ∧ W (i + 1) m' H') ∧ ∀ x H', J.yld i H x H' → g x (wipe σ vs) H' fun σ2 H2 => wipe σ2 vs = wipe σ vs ∧ tt σ2 H2 fun b H3 =>
        if b = true then te σ2 H3 fun y H4 => ∃ acc, H4 D = some (.lst acc) ∧ acc.length < sizeLine ∧ Nx (upd H4 D (.lst (acc ++ [y]))) else Nx H3) := by
  refine ⟨fun i m H => m + i = n ∧ Pv i H, ⟨n, rfl, h0⟩, fun i m H hW => ?_⟩
  obtain ⟨e, p⟩ := hW
  cases m with
  | zero =>
    have e2 : i = n := by omega
    subst e2
    exact .inl ⟨he H p, hd H p⟩
  | succ m =>
    have hlt : i < n := by omega
    exact .inr ⟨hg i H hlt p, Pv (i + 1), fun H' p' => ⟨m, Nat.lt_succ_self m, by omega, p'⟩, fun x H' y => hs i x H H' hlt p y⟩
end Sg

/-! set(..) of a text: its signs, each once -/
namespace Sg
open PySem
section
variable {κ : Type} [DecidableEq κ]
def addOne (acc : List κ) (v : κ) : List κ := if v ∈ acc then acc else acc ++ [v]
def once (l : List κ) : List κ := l.foldl addOne []
theorem addOne_mem {acc : List κ} {v k : κ} : k ∈ addOne acc v ↔ k ∈ acc ∨ k = v := by
  unfold addOne
  by_cases h : v ∈ acc
  · rw [if_pos h]
    exact ⟨.inl, fun q => q.elim id fun e => e ▸ h⟩
  · rw [if_neg h, List.mem_append, List.mem_singleton]
theorem addOne_len {acc : List κ} {v : κ} : (addOne acc v).length ≤ acc.length + 1 := by
  unfold addOne
  by_cases h : v ∈ acc
  · rw [if_pos h]; exact Nat.le_succ _
  · rw [if_neg h, List.length_append]; exact Nat.le_refl _
theorem once_snoc (l : List κ) (v : κ) : once (l ++ [v]) = addOne (once l) v := by
  unfold once
  rw [List.foldl_append]
  rfl
theorem once_len (l : List κ) : (once l).length ≤ l.length := by
  have h : ∀ (l acc : List κ), (l.foldl addOne acc).length ≤ acc.length + l.length := by
    intro l
    induction l with
    | nil => intro acc; exact Nat.le_refl _
    | cons a r ih =>
      intro acc
      have h1 := ih (addOne acc a)
      have h2 := addOne_len (acc := acc) (v := a)
      show ((r.foldl addOne (addOne acc a))).length ≤ acc.length + (r.length + 1)
      omega
  have h1 := h l []
  rw [List.length_nil, Nat.zero_add] at h1
  exact h1
theorem once_mem (l : List κ) (k : κ) : k ∈ once l ↔ k ∈ l := by
  have h : ∀ (l acc : List κ), k ∈ l.foldl addOne acc ↔ k ∈ acc ∨ k ∈ l := by
    intro l
    induction l with
    | nil => intro acc; simp
    | cons a r ih =>
      intro acc
      show k ∈ r.foldl addOne (addOne acc a) ↔ _
      rw [ih, addOne_mem, List.mem_cons]
      exact or_assoc
  have h1 := h l []
  simpa [once] using h1
theorem once_nodup_self {l : List κ} (h : l.Nodup) : once l = l := by
  have key : ∀ (r acc : List κ), (acc ++ r).Nodup → r.foldl addOne acc = acc ++ r := by
    intro r
    induction r with
    | nil => intro acc _; simp
    | cons a r ih =>
      intro acc hn
      have hna : a ∉ acc := fun hm => by
        have := List.nodup_append.mp hn
        exact this.2.2 a hm a (List.mem_cons_self ..) rfl
      show r.foldl addOne (addOne acc a) = _
      have e : addOne acc a = acc ++ [a] := if_neg hna
      rw [e, ih (acc ++ [a]) (by simpa using hn)]
      simp
  have := key l [] (by simpa using h)
  simpa [once] using this
end
section
variable {prog : Program} {w : World} {A : Around} {R : Result → Shared → Prop} {it : Addr} {fp wr : List Addr} {G : Array GenState → Array GenState → Prop} {n : Nat} {Pk : Nat → Value → Prop} {Sx : Nat → Shared → Prop}
variable {κ : Type} [DecidableEq κ]
def upto (val : Nat → κ) (i : Nat) : List κ := once ((List.range i).map val)
theorem upto_zero (val : Nat → κ) : upto val 0 = [] := rfl
theorem upto_succ (val : Nat → κ) (i : Nat) : upto val (i + 1) = addOne (upto val i) (val i) := by
  unfold upto
  rw [List.range_succ, List.map_append, List.map_singleton, once_snoc]
theorem upto_len (val : Nat → κ) (i : Nat) : (upto val i).length ≤ i := by
  have h := once_len ((List.range i).map val)
  rw [List.length_map, List.length_range] at h
  exact h
theorem setOf_as {knd : KeyKind prog w κ} {h : Heap} {a : Addr} {S T : κ → Bool} {m q : Nat} (x : h.SetOf knd a S m) (e : ∀ k, S k = T k) (en : m = q) : h.SetOf knd a T q := by
  obtain rfl : S = T := funext e
  subst en
  exact x
theorem upto_add (val : Nat → κ) (i : Nat) (k : κ) : (decide (k ∈ upto val i) || decide (k = val i)) = decide (k ∈ upto val (i + 1)) := by
  rw [upto_succ]
  by_cases h : k ∈ addOne (upto val i) (val i)
  · rw [decide_eq_true h]
    rcases addOne_mem.mp h with q | q
    · simp [q]
    · simp [q]
  · rw [decide_eq_false h]
    have h1 : ¬ k ∈ upto val i := fun q => h (addOne_mem.mpr (.inl q))
    have h2 : ¬ k = val i := fun q => h (addOne_mem.mpr (.inr q))
    simp [h1, h2]
theorem upto_count (val : Nat → κ) (i : Nat) : (if decide (val i ∈ upto val i) = true then (upto val i).length else (upto val i).length + 1) = (upto val (i + 1)).length := by
  rw [upto_succ]
  unfold addOne
  by_cases h : val i ∈ upto val i
  · rw [decide_eq_true h, if_pos rfl, if_pos h]
  · rw [decide_eq_false h, if_neg Bool.false_ne_true, if_neg h, List.length_append]
    rfl
/-- set.update over any walk of values that are keys of a kind -/
theorem code_upd {knd : KeyKind prog w κ} (Wk : WalksS prog w A.in1 it fp wr G n Pk Sx) (a : Addr) (haf : a ∉ fp) (val : Nat → κ) (hval : ∀ i v, Pk i v → knd.is (val i) v = true ∧ v.scannable = true) (hb : n + 1 < scanBound) :
    ∀ (m i : Nat) (s : Shared), m + i = n → Sx i s → s.heap.SetOf knd a (fun k => decide (k ∈ upto val i)) (upto val i).length →
      (∀ s', Moved (a :: wr) G s s' → s'.heap.SetOf knd a (fun k => decide (k ∈ upto val n)) (upto val n).length → R (.ok (.ret .none)) s') →
      codeAny (model prog w) A (.builtin "set.update.loop" ⟨[.ref a, .ref it], []⟩) R s := by
  have haw : a ∉ wr := fun q => haf (Wk.sub _ q)
  have sub : ∀ b ∈ wr, b ∈ a :: wr := fun b q => List.mem_cons_of_mem _ q
  have keep : ∀ {s s' : Shared} {S : κ → Bool} {q : Nat}, Moved wr G s s' → s.heap.SetOf knd a S q → s'.heap.SetOf knd a S q := fun hm ⟨o, es, ep, t, ho, r⟩ => ⟨o, es, ep, t, hm.heap a _ haw ho, r⟩
  intro m
  induction m with
  | zero =>
    intro i s e hst hS hR
    obtain rfl : i = n := by omega
    refine codeAny_builtin PyProof.Rows.F.entry_set_update_loop ?_
    rw [Around.under_plainId PyProof.Rows.F.plain_set_update_loop _]
    refine wpAny_bind (Wk.done s _ _ hst fun s' hm => ?_)
    show wpAny _ A.in1 (ret Value.none) _ _ s'
    exact wpAny_pure (hR s' (hm.mono sub) (keep hm hS))
  | succ m ih =>
    intro i s e hst hS hR
    have hlt : i < n := by omega
    refine codeAny_builtin PyProof.Rows.F.entry_set_update_loop ?_
    rw [Around.under_plainId PyProof.Rows.F.plain_set_update_loop _]
    refine wpAny_bind (Wk.item i s _ _ hlt hst fun v s' hP hst' hm => ?_)
    obtain ⟨hk, hsc⟩ := hval i v hP
    show wpAny _ A.in1 (holding [v] (setAdd a v) >>= _) _ _ s'
    refine wpAny_bind (wpAny_holding ?_)
    unfold setAdd
    refine wpAny_holding (wpAny_bind (knd.pyHash hk ?_))
    have room : (upto val i).length + 1 < scanBound := by
      have := upto_len val i
      omega
    have hS1 := keep hm hS
    refine wpAny_setAddHashed_of (knd := knd) (s := { s' with toks := s'.toks + 1 }) hk hsc hS1 room fun h' sb hS2 => ?_
    have hS3 := setOf_as hS2 (upto_add val i) (upto_count val i)
    refine wpAny_pure ⟨plainId_quiet PyProof.Rows.F.plain_set_update_loop _, ih (i + 1) _ (by omega) (Wk.frame _ s' _ _ hst' (Nat.le_succ _) fun b q o z => ?_) hS3 fun s2 hm2 hS4 => ?_⟩
    · rw [sb.2 b fun z2 : b = a => haf (by rw [← z2]; exact q)]
      exact z
    · refine hR s2 (Moved.trans Wk.gtrans ((hm.mono sub).then_heap (Nat.le_succ _) fun b o q z => ?_) hm2) hS4
      rw [sb.2 b fun z2 : b = a => q (by rw [z2]; exact List.mem_cons_self)]
      exact z
end
namespace FX
theorem sub_str_set : isSubtype (.type "str") (.type "set") = pure false := by rw [isSubtype_type]; kernel_rfl
theorem sub_str_frozenset : isSubtype (.type "str") (.type "frozenset") = pure false := by rw [isSubtype_type]; kernel_rfl
end FX
def sgn (c : Nat) : Str := ⟨#[c]⟩
section
variable {prog : Program} {w : World} {A : Around} {E : Value → Shared → Prop} {s : Shared}
theorem call_set_text {x : Str} {u : Tok} {Q : Value → Shared → Prop} (hh : A.handled = none) (hb : x.cps.size + 1 < scanBound)
    (h : ∀ (h' : Heap) (tk : Nat), h'.SetOf (strKind prog w) s.heap.objs.size (fun k => decide (k ∈ upto (fun i => sgn (x.cps.getD i 0)) x.cps.size)) (upto (fun i => sgn (x.cps.getD i 0)) x.cps.size).length →
      (∀ b o, b < s.heap.objs.size → s.heap.get? b = some o → h'.get? b = some o) → Q (.ref s.heap.objs.size) { s with heap := h', toks := tk }) :
    wpAny (model prog w) A (call (.type "set") [.str x u]) Q E s := by
  obtain ⟨c, tl, hmro⟩ := F.called_set.mro
  have hmade := F.called_set.made
  have hsub := F.called_set.sub
  refine wpAny_call (codeAny_of_tree ?_)
  show wpAny _ _ (callAny (.type "set") _) _ _ _
  refine wpAny_pure ⟨Code.quiet_builtin _ (by decide +kernel), codeAny_builtin F.entry_type_call ?_⟩
  rw [Around.under_plain (weight_type_call_type "set" [.str x u] []) rfl]
  have h1 := F.called_set.notType
  have h2 := F.called_set.canCreate
  have hct := F.typeCall_set_1 (.str x u)
  repeat (any_goals (first | assumption | wp_step))
  have fresh : ∀ led : Bool, (s.heap.push { cls := .type "set", dict := none, data := .set #[] 0 (.fresh 0 0 led) }).get? s.heap.objs.size = some { cls := .type "set", dict := none, data := .set #[] 0 (.fresh 0 0 led) } := fun led => Heap.get?_push_size _ rfl
  refine codeAny_mono (code_set_new_1 (.str x u) (E := E) (Q₁ := fun z s₁ => ∃ led : Bool, z = .ref s.heap.objs.size ∧ s₁ = { s with heap := s.heap.push { cls := .type "set", dict := none, data := .set #[] 0 (.fresh 0 0 led) } }) fun led => ⟨led, rfl, rfl⟩) fun r s₁ hr => ?_
  cases r with
  | error e => exact hr
  | ok fl =>
    cases fl with
    | ret z =>
      obtain ⟨led, rfl, rfl⟩ := hr
      have hT : Shared.TypeIs { s with heap := s.heap.push { cls := .type "set", dict := none, data := .set #[] 0 (.fresh 0 0 led) } } (.ref s.heap.objs.size) "set" := ⟨_, fresh led, rfl⟩
      have hli := F.called_set.init.lookup
      have hbi := F.called_set.init.bind (.ref s.heap.objs.size)
      repeat (any_goals (first | assumption | wp_step))
      refine codeAny_mono (codeAny_call_builtin (R := wants (fun r s₂ => r = .none ∧ ∃ h' tk, s₂ = { s with heap := h', toks := tk } ∧
          h'.SetOf (strKind prog w) s.heap.objs.size (fun k => decide (k ∈ upto (fun i => sgn (x.cps.getD i 0)) x.cps.size)) (upto (fun i => sgn (x.cps.getD i 0)) x.cps.size).length ∧
          (∀ b o, b < s.heap.objs.size → s.heap.get? b = some o → h'.get? b = some o)) E) F.called_set.init.plain F.entry_set_init (check_set_init_1 hT ?_)) fun r₂ s₂ hr₂ => ?_
      · have hsls := FX.sub_str_set
        have hslf := FX.sub_str_frozenset
        unfold Builtin.«set.__init__» noKeywords Builtin.Frozenset.updateFrom
        generalize hPI : pyIter = PI
        wp_walk
        subst hPI
        refine wpAny_pyIter_str fun o Sx mk st0 => ?_
        refine wpAny_bind (wpAny_runValue ?_)
        have hh3 : A.in1.in1.in1.handled = none := by simp [hh]
        have hsz : (s.heap.push { cls := .type "set", dict := none, data := .set #[] 0 (.fresh 0 0 led) }).objs.size = s.heap.objs.size + 1 := Heap.size_push ..
        have haf : s.heap.objs.size ∉ [(s.heap.push { cls := .type "set", dict := none, data := .set #[] 0 (.fresh 0 0 led) }).objs.size] := by
          rw [hsz]
          simp
        have hset : ((s.heap.push { cls := .type "set", dict := none, data := .set #[] 0 (.fresh 0 0 led) }).push o).get? s.heap.objs.size = some { cls := .type "set", dict := none, data := .set #[] 0 (.fresh 0 0 led) } := Heap.get?_push_of_some _ (fresh led)
        refine code_upd (knd := strKind prog w) (n := x.cps.size) ((mk _ hh3).toS) s.heap.objs.size haf (fun i => sgn (x.cps.getD i 0)) (fun i v hv => ?_) hb x.cps.size 0 _ (Nat.add_zero _) st0 ?_ fun s' hm hS => ?_
        · obtain ⟨c, u', hc, rfl⟩ := hv
          have e : x.cps.getD i 0 = c := by
            rw [Array.getD_eq_getD_getElem?, hc]
            rfl
          exact ⟨by show (strKind prog w).is (sgn (x.cps.getD i 0)) (.str ⟨#[c]⟩ u') = true; rw [e]; exact strKind_is _ _ _ _, rfl⟩
        · exact setOf_as ((PyProof.Rows.setObjOf_fresh (knd := strKind prog w) led).setOf hset (by unfold scanBound; omega)) (fun _ => rfl) rfl
        · obtain ⟨h', g', d', tk', os'⟩ := s'
          obtain rfl : g' = s.gens := hm.gens
          obtain rfl : d' = s.drawn := hm.drawn
          obtain rfl : os' = s.os := hm.os
          refine wpAny_pure (wpAny_pure ⟨rfl, h', tk', rfl, hS, fun b o2 hlt e => ?_⟩)
          refine hm.heap b o2 ?_ (Heap.get?_push_of_some _ (Heap.get?_push_of_some _ e))
          rw [hsz]
          simp only [List.mem_cons, List.not_mem_nil, or_false, not_or]
          exact ⟨Nat.ne_of_lt hlt, Nat.ne_of_lt (Nat.lt_succ_of_lt hlt)⟩
      · cases r₂ with
        | error e => exact hr₂
        | ok fl₂ =>
          cases fl₂ with
          | ret r =>
            obtain ⟨rfl, h', tk, rfl, hS', hk'⟩ := hr₂
            repeat (any_goals (first | assumption | wp_step))
            exact h _ _ hS' hk'
          | _ => exact hr₂.elim
    | _ => exact hr.elim
end
end Sg

/-! rules: len(set(text)), enumerate(tuple), repr of plain values, list(text), {(a, b): v} -/
namespace Sg
open PySem PySem.Spec PyProof.Rows L2
def signsOf (x : Str) : List Str := x.cps.toList.map sgn
/-! ### len(set(text)) -/
def tLenSetT (ta : TE) : TE := fun σ H Q => ta σ H fun x H1 => match x with
  | .str z => z.length ≤ 1000 ∧ Q (.int ((once (signsOf z)).length : Nat)) H1
  | _ => False
theorem upto_text (z : Str) : upto (fun i => sgn (z.cps.getD i 0)) z.cps.size = once (signsOf z) := by
  unfold upto signsOf
  congr 1
  apply List.ext_getElem?
  intro i
  rw [List.getElem?_map, List.getElem?_map]
  by_cases h : i < z.cps.size
  · rw [List.getElem?_range h, Array.getElem?_toList, Array.getElem?_eq_getElem h, Option.map_some, Option.map_some, Array.getD_eq_getD_getElem?, Array.getElem?_eq_getElem h]
    rfl
  · rw [List.getElem?_eq_none (by simpa using h), Array.getElem?_toList, Array.getElem?_eq_none (by simpa using h)]
    rfl
theorem pe_lenSetT {X : Cx} {a : Expr} {ta : TE} {p p2 q pos : Pos} (hg : Gl X "len") (hm : X.mg "len" = none) (hg2 : Gl X "set") (hm2 : X.mg "set" = none) (ha : PE X a ta) (hc : X.calm = true)
    (na : starEach [a] X.env = (false, eval a X.env) :: starEach [] X.env := by rfl) : PE X (.Call (.Name "len" p) [.Call (.Name "set" p2) [a] [] q] [] pos) (tLenSetT ta) := by
  refine ⟨fun pins s σ H Q I h => ?_⟩
  refine Call_ (ld_blt I hg hm PySem.boot_len ?_)
  refine PyProof.Rows.callWith_builtin1 (PyProof.Rows.args_cons ?_ rfl) rfl rfl
  refine Call_ (ld_blt I hg2 hm2 PyProof.Rows.boot_set ?_)
  refine PyProof.Rows.callWith_type1 (PyProof.Rows.args_cons (thn (ha.run pins s σ H _ I h) fun v s1 ⟨x, H1, I1, r1, q1⟩ => PyProof.Rows.args_nil ?_) na) na rfl
  match x, q1 with
  | .str z, ⟨hz, q2⟩ =>
    obtain ⟨u, rfl⟩ := r1
    refine call_set_text (I1.ok.hd hc) (by unfold scanBound; show z.length + 1 < _; omega) fun h' tk hS hk => PyProof.Rows.args_nil ?_
    rw [upto_text] at hS
    obtain ⟨o, es, ep, t, ho, hex, hd, _, _, _, hf, hn⟩ := hS
    have I2 : Inv X pins σ H1 { s1 with heap := h', toks := tk } := I1.kept fun b o e => hk b o (Heap.lt_size e) e
    have hlen : (once (signsOf z)).length ≤ 1000 := by
      have h1 := once_len (signsOf z)
      unfold signsOf at h1
      rw [List.length_map, Array.length_toList] at h1
      exact Nat.le_trans h1 hz
    exact call_len_set ho hex hd hf (by rw [hn] <;> omega) ⟨.int ((once (signsOf z)).length : Nat), H1, I2.tok _, ⟨_, by rw [hn]⟩, q2⟩
/-! ### repr of None, a bool, an int, a text -/
def rReprP : List V → Hp → VK → Prop := fun xs H Q => match xs with
  | [.non] => Q (.str "None") H
  | [.bl b] => Q (.str (if b then "True" else "False")) H
  | [.int i] => i.natAbs.log2 < 1920 ∧ Q (.str (toString i)) H
  | [.str z] => (reprText z).length ≤ sizeLine ∧ Q (.str (reprText z)) H
  | _ => False
theorem call_reprP {X : Cx} : CallR X (.builtin "repr") rReprP := by
  intro pins s σ H xs us Q I r h
  match xs, h with
  | [.non], q =>
    obtain ⟨u, rfl, rfl⟩ := vals1 r
    exact PySem.P.repr_of_none ⟨.str _, H, I.tok _, ⟨_, rfl⟩, q⟩
  | [.bl b], q =>
    obtain ⟨u, rfl, rfl⟩ := vals1 r
    exact PySem.P.repr_of_bool ⟨.str _, H, I.tok _, ⟨_, rfl⟩, q⟩
  | [.int i], ⟨hz, q⟩ =>
    obtain ⟨u, rfl, t, rfl⟩ := vals1 r
    exact PySem.P.repr_of_int hz ⟨.str _, H, I.tok _, ⟨_, rfl⟩, q⟩
  | [.str z], ⟨hz, q⟩ =>
    obtain ⟨u, rfl, t, rfl⟩ := vals1 r
    exact PySem.P.repr_of_str ⟨.str _, H, I.tok _, ⟨_, rfl⟩, q⟩ hz
/-! ### list(text) -/
def rListS : List V → Hp → VK → Prop := fun xs H Q => match xs with
  | [.str z] => z.length ≤ sizeLine ∧ ∀ l, H l = none → Q (.ref l) (upd H l (.lst ((signsOf z).map V.str)))
  | _ => False
theorem vals_signs {z : Str} : ∀ {acc : Array Value}, ItemsOf (SignAt z) acc z.cps.size → Vals ((signsOf z).map V.str) acc.toList := by
  intro acc h
  have key : ∀ (n : Nat) (xs : List V) (us : List Value), xs.length = n → us.length = n → (∀ (i : Nat) (x : V) (u : Value), xs[i]? = some x → us[i]? = some u → RelV x u) → Vals xs us := by
    intro n
    induction n with
    | zero =>
      intro xs us h1 h2 _
      rw [List.length_eq_zero_iff.mp h1, List.length_eq_zero_iff.mp h2]
      exact .nil
    | succ n ih =>
      intro xs us h1 h2 hr
      match xs, us, h1, h2 with
      | x :: xs, u :: us, h1, h2 => exact .cons (hr 0 x u rfl rfl) (ih xs us (by simpa using h1) (by simpa using h2) fun i y v e1 e2 => hr (i + 1) y v e1 e2)
  have hs : acc.size = z.cps.size := h.1
  refine key z.cps.size _ _ (by simp [signsOf]) (by simp [hs]) fun i x u e1 e2 => ?_
  have hi : i < z.cps.size := by
    have := (List.getElem?_eq_some_iff.mp e2).1
    simpa [hs] using this
  obtain ⟨c, t, hc, hu⟩ := h.2 i u (by simpa using e2)
  rw [List.getElem?_map] at e1
  unfold signsOf at e1
  rw [List.getElem?_map, Array.getElem?_toList, hc] at e1
  have e : V.str (sgn c) = x := Option.some.inj e1
  rw [← e]
  exact ⟨t, hu⟩
theorem call_listS {X : Cx} (hc : X.calm = true) : CallR X (.type "list") rListS := by
  intro pins s σ H xs us Q I r h
  match xs, h with
  | [.str z], ⟨hz, q⟩ =>
    obtain ⟨u, rfl, t, rfl⟩ := vals1 r
    refine call_list_str (I.ok.hd hc) z t (fun h' tk acc' c' kp e hit => ?_) hz
    have hv := vals_signs hit
    have hlen : ((signsOf z).map V.str).length ≤ sizeLine := by
      rw [List.length_map]; unfold signsOf; rw [List.length_map, Array.length_toList]; exact hz
    exact ⟨.ref s.heap.objs.size, _, I.laid (t' := tk) kp (Nat.le_refl _) (show ObjOk X.prog X.w _ h' _ (.lst _) from ⟨hlen, acc'.toList, c', hv, by simpa using e⟩), rfl, q _ (I.hok.fresh (Nat.le_refl _))⟩
/-! ### {k: v}, k a tuple of ints and texts -/
def tDispT (tk tv : TE) : TE := fun σ H Q => ∀ p, H p = none → tk σ (upd H p (.dT [])) fun x H1 => tv σ H1 fun y H2 => H2 p = some (.dT []) ∧ ∃ (b : Addr) (ks : List Key), x = .ref b ∧ H2 b = some (.tup (ks.map kV)) ∧ Q (.ref p) (upd H2 p (.dT [(ks, y)]))
theorem pe_dispT {X : Cx} {k v : Expr} {tk tv : TE} {pos : Pos} (hu : X.A.units + 1 < cLine) (hk : PE X k tk) (hv : PE X v tv) : PE X (.Dict [some k] [v] pos) (tDispT tk tv) := by
  refine ⟨fun pins s σ H Q I q => ?_⟩
  have hn := I.hok.fresh (Nat.le_refl s.heap.objs.size)
  have I1 := I.laid (a := s.heap.objs.size) (o := .dT []) (h' := s.heap.push { cls := .type "dict", data := .dict #[] }) (t' := s.toks) (fun _ _ q => Heap.get?_push_of_some _ q) (Nat.le_refl _) (dt_empty s.heap I.big)
  have e : (evalEachOpt [some k] X.env).zip ((evalEach [v] X.env).map fun v => do let x ← v; standAt pos; pure x) = (pairTrees [some k] [v] X.env pos).map fun p => (some p.1, p.2) := zip_pairTrees [some k] [v] X.env pos rfl rfl
  have hl : (pairTrees [some k] [v] X.env pos).length = 1 := pairTrees_length [some k] [v] X.env pos rfl rfl
  rw [arm_eval_Dict, e, dictDisplay_pairs _ (fun z => by rw [z] at hl; cases hl) (by omega)]
  refine wpAny_bind (wpAny_standAt (wpAny_bind (wpAny_subDictH (knd := tupleKind (mixKind X.prog X.w)) (Nat.lt_of_succ_lt hu) (by omega) ?_)))
  refine pairTrees_cons_walk (thn (hk.run pins _ σ _ _ I1 (q _ hn)) fun u s1 ⟨x, H1, I2, rx, q1⟩ => thn (hv.run pins s1 σ H1 _ I2 q1) fun w2 s2 ⟨y, H2, I3, ry, e2, b, ks, ex, eb, q2⟩ => pairTrees_nil_walk ?_)
  subst ex
  cases (show u = Value.ref b from rx)
  obtain ⟨z, hd, xs, rel, dd⟩ := dt_of I3.hok e2
  cases rel
  refine ⟨[(ks, b, w2)], ⟨rfl, rfl, key_of I3.hok eb, True.intro⟩, dd, fun h' tk dd' hs => wpAny_pure ⟨.ref s.heap.objs.size, _, ?_, rfl, q2⟩⟩
  obtain ⟨o, es, ep, ho, h2, h3, h4, _, h5⟩ := dd'
  have hb : b ≠ s.heap.objs.size := ne_of eb e2 (fun z => nomatch z)
  refine d_write I3 (by rw [e2]; exact True.intro) hs ⟨o, ho⟩ ⟨by rw [sizeLine_eq]; show 1 ≤ _; omega, hd, [(ks, b, w2)], .cons ⟨rfl, ?_, ry⟩ .nil, o, es, ep, ho, h2, h3, h4, h5⟩
  rw [upd_ne hb]
  exact eb
/-! ### enumerate(tuple) -/
def IteT (K : PySem.W.Frag) (a : Addr) : It :=
  ⟨fun i H => ∃ (xs : List V) (x : V), SqT K H a xs ∧ xs[i]? = some x, fun i H v H' => ∃ T x, v = .ref T ∧ H T = none ∧ H' = upd H T (.tup [.int (i : Nat), x]) ∧ ∀ xs, SqT K H a xs → xs[i]? = some x, fun i H => ∃ xs : List V, SqT K H a xs ∧ xs.length ≤ i⟩
theorem turn_enumT {P : Program} {w : World} {K : PySem.W.Frag} {elts : List Expr} {kk : Nat} {tpos : Pos} (a e it : Addr) :
    Turn P w K (.Tuple elts kk tpos) (IteT K a) [e, it] e (fun i h => (∃ old, IsEnum h e it ((i : Nat) : Int) old) ∧ h.IsTupleIter it a i ∧ e ≠ it ∧ a ≠ e ∧ a ≠ it) where
  mem := by simp
  obj := fun i h st b hb => by
    obtain ⟨⟨old, he⟩, ⟨o, ho, hc, hd⟩, _⟩ := st
    have e' : b = e ∨ b = it := by simpa using hb
    rcases e' with z | z
    · exact z ▸ ⟨_, he, fun v q => nomatch q⟩
    · exact z ▸ ⟨o, ho, fun v q => by rw [hd] at q; cases q⟩
  keep := fun i h h' st k => by
    obtain ⟨⟨old, he⟩, hi, n1, n2, n3⟩ := st
    exact ⟨⟨old, k e (by simp) _ he⟩, hi.at fun o q => k it (by simp) o q, n1, n2, n3⟩
  item := by
    intro X hP hw hK hc i pins s σ H E I hf st hg
    subst hP hw hK
    obtain ⟨⟨old, he⟩, hit, n1, n2, n3⟩ := st
    obtain ⟨xs, x, hq, hx⟩ := hg
    obtain ⟨its, rv, p, hz⟩ := I.tuple hq
    obtain ⟨u, hu, ru⟩ := rv.get hx
    have hel : e < s.heap.objs.size := Heap.lt_size he
    have hil : it < s.heap.objs.size := by
      obtain ⟨_, q, _⟩ := hit
      exact Heap.lt_size q
    have low : ∀ b, b ∈ [e, it] → b < s.heap.objs.size := fun b hb => by
      have e' : b = e ∨ b = it := by simpa using hb
      rcases e' with z | z <;> rw [z] <;> assumption
    have hlt : i < its.toArray.size := by
      have := (List.getElem?_eq_some_iff.mp hu).1
      simpa using this
    refine wpAny_pyNext_enum_itemC (Draws.tuple (A := X.A.in1) (I.ok.hd hc) it a n3 its.toArray) he (⟨hit, p⟩ : s.heap.IsTupleIter it a i ∧ s.heap.IsTuple a its.toArray) hlt n1 (by simp [n1, Ne.symm n2]) fun y h' tk hy ho hst hT hsz hk => ?_
    have ey : y = u := by
      have h1 : its.toArray[i]? = some y := hy
      rw [List.getElem?_toArray, hu] at h1
      exact (Option.some.inj h1).symm
    subst ey
    refine ⟨_, rfl, wpAny_letOwnedTupleGo_enum (s := { s with heap := h', toks := tk + 1 }) ho fun h2 he2 sb => ?_⟩
    have hT2 : h2.get? s.heap.objs.size = some { cls := .type "tuple", data := .seq #[.int i tk, y] } := (sb.2 _ (Nat.ne_of_gt hel)).trans hT
    have made : ObjOk X.prog X.w (upd H s.heap.objs.size (.tup [.int (i : Nat), x])) h2 s.heap.objs.size (.tup [.int (i : Nat), x]) :=
      ⟨by show 2 ≤ sizeLine; decide, [.int i tk, y], .cons ⟨_, rfl⟩ (.cons ru .nil), ⟨_, hT2, rfl, _, rfl⟩⟩
    have out : ∀ b, b ∉ [e, it] → b ≠ e ∧ b ≠ it := fun b hb => ⟨fun z => hb (by simp [z]), fun z => hb (by simp [z])⟩
    have I1 : Inv X pins σ (upd H s.heap.objs.size (.tup [.int (i : Nat), x])) { s with heap := h2, toks := tk + 1 } :=
      I.turnedNew (ch := [e, it]) (fun b ob hb q => (sb.2 b (out b hb).1).trans (hk b ob (out b hb).1 (out b hb).2 q)) hf (Nat.le_refl _) made
    refine ⟨.ref s.heap.objs.size, _, I1, rfl, ⟨_, x, rfl, I.hok.fresh (Nat.le_refl _), rfl, fun ys hy => by rw [I.tuple_inj hy hq]; exact hx⟩, ⟨⟨y, ?_⟩, hst.1.at fun o q => (sb.2 it (Ne.symm n1)).trans q, n1, n2, n3⟩, fun b hb => ?_⟩
    · have e1 : ((i + 1 : Nat) : Int) = (i : Int) + 1 := by omega
      rw [e1]
      exact he2
    · rw [upd_ne (Nat.ne_of_lt (low b hb))]
      exact (hf b hb).1
  done := by
    intro X hP hw hK hc i pins s σ H E I hf st hg
    subst hP hw hK
    obtain ⟨⟨old, he⟩, hit, n1, n2, n3⟩ := st
    obtain ⟨xs, hq, hx⟩ := hg
    obtain ⟨its, rv, p, hz⟩ := I.tuple hq
    obtain ⟨f0, f1, f2, f3, f4, f5⟩ := hf it (by simp)
    have hl := rv.length
    have hnone : its.toArray[i]? = none := by
      rw [List.getElem?_toArray]
      exact List.getElem?_eq_none (by omega)
    have D : Draws X.prog X.w X.A.in1 it [it, a] i (fun _ _ => True) (fun j h => j = i ∧ h.IsTupleIter it a i ∧ h.IsTuple a its.toArray) :=
      { live := fun _ _ st => let ⟨o, ho, _⟩ := st.2.1; ⟨o, ho⟩
        frame := fun _ _ _ st k => ⟨st.1, st.2.1.at fun o q => k it (by simp) o q, st.2.2.at fun o q => k a (by simp) o q⟩
        item := fun j s Q E hj st _ => absurd hj (by rw [st.1]; exact Nat.lt_irrefl _)
        done := fun s Q E st hE => wpAny_nextOf_tuple_end (I.ok.hd hc) st.2.1 st.2.2 hnone hE }
    exact wpAny_pyNext_enum_endD D he ⟨rfl, hit, p⟩ fun h' eb => ⟨rfl, I.turned (t' := s.toks) (fun b o hb q => eb b o hb q) f0 f1 f3 f4 f5⟩
  self := fun A i s Q E st h => by
    obtain ⟨⟨_, he⟩, _⟩ := st
    exact wpAny_pyIter_enum he h
namespace FX
/-- enumerate(t) of a tuple: the maker's own tree -/
theorem meets_enumT (l : Addr) (items : Array Value) (n : Nat) (dct : Option Addr) (sl : Array (Option Value)) :
    Meets (Builtin.«enumerate.__new__» ⟨[.type "enumerate", .ref l], []⟩) (fun _ R s => s.heap.get? l = some { cls := .type "tuple", dict := dct, data := .seq items n, slots := sl } ∧
      R (.ok (.ret (.ref (s.heap.push { cls := .type "tuple_iterator", data := .fields #[.ref l, .int 0 0] }).objs.size)))
        { s with heap := (s.heap.push { cls := .type "tuple_iterator", data := .fields #[.ref l, .int 0 0] }).push { cls := .type "enumerate", data := .fields #[.none, .bool false, .ref s.heap.objs.size, rawInt 0, .none, .none] } }) :=
  .of_wp fun prog w A R s h => by
    obtain ⟨hp, g, d, tk, os⟩ := s
    obtain ⟨hl, h⟩ := h
    have hsub := sub_enumerate
    have hT : Heap.IsTuple (Shared.heap ⟨hp, g, d, tk, os⟩) l items := ⟨_, hl, rfl, n, rfl⟩
    wp_walk using AutoSeq1.wpAny_loadPart' hl
    refine wpAny_stack_any fun st => wpAny_pure ?_
    split
    · rename_i c _ _ _ _ _
      cases (c == Value.type "enumerate") <;>
      · wp_walk using AutoSeq1.wpAny_loadPart' hl, wpAny_pyIter_tuple hT
        exact ⟨_, rfl, h⟩
    · wp_walk using AutoSeq1.wpAny_loadPart' hl, wpAny_pyIter_tuple hT
      exact ⟨_, rfl, h⟩
end FX
theorem call_enumT {prog : Program} {w : World} {A : Around} {E : Value → Shared → Prop} {s : Shared} {l : Addr} {items : Array Value} {Q : Value → Shared → Prop} (ht : s.heap.IsTuple l items)
    (h : ∀ h', IsEnum h' (s.heap.objs.size + 1) s.heap.objs.size 0 .none → h'.IsTupleIter s.heap.objs.size l 0 → (∀ b o, s.heap.get? b = some o → h'.get? b = some o) → Q (.ref (s.heap.objs.size + 1)) { s with heap := h' }) :
    wpAny (model prog w) A (call (.type "enumerate") [.ref l]) Q E s := by
  obtain ⟨⟨c, dct, dt, sl⟩, hl, hc, n, hd⟩ := ht
  obtain rfl : c = .type "tuple" := hc
  obtain rfl : dt = .seq items n := hd
  refine callType_new F.called_enumerate (by decide) (F.typeCall_enumerate_1 _) (F.newCall_enumerate_1 _) (fun z => F.args_object_init_2 z _) F.entry_enumerate_new (FX.meets_enumT l items n dct sl) ⟨hl, ?_⟩
  have hz : (s.heap.push { cls := .type "tuple_iterator", data := .fields #[.ref l, .int 0 0] }).objs.size = s.heap.objs.size + 1 := Heap.size_push ..
  show _ ∧ _
  rw [hz]
  have he := Heap.get?_push_size (s.heap.push { cls := .type "tuple_iterator", data := .fields #[.ref l, .int 0 0] }) (o := { cls := .type "enumerate", data := .fields #[.none, .bool false, .ref s.heap.objs.size, rawInt 0, .none, .none] }) rfl
  rw [hz] at he
  exact ⟨⟨_, he, rfl⟩, h _ he ⟨_, Heap.get?_push_of_some _ (Heap.get?_push_size _ rfl), rfl, rfl⟩ fun b o x => Heap.get?_push_of_some _ (Heap.get?_push_of_some _ x)⟩
def iEnumT (K : PySem.W.Frag) (ta : TA) : TI := fun σ H R => ta σ H fun vs H1 => ∃ a xs, vs = [.ref a] ∧ SqT K H1 a xs ∧ R (IteT K a) H1
theorem pi_enumT {X : Cx} {e : Expr} {ta : TA} {p pos tpos : Pos} {elts : List Expr} {kk : Nat} (hg : Gl X "enumerate") (hm : X.mg "enumerate" = none) (ha : PA X [e] ta) (hs : starEach [e] X.env = [(false, eval e X.env)] := by rfl) :
    PI X (.Tuple elts kk tpos) (.Call (.Name "enumerate" p) [e] [] pos) (iEnumT X.K ta) := by
  refine ⟨fun pins s σ H R I h => ?_⟩
  refine Call_ (ld_blt I hg hm boot_enumerate (PyProof.Rows.callWith_type1 (thn (ha.run pos pins s σ H _ I h) fun us s1 ⟨vs, H1, I1, r1, q1⟩ => ?_) hs rfl))
  obtain ⟨a, xs, rfl, hq, q⟩ := q1
  obtain ⟨u, rfl, ru⟩ := vals1 r1
  cases ru
  obtain ⟨its, rv, p', hz⟩ := I1.tuple hq
  have hal : a < s1.heap.objs.size := p'.lt
  refine call_enumT p' fun h' he hit hk => wpAny_pyIter_enum he ?_
  have I2 : Inv X pins σ H1 { s1 with heap := h' } := I1.kept (t' := s1.toks) hk
  refine ⟨s1.heap.objs.size + 1, [s1.heap.objs.size + 1, s1.heap.objs.size], _, _, H1, rfl, I2, turn_enumT a (s1.heap.objs.size + 1) s1.heap.objs.size, ⟨⟨.none, he⟩, hit, Nat.succ_ne_self _, Nat.ne_of_lt (Nat.lt_succ_of_lt hal), Nat.ne_of_lt hal⟩, fun b hb => ?_, q⟩
  have hle : s1.heap.objs.size ≤ b := by
    have e' : b = s1.heap.objs.size + 1 ∨ b = s1.heap.objs.size := by simpa using hb
    rcases e' with z | z <;> rw [z]
    · exact Nat.le_succ _
    · exact Nat.le_refl _
  exact I1.fpOk hle (I1.hok.fresh hle)
end Sg

/-! try: .. with several clauses, each with «as» or without -/
namespace Sg
open PySem PySem.Spec PyProof.Rows L2
abbrev SuiteT : Type := Addr → Value → Option Addr → TS
/-- the ends of a suite whose name (slot i) goes behind it -/
def endsOff (i : Nat) (D : Ends) : Ends := { nx := fun σ' H' => D.nx (σ'.set i none) H', rt := D.rt, bk := fun σ' H' => D.bk (σ'.set i none) H', ct := fun σ' H' => D.ct (σ'.set i none) H' }
/-- what the clauses wish of an exception of the body, from the first on -/
def wCl (K : PySem.W.Frag) (Wo : WX) (D : Ends) : List (Value × Option Nat × SuiteT) → WX
  | [] => Wo
  | (c, oi, ts) :: r => fun cls d σ H => ∃ b, PySem.W.exmOne K cls c = some b ∧
    (b = true → ∀ a, H a = none → match oi with
      | none => ts a cls d D σ H
      | some i => ts a cls d (endsOff i D) (σ.set i (some (.ref a))) H) ∧ (b = false → wCl K Wo D r cls d σ H)
inductive ClOk (X : Cx) : List ExceptHandler → List (Value × Option Nat × SuiteT) → Prop
  | nil : ClOk X [] []
  | one {x : Str} {c : Value} {ts : SuiteT} {b₀ : Stmt} {su : List Stmt} {np pos' : Pos} {hds : List ExceptHandler} {l : List (Value × Option Nat × SuiteT)} (hc : Names X x c)
      (hsu : ∀ (a : Addr) (oe : Obj) (cls : Value) (d : Option Addr) (pn : List (Addr × Obj)), Zc cls d oe → (∃ vs, oe.data = .fields vs) → PSs (X.suite a ((a, oe) :: pn)) (b₀ :: su) (ts a cls d)) (r : ClOk X hds l) :
      ClOk X (.ExceptHandler (some (.Name x np)) none (b₀ :: su) pos' :: hds) ((c, none, ts) :: l)
  | named {x n : Str} {i : Nat} {c : Value} {ts : SuiteT} {b₀ : Stmt} {su : List Stmt} {np pos' : Pos} {hds : List ExceptHandler} {l : List (Value × Option Nat × SuiteT)} (hc : Names X x c)
      (hN : X.N.Nodup) (hi : X.N[i]? = some n) (hln : X.env.kindOf n = some .local)
      (hsu : ∀ (a : Addr) (oe : Obj) (cls : Value) (d : Option Addr) (pn : List (Addr × Obj)), Zc cls d oe → (∃ vs, oe.data = .fields vs) → PSs (X.suite a ((a, oe) :: pn)) (b₀ :: su) (ts a cls d)) (r : ClOk X hds l) :
      ClOk X (.ExceptHandler (some (.Name x np)) (some n) (b₀ :: su) pos' :: hds) ((c, some i, ts) :: l)
section
variable {X : Cx} {body : List Stmt} {h₀ : ExceptHandler} {hds : List ExceptHandler} {l : List (Value × Option Nat × SuiteT)} {pos : Pos} {tb : WX → TS} {Wo : WX}
theorem ps_try_cl (hs : X.stack = X.env :: X.outer) (hf : X.env.frame = some X.env.locals) (tk : Takes X Wo)
    (hb : ∀ (W : WX) (pn : List (Addr × Obj)) (xe : Value → Shared → Prop), Takes (X.tr pn xe) W → PassesOwn (model X.prog X.w) X.A X.env xe → PSs (X.tr pn xe) body (tb W))
    (hh : ClOk X (h₀ :: hds) l) : PS X (.Try body (h₀ :: hds) [] [] pos) (fun D σ H => tb (wCl X.K Wo D l) D σ H) := by
  refine ⟨fun pins s σ H D I hgo => ?_⟩
  have ok := I.ok
  have frm : X.A.frames = some (X.env :: X.outer) := ok.frames.trans (by rw [hs])
  refine wpAny_Try_except ?_
  refine wpAny_mono ((hb (wCl X.K Wo D l) (X.pn ++ pins) (fun e g₁ => wpAny (model X.prog X.w) X.A (noteFrame e X.env) (fun _ g₂ => wpAny (model X.prog X.w) X.A (setFlight e none) (fun _ g₃ =>
    wpAny (model X.prog X.w) X.A (handleBy e X.env (h₀ :: hds)) (SP X pins D) X.xe g₃) X.xe g₂) X.xe g₁) (fun u g gx => ?_) PassesOwn.looking).run [] s σ H D (I.toTry _) hgo) (fun fl g1 hsp => ?_) (fun e g1 he => he)
  · obtain ⟨a, B, sI, pins2, σ2, H2, cls, d, rfl, J0, nb, up, sky, na, os, ag, wish⟩ := gx
    have J : Inv X pins σ2 H2 sI := J0.ofTry ok
    have sky2 : Sky B (X.env :: X.outer) a (Zc cls d) X.env.locals g.heap := hs ▸ sky
    show wpAny (model X.prog X.w) X.A (noteFrame (.ref a) X.env) _ _ _
    refine Sky.land Zc.steady frm hf sky2 fun k3 fly up3 => ?_
    have J3 : Inv X pins σ2 H2 { g with heap := k3 } := J.landed nb fly.1 (up.trans up3) os ag
    obtain ⟨o3, f3, at3, z3, dt3⟩ := fly.there
    have apart : a ∉ frs (X.env :: X.outer) := fun hm => by
      obtain ⟨_, o', e', hnf⟩ := fly.2.2.1.mem hm
      rw [at3] at e'
      cases e'
      exact hnf _ dt3
    have nL : a ≠ X.env.locals := fun z => apart (List.mem_filterMap.mpr ⟨X.env, List.mem_cons_self, by rw [hf, z]⟩)
    have nF : a ∉ X.fs := fun hm => by
      obtain ⟨e, he, q⟩ := List.mem_filterMap.mp hm
      exact apart (List.mem_filterMap.mpr ⟨e, List.mem_cons_of_mem _ he, q⟩)
    have S3 := J3.suite at3 dt3 na nL nF
    have LT : PySem.W.Looks (model X.prog X.w) k3 (typeOf (.ref a)) cls := fun A Q E s k q => wpAny_typeOf_ref (k _ _ at3) (z3.1 ▸ q)
    have named : ∀ {x : Str} {c : Value} {np : Pos}, Names X x c → ∀ {Q : Value → Shared → Prop} {E : Value → Shared → Prop}, Q c { g with heap := k3 } → wpAny (model X.prog X.w) (X.A.mark (some (.ref a))) (eval (.Name x np) X.env) Q E { g with heap := k3 } := by
      intro x c np hc Q E q
      obtain ⟨hg, hdbg, hm | ⟨hm, hv, hnn⟩⟩ := hc
      · exact ld_glob (X := X.suite a ((a, o3) :: (X.pn ++ pins))) S3 hg hm q hdbg
      · exact ld_blt (X := X.suite a ((a, o3) :: (X.pn ++ pins))) S3 hg hm hv q hnn hdbg
    have go : ∀ {hs2 : List ExceptHandler} {l2 : List (Value × Option Nat × SuiteT)}, ClOk X hs2 l2 → wCl X.K Wo D l2 cls d σ2 H2 →
        wpAny (model X.prog X.w) X.A (handleBy (.ref a) X.env hs2) (SP X pins D) X.xe { g with heap := k3 } := by
      intro hs2 l2 hk
      induction hk with
      | nil =>
        intro wq
        refine wpAny_handleBy_nil ?_
        obtain ⟨_, _, _, oe, vs, T, oT, ts', at4, hz, dt4, h1, hr⟩ := id fly
        unfold PySem.passOn
        refine wpAny_bind (wpAny_field at4 dt4 h1 ?_)
        rw [if_neg (show ¬ ((Value.ref T == Value.none) = true) from by simp)]
        have fin : wpAny (model X.prog X.w) X.A (setFlight (.ref a) X.env.frame) (fun _ g4 => wpAny (model X.prog X.w) X.A (throw (.ref a) : Sem Flow) (SP X pins D) X.xe g4) X.xe { g with heap := k3 } := by
          rw [hf]
          refine HandSPX.setFlight_upZ fly fun k4 held up4 => wpAny_throw (tk _ _ ?_)
          exact ⟨a, B, sI, pins, σ2, H2, cls, d, rfl, J, nb, (up.trans up3).trans up4, .inr (.inr (hs ▸ held)), na, os, ag, wq⟩
        first
          | exact wpAny_bind (wpAny_pure (wpAny_bind fin))
          | exact wpAny_bind fin
      | @one x c ts b₀ su np pos' hds2 l2 hc hsu r ih =>
        intro wq
        obtain ⟨b, hb1, hyes, hno⟩ := wq
        refine wpAny_handleBy_cons (codeAny_handlers_test ?_) (by intro q; cases q)
        refine named hc ((PySem.W.exm_one (M := model X.prog X.w) (J3.kIn) LT hb1).here ?_)
        cases b with
        | false => exact ih (hno rfl)
        | true =>
          refine codeAny_handlers_suite ?_
          refine HandSPX.lands_againZ fly fun k4 fl4 up4 => ?_
          have J4 : Inv X pins σ2 H2 { g with heap := k4 } := J.landed nb fl4.1 ((up.trans up3).trans up4) os ag
          obtain ⟨o4, f4, at4, z4, dt4⟩ := fl4.there
          refine wpAny_mono ((hsu a o4 cls d (X.pn ++ pins) z4 ⟨_, dt4⟩).run [] _ _ H2 _ (J4.suite at4 dt4 na nL nF) (hyes rfl a na)) (fun fl g6 q6 => ?_) (fun _ _ z => False.elim z)
          cases fl with
          | ret u => obtain ⟨v6, σ6, H6, S6, r6, q6⟩ := q6; exact ⟨_, _, _, S6.unsuite ok, r6, q6⟩
          | _ => obtain ⟨σ6, H6, S6, q6⟩ := q6; exact ⟨_, _, S6.unsuite ok, q6⟩
      | @named x n i c ts b₀ su np pos' hds2 l2 hc hN hi hln hsu r ih =>
        intro wq
        obtain ⟨b, hb1, hyes, hno⟩ := wq
        refine wpAny_handleBy_cons (codeAny_handlers_test ?_) (by intro q; cases q)
        refine named hc ((PySem.W.exm_one (M := model X.prog X.w) (J3.kIn) LT hb1).here ?_)
        cases b with
        | false => exact ih (hno rfl)
        | true =>
          refine codeAny_handlers_suite_as ?_
          refine HandSPX.lands_againZ fly fun k4 fl4 up4 => ?_
          have J4 : Inv X pins σ2 H2 { g with heap := k4 } := J.landed nb fl4.1 ((up.trans up3).trans up4) os ag
          obtain ⟨o4, f4, at4, z4, dt4⟩ := fl4.there
          have S4 := J4.suite at4 dt4 na nL nF
          refine store_ok (X := X.suite a ((a, o4) :: (X.pn ++ pins))) (v := .ref a) S4 hN hi (.inl hln) rfl (fun g5 S5 => ?_) (.inr hln)
          refine wpAny_mono ((hsu a o4 cls d (X.pn ++ pins) z4 ⟨_, dt4⟩).run [] g5 _ H2 _ S5 (hyes rfl a na)) (fun fl g6 q6 => ?_) (fun _ _ z => False.elim z)
          have gone : ∀ {σ6 : L2.St} {H6 : Hp} {Q : Shared → Prop}, Inv (X.suite a ((a, o4) :: (X.pn ++ pins))) [] σ6 H6 g6 → (∀ g7, Inv X pins (σ6.set i none) H6 g7 → Q g7) →
              wpAny (model X.prog X.w) X.A (do bindName X.env n .none; unbindBehindTheSuite X.env n pos') (fun _ g7 => Q g7) X.xe g6 := fun S6 hq => gone_ok (S6.unsuite ok) hN hi hln hq
          cases fl with
          | ret u => obtain ⟨v6, σ6, H6, S6, r6, q6⟩ := q6; exact gone S6 fun g7 J7 => ⟨_, _, _, J7, r6, q6⟩
          | _ => obtain ⟨σ6, H6, S6, q6⟩ := q6; exact gone S6 fun g7 J7 => ⟨_, _, J7, q6⟩
    exact go hh wish
  · cases fl with
    | next => obtain ⟨σ', H', J', q⟩ := hsp; exact wpAny_execs_nil ⟨σ', H', J'.ofTry ok, q⟩
    | ret u => obtain ⟨v, σ', H', J', r, q⟩ := hsp; exact ⟨v, σ', H', J'.ofTry ok, r, q⟩
    | _ => obtain ⟨σ', H', J', q⟩ := hsp; exact ⟨σ', H', J'.ofTry ok, q⟩
end
/-! ### isinstance(e, C), e the exception that the suite holds, without an own dict -/
def rIsX (K : PySem.W.Frag) (a : Addr) (cls : Value) (d : Option Addr) : List V → Hp → VK → Prop := fun xs H Q => ∃ (D : Addr) (c : V) (cv : Value) (b : Bool), cls = .ref D ∧ d = none ∧ ExcC K D ∧ xs = [.ref a, c] ∧
  (∀ u, RelV c u → u = cv) ∧ PySem.W.kitOne K (.ref D) cv = some b ∧ Q (.bl b) H
theorem call_isX {X : Cx} {a : Addr} {oe : Obj} {cls : Value} {d : Option Addr} {pn : List (Addr × Obj)} (hz : Zc cls d oe) (hf : ∃ vs, oe.data = .fields vs) : CallR (X.suite a ((a, oe) :: pn)) (.builtin "isinstance") (rIsX X.K a cls d) := by
  intro pins s σ H xs us Q I r h
  obtain ⟨D, c, cv, b, rfl, rfl, C, hx, hcv, e, q⟩ := h
  exact call_isE C hz hf pins s σ H xs us Q I r ⟨c, cv, b, hx, hcv, e, q⟩
theorem takesNo {X : Cx} {a : Addr} {pn : List (Addr × Obj)} : Takes (X.suite a pn) (fun _ _ _ _ => False) := takes0
def eqF (a b : Option (Option Value)) : Bool := decide (a = b)
def excCB (K : PySem.W.Frag) (D : Addr) : Bool := eqF (PySem.W.findIn K (.ref D) "__getattribute__") (some (some (.builtin "BaseException.__getattribute__"))) && (eqF (PySem.W.findIn K (.ref D) "__getattr__") (some none) && (decide (PySem.W.subIn K (.ref D) (.type "BaseException") = some true) &&
  (PySem.W.hasDictIn K D && (eqF (PySem.W.findIn K (.ref D) "__class__") (some (some (.builtin "object.__class__"))) && (eqF (PySem.W.specialIn K (.builtin "object.__class__") "__get__") (some (some (.builtin "getset_descriptor.__get__"))) &&
  (decide (PySem.W.takesIn K (.builtin "object.__class__") = some true) && decide (PySem.W.mroIn K D (.type "object") = some true)))))))
theorem excCB_ok {K : PySem.W.Frag} {D : Addr} (h : excCB K D = true) : ExcC K D := by
  obtain ⟨h1, h⟩ := He.ba h
  obtain ⟨h2, h⟩ := He.ba h
  obtain ⟨h3, h⟩ := He.ba h
  obtain ⟨h4, h⟩ := He.ba h
  obtain ⟨h5, h⟩ := He.ba h
  obtain ⟨h6, h⟩ := He.ba h
  obtain ⟨h7, h8⟩ := He.ba h
  exact ⟨of_decide_eq_true h1, of_decide_eq_true h2, of_decide_eq_true h3, h4, of_decide_eq_true h5, of_decide_eq_true h6, of_decide_eq_true h7, of_decide_eq_true h8⟩
theorem exAt {l : List Bool} (h : l.all id = true) {i : Nat} {b : Bool} (e : l[i]? = some b) : b = true := List.all_eq_true.mp h b (List.mem_of_getElem? e)
end Sg

/-! readings by the shape of the values -/
namespace Sg
open PySem PySem.Spec PyProof.Rows L2
section
variable {X : Cx}
def rLenQ (K : PySem.W.Frag) : List V → Hp → VK → Prop := fun xs H Q => match xs with
  | [.ref p] => ∃ ys, (SqL K H p ys ∨ SqT K H p ys) ∧ Q (.int ys.length) H
  | [.str z] => z.length ≤ sizeLine ∧ Q (.int z.length) H
  | _ => False
theorem call_lenQ : CallR X (.builtin "len") (rLenQ X.K) := by
  intro pins s σ H xs us Q I r h
  match xs, h with
  | [.ref p], ⟨ys, hq, q⟩ => exact call_len_seq pins s σ H _ us Q I r ⟨p, ys, rfl, hq, q⟩
  | [.str z], ⟨hz, q⟩ => exact call_len_str pins s σ H _ us Q I r ⟨z, rfl, hz, q⟩
def rIxTQ (K : PySem.W.Frag) : R2 := fun x y H Q => match x, y with
  | .ref p, .int i => ∃ xs v, SqT K H p xs ∧ atI xs i = some v ∧ Q v H
  | _, _ => False
theorem ix_tupQ : IxR X (rIxTQ X.K) := by
  intro value slice pins s σ H x y v u Q I rx ry h hs
  match x, y, h with
  | .ref p, .int i, ⟨xs, w, h1, h2, q⟩ => exact ix_tup value slice pins s σ H _ _ v u Q I rx ry ⟨p, xs, i, w, rfl, rfl, h1, h2, q⟩ hs
def rIxLQ (K : PySem.W.Frag) : R2 := fun x y H Q => match x, y with
  | .ref p, .int i => ∃ xs v, SqL K H p xs ∧ atI xs i = some v ∧ Q v H
  | _, _ => False
theorem ix_listQ : IxR X (rIxLQ X.K) := by
  intro value slice pins s σ H x y v u Q I rx ry h hs
  match x, y, h with
  | .ref p, .int i, ⟨xs, w, h1, h2, q⟩ => exact ix_list value slice pins s σ H _ _ v u Q I rx ry ⟨p, xs, i, w, rfl, rfl, h1, h2, q⟩ hs
def rIxSQ : R2 := fun x y H Q => match x, y with
  | .str z, .int i => ∃ c, z.length ≤ sizeLine ∧ atI z.cps.toList i = some c ∧ Q (.str (sgn c)) H
  | _, _ => False
theorem ix_strQ : IxR X rIxSQ := by
  intro value slice pins s σ H x y v u Q I rx ry h hs
  match x, y, h with
  | .str z, .int i, ⟨c, h1, h2, q⟩ => exact ix_str value slice pins s σ H _ _ v u Q I rx ry ⟨z, i, c, rfl, rfl, h1, h2, q⟩ hs
def rInt1Q : List V → Hp → VK → Prop := fun xs H Q => match xs with
  | [.int i] => Q (.int i) H
  | [.bl k] => Q (.int (if k then 1 else 0)) H
  | _ => False
theorem call_int1Q : CallR X (.type "int") rInt1Q := by
  intro pins s σ H xs us Q I r h
  match xs, h with
  | [.int i], q => exact call_int1 pins s σ H _ us Q I r (.inl ⟨i, rfl, q⟩)
  | [.bl k], q => exact call_int1 pins s σ H _ us Q I r (.inr ⟨k, rfl, q⟩)
def rTupQ (K : PySem.W.Frag) : List V → Hp → VK → Prop := fun xs H Q => match xs with
  | [.ref p] => ∃ ys, SqL K H p ys ∧ ∀ l, H l = none → Q (.ref l) (upd H l (.tup ys))
  | _ => False
/-- tuple(list) -/
theorem call_tupQ : CallR X (.type "tuple") (rTupQ X.K) := by
  intro pins s σ H xs us Q I r h
  match xs, h with
  | [.ref p], ⟨ys, h1, q⟩ => exact call_tuple_of pins s σ H _ us Q I r ⟨p, ys, rfl, .inl ⟨h1, q⟩⟩
def rAppQ : V → List V → Hp → VK → Prop := fun x vs H Q => match x, vs with
  | .ref l, [y] => ∃ xs, H l = some (.lst xs) ∧ xs.length < sizeLine ∧ Q .non (upd H l (.lst (xs ++ [y])))
  | _, _ => False
theorem mt_appQ : MtR X "list.append" rAppQ := by
  intro pins s σ H x vs v us Q I rx rv h
  match x, vs, h with
  | .ref l, [y], ⟨xs, h1, h2, q⟩ => exact mt_append pins s σ H _ _ v us Q I rx rv ⟨l, xs, y, rfl, rfl, h1, h2, q⟩
def rPopQ : V → List V → Hp → VK → Prop := fun x vs H Q => match x, vs with
  | .ref l, [] => ∃ xs y, H l = some (.lst (xs ++ [y])) ∧ Q y (upd H l (.lst xs))
  | _, _ => False
theorem mt_popQ : MtR X "list.pop" rPopQ := by
  intro pins s σ H x vs v us Q I rx rv h
  match x, vs, h with
  | .ref l, [], ⟨xs, y, h1, q⟩ =>
    refine mt_pop pins s σ H _ _ v us Q I rx rv ⟨l, xs ++ [y], y, rfl, rfl, h1, ?_, ?_⟩
    · rw [List.length_append, List.length_singleton, Nat.add_sub_cancel, List.getElem?_append_right (Nat.le_refl _), Nat.sub_self]
      rfl
    · rw [List.dropLast_concat]
      exact q
def rPopAtQ : V → List V → Hp → VK → Prop := fun x vs H Q => match x, vs with
  | .ref l, [.int i] => ∃ xs y, H l = some (.lst xs) ∧ 0 ≤ i ∧ i < 2 ^ 62 ∧ xs[i.toNat]? = some y ∧ Q y (upd H l (.lst (xs.eraseIdx i.toNat)))
  | _, _ => False
theorem mt_popAtQ : MtR X "list.pop" rPopAtQ := by
  intro pins s σ H x vs v us Q I rx rv h
  match x, vs, h with
  | .ref l, [.int i], ⟨xs, y, h1, h0, hi, h2, q⟩ =>
    refine mt_popAt pins s σ H _ _ v us Q I rx rv ⟨l, xs, i, i.toNat, y, rfl, rfl, h1, by omega, by omega, ?_, h2, q⟩
    have hlt := (List.getElem?_eq_some_iff.mp h2).1
    unfold seqIndex?
    dsimp only
    rw [if_neg (show ¬ i < 0 by omega), if_pos (by simp; omega)]
def rRevQ : V → List V → Hp → VK → Prop := fun x vs H Q => match x, vs with
  | .ref l, [] => ∃ xs, H l = some (.lst xs) ∧ Q .non (upd H l (.lst xs.reverse))
  | _, _ => False
theorem mt_revQ : MtR X "list.reverse" rRevQ := by
  intro pins s σ H x vs v us Q I rx rv h
  match x, vs, h with
  | .ref l, [], ⟨xs, h1, q⟩ => exact mt_reverse pins s σ H _ _ v us Q I rx rv ⟨l, xs, rfl, rfl, h1, q⟩
end
theorem lst_ty {K : PySem.W.Frag} {H : Hp} {p : Addr} {ys : List V} (h : H p = some (.lst ys)) : tyV K "list" (.ref p) H := .inl ⟨rfl, _, .inl (.inl h)⟩
end Sg

/-! lookers as data -/
namespace Sg
open PySem PySem.Spec PyProof.Rows L2
def isWh : V → Bool
  | .int i => decide (0 ≤ i)
  | _ => false
def isBt : V → Bool
  | .int i => decide (0 ≤ i) && decide (i ≤ 1)
  | _ => false
def isSt (n : Int) : V → Bool
  | .int i => decide (0 ≤ i) && decide (i < n)
  | _ => false
/-- a tuple of how many things -/
def RowB (K : PySem.W.Frag) (H : Hp) (x : V) (n : Int) (b : Bool) : Prop :=
  (∃ a xs, x = .ref a ∧ SqT K H a xs ∧ b = decide ((xs.length : Int) = n)) ∨ (Kd K H x ∧ isaB "tuple" x = false ∧ b = false)
/-- one to five unlike signs -/
def sgB (z : Str) : Bool := decide (1 ≤ z.length) && (decide (z.length ≤ 5) && decide ((once (signsOf z)).length = z.length))
abbrev LRow : Type := Int × List Int
def RSt (K : PySem.W.Frag) (H : Hp) (v : V) (r : LRow) : Prop := ∃ a b, v = .ref a ∧ SqT K H a [.int r.1, .ref b] ∧ SqT K H b (r.2.map V.int)
def RRows (K : PySem.W.Frag) (H : Hp) (b : Addr) (rs : List LRow) : Prop := ∃ vs, SqT K H b vs ∧ Paired (RSt K H) vs rs
def RLk (K : PySem.W.Frag) (H : Hp) (v : V) (z : Str) (rs : List LRow) : Prop := ∃ a b, v = .ref a ∧ SqT K H a [.str z, .ref b] ∧ RRows K H b rs
structure RowsOk (n : Nat) (rs : List LRow) : Prop where
  pos : 1 ≤ rs.length
  top : rs.length ≤ 600
  bit : ∀ r ∈ rs, r.1 = 0 ∨ r.1 = 1
  wid : ∀ r ∈ rs, r.2.length = n
  to : ∀ r ∈ rs, ∀ q ∈ r.2, 0 ≤ q ∧ q < (rs.length : Int)
structure SignsOk (z : Str) : Prop where
  pos : 1 ≤ z.length
  top : z.length ≤ 5
  nd : z.cps.toList.Nodup
  low : ∀ c ∈ z.cps.toList, c < 128
theorem signs_once {z : Str} (h : z.cps.toList.Nodup) : (once (signsOf z)).length = z.length := by
  have hn : (signsOf z).Nodup := by
    unfold signsOf
    refine List.Pairwise.map _ (fun a b hab e => hab ?_) h
    have e2 : (#[a] : Array Nat) = #[b] := congrArg Str.cps e
    have e3 : [a] = [b] := congrArg Array.toList e2
    exact (List.cons.inj e3).1
  rw [once_nodup_self hn]
  unfold signsOf
  rw [List.length_map, Array.length_toList]
  rfl
theorem SignsOk.sgB {z : Str} (h : SignsOk z) : sgB z = true := by
  unfold Sg.sgB
  rw [decide_eq_true h.pos, decide_eq_true h.top, decide_eq_true (signs_once h.nd)]
  rfl
theorem pr_mono {α β : Type} {F G : α → β → Prop} {l : List α} {m : List β} (h : Paired F l m) (f : ∀ a b, F a b → G a b) : Paired G l m := by
  induction h with
  | nil => exact .nil
  | cons r _ ih => exact .cons (f _ _ r) ih
theorem pr_get {α β : Type} {F : α → β → Prop} {l : List α} {m : List β} (h : Paired F l m) : ∀ {i : Nat} {a : α}, l[i]? = some a → ∃ b, m[i]? = some b ∧ F a b := by
  induction h with
  | nil => intro i a e; simp at e
  | cons r _ ih =>
    intro i a e
    cases i with
    | zero =>
      obtain rfl := Option.some.inj e
      exact ⟨_, rfl, r⟩
    | succ i => exact ih e
theorem pr_get' {α β : Type} {F : α → β → Prop} {l : List α} {m : List β} (h : Paired F l m) : ∀ {i : Nat} {b : β}, m[i]? = some b → ∃ a, l[i]? = some a ∧ F a b := by
  induction h with
  | nil => intro i b e; simp at e
  | cons r _ ih =>
    intro i b e
    cases i with
    | zero =>
      obtain rfl := Option.some.inj e
      exact ⟨_, rfl, r⟩
    | succ i => exact ih e
theorem RSt.mono {K : PySem.W.Frag} {H H' : Hp} (k : TK H H') {v : V} {r : LRow} (h : RSt K H v r) : RSt K H' v r := by
  obtain ⟨a, b, e, h1, h2⟩ := h
  exact ⟨a, b, e, k.sqT h1, k.sqT h2⟩
theorem RRows.mono {K : PySem.W.Frag} {H H' : Hp} (k : TK H H') {b : Addr} {rs : List LRow} (h : RRows K H b rs) : RRows K H' b rs := by
  obtain ⟨vs, h1, h2⟩ := h
  exact ⟨vs, k.sqT h1, pr_mono h2 fun _ _ r => r.mono k⟩
theorem RLk.mono {K : PySem.W.Frag} {H H' : Hp} (k : TK H H') {v : V} {z : Str} {rs : List LRow} (h : RLk K H v z rs) : RLk K H' v z rs := by
  obtain ⟨a, b, e, h1, h2⟩ := h
  exact ⟨a, b, e, k.sqT h1, h2.mono k⟩
/-- tests that come out -/
theorem ifT {A B : Prop} {c : Bool} (hc : c = true) (h : A) : if c = true then A else B := by
  rw [if_pos hc]
  exact h
theorem ifF {A B : Prop} {c : Bool} (hc : c = false) (h : B) : if c = true then A else B := by
  rw [hc, if_neg Bool.false_ne_true]
  exact h
theorem szle {n m : Nat} (h : n ≤ m) (hm : m ≤ 1000000 := by omega) : n ≤ sizeLine := by
  rw [sizeLine_eq]
  omega
theorem szlt {n m : Nat} (h : n ≤ m) (hm : m ≤ 1000000 := by omega) : n < sizeLine := by
  rw [sizeLine_eq]
  omega
end Sg

/-! breadth-first search over numbered steps, in plain Lean -/
namespace Sg
section
variable {α β : Type} [DecidableEq α] [DecidableEq β]
abbrev Met (α : Type) : Type := List (α × List Nat)
def addStep (stp : α → Nat → α) (a : α) (p : List Nat) (acc : Met α) (x : Nat) : Met α := if stp a x ∈ acc.map Prod.fst then acc else acc ++ [(stp a x, p ++ [x])]
def expand (n : Nat) (stp : α → Nat → α) (acc : Met α) (a : α) (p : List Nat) : Met α := (List.range n).foldl (addStep stp a p) acc
def expandTo (stp : α → Nat → α) (acc : Met α) (a : α) (p : List Nat) (k : Nat) : Met α := (List.range k).foldl (addStep stp a p) acc
def bfs (n : Nat) (stp : α → Nat → α) (tst : α → Bool) : Nat → Nat → Met α → Option (List Nat)
  | 0, _, _ => none
  | f + 1, i, acc => match acc[i]? with
    | none => none
    | some (a, p) => if tst a then some p else bfs n stp tst f (i + 1) (expand n stp acc a p)
theorem expandTo_zero (stp : α → Nat → α) (acc : Met α) (a : α) (p : List Nat) : expandTo stp acc a p 0 = acc := rfl
theorem expandTo_succ (stp : α → Nat → α) (acc : Met α) (a : α) (p : List Nat) (k : Nat) : expandTo stp acc a p (k + 1) = addStep stp a p (expandTo stp acc a p k) k := by
  unfold expandTo
  rw [List.range_succ, List.foldl_append]
  rfl
/-- what holds of all that is met -/
structure MetOk (n : Nat) (stp : α → Nat → α) (s : α) (acc : Met α) : Prop where
  nd : (acc.map Prod.fst).Nodup
  way : ∀ e ∈ acc, e.1 = e.2.foldl stp s ∧ (∀ x ∈ e.2, x < n) ∧ e.2.length < acc.length
theorem met_start (n : Nat) (stp : α → Nat → α) (s : α) : MetOk n stp s [(s, [])] where
  nd := by simp
  way := by
    intro e he
    obtain rfl := List.mem_singleton.mp he
    exact ⟨rfl, by simp, by simp⟩
theorem met_add {n : Nat} {stp : α → Nat → α} {s : α} {acc : Met α} (h : MetOk n stp s acc) {a : α} {p : List Nat} (hm : (a, p) ∈ acc) {x : Nat} (hx : x < n) : MetOk n stp s (addStep stp a p acc x) := by
  unfold addStep
  by_cases c : stp a x ∈ acc.map Prod.fst
  · rw [if_pos c]; exact h
  · rw [if_neg c]
    refine ⟨?_, ?_⟩
    · rw [List.map_append, List.nodup_append]
      refine ⟨h.nd, by simp, fun y hy z hz => ?_⟩
      obtain rfl := List.mem_singleton.mp hz
      exact fun e => c ((show y = stp a x from e) ▸ hy)
    · intro e he
      rw [List.length_append]
      rcases List.mem_append.mp he with he | he
      · obtain ⟨h1, h2, h3⟩ := h.way e he
        exact ⟨h1, h2, by simp; omega⟩
      · obtain rfl := List.mem_singleton.mp he
        obtain ⟨h1, h2, h3⟩ := h.way _ hm
        have h1' : a = p.foldl stp s := h1
        refine ⟨?_, ?_, ?_⟩
        · show stp a x = (p ++ [x]).foldl stp s
          rw [List.foldl_append, ← h1']
          rfl
        · intro y hy
          rcases List.mem_append.mp hy with hy | hy
          · exact h2 y hy
          · rw [List.mem_singleton.mp hy]; exact hx
        · show (p ++ [x]).length < _
          have h3' : p.length < acc.length := h3
          simp
          omega
theorem addStep_sub {stp : α → Nat → α} {a : α} {p : List Nat} {acc : Met α} {x : Nat} : ∃ more, addStep stp a p acc x = acc ++ more := by
  unfold addStep
  by_cases c : stp a x ∈ acc.map Prod.fst
  · rw [if_pos c]; exact ⟨[], by simp⟩
  · rw [if_neg c]; exact ⟨_, rfl⟩
theorem expandTo_sub {stp : α → Nat → α} {acc : Met α} {a : α} {p : List Nat} : ∀ k, ∃ more, expandTo stp acc a p k = acc ++ more
  | 0 => ⟨[], by rw [expandTo_zero]; simp⟩
  | k + 1 => by
    obtain ⟨m1, e1⟩ := expandTo_sub (stp := stp) (acc := acc) (a := a) (p := p) k
    obtain ⟨m2, e2⟩ := addStep_sub (stp := stp) (a := a) (p := p) (acc := expandTo stp acc a p k) (x := k)
    exact ⟨m1 ++ m2, by rw [expandTo_succ, e2, e1, List.append_assoc]⟩
theorem met_expandTo {n : Nat} {stp : α → Nat → α} {s : α} {acc : Met α} (h : MetOk n stp s acc) {a : α} {p : List Nat} (hm : (a, p) ∈ acc) : ∀ k, k ≤ n → MetOk n stp s (expandTo stp acc a p k)
  | 0, _ => h
  | k + 1, hk => by
    rw [expandTo_succ]
    obtain ⟨more, e⟩ := expandTo_sub (stp := stp) (acc := acc) (a := a) (p := p) k
    exact met_add (met_expandTo h hm k (by omega)) (by rw [e]; exact List.mem_append_left _ hm) (by omega)
theorem met_expand {n : Nat} {stp : α → Nat → α} {s : α} {acc : Met α} (h : MetOk n stp s acc) {a : α} {p : List Nat} (hm : (a, p) ∈ acc) : MetOk n stp s (expand n stp acc a p) := met_expandTo h hm n (Nat.le_refl _)
/-- what is found leads to where the test holds -/
theorem bfs_way {n : Nat} {stp : α → Nat → α} {s : α} {tst : α → Bool} : ∀ {f i : Nat} {acc : Met α} {p : List Nat}, MetOk n stp s acc → bfs n stp tst f i acc = some p → tst (p.foldl stp s) = true ∧ ∀ x ∈ p, x < n
  | 0, _, _, _, _, e => nomatch e
  | f + 1, i, acc, p, h, e => by
    unfold bfs at e
    cases hi : acc[i]? with
    | none => rw [hi] at e; cases e
    | some ap =>
      obtain ⟨a, q⟩ := ap
      rw [hi] at e
      have hm : (a, q) ∈ acc := List.mem_of_getElem? hi
      have e2 : (if tst a then some q else bfs n stp tst f (i + 1) (expand n stp acc a q)) = some p := e
      by_cases c : tst a = true
      · rw [if_pos c] at e2
        obtain rfl := Option.some.inj e2
        obtain ⟨h1, h2, _⟩ := h.way _ hm
        have h1' : a = q.foldl stp s := h1
        exact ⟨by rw [← h1']; exact c, h2⟩
      · rw [if_neg c] at e2
        exact bfs_way (met_expand h hm) e2
/-- the met ones are few -/
theorem nodup_few : ∀ {l u : List α}, l.Nodup → (∀ a ∈ l, a ∈ u) → l.length ≤ u.length
  | [], _, _, _ => Nat.zero_le _
  | a :: l, u, h, hs => by
    obtain ⟨h1, h2⟩ := List.nodup_cons.mp h
    have ha : a ∈ u := hs a List.mem_cons_self
    have hl : (u.erase a).length = u.length - 1 := List.length_erase_of_mem ha
    have hpos : 0 < u.length := List.length_pos_of_mem ha
    have := nodup_few (l := l) (u := u.erase a) h2 fun b hb => (List.mem_erase_of_ne (fun e : b = a => h1 (e ▸ hb))).mpr (hs b (List.mem_cons_of_mem _ hb))
    rw [List.length_cons]
    omega
theorem met_few {n : Nat} {stp : α → Nat → α} {s : α} {acc : Met α} (h : MetOk n stp s acc) {u : List α} (hs : s ∈ u) (hc : ∀ a ∈ u, ∀ x, x < n → stp a x ∈ u) : acc.length ≤ u.length := by
  have hin : ∀ (p : List Nat) (a : α), a ∈ u → (∀ x ∈ p, x < n) → p.foldl stp a ∈ u := by
    intro p
    induction p with
    | nil => intro a ha _; exact ha
    | cons x r ih => intro a ha hp; exact ih _ (hc a ha x (hp x List.mem_cons_self)) fun y hy => hp y (List.mem_cons_of_mem _ hy)
  have := nodup_few (l := acc.map Prod.fst) (u := u) h.nd fun a ha => by
    obtain ⟨e, he, rfl⟩ := List.mem_map.mp ha
    obtain ⟨h1, h2, _⟩ := h.way e he
    rw [h1]
    exact hin _ _ hs h2
  rwa [List.length_map] at this
/-- more turns than things tell the same -/
theorem bfs_more {n : Nat} {stp : α → Nat → α} {s : α} {tst : α → Bool} {u : List α} (hs : s ∈ u) (hc : ∀ a ∈ u, ∀ x, x < n → stp a x ∈ u) : ∀ {f g i : Nat} {acc : Met α}, MetOk n stp s acc → u.length < f + i → u.length < g + i → bfs n stp tst f i acc = bfs n stp tst g i acc
  | 0, 0, _, _, _, _, _ => rfl
  | 0, g + 1, i, acc, h, hf, _ => by
    have := met_few h hs hc
    have hn : acc[i]? = none := List.getElem?_eq_none (by omega)
    unfold bfs
    rw [hn]
  | f + 1, 0, i, acc, h, _, hg => by
    have := met_few h hs hc
    have hn : acc[i]? = none := List.getElem?_eq_none (by omega)
    unfold bfs
    rw [hn]
  | f + 1, g + 1, i, acc, h, hf, hg => by
    unfold bfs
    cases hi : acc[i]? with
    | none => rfl
    | some ap =>
      obtain ⟨a, q⟩ := ap
      have hm : (a, q) ∈ acc := List.mem_of_getElem? hi
      show (if tst a then some q else _) = (if tst a then some q else _)
      rw [bfs_more hs hc (f := f) (g := g) (met_expand h hm) (by omega) (by omega)]
/-- another name for each thing -/
def ren (g : α → β) (acc : Met α) : Met β := acc.map fun e => (g e.1, e.2)
theorem ren_add {stp : α → Nat → α} {stq : β → Nat → β} {g : α → β} (gi : ∀ a b, g a = g b → a = b) {a : α} {p : List Nat} {acc : Met α} {x : Nat} (hg : g (stp a x) = stq (g a) x) : addStep stq (g a) p (ren g acc) x = ren g (addStep stp a p acc x) := by
  unfold addStep ren
  have e : (stq (g a) x ∈ (acc.map fun e => (g e.1, e.2)).map Prod.fst) ↔ (stp a x ∈ acc.map Prod.fst) := by
    rw [← hg]
    simp only [List.map_map, List.mem_map, Function.comp]
    constructor
    · rintro ⟨e, he, h⟩
      exact ⟨e, he, gi _ _ h⟩
    · rintro ⟨e, he, h⟩
      exact ⟨e, he, by rw [h]⟩
  by_cases c : stp a x ∈ acc.map Prod.fst
  · rw [if_pos (e.mpr c), if_pos c]
  · rw [if_neg (fun z => c (e.mp z)), if_neg c, List.map_append, ← hg]
    rfl
theorem ren_expandTo {stp : α → Nat → α} {stq : β → Nat → β} {g : α → β} (gi : ∀ a b, g a = g b → a = b) {n : Nat} {a : α} {p : List Nat} {acc : Met α} (hg : ∀ x, x < n → g (stp a x) = stq (g a) x) : ∀ k, k ≤ n → expandTo stq (ren g acc) (g a) p k = ren g (expandTo stp acc a p k)
  | 0, _ => rfl
  | k + 1, hk => by
    rw [expandTo_succ, expandTo_succ, ren_expandTo gi hg k (by omega), ren_add gi (hg k (by omega))]
theorem ren_bfs {n : Nat} {stp : α → Nat → α} {stq : β → Nat → β} {tst : α → Bool} {tsq : β → Bool} {g : α → β} (gi : ∀ a b, g a = g b → a = b) (hg : ∀ a x, x < n → g (stp a x) = stq (g a) x) (ht : ∀ a, tst a = tsq (g a)) :
    ∀ (f i : Nat) (acc : Met α), bfs n stq tsq f i (ren g acc) = bfs n stp tst f i acc
  | 0, _, _ => rfl
  | f + 1, i, acc => by
    unfold bfs
    have e : (ren g acc)[i]? = (acc[i]?).map fun e => (g e.1, e.2) := by
      unfold ren
      rw [List.getElem?_map]
    rw [e]
    cases hi : acc[i]? with
    | none => rfl
    | some ap =>
      obtain ⟨a, q⟩ := ap
      show (if tsq (g a) then some q else bfs n stq tsq f (i + 1) (expandTo stq (ren g acc) (g a) q n)) = (if tst a then some q else bfs n stp tst f (i + 1) (expand n stp acc a q))
      rw [ht a, ren_expandTo gi (fun x hx => hg a x hx) n (Nat.le_refl _), ren_bfs gi hg ht f (i + 1) _]
      rfl
end
end Sg
namespace Sg
section
variable {α : Type} [DecidableEq α]
theorem bfs_end {n : Nat} {stp : α → Nat → α} {tst : α → Bool} {f i : Nat} {acc : Met α} (h : acc.length ≤ i) : bfs n stp tst f i acc = none := by
  cases f with
  | zero => rfl
  | succ f =>
    unfold bfs
    rw [List.getElem?_eq_none h]
theorem bfs_hit {n : Nat} {stp : α → Nat → α} {tst : α → Bool} {f i : Nat} {acc : Met α} {a : α} {p : List Nat} (h : acc[i]? = some (a, p)) (t : tst a = true) : bfs n stp tst (f + 1) i acc = some p := by
  show (match acc[i]? with | none => none | some (a, p) => if tst a then some p else bfs n stp tst f (i + 1) (expand n stp acc a p)) = _
  rw [h]
  exact if_pos t
theorem bfs_go {n : Nat} {stp : α → Nat → α} {tst : α → Bool} {f i : Nat} {acc : Met α} {a : α} {p : List Nat} (h : acc[i]? = some (a, p)) (t : tst a = false) : bfs n stp tst (f + 1) i acc = bfs n stp tst f (i + 1) (expandTo stp acc a p n) := by
  show (match acc[i]? with | none => none | some (a, p) => if tst a then some p else bfs n stp tst f (i + 1) (expand n stp acc a p)) = _
  rw [h]
  exact if_neg (by rw [t]; exact Bool.false_ne_true)
theorem met_closed {n : Nat} {stp : α → Nat → α} {s : α} {acc : Met α} (h : MetOk n stp s acc) (C : α → Prop) (hs : C s) (hc : ∀ a x, C a → x < n → C (stp a x)) : ∀ e ∈ acc, C e.1 := by
  have hin : ∀ (p : List Nat) (a : α), C a → (∀ x ∈ p, x < n) → C (p.foldl stp a) := by
    intro p
    induction p with
    | nil => intro a ha _; exact ha
    | cons x r ih => intro a ha hp; exact ih _ (hc a x ha (hp x List.mem_cons_self)) fun y hy => hp y (List.mem_cons_of_mem _ hy)
  intro e he
  obtain ⟨h1, h2, _⟩ := h.way e he
  rw [h1]
  exact hin _ _ hs h2
end
end Sg

namespace Sg
open PySem PySem.Spec PyProof.Rows L2
/-! ### lookers, what they do -/
def rowOf (rs : List LRow) (p : Int) : LRow := rs.getD p.toNat (0, [])
def nxt (rs : List LRow) (p : Int) (x : Nat) : Int := (rowOf rs p).2.getD x 0
def endAt (rs : List LRow) (p : Int) : Int := (rowOf rs p).1
def InSt (rs : List LRow) (p : Int) : Prop := 0 ≤ p ∧ p < (rs.length : Int)
theorem rowOf_get {rs : List LRow} {p : Int} (h : InSt rs p) : rs[p.toNat]? = some (rowOf rs p) := by
  unfold rowOf
  have : p.toNat < rs.length := by have := h.1; have := h.2; omega
  rw [List.getD_eq_getElem?_getD, List.getElem?_eq_getElem this]
  rfl
theorem rowOf_mem {rs : List LRow} {p : Int} (h : InSt rs p) : rowOf rs p ∈ rs := List.mem_of_getElem? (rowOf_get h)
theorem nxt_get {n : Nat} {rs : List LRow} (ok : RowsOk n rs) {p : Int} (h : InSt rs p) {x : Nat} (hx : x < n) : (rowOf rs p).2[x]? = some (nxt rs p x) := by
  unfold nxt
  have : x < (rowOf rs p).2.length := by rw [ok.wid _ (rowOf_mem h)]; exact hx
  rw [List.getD_eq_getElem?_getD, List.getElem?_eq_getElem this]
  rfl
theorem nxt_in {n : Nat} {rs : List LRow} (ok : RowsOk n rs) {p : Int} (h : InSt rs p) {x : Nat} (hx : x < n) : InSt rs (nxt rs p x) := ok.to _ (rowOf_mem h) _ (List.mem_of_getElem? (nxt_get ok h hx))
theorem endAt_bit {n : Nat} {rs : List LRow} (ok : RowsOk n rs) {p : Int} (h : InSt rs p) : endAt rs p = 0 ∨ endAt rs p = 1 := ok.bit _ (rowOf_mem h)
theorem in_zero {n : Nat} {rs : List LRow} (ok : RowsOk n rs) : InSt rs 0 := ⟨Int.le_refl _, by have := ok.pos; omega⟩
/-- reading a state of a looker -/
theorem RRows.at {K : PySem.W.Frag} {H : Hp} {b : Addr} {rs : List LRow} (h : RRows K H b rs) {p : Int} (hp : InSt rs p) :
    ∃ vs a1 b1, SqT K H b vs ∧ atI vs p = some (.ref a1) ∧ SqT K H a1 [.int (endAt rs p), .ref b1] ∧ SqT K H b1 ((rowOf rs p).2.map V.int) := by
  obtain ⟨vs, h1, h2⟩ := h
  obtain ⟨v, hv, a1, b1, rfl, h3, h4⟩ := pr_get' h2 (rowOf_get hp)
  refine ⟨vs, a1, b1, h1, ?_, h3, h4⟩
  have e : p = ((p.toNat : Nat) : Int) := by have := hp.1; omega
  exact L2.at_of e hv
theorem row_at {n : Nat} {rs : List LRow} (ok : RowsOk n rs) {p : Int} (h : InSt rs p) {x : Nat} (hx : x < n) : atI ((rowOf rs p).2.map V.int) (x : Int) = some (.int (nxt rs p x)) :=
  atI_nat (by rw [List.getElem?_map, nxt_get ok h hx]; rfl)
/-! ### texts by places of signs -/
def textOf (z : Str) (p : List Nat) : Str := ⟨(p.map fun x => z.cps.getD x 0).toArray⟩
theorem str_ext {x y : Str} (h : x.cps.toList = y.cps.toList) : x = y := by
  obtain ⟨a⟩ := x
  obtain ⟨b⟩ := y
  have e : a = b := Array.toList_inj.mp h
  rw [e]
theorem joinL_nil : ∀ l : List (List Nat), TL.joinL [] l = l.flatten
  | [] => rfl
  | [p] => by simp [TL.joinL]
  | p :: q :: r => by
    show p ++ ([] ++ TL.joinL [] (q :: r)) = _
    rw [List.nil_append, joinL_nil (q :: r)]
    rfl
theorem flatten_ones : ∀ l : List Nat, ((l.map fun c => [c]).flatten) = l
  | [] => rfl
  | c :: r => by
    show [c] ++ (r.map fun c => [c]).flatten = _
    rw [flatten_ones r]
    rfl
theorem join_signs (l : List Nat) : Txt.join (Str.ofString "") (l.map sgn) = ⟨l.toArray⟩ := by
  apply str_ext
  rw [TL.join_eq]
  have h := TL.tl_join (Str.ofString "") (l.map sgn)
  have e : TL.tl (Str.ofString "") = [] := by decide
  rw [e, joinL_nil, List.map_map] at h
  have e2 : (l.map (TL.tl ∘ sgn)).flatten = l := flatten_ones l
  rw [e2] at h
  exact h
theorem sum_ones : ∀ l : List Nat, ((l.map sgn).map (·.length)).sum = l.length
  | [] => rfl
  | c :: r => by
    show (1 : Nat) + ((r.map sgn).map (·.length)).sum = r.length + 1
    rw [sum_ones r]
    omega
theorem find_sign {z : Str} {i c : Nat} (nd : z.cps.toList.Nodup) (hi : z.cps.toList[i]? = some c) : Txt.find z (sgn c) = (i : Int) := by
  have at_i : ∀ j, StrLaws.At z (sgn c) z.length j ↔ z.cps.toList[j]? = some c := by
    intro j
    rw [TL.at_iff (by show [c] ≠ []; simp)]
    show TL.pre [c] (z.cps.toList.drop j) = true ↔ _
    cases hd : z.cps.toList.drop j with
    | nil =>
      have : z.cps.toList[j]? = none := by
        have h := congrArg (fun l : List Nat => l[0]?) hd
        simp only [List.getElem?_drop] at h
        simpa using h
      rw [this]
      constructor
      · intro h; cases h
      · intro h; cases h
    | cons a r =>
      have : z.cps.toList[j]? = some a := by
        have h := congrArg (fun l : List Nat => l[0]?) hd
        simp only [List.getElem?_drop] at h
        simpa using h
      rw [this]
      constructor
      · intro h
        have h2 : ([a] == [c]) = true := h
        have h3 : [a] = [c] := beq_iff_eq.mp h2
        rw [(List.cons.inj h3).1]
      · intro h
        obtain rfl := Option.some.inj h
        show ([a] == [a]) = true
        exact beq_self_eq_true _
  rcases find_whole z (sgn c) with ⟨_, h⟩ | ⟨k, e, h1, _⟩
  · exact absurd ((at_i i).mpr hi) (h i)
  · rw [e]
    have h2 := (at_i k).mp h1
    obtain ⟨q1, e1⟩ := List.getElem?_eq_some_iff.mp h2
    obtain ⟨q2, e2⟩ := List.getElem?_eq_some_iff.mp hi
    have : k = i := (List.getElem_inj nd).mp (e1.trans e2.symm)
    rw [this]
/-! ### how a thing was met: the dict of what came ahead -/
theorem dget_mono {H H' : Hp} (s : Same H H') {d : Addr} {y : V} {r : Option V} (h : DGet H d y r) : DGet H' d y r := by
  have rd : ∀ {a : Addr} {u : HO}, Rd H a u → Rd H' a u := fun h => h.elim (fun h => .inl (s _ _ h)) fun ⟨o, h⟩ => .inr ⟨o, s _ _ h⟩
  rcases h with ⟨kvs, k, h1, h2, h3⟩ | ⟨kvs, k, b, h1, h2, h3, h4⟩
  · exact .inl ⟨kvs, k, rd h1, h2, h3⟩
  · exact .inr ⟨kvs, k, b, rd h1, h2, s _ _ h3, h4⟩
inductive Chain (K : PySem.W.Frag) (H : Hp) (d : Addr) : V → List Nat → Prop where
  | root {y : V} (h : DGet H d y (some .non)) : Chain K H d y []
  | step {y y' : V} {t : Addr} {x : Nat} {p : List Nat} (h : DGet H d y (some (.ref t))) (ht : SqT K H t [y', .int (x : Int)]) (r : Chain K H d y' p) : Chain K H d y (p ++ [x])
theorem Chain.mono {K : PySem.W.Frag} {H H' : Hp} {d : Addr} (s : Same H H') {y : V} {p : List Nat} (h : Chain K H d y p) : Chain K H' d y p := by
  induction h with
  | root h => exact .root (dget_mono s h)
  | step h ht _ ih => exact .step (dget_mono s h) (Same.sqT s ht) ih
/-- what the dict tells of a key that was met by q -/
def StepV (K : PySem.W.Frag) (H : Hp) (d : Addr) (v : V) (q : List Nat) : Prop := (v = .non ∧ q = []) ∨ ∃ t y x q0, v = .ref t ∧ SqT K H t [y, .int ((x : Nat) : Int)] ∧ Chain K H d y q0 ∧ q = q0 ++ [x]
theorem Chain.get {K : PySem.W.Frag} {H : Hp} {d : Addr} {y : V} {p : List Nat} (h : Chain K H d y p) : ∃ v, DGet H d y (some v) ∧ StepV K H d v p := by
  cases h with
  | root h => exact ⟨_, h, .inl ⟨rfl, rfl⟩⟩
  | step h ht r => exact ⟨_, h, .inr ⟨_, _, _, _, rfl, ht, r, rfl⟩⟩
theorem StepV.mono {K : PySem.W.Frag} {H H' : Hp} {d : Addr} (s : Same H H') {v : V} {q : List Nat} (h : StepV K H d v q) : StepV K H' d v q := by
  rcases h with h | ⟨t, y, x, q0, h1, h2, h3, h4⟩
  · exact .inl h
  · exact .inr ⟨t, y, x, q0, h1, Same.sqT s h2, h3.mono s, h4⟩
def sgs (z : Str) (q : List Nat) : List V := q.map fun x => V.str (sgn (z.cps.getD x 0))
theorem at_sign {z : Str} {x : Nat} (h : x < z.length) : atI z.cps.toList (x : Int) = some (z.cps.getD x 0) := by
  refine atI_nat ?_
  rw [Array.getElem?_toList, Array.getElem?_eq_getElem h, Array.getD_eq_getD_getElem?, Array.getElem?_eq_getElem h]
  rfl
end Sg

namespace Sg
open PySem PySem.Spec PyProof.Rows L2
theorem sqT_upd {K : PySem.W.Frag} {H : Hp} {p a : Addr} {o u : HO} {xs : List V} (hp : H p = some u) (nt : ∀ ys, u ≠ .tup ys) (nf : ∀ q v, u ≠ .frz q v) (h : SqT K H a xs) : SqT K (upd H p o) a xs := by
  rcases h with (h | ⟨q, h⟩) | h
  · exact .inl (.inl (by rw [upd_ne (fun z => nt _ (by rw [z, hp] at h; exact Option.some.inj h))]; exact h))
  · exact .inl (.inr ⟨q, by rw [upd_ne (fun z => nf _ _ (by rw [z, hp] at h; exact Option.some.inj h))]; exact h⟩)
  · exact .inr h
theorem Chain.grow {K : PySem.W.Frag} {H H' : Hp} {d : Addr} (hd : ∀ y v, DGet H d y (some v) → DGet H' d y (some v)) (ht : ∀ a xs, SqT K H a xs → SqT K H' a xs) {y : V} {p : List Nat} (h : Chain K H d y p) : Chain K H' d y p := by
  induction h with
  | root h => exact .root (hd _ _ h)
  | step h h2 _ ih => exact .step (hd _ _ h) (ht _ _ h2) ih
/-- a list changes: the dict tells the same -/
theorem dget_lst {H : Hp} {d l : Addr} {xs ys : List V} (hl : H l = some (.lst xs)) {y v : V} (h : DGet H d y (some v)) : DGet (upd H l (.lst ys)) d y (some v) := by
  have rd : ∀ {a : Addr} {u : HO}, (∀ zs, u ≠ .lst zs) → Rd H a u → Rd (upd H l (.lst ys)) a u := fun {a u} n h => by
    rcases h with h | ⟨o, h⟩
    · exact .inl (by rw [upd_ne (fun z => n xs (by rw [z, hl] at h; exact (Option.some.inj h).symm))]; exact h)
    · exact .inr ⟨o, by rw [upd_ne (fun z => by rw [z, hl] at h; cases h)]; exact h⟩
  rcases h with ⟨kvs, k, h1, h2, h3⟩ | ⟨kvs, k, b, h1, h2, h3, h4⟩
  · exact .inl ⟨kvs, k, rd (fun zs => nofun) h1, h2, h3⟩
  · exact .inr ⟨kvs, k, b, rd (fun zs => nofun) h1, h2, by rw [upd_ne (fun z => by rw [z, hl] at h3; cases h3)]; exact h3, h4⟩
/-! ### dicts with int keys -/
theorem dget_int {H : Hp} {d : Addr} {kvs : List (Key × V)} (hd : H d = some (.dK kvs)) {y : V} {r : Option V} (h : DGet H d y r) : ∃ k, y = kV k ∧ r = valV kvs k := by
  rcases h with ⟨kvs', k, h1, h2, h3⟩ | ⟨kvs', k, b, h1, _⟩
  · rcases h1 with h1 | ⟨o, h1⟩
    · rw [hd] at h1
      have e : kvs = kvs' := by injection Option.some.inj h1
      exact ⟨k, h2, e ▸ h3⟩
    · rw [hd] at h1; cases h1
  · rcases h1 with h1 | ⟨o, h1⟩ <;> (rw [hd] at h1; cases h1)
theorem dget_putK {H : Hp} {d : Addr} {kvs : List (Key × V)} (hd : H d = some (.dK kvs)) {k0 : Key} {w : V} (hn : valV kvs k0 = none) {y v : V} (h : DGet H d y (some v)) : DGet (upd H d (.dK (putK kvs k0 w))) d y (some v) := by
  obtain ⟨k, rfl, hk⟩ := dget_int hd h
  refine .inl ⟨_, k, .inl upd_same, rfl, ?_⟩
  rw [valV_put, if_neg (fun z => by rw [z, hn] at hk; cases hk)]
  exact hk
structure CameI (K : PySem.W.Frag) (H0 : Hp) (dc lo : Addr) (acc : Met Int) (H : Hp) : Prop where
  same : Same H0 H
  n1 : H0 dc = none
  n2 : H0 lo = none
  dict : ∃ kvs, H dc = some (.dK kvs) ∧ (∀ a, (valV kvs (.inl a)).isSome = true ↔ a ∈ acc.map Prod.fst) ∧ kvs.length ≤ acc.length
  list : H lo = some (.lst (acc.map fun e => V.int e.1))
  chain : ∀ e ∈ acc, Chain K H dc (.int e.1) e.2
theorem CameI.other {K : PySem.W.Frag} {H0 H : Hp} {dc lo : Addr} {acc : Met Int} (c : CameI K H0 dc lo acc H) {T : Addr} {o : HO} (hT : H T = none) : CameI K H0 dc lo acc (upd H T o) := by
  have s : Same H (upd H T o) := same_upd hT
  obtain ⟨kvs, h1, h2, h3⟩ := c.dict
  exact ⟨Same.trans c.same s, c.n1, c.n2, ⟨kvs, s _ _ h1, h2, h3⟩, s _ _ c.list, fun e he => (c.chain e he).mono s⟩
theorem CameI.add {K : PySem.W.Frag} {H0 H : Hp} {dc lo : Addr} {acc : Met Int} (c : CameI K H0 dc lo acc H) {kvs : List (Key × V)} (hd : H dc = some (.dK kvs)) {a : Int} {p : List Nat} (hm : (a, p) ∈ acc) {x : Nat} {T : Addr} (hT : SqT K H T [.int a, .int (x : Int)]) {y : Int} (hy : y ∉ acc.map Prod.fst) :
    CameI K H0 dc lo (acc ++ [(y, p ++ [x])]) (upd (upd H dc (.dK (putK kvs (.inl y) (.ref T)))) lo (.lst ((acc.map fun e => V.int e.1) ++ [.int y]))) := by
  obtain ⟨kvs', h1, h2, h3⟩ := c.dict
  have ek : kvs' = kvs := by
    rw [hd] at h1
    injection Option.some.inj h1 with e
    exact e.symm
  subst ek
  have hn : valV kvs' (.inl y) = none := by
    cases e : valV kvs' (.inl y) with
    | none => rfl
    | some v => exact absurd ((h2 y).mp (by rw [e]; rfl)) hy
  have hne : dc ≠ lo := ne_of hd c.list (fun z => nomatch z)
  have l1 : (upd H dc (.dK (putK kvs' (.inl y) (.ref T)))) lo = some (.lst (acc.map fun e => V.int e.1)) := by rw [upd_ne (Ne.symm hne)]; exact c.list
  have dg : ∀ y' v, DGet H dc y' (some v) → DGet (upd (upd H dc (.dK (putK kvs' (.inl y) (.ref T)))) lo (.lst ((acc.map fun e => V.int e.1) ++ [.int y]))) dc y' (some v) := fun y' v h => dget_lst l1 (dget_putK hd hn h)
  have st : ∀ a xs, SqT K H a xs → SqT K (upd (upd H dc (.dK (putK kvs' (.inl y) (.ref T)))) lo (.lst ((acc.map fun e => V.int e.1) ++ [.int y]))) a xs := fun a xs h => sqT_upd l1 (fun _ => nofun) (fun _ _ => nofun) (sqT_upd hd (fun _ => nofun) (fun _ _ => nofun) h)
  refine ⟨fun b o hb => ?_, c.n1, c.n2, ⟨putK kvs' (.inl y) (.ref T), by rw [upd_ne hne, upd_same], fun b => ?_, ?_⟩, ?_, fun e he => ?_⟩
  · rw [upd_ne (ne_of_none hb c.n2), upd_ne (ne_of_none hb c.n1)]
    exact c.same b o hb
  · rw [valV_put, List.map_append, List.mem_append]
    by_cases e : (Sum.inl b : Key) = Sum.inl y
    · rw [if_pos e]
      have e2 : b = y := Sum.inl.inj e
      exact ⟨fun _ => .inr (by rw [e2]; simp), fun _ => rfl⟩
    · rw [if_neg e, h2 b]
      have e2 : b ≠ y := fun z => e (by rw [z])
      exact ⟨.inl, fun h => h.elim id fun h => absurd (by simpa using h) e2⟩
  · have := length_putK kvs' (.inl y) (.ref T)
    rw [List.length_append]
    simp
    omega
  · rw [upd_same, List.map_append]
    rfl
  · rcases List.mem_append.mp he with he | he
    · exact (c.chain e he).grow dg st
    · obtain rfl := List.mem_singleton.mp he
      refine .step (y' := .int a) (t := T) ?_ (st _ _ hT) ((c.chain _ hm).grow dg st)
      refine dget_lst l1 (.inl ⟨_, .inl y, .inl upd_same, rfl, ?_⟩)
      rw [valV_put, if_pos rfl]
end Sg
namespace Sg
open PySem PySem.Spec PyProof.Rows L2
theorem CameI.start {K : PySem.W.Frag} {H H1 : Hp} {dc lo : Addr} {s : Int} (n1 : H dc = none) (e1 : H1 = upd (upd H dc (.dK [])) dc (.dK [(.inl s, .non)])) (n2 : H1 lo = none) : CameI K H dc lo [(s, [])] (upd H1 lo (.lst [.int s])) := by
  have hne : dc ≠ lo := fun z => by rw [← z, e1, upd_same] at n2; cases n2
  have l1 : H1 dc = some (.dK [(.inl s, .non)]) := by rw [e1, upd_same]
  have h0 : H lo = none := by rw [e1, upd_ne (Ne.symm hne), upd_ne (Ne.symm hne)] at n2; exact n2
  refine ⟨fun b o hb => ?_, n1, h0, ⟨_, by rw [upd_ne hne]; exact l1, fun a => ?_, Nat.le_refl _⟩, by rw [upd_same]; rfl, fun e he => ?_⟩
  · rw [upd_ne (ne_of_none hb h0), e1, upd_ne (ne_of_none hb n1), upd_ne (ne_of_none hb n1)]
    exact hb
  · by_cases c : s = a
    · subst c
      simp [valV]
    · simp [valV, c, Ne.symm c]
  · obtain rfl := List.mem_singleton.mp he
    exact .root (dget_mono (same_upd n2) (.inl ⟨_, .inl s, .inl l1, rfl, by simp [valV]⟩))
def stR (n : Nat) : List Int := (List.range n).map Int.ofNat
theorem mem_stR {rs : List LRow} {p : Int} : p ∈ stR rs.length ↔ InSt rs p := by
  unfold stR
  rw [List.mem_map]
  constructor
  · rintro ⟨x, hx, rfl⟩
    have := List.mem_range.mp hx
    exact ⟨Int.natCast_nonneg _, by show ((x : Nat) : Int) < _; omega⟩
  · rintro ⟨h1, h2⟩
    exact ⟨p.toNat, List.mem_range.mpr (by omega), by show ((p.toNat : Nat) : Int) = p; omega⟩
theorem stR_len (n : Nat) : (stR n).length = n := by simp [stR]
end Sg

namespace Sg
open PySem PySem.Spec PyProof.Rows L2
/-! ### dicts whose keys are pairs of ints -/
abbrev IP : Type := Int × Int
def kyP (a : IP) : List Key := [.inl a.1, .inl a.2]
theorem kyP_inj {a b : IP} (h : kyP a = kyP b) : a = b := by
  unfold kyP at h
  obtain ⟨h1, h2⟩ := List.cons.inj h
  exact Prod.ext (Sum.inl.inj h1) (Sum.inl.inj (List.cons.inj h2).1)
def tuP (a : IP) : HO := .tup [.int a.1, .int a.2]
theorem dget_tup {H : Hp} {d : Addr} {kvs : List (List Key × V)} (hd : H d = some (.dT kvs)) {y : V} {r : Option V} (h : DGet H d y r) : ∃ k b, y = .ref b ∧ H b = some (.tup (k.map kV)) ∧ r = valV kvs k := by
  rcases h with ⟨kvs', k, h1, _⟩ | ⟨kvs', k, b, h1, h2, h3, h4⟩
  · rcases h1 with h1 | ⟨o, h1⟩ <;> (rw [hd] at h1; cases h1)
  · rcases h1 with h1 | ⟨o, h1⟩
    · rw [hd] at h1
      have e : kvs = kvs' := by injection Option.some.inj h1
      exact ⟨k, b, h2, h3, e ▸ h4⟩
    · rw [hd] at h1; cases h1
theorem dget_putT {H : Hp} {d : Addr} {kvs : List (List Key × V)} (hd : H d = some (.dT kvs)) {k0 : List Key} {w : V} (hn : valV kvs k0 = none) {y v : V} (h : DGet H d y (some v)) : DGet (upd H d (.dT (putK kvs k0 w))) d y (some v) := by
  obtain ⟨k, b, rfl, hb, hk⟩ := dget_tup hd h
  refine .inr ⟨_, k, b, .inl upd_same, rfl, by rw [upd_ne (fun z => by rw [z, hd] at hb; cases hb)]; exact hb, ?_⟩
  rw [valV_put, if_neg (fun z => by rw [z, hn] at hk; cases hk)]
  exact hk
structure CameT (K : PySem.W.Frag) (H0 : Hp) (dc lo : Addr) (acc : Met IP) (H : Hp) (os : List Addr) : Prop where
  same : Same H0 H
  n1 : H0 dc = none
  n2 : H0 lo = none
  dict : ∃ kvs, H dc = some (.dT kvs) ∧ (∀ a, (valV kvs (kyP a)).isSome = true ↔ a ∈ acc.map Prod.fst) ∧ kvs.length ≤ acc.length
  list : H lo = some (.lst (os.map V.ref))
  chain : Paired (fun o e => H o = some (tuP e.1) ∧ Chain K H dc (.ref o) e.2) os acc
theorem CameT.other {K : PySem.W.Frag} {H0 H : Hp} {dc lo : Addr} {acc : Met IP} {os : List Addr} (c : CameT K H0 dc lo acc H os) {T : Addr} {o : HO} (hT : H T = none) : CameT K H0 dc lo acc (upd H T o) os := by
  have s : Same H (upd H T o) := same_upd hT
  obtain ⟨kvs, h1, h2, h3⟩ := c.dict
  exact ⟨Same.trans c.same s, c.n1, c.n2, ⟨kvs, s _ _ h1, h2, h3⟩, s _ _ c.list, pr_mono c.chain fun o e h => ⟨s _ _ h.1, h.2.mono s⟩⟩
theorem pr_snoc {α β : Type} {F : α → β → Prop} {l : List α} {m : List β} (h : Paired F l m) {a : α} {b : β} (r : F a b) : Paired F (l ++ [a]) (m ++ [b]) := by
  induction h with
  | nil => exact .cons r .nil
  | cons r' _ ih => exact .cons r' ih
theorem pr_len {α β : Type} {F : α → β → Prop} {l : List α} {m : List β} (h : Paired F l m) : l.length = m.length := by
  induction h with
  | nil => rfl
  | cons _ _ ih => rw [List.length_cons, List.length_cons, ih]
theorem CameT.add {K : PySem.W.Frag} {H0 H : Hp} {dc lo : Addr} {acc : Met IP} {os : List Addr} (c : CameT K H0 dc lo acc H os) {kvs : List (List Key × V)} (hd : H dc = some (.dT kvs)) {o : Addr} {p : List Nat} (hc : Chain K H dc (.ref o) p) {x : Nat} {T : Addr} (hT : SqT K H T [.ref o, .int (x : Int)]) {y : IP} {t : Addr} (ht : H t = some (tuP y)) (hy : y ∉ acc.map Prod.fst) :
    CameT K H0 dc lo (acc ++ [(y, p ++ [x])]) (upd (upd H dc (.dT (putK kvs (kyP y) (.ref T)))) lo (.lst (os.map V.ref ++ [.ref t]))) (os ++ [t]) := by
  obtain ⟨kvs', h1, h2, h3⟩ := c.dict
  have ek : kvs' = kvs := by
    rw [hd] at h1
    injection Option.some.inj h1 with e
    exact e.symm
  subst ek
  have hn : valV kvs' (kyP y) = none := by
    cases e : valV kvs' (kyP y) with
    | none => rfl
    | some v => exact absurd ((h2 y).mp (by rw [e]; rfl)) hy
  have hne : dc ≠ lo := ne_of hd c.list (fun z => nomatch z)
  have l1 : (upd H dc (.dT (putK kvs' (kyP y) (.ref T)))) lo = some (.lst (os.map V.ref)) := by rw [upd_ne (Ne.symm hne)]; exact c.list
  have dg : ∀ y' v, DGet H dc y' (some v) → DGet (upd (upd H dc (.dT (putK kvs' (kyP y) (.ref T)))) lo (.lst (os.map V.ref ++ [.ref t]))) dc y' (some v) := fun y' v h => dget_lst l1 (dget_putT hd hn h)
  have st : ∀ a xs, SqT K H a xs → SqT K (upd (upd H dc (.dT (putK kvs' (kyP y) (.ref T)))) lo (.lst (os.map V.ref ++ [.ref t]))) a xs := fun a xs h => sqT_upd l1 (fun _ => nofun) (fun _ _ => nofun) (sqT_upd hd (fun _ => nofun) (fun _ _ => nofun) h)
  have tu : ∀ a e, H a = some (tuP e) → (upd (upd H dc (.dT (putK kvs' (kyP y) (.ref T)))) lo (.lst (os.map V.ref ++ [.ref t]))) a = some (tuP e) := fun a e h => by
    rw [upd_ne (fun z => by rw [z, c.list] at h; cases h), upd_ne (fun z => by rw [z, hd] at h; cases h)]
    exact h
  refine ⟨fun b o hb => ?_, c.n1, c.n2, ⟨putK kvs' (kyP y) (.ref T), by rw [upd_ne hne, upd_same], fun b => ?_, ?_⟩, ?_, ?_⟩
  · rw [upd_ne (ne_of_none hb c.n2), upd_ne (ne_of_none hb c.n1)]
    exact c.same b o hb
  · rw [valV_put, List.map_append, List.mem_append]
    by_cases e : kyP b = kyP y
    · rw [if_pos e]
      have e2 : b = y := kyP_inj e
      exact ⟨fun _ => .inr (by rw [e2]; simp), fun _ => rfl⟩
    · rw [if_neg e, h2 b]
      have e2 : b ≠ y := fun z => e (by rw [z])
      exact ⟨.inl, fun h => h.elim id fun h => absurd (by simpa using h) e2⟩
  · have := length_putK kvs' (kyP y) (.ref T)
    rw [List.length_append]
    simp
    omega
  · rw [upd_same, List.map_append]
    rfl
  · refine pr_snoc (pr_mono c.chain fun o e h => ⟨tu _ _ h.1, h.2.grow dg st⟩) ⟨tu _ _ ht, ?_⟩
    refine .step (y' := .ref o) (t := T) ?_ (st _ _ hT) (hc.grow dg st)
    refine dget_lst l1 (.inr ⟨_, kyP y, t, .inl upd_same, rfl, ?_, ?_⟩)
    · rw [upd_ne (fun z => by rw [z, hd] at ht; cases ht)]
      exact ht
    · rw [valV_put, if_pos rfl]
theorem CameT.start {K : PySem.W.Frag} {H H1 H2 : Hp} {dc lo b t : Addr} {s : IP} (n1 : H dc = none) (eb : H1 b = some (tuP s)) (es : Same (upd H dc (.dT [])) H1) (e1 : H1 dc = some (.dT [])) (e2 : H2 = upd H1 dc (.dT [(kyP s, .non)])) (n2 : H2 t = none) (n3 : (upd H2 t (tuP s)) lo = none) :
    CameT K H dc lo [(s, [])] (upd (upd H2 t (tuP s)) lo (.lst [.ref t])) [t] := by
  have k1 : H2 dc = some (.dT [(kyP s, .non)]) := by rw [e2, upd_same]
  have k2 : (upd H2 t (tuP s)) dc = some (.dT [(kyP s, .non)]) := same_upd n2 _ _ k1
  have hne : dc ≠ lo := fun z => by rw [← z, k2] at n3; cases n3
  have hb : ∀ a o, H a = some o → a ≠ dc ∧ H1 a = some o := fun a o ha => ⟨ne_of_none ha n1, es _ _ (same_upd n1 _ _ ha)⟩
  have s3 : Same (upd H2 t (tuP s)) (upd (upd H2 t (tuP s)) lo (.lst [.ref t])) := same_upd n3
  have t1 : (upd H2 t (tuP s)) t = some (tuP s) := upd_same
  have sm : Same H (upd (upd H2 t (tuP s)) lo (.lst [.ref t])) := fun a o ha => s3 _ _ (same_upd n2 _ _ (by rw [e2, upd_ne (hb a o ha).1]; exact (hb a o ha).2))
  refine ⟨sm, n1, ?_, ⟨_, s3 _ _ k2, fun a => ?_, Nat.le_refl _⟩, upd_same, .cons ⟨s3 _ _ t1, .root (dget_mono s3 (.inr ⟨_, kyP s, t, .inl k2, rfl, t1, by simp [valV]⟩))⟩ .nil⟩
  · cases e : H lo with
    | none => rfl
    | some o =>
      have := same_upd (o := tuP s) n2 _ _ (show H2 lo = some o by rw [e2, upd_ne (hb lo o e).1]; exact (hb lo o e).2)
      rw [n3] at this
      cases this
  · by_cases c : s = a
    · subst c
      simp [valV]
    · have : kyP s ≠ kyP a := fun z => c (kyP_inj z)
      simp [valV, this, Ne.symm c]
end Sg
namespace Sg
open PySem PySem.Spec PyProof.Rows L2
theorem CameT.grow {K : PySem.W.Frag} {H0 H : Hp} {dc lo : Addr} {acc : Met IP} {os : List Addr} (c : CameT K H0 dc lo acc H os) {kvs : List (List Key × V)} (hd : H dc = some (.dT kvs)) {y : IP} (hy : y ∉ acc.map Prod.fst) {v0 : V} {l : List V} :
    (∀ y' p, Chain K H dc y' p → Chain K (upd (upd H dc (.dT (putK kvs (kyP y) v0))) lo (.lst l)) dc y' p) ∧ ∀ a e, H a = some (tuP e) → (upd (upd H dc (.dT (putK kvs (kyP y) v0))) lo (.lst l)) a = some (tuP e) := by
  obtain ⟨kvs', h1, h2, h3⟩ := c.dict
  have ek : kvs' = kvs := by
    rw [hd] at h1
    injection Option.some.inj h1 with e
    exact e.symm
  subst ek
  have hn : valV kvs' (kyP y) = none := by
    cases e : valV kvs' (kyP y) with
    | none => rfl
    | some v => exact absurd ((h2 y).mp (by rw [e]; rfl)) hy
  have hne : dc ≠ lo := ne_of hd c.list (fun z => nomatch z)
  have l1 : (upd H dc (.dT (putK kvs' (kyP y) v0))) lo = some (.lst (os.map V.ref)) := by rw [upd_ne (Ne.symm hne)]; exact c.list
  refine ⟨fun y' p h => h.grow (fun y' v h => dget_lst l1 (dget_putT hd hn h)) fun a xs h => sqT_upd l1 (fun _ => nofun) (fun _ _ => nofun) (sqT_upd hd (fun _ => nofun) (fun _ _ => nofun) h), fun a e h => ?_⟩
  rw [upd_ne (fun z => by rw [z, c.list] at h; cases h), upd_ne (fun z => by rw [z, hd] at h; cases h)]
  exact h
end Sg

namespace Sg
open PySem PySem.Spec PyProof.Rows L2
/-! ### a tuple with one thing put in at a place -/
section
variable {K : PySem.W.Frag} {H : Hp} {Q : VK} {a b : Addr} {xs ys : List V}
theorem sl_take {i : Nat} (h : SqT K H a xs) (hi : i ≤ xs.length) (q : ∀ c H', Same H H' → SqT K H' c (xs.take i) → Q (.ref c) H') : rSlA K (.ref a) none (some (i : Int)) H Q := by
  have e : HT.sIx xs.length xs.length (some (i : Int)) = i := by rw [HT.sIx_nat]; omega
  refine ⟨a, xs, rfl, h, fun w => q a H (Same.refl H) ?_, fun _ p hp => q p _ (same_upd hp) (.inl (.inl ?_))⟩
  · have e2 := w.2
    rw [e] at e2
    rw [e2, List.take_length]
    exact h
  · rw [upd_same]
    unfold cutV
    rw [e, HT.sIx_none]
    rfl
theorem sl_drop {i : Nat} (h : SqT K H a xs) (hi : i ≤ xs.length) (q : ∀ c H', Same H H' → SqT K H' c (xs.drop i) → Q (.ref c) H') : rSlA K (.ref a) (some (i : Int)) none H Q := by
  have e : HT.sIx xs.length 0 (some (i : Int)) = i := by rw [HT.sIx_nat]; omega
  refine ⟨a, xs, rfl, h, fun w => q a H (Same.refl H) ?_, fun _ p hp => q p _ (same_upd hp) (.inl (.inl ?_))⟩
  · have e2 := w.1
    rw [e] at e2
    rw [e2]
    exact h
  · rw [upd_same]
    unfold cutV
    rw [e, HT.sIx_none, List.take_of_length_le (by rw [List.length_drop]; exact Nat.le_refl _)]
theorem cat_use (h1 : SqT K H a xs) (h2 : SqT K H b ys) (hl : xs.length + ys.length ≤ 1000000) (q : ∀ c H', Same H H' → SqT K H' c (xs ++ ys) → Q (.ref c) H') : rCatA K (.ref a) (.ref b) H Q :=
  ⟨a, b, xs, ys, rfl, rfl, h1, h2, szle hl, fun e => q b H (Same.refl H) (by rw [e]; exact h2), fun _ e => q a H (Same.refl H) (by rw [e, List.append_nil]; exact h1), fun _ _ p hp => q p _ (same_upd hp) (.inl (.inl upd_same))⟩
end
def putAt {α : Type} (l : List α) (i : Nat) (a : α) : List α := l.take i ++ [a] ++ l.drop (i + 1)
theorem putAt_len {α : Type} {l : List α} {i : Nat} (a : α) (h : i < l.length) : (putAt l i a).length = l.length := by
  unfold putAt
  rw [List.length_append, List.length_append, List.length_take, List.length_drop, List.length_singleton]
  omega
theorem putAt_mem {α : Type} {l : List α} {i : Nat} {a b : α} (h : b ∈ putAt l i a) : b ∈ l ∨ b = a := by
  unfold putAt at h
  rcases List.mem_append.mp h with h | h
  · rcases List.mem_append.mp h with h | h
    · exact .inl (List.mem_of_mem_take h)
    · exact .inr (List.mem_singleton.mp h)
  · exact .inl (List.mem_of_mem_drop h)
theorem putAt_map {α β : Type} (f : α → β) (l : List α) (i : Nat) (a : α) : putAt (l.map f) i (f a) = (putAt l i a).map f := by
  unfold putAt
  rw [List.map_append, List.map_append, List.map_take, List.map_drop]
  rfl
theorem pr_take {α β : Type} {F : α → β → Prop} {l : List α} {m : List β} (h : Paired F l m) : ∀ i, Paired F (l.take i) (m.take i) := by
  induction h with
  | nil => intro i; simp; exact .nil
  | cons r _ ih =>
    intro i
    cases i with
    | zero => exact .nil
    | succ i => exact .cons r (ih i)
theorem pr_drop {α β : Type} {F : α → β → Prop} {l : List α} {m : List β} (h : Paired F l m) : ∀ i, Paired F (l.drop i) (m.drop i) := by
  induction h with
  | nil => intro i; simp; exact .nil
  | cons r t ih =>
    intro i
    cases i with
    | zero => exact .cons r t
    | succ i => exact ih i
theorem pr_append {α β : Type} {F : α → β → Prop} {l l' : List α} {m m' : List β} (h : Paired F l m) (h' : Paired F l' m') : Paired F (l ++ l') (m ++ m') := by
  induction h with
  | nil => exact h'
  | cons r _ ih => exact .cons r ih
theorem pr_putAt {α β : Type} {F : α → β → Prop} {l : List α} {m : List β} (h : Paired F l m) {a : α} {b : β} (r : F a b) (i : Nat) : Paired F (putAt l i a) (putAt m i b) :=
  pr_append (pr_append (pr_take h i) (.cons r .nil)) (pr_drop h (i + 1))
theorem RowsOk.putAt {n : Nat} {rs : List LRow} (ok : RowsOk n rs) {i : Nat} (hi : i < rs.length) {r : LRow} (h1 : r.1 = 0 ∨ r.1 = 1) (h2 : r.2.length = n) (h3 : ∀ q ∈ r.2, 0 ≤ q ∧ q < (rs.length : Int)) : RowsOk n (Sg.putAt rs i r) := by
  have e := putAt_len r hi
  refine ⟨by rw [e]; exact ok.pos, by rw [e]; exact ok.top, fun x hx => ?_, fun x hx => ?_, fun x hx => ?_⟩
  · rcases putAt_mem hx with hx | rfl
    · exact ok.bit x hx
    · exact h1
  · rcases putAt_mem hx with hx | rfl
    · exact ok.wid x hx
    · exact h2
  · rw [e]
    rcases putAt_mem hx with hx | rfl
    · exact ok.to x hx
    · exact h3
end Sg
namespace Sg
open PySem PySem.Spec PyProof.Rows L2
theorem rest_use {K : PySem.W.Frag} {H : Hp} {Q : VK} {σ : L2.St} {j k i : Nat} {b c : Addr} {xs : List V} {v : V} (hj : σ[j]? = some (some (.ref b))) (hk : σ[k]? = some (some (.int (i : Int)))) (hb : SqT K H b xs) (hi : i < xs.length) (hl : xs.length ≤ 1000) (hc : SqT K H c (xs.take i)) (hp : ∀ p, H p = none → ∀ c' H', Same H H' → SqT K H' c' (putAt xs i v) → Q (.ref c') H') :
    1 ≤ sizeLine ∧ ∀ p, H p = none → rCatA K (.ref c) (.ref p) (upd H p (.tup [v])) fun x2 H1 => tSl (rSlA K) (tVar j) (tPart (tOp (rI0 fun i j => V.int (i + j)) (tVar k) (tC (V.int 1)))) tNoPart σ H1 fun y H2 => rCatA K x2 y H2 Q := by
  refine ⟨szle (m := 1) (Nat.le_refl _), fun p hp0 => ?_⟩
  have s1 : Same H (upd H p (.tup [v])) := same_upd hp0
  have lt : (xs.take i).length = i := by rw [List.length_take]; omega
  refine cat_use (Same.sqT s1 hc) (.inl (.inl upd_same)) (by rw [lt]; show i + 1 ≤ _; omega) fun c2 H2 s2 h2 => ?_
  refine ⟨_, hj, _, hk, _, _, rfl, rfl, _, rfl, ?_⟩
  have e1 : ((i : Nat) : Int) + 1 = ((i + 1 : Nat) : Int) := by omega
  show rSlA K (.ref b) (some (((i : Nat) : Int) + 1)) none H2 (fun y H2 => rCatA K (.ref c2) y H2 Q)
  rw [e1]
  refine sl_drop (Same.sqT s2 (Same.sqT s1 hb)) (by omega) fun c3 H3 s3 h3 => ?_
  refine cat_use (Same.sqT s3 h2) h3 ?_ fun c4 H4 s4 h4 => hp p hp0 c4 H4 (Same.trans s1 (Same.trans s2 (Same.trans s3 s4))) h4
  rw [List.length_append, lt, List.length_drop]
  show i + 1 + _ ≤ _
  omega
theorem take_use {K : PySem.W.Frag} {H : Hp} {Q : VK} {σ : L2.St} {j k i : Nat} {b : Addr} {xs : List V} (hj : σ[j]? = some (some (.ref b))) (hk : σ[k]? = some (some (.int (i : Int)))) (hb : SqT K H b xs) (hi : i < xs.length) (q : ∀ c H', Same H H' → SqT K H' c (xs.take i) → Q (.ref c) H') :
    tSl (rSlA K) (tVar j) tNoPart (tPart (tVar k)) σ H Q := by
  refine ⟨_, hj, _, hk, _, rfl, ?_⟩
  exact sl_take hb (by omega) q
theorem splice {K : PySem.W.Frag} {H : Hp} {Q : VK} {σ : L2.St} {j k i : Nat} {b : Addr} {xs : List V} {v : V} (hj : σ[j]? = some (some (.ref b))) (hk : σ[k]? = some (some (.int (i : Int)))) (hb : SqT K H b xs) (hi : i < xs.length) (hl : xs.length ≤ 1000) (q : ∀ c' H', Same H H' → SqT K H' c' (putAt xs i v) → Q (.ref c') H') :
    tSl (rSlA K) (tVar j) tNoPart (tPart (tVar k)) σ H fun x1 H1 => 1 ≤ sizeLine ∧ ∀ p, H1 p = none → rCatA K x1 (.ref p) (upd H1 p (.tup [v])) fun x2 H1 => tSl (rSlA K) (tVar j) (tPart (tOp (rI0 fun i j => V.int (i + j)) (tVar k) (tC (V.int 1)))) tNoPart σ H1 fun y H2 => rCatA K x2 y H2 Q :=
  take_use hj hk hb hi fun _ _ s1 h1 => rest_use hj hk (Same.sqT s1 hb) hi hl h1 fun _ _ c' H' s' h' => q c' H' (Same.trans s1 s') h'
end Sg
namespace Sg
open PySem PySem.Spec PyProof.Rows L2
/-- one statement, then the rest: what holds between -/
theorem seq_with {ta tb : TS} {D : Ends} {σ : L2.St} {H : Hp} (M : L2.St → Hp → Prop) (h : ∀ N : L2.St → Hp → Prop, (∀ σ' H', M σ' H' → N σ' H') → ta { D with nx := N } σ H) (tail : ∀ σ' H', M σ' H' → tb D σ' H') : tSeq ta tb D σ H := h _ tail
end Sg

/-! dicts whose keys are (int, tuple of ints) and whose values are ints; len(set(ints)) -/
namespace Sg
open PySem PySem.Spec PyProof.Rows L2
/-! ### len(set(list of ints)) -/
theorem step_add (acc : List Int) (v : Int) : step_dedup acc v = addOne acc v := by
  unfold step_dedup addOne
  by_cases h : v ∈ acc
  · rw [if_pos h]
    simp [h]
  · rw [if_neg h]
    simp [h]
theorem met_once (ns : List Int) : firstMet (fun i => ns.getD i 0) ns.length = once ns := by
  unfold firstMet once
  have e1 : (List.range ns.length).map (fun i => ns.getD i 0) = ns := by
    apply List.ext_getElem?
    intro i
    rw [List.getElem?_map]
    by_cases h : i < ns.length
    · rw [List.getElem?_range h, List.getElem?_eq_getElem h, Option.map_some, List.getD_eq_getElem?_getD, List.getElem?_eq_getElem h]
      rfl
    · rw [List.getElem?_eq_none (by simpa using h), List.getElem?_eq_none (by omega)]
      rfl
  rw [e1]
  have e2 : (step_dedup : List Int → Int → List Int) = addOne := funext fun a => funext fun v => step_add a v
  rw [e2]
def tLenSetN (K : PySem.W.Frag) (ta : TE) : TE := fun σ H Q => ta σ H fun x H1 => match x with
  | .ref l => ∃ ns : List Int, SqL K H1 l (ns.map V.int) ∧ ns.length ≤ 1000 ∧ Q (.int ((once ns).length : Nat)) H1
  | _ => False
theorem pe_lenSetN {X : Cx} {a : Expr} {ta : TE} {p p2 q pos : Pos} (hc : X.calm = true) (hg : Gl X "len") (hm : X.mg "len" = none) (hg2 : Gl X "set") (hm2 : X.mg "set" = none) (ha : PE X a ta)
    (na : starEach [a] X.env = (false, eval a X.env) :: starEach [] X.env := by rfl) : PE X (.Call (.Name "len" p) [.Call (.Name "set" p2) [a] [] q] [] pos) (tLenSetN X.K ta) := by
  refine ⟨fun pins s σ H Q I h => ?_⟩
  refine Call_ (ld_blt I hg hm PySem.boot_len ?_)
  refine PyProof.Rows.callWith_builtin1 (PyProof.Rows.args_cons ?_ rfl) rfl rfl
  refine Call_ (ld_blt I hg2 hm2 PyProof.Rows.boot_set ?_)
  refine PyProof.Rows.callWith_type1 (PyProof.Rows.args_cons (thn (ha.run pins s σ H _ I h) fun v s1 ⟨x, H1, I1, r1, q1⟩ => PyProof.Rows.args_nil ?_) na) na rfl
  match x, q1 with
  | .ref l, ⟨ns, hq, hn1, q2⟩ =>
    cases (show v = Value.ref l from r1)
    obtain ⟨its, r, pl, hz⟩ := I1.list hq
    have hl : its.toArray.size = ns.length := by rw [List.size_toArray, ← r.length, List.length_map]
    refine call_set_list (I1.ok.hd hc) pl.isList (ns := ns) (by simpa using r.ints) (by unfold scanBound; omega) fun h' tk hS hk => PyProof.Rows.args_nil ?_
    rw [hl, met_once] at hS
    obtain ⟨o, es, ep, t, ho, hex, hd, _, _, _, hf, hn⟩ := hS
    have I2 : Inv X pins σ H1 { s1 with heap := h', toks := tk } := I1.kept fun b o e => hk b o (Heap.lt_size e) e
    have hlen : (once ns).length ≤ 1000 := Nat.le_trans (once_len ns) hn1
    exact call_len_set ho hex hd hf (by rw [hn] <;> omega) ⟨.int ((once ns).length : Nat), H1, I2.tok _, ⟨_, by rw [hn]⟩, q2⟩
/-! ### nested keys -/
abbrev NK : Type := Int × List Int
def nk (k : NK) : NestedKey := .tup [.num k.1, .tup (k.2.map .num)]
theorem nums_inj : ∀ {l m : List Int}, l.map NestedKey.num = m.map NestedKey.num → l = m
  | [], [], _ => rfl
  | [], b :: m, h => by cases h
  | a :: l, [], h => by cases h
  | a :: l, b :: m, h => by
    obtain ⟨h1, h2⟩ := List.cons.inj h
    rw [NestedKey.num.inj h1, nums_inj h2]
theorem nk_inj {a b : NK} (h : nk a = nk b) : a = b := by
  have h1 := NestedKey.tup.inj h
  obtain ⟨h2, h3⟩ := List.cons.inj h1
  have h4 := NestedKey.tup.inj (List.cons.inj h3).1
  exact Prod.ext (NestedKey.num.inj h2) (nums_inj h4)
abbrev NE : Type := NK × Addr × Int
def nEnt (p : NE) (x : NestedKey × Addr × Value) : Prop := nk p.1 = x.1 ∧ p.2.1 = x.2.1 ∧ ∃ t, x.2.2 = .int p.2.2 t
/-- the dict's own object -/
def NestD (P : Program) (w : World) (h : Heap) (d : Addr) (kvs : List NE) : Prop :=
  (d == sysModules) = false ∧ ∃ xs, Paired nEnt kvs xs ∧ ∃ o es ep, h.get? d = some o ∧ o.ExactDict ∧ o.data = .dict es ep ∧ es.toList = xs.map (entryOfKey (nestedKind P w)) ∧ (xs.map (·.1)).Nodup
def dN (P : Program) (w : World) (d : Addr) (kvs : List NE) : HO := .ext fun h => NestD P w h d kvs
def KeyN (H : Hp) (b : Addr) (k : NK) : Prop := ∃ c, H b = some (.tup [.int k.1, .ref c]) ∧ H c = some (.tup (k.2.map V.int))
def EntN (H : Hp) (kvs : List NE) : Prop := ∀ e ∈ kvs, KeyN H e.2.1 e.1
def valN (kvs : List NE) (k : NK) : Option Int := (kvs.find? fun e => decide (e.1 = k)).map (·.2.2)
theorem KeyN.mono {H H' : Hp} (s : ∀ b xs, H b = some (.tup xs) → H' b = some (.tup xs)) {b : Addr} {k : NK} (h : KeyN H b k) : KeyN H' b k := by
  obtain ⟨c, h1, h2⟩ := h
  exact ⟨c, s _ _ h1, s _ _ h2⟩
theorem EntN.mono {H H' : Hp} (s : ∀ b xs, H b = some (.tup xs) → H' b = some (.tup xs)) {kvs : List NE} (h : EntN H kvs) : EntN H' kvs := fun e he => (h e he).mono s
theorem dN_new {P : Program} {w : World} {H : Hp} {h : Heap} {d : Addr} {kvs : List NE} (x : NestD P w h d kvs) : ObjOk P w H h d (dN P w d kvs) := by
  obtain ⟨hd, xs, pr, o, es, ep, ho, r⟩ := id x
  refine ⟨x, ⟨o, ho⟩, fun h1 h2 p k => ?_⟩
  obtain ⟨hd, xs, pr, o, es, ep, ho, r⟩ := p
  exact ⟨hd, xs, pr, o, es, ep, k o ho, r⟩
theorem nums_all {h : Heap} : ∀ {l : List Int} {vs : List Value}, Vals (l.map V.int) vs → NestedAll h (l.map .num) vs
  | [], _, r => by cases r; exact .nil
  | i :: l, _, r => by
    cases r with
    | cons r1 r2 =>
      obtain ⟨t, rfl⟩ := (show ∃ t, _ = Value.int i t from r1)
      exact .cons (.int i t) (nums_all r2)
theorem depth_nums : ∀ l : List Int, NestedKey.depthAll (l.map .num) = 0
  | [] => rfl
  | i :: l => by
    show max (NestedKey.depth (.num i)) (NestedKey.depthAll (l.map .num)) = 0
    rw [depth_nums l]
    rfl
theorem nkey_of {P : Program} {w : World} {H : Hp} {h : Heap} {b : Addr} {k : NK} (ok : HOk P w H h) (x : KeyN H b k) : (nestedKind P w).is h (nk k) b := by
  obtain ⟨c, h1, h2⟩ := x
  obtain ⟨_, its, r, o, g1, g2, n, g3⟩ := (show ObjOk P w H h b (.tup _) from ok b _ h1)
  obtain ⟨_, its2, r2, o2, g4, g5, n2, g6⟩ := (show ObjOk P w H h c (.tup _) from ok c _ h2)
  refine ⟨.tup g1 g2 g3 ?_, ?_⟩
  · cases r with
    | cons r1 t1 =>
      cases t1 with
      | cons r3 t3 =>
        cases t3
        obtain ⟨t, rfl⟩ := (show ∃ t, _ = Value.int k.1 t from r1)
        cases (show _ = Value.ref c from r3)
        exact .cons (.int k.1 t) (.cons (.tup g4 g5 g6 (nums_all (by simpa using r2))) .nil)
  · show NestedKey.depth (.tup [.num k.1, .tup (k.2.map .num)]) ≤ 8
    show max 0 (max (NestedKey.depthAll (k.2.map .num) + 1) 0) + 1 ≤ 8
    rw [depth_nums]
    decide
section
variable {P : Program} {w : World} {H : Hp} {h : Heap} {d : Addr} {kvs : List NE}
theorem dN_get (ok : HOk P w H h) (e : H d = some (dN P w d kvs)) : NestD P w h d kvs := (show ObjOk P w H h d (.ext _) from ok d _ e).1
theorem dN_of (ok : HOk P w H h) (e : H d = some (dN P w d kvs)) (en : EntN H kvs) : (d == sysModules) = false ∧ ∃ xs, Paired nEnt kvs xs ∧ h.DictOfH (nestedKind P w) d xs := by
  obtain ⟨hd, xs, pr, o, es, ep, ho, h2, h3, h4, h5⟩ := dN_get ok e
  refine ⟨hd, xs, pr, o, es, ep, ho, h2, h3, h4, fun x hx => ?_, h5⟩
  obtain ⟨i, hi⟩ := List.mem_iff_getElem?.mp hx
  obtain ⟨p, hp, e1, e2, _⟩ := pr_get' pr hi
  have := nkey_of ok (en p (List.mem_of_getElem? hp))
  rw [e1, e2] at this
  exact this
theorem ent_val {kvs : List NE} {xs : List (NestedKey × Addr × Value)} (pr : Paired nEnt kvs xs) (k : NK) : (∀ i, valN kvs k = some i → ∃ a t, atKey xs (nk k) = some (a, .int i t)) ∧ (valN kvs k = none → atKey xs (nk k) = none) := by
  induction pr with
  | nil =>
    refine ⟨fun i h => ?_, fun _ => rfl⟩
    cases h
  | @cons p x ps qs hq t ih =>
    obtain ⟨e1, e2, t', e3⟩ := hq
    by_cases c : p.1 = k
    · have c2 : x.1 = nk k := by rw [← e1, c]
      have v1 : valN (p :: ps) k = some p.2.2 := by simp [valN, c]
      have v2 : atKey (x :: qs) (nk k) = some x.2 := by simp [atKey, c2]
      refine ⟨fun i h => ?_, fun h => by rw [v1] at h; cases h⟩
      rw [v1] at h
      obtain rfl := Option.some.inj h
      exact ⟨x.2.1, t', by rw [v2, ← e3]⟩
    · have c2 : ¬ x.1 = nk k := fun z => c (nk_inj (e1.trans z))
      have v1 : valN (p :: ps) k = valN ps k := by simp [valN, c]
      have v2 : atKey (x :: qs) (nk k) = atKey qs (nk k) := by simp [atKey, c2]
      rw [v1, v2]
      exact ih
theorem nest_empty (hp : Heap) (hb : sysModules < hp.objs.size) : NestD P w (hp.push { cls := .type "dict", data := .dict #[] }) hp.objs.size [] :=
  ⟨beq_eq_false_iff_ne.mpr (Ne.symm (Nat.ne_of_lt hb)), [], .nil, _, #[], 0, Heap.get?_push_size _ rfl, ⟨rfl, rfl, rfl⟩, rfl, rfl, List.nodup_nil⟩
end
/-! ### readings and rules -/
def tNNew (P : Program) (w : World) : TE := fun _ H Q => ∀ p, H p = none → Q (.ref p) (upd H p (dN P w p []))
def tNNotIn (P : Program) (w : World) (ty td : TE) : TE := fun σ H Q => ty σ H fun y H1 => td σ H1 fun x H2 => ∃ a b kvs k, x = .ref a ∧ y = .ref b ∧ H2 a = some (dN P w a kvs) ∧ EntN H2 kvs ∧ KeyN H2 b k ∧ Q (.bl (!(valN kvs k).isSome)) H2
def tNGet (P : Program) (w : World) (td ty : TE) : TE := fun σ H Q => td σ H fun x H1 => ty σ H1 fun y H2 => ∃ a b kvs k i, x = .ref a ∧ y = .ref b ∧ H2 a = some (dN P w a kvs) ∧ EntN H2 kvs ∧ KeyN H2 b k ∧ valN kvs k = some i ∧ Q (.int i) H2
def sNPut (P : Program) (w : World) (td ty tv : TE) : TS := fun D σ H => tv σ H fun v H1 => td σ H1 fun x H2 => ty σ H2 fun y H3 => ∃ a b kvs k i, x = .ref a ∧ y = .ref b ∧ v = .int i ∧ H3 a = some (dN P w a kvs) ∧ EntN H3 kvs ∧ KeyN H3 b k ∧ valN kvs k = none ∧ kvs.length < 100000 ∧
  D.nx σ (upd H3 a (dN P w a (kvs ++ [(k, b, i)])))
def rLenN (P : Program) (w : World) : List V → Hp → VK → Prop := fun xs H Q => match xs with
  | [.ref a] => ∃ kvs, H a = some (dN P w a kvs) ∧ EntN H kvs ∧ kvs.length < 100000 ∧ Q (.int kvs.length) H
  | _ => False
section
variable {X : Cx} {o i value : Expr} {pos pos' : Pos} {td ty tv : TE}
theorem nroom (hu : X.A.units + 64 < cLine) : (nestedKind X.prog X.w).room X.A.in1 := by show X.A.units + 1 + 8 < cLine; omega
theorem pe_nnew : PE X (.Dict [] [] pos) (tNNew X.prog X.w) := ⟨fun pins s σ H Q I h =>
  wpAny_Dict_empty ⟨.ref s.heap.objs.size, _, I.laid (a := s.heap.objs.size) (o := dN X.prog X.w s.heap.objs.size []) (t' := s.toks) (fun _ _ q => Heap.get?_push_of_some _ q) (Nat.le_refl _) (dN_new (nest_empty s.heap I.big)), rfl, h _ (I.hok.fresh (Nat.le_refl _))⟩⟩
theorem pc_nnotin (hu : X.A.units + 64 < cLine) (hi : PE X i ty) (ho : PE X o td) : PC X .NotIn i o (tNNotIn X.prog X.w ty td) := by
  refine ⟨fun pins s σ H Q I h => ?_⟩
  refine thn (hi.run pins s σ H _ I h) fun iv s1 ⟨y, H1, I1, ry, q1⟩ => thn (ho.run pins s1 σ H1 _ I1 q1) fun u s2 ⟨x, H2, I2, rx, a, b, kvs, k, ex, ey, e, en, kk, q2⟩ => ?_
  subst ex ey
  cases (show u = Value.ref a from rx)
  cases (show iv = Value.ref b from ry)
  obtain ⟨hd, xs, pr, dd⟩ := dN_of I2.hok e en
  refine wpAny_notIn_heap (nroom hu) (nkey_of I2.hok kk) hd dd ⟨.bl (!(valN kvs k).isSome), H2, I2.tok _, ?_, q2⟩
  obtain ⟨g1, g2⟩ := ent_val pr k
  cases hv : valN kvs k with
  | none => rw [g2 hv]; rfl
  | some j =>
    obtain ⟨c, t, hat⟩ := g1 j hv
    rw [hat]
    rfl
theorem pe_nget (hu : X.A.units + 64 < cLine) (ho : PE X o td) (hi : PE X i ty) (hs : NoSl i) : PE X (.Subscript o i pos) (tNGet X.prog X.w td ty) := by
  refine ⟨fun pins s σ H Q I h => ?_⟩
  refine subD_of PySem.F.slot_dict_getitem.lookup hs (thn (ho.run pins s σ H _ I h) fun u s1 ⟨x, H1, I1, rx, q1⟩ => thn (hi.run pins s1 σ H1 _ I1 q1) fun iv s2 ⟨y, H2, I2, ry, a, b, kvs, k, j, ex, ey, e, en, kk, hv, q2⟩ => ?_)
  subst ex ey
  cases (show u = Value.ref a from rx)
  cases (show iv = Value.ref b from ry)
  obtain ⟨hd, xs, pr, dd⟩ := dN_of I2.hok e en
  obtain ⟨c, t, hat⟩ := (ent_val pr k).1 j hv
  exact ⟨dd.typeIs, wpAny_getItem_heap (nroom hu) (nkey_of I2.hok kk) dd hat ⟨.int j, H2, I2.tok _, ⟨t, rfl⟩, q2⟩⟩
theorem ps_nput (hu : X.A.units + 64 < cLine) (ho : PE X o td) (hi : PE X i ty) (hv : PE X value tv) (hs : swapsWith value (some (.Subscript o i pos')) pos.line X.env = pure false) :
    PS X (.Assign [.Subscript o i pos'] value pos) (sNPut X.prog X.w td ty tv) := by
  refine ⟨fun pins s σ H D I h => ?_⟩
  refine wpAny_Assign_Subscript (thn (hv.run pins s σ H _ I h) fun r s1 ⟨v, H1, I1, rv, q1⟩ => thn (ho.run pins s1 σ H1 _ I1 q1) fun u s2 ⟨x, H2, I2, rx, q2⟩ => thn (hi.run pins s2 σ H2 _ I2 q2) fun iv s3 ⟨y, H3, I3, ry, a, b, kvs, k, j, ex, ey, ev, e, en, kk, hno, hl, q3⟩ => ?_) hs
  subst ex ey ev
  cases (show u = Value.ref a from rx)
  cases (show iv = Value.ref b from ry)
  obtain ⟨t, rfl⟩ := (show ∃ t, r = Value.int j t from rv)
  obtain ⟨hd, xs, pr, dd⟩ := dN_of I3.hok e en
  have hz : xs.length ≤ sizeLine := by rw [← pr_len pr]; exact szle (m := 100000) (by omega)
  refine wpAny_setItem_heap (hsz := hz) (nroom hu) (nkey_of I3.hok kk) dd fun h' dd' hsb => ?_
  rw [storedH_new ((ent_val pr k).2 hno)] at dd'
  obtain ⟨ob, es, ep, hq, h2, h3, h4, _, h5⟩ := dd'
  exact ⟨σ, _, d_write I3 (by rw [e]; exact True.intro) hsb ⟨ob, hq⟩ (dN_new ⟨hd, _, pr_snoc pr ⟨rfl, rfl, t, rfl⟩, ob, es, ep, hq, h2, h3, h4, h5⟩), q3⟩
theorem call_lenN : CallR X (.builtin "len") (rLenN X.prog X.w) := by
  intro pins s σ H xs us Q I r h
  match xs, h with
  | [.ref a], ⟨kvs, e, en, hl, q⟩ =>
    obtain ⟨u, rfl, rx⟩ := vals1 r
    cases (show u = Value.ref a from rx)
    obtain ⟨hd, ys, pr, dd⟩ := dN_of I.hok e en
    have hl2 : kvs.length = ys.length := pr_len pr
    refine call_len_dictH hd dd (by omega) ?_
    rw [← hl2]
    exact ⟨.int ((kvs.length : Nat) : Int), H, I.tok _, ⟨_, rfl⟩, q⟩
end
end Sg

/-! defs whose promise holds where no repr is under way; repr of data -/
namespace Sg
open PySem PySem.Spec PyProof.Rows L2
def Quiet (A : Around) : Prop := A.guards = some []
/-- repr of data of any depth -/
def rReprD (K : PySem.W.Frag) : List V → Hp → VK → Prop := fun xs H Q => ∃ (x : V) (d : PyData), xs = [x] ∧ Dp K H x d ∧ d.showable = true ∧ d.hasDict = false ∧ d.depth ≤ 50 ∧ d.shown.length ≤ sizeLine ∧ Q (.str d.shown) H
theorem call_reprD {X : Cx} (hq : Quiet X.A) (hu : X.A.units + 64 < cLine) : CallR X (.builtin "repr") (rReprD X.K) := by
  intro pins s σ H xs us Q I r h
  obtain ⟨x, d, rfl, hd, hs, hn, hdp, hsz, q⟩ := h
  obtain ⟨u, rfl, rx⟩ := vals1 r
  have deep : ∀ a, u = .ref a → wpAny (model X.prog X.w) X.A (call (.builtin "repr") [u]) (EP X pins σ Q) X.xe s := by
    intro a e
    subst e
    obtain ⟨as, rd⟩ := Dp.reads I d x _ hd rx
    exact repr_of_reads' rd hs (fun z => by rw [hn] at z; cases z) hq (by omega) (fun _ _ z => z) (fun h' t tk hk => ⟨.str d.shown, H, I.kept hk, ⟨t, rfl⟩, q⟩) hsz
  cases hd with
  | non =>
    cases (show u = Value.none from rx)
    exact PySem.P.repr_of_none ⟨.str _, H, I.tok _, ⟨_, rfl⟩, by simpa [PyData.shown] using q⟩
  | bl b =>
    cases (show u = Value.bool b from rx)
    exact PySem.P.repr_of_bool ⟨.str _, H, I.tok _, ⟨_, rfl⟩, by simpa [PyData.shown] using q⟩
  | int i =>
    obtain ⟨t, rfl⟩ := (show ∃ t, u = Value.int i t from rx)
    exact PySem.P.repr_of_int (by simpa [PyData.showable] using hs) ⟨.str _, H, I.tok _, ⟨_, rfl⟩, by simpa [PyData.shown] using q⟩
  | str z =>
    obtain ⟨t, rfl⟩ := (show ∃ t, u = Value.str z t from rx)
    exact PySem.P.repr_of_str ⟨.str _, H, I.tok _, ⟨_, rfl⟩, by simpa [PyData.shown] using q⟩ (by simpa [PyData.shown] using hsz)
  | lst h1 h2 => exact deep _ rx
  | tup h1 h2 => exact deep _ rx
/-! ### defs under a quiet stack -/
structure FnQ (P : Program) (w : World) (K : PySem.W.Frag) (mg : Str → Option Value) (base : Heap) (C : CXT) (k : Nat) (f : Addr) (fd : FuncData) (ps : List Str) (sp : Sp) : Prop where
  len : ∀ vs H Q E, sp vs H Q E → vs.length = ps.length
  run : ∀ (A : Around) (outer : List Env) (s : Shared) (H : Hp) (args : Args) (us : List Value) (vs : List V) (Q : VK) (E : XK), Quiet A → Room k A → Env0 P w K mg base A outer s H → BindsTo s fd args (ps.zip us) → Vals vs us → sp vs H Q E →
    codeAny (model P w) A (.call (.ref f) args) (CR C outer P w H s Q E) s
structure DkQ (P : Program) (w : World) (K : PySem.W.Frag) (mg : Str → Option Value) (base : Heap) (k : Nat) (x : Str) (ps : List Str) (sp : Sp) : Prop where
  ok : ∃ fd, FnQ P w K mg base (L2.CX P w) k (He.ga K x) fd ps sp ∧ Binds K fd ps []
  kp : PySem.W.keepIn K (.ref (He.ga K x)) = true
  gm : mg x = some (.ref (He.ga K x))
theorem run_quiet {X : Cx} {C : CXT} {k : Nat} {f : Addr} {fd : FuncData} {ps : List Str} {sp : Sp} {W : L2.St → XK} {pins : List (Addr × Obj)} {σ : L2.St} {H : Hp} {s : Shared} {Q : VK} {us : List Value} {vs : List V} (F : FnQ X.prog X.w X.K X.mg X.base C k f fd ps sp) (hq : Quiet X.A) (room : Room k X.A) (hb : Binds X.K fd ps []) (out : PassesAt C X σ (W σ))
    (I : Inv X pins σ H s) (r : Vals vs us) (h : sp vs H Q (W σ)) : wpAny (model X.prog X.w) X.A (call (.ref f) us) (EP X pins σ Q) X.xe s := by
  have same : us.length = ps.length := r.length ▸ F.len _ _ _ _ h
  have bound := hb s us I.kIn (by rw [List.append_nil]; exact same)
  rw [List.append_nil] at bound
  refine wpAny_call (codeAny_mono (F.run X.A X.stack s H ⟨us, []⟩ us vs Q (W σ) hq room I.env0 bound r h) fun res s' ended => ?_)
  match res, ended with
  | .error e, he => exact out pins H s e s' I he
  | .ok (.ret u), he => exact I.after he
  | .ok .next, he => exact False.elim he
  | .ok .brk, he => exact False.elim he
  | .ok .cont, he => exact False.elim he
theorem pe_callQ {X : Cx} {k : Nat} {x : Str} {ps : List Str} {sp : Sp} {W : WX} {e : Expr} {es : List Expr} {t : TA} {p pos : Pos} (D : DkQ X.prog X.w X.K X.mg X.base k x ps sp) (hq : Quiet X.A) (room : Room k X.A) (tk : Takes X W) (ha : PA X (e :: es) t) (hg : Gl X x := by rfl)
    (dbg : (x == ("__debug__" : Str)) = false := by decide) (he : starEach (e :: es) X.env = (false, eval e X.env) :: starEach es X.env := by rfl) (plain : (backTo pos (starEach es X.env)).any (·.1) = false := by rfl) :
    PE X (.Call (.Name x p) (e :: es) [] pos) (tCallR sp W t) := by
  obtain ⟨fd, F, B⟩ := D.ok
  refine ⟨fun pins s σ H Q I goal => wpAny_Call_Name_kw (ld_glob I hg D.gm ?_ dbg)⟩
  refine PySem.W.callWith_K (h₀ := X.base) I.ok.mod.kin D.kp (thn (ha.run pos pins s σ H _ I goal) fun us s1 ⟨vs, H1, I1, r, q⟩ => ⟨I1.kIn, ?_⟩) he plain
  exact run_quiet (W := fun σ cls d H' => W cls d σ H') F hq room B (passAt tk σ) I1 r q
theorem fnQ_of {C : CXT} {P : Program} {w : World} {K : PySem.W.Frag} {mg : Str → Option Value} {base : Heap} {k : Nat} {f : Addr} {x : Str} {st : Stmt} {fd : FuncData} {N ps : List Str} {sp : Sp} (F : FnP K x st f fd) (S : FnScope N ps (defScope st)) (len : ∀ vs H Q E, sp vs H Q E → vs.length = ps.length)
    (body : ∀ (cdv : Value) (A : Around) (outer : List Env) (s : Shared) (H : Hp) (vs : List V) (Q : VK) (E : XK), Quiet A → Room k (A.deeper (envOfC x (defScope st) s.heap.objs.size f cdv)) → sp vs H Q E →
      ∃ t, PSs (cxOf C P w K mg base N x (defScope st) f cdv A outer s H E) (defBody st) t ∧ t { nx := fun _ H' => Q .non H', rt := Q } (L2.start N vs) H) : FnQ P w K mg base C (k + 1) f fd ps sp := by
  obtain ⟨oc, od, dV, kV, doc, pm, an, cdv, ct, osl, rfl, lk, hcd, _, _⟩ := F.ex
  refine ⟨len, fun A outer s H args us vs Q E hq room e0 bnd r hsp => ?_⟩
  have KX : K.In s.heap := e0.mod.kin.keeps fun b o e => (e0.bs b o e).1
  have nolim : s.heap.NoLimit := e0.mod.nolimit.keeps fun b o e => (e0.bs b o e).1
  refine codeAny_call_function room.depth (KX _ _ lk) rfl S.co S.gen rfl (PySem.W.codeRec_of KX hcd) (bnd _ _ _ _ ?_)
  refine wpAny_newFunctionEnv_cells S.kind (fun ⟨n, v⟩ hy => (S.par n (List.of_mem_zip hy).1).elim .inl fun q => .inr ⟨q, PySem.W.cellsFrom_some _ _ _ (.inl q)⟩) fun env he s1 new => ?_
  subst he
  refine ⟨nolim.keeps new.toInCall.keep, codeAny_func ?_⟩
  obtain ⟨t, walk, hgo⟩ := body cdv A outer s H vs Q E hq (room.deeper _) hsp
  have I : Inv (cxOf C P w K mg base N x (defScope st) f cdv A outer s H E) [] (L2.start N vs) H s1 := inv_start S room.hd e0 (len _ _ _ _ hsp) r new
  have fin : ∀ {σ' : L2.St} {H' : Hp} {v : V} {u : Value} {s' : Shared}, Inv (cxOf C P w K mg base N x (defScope st) f cdv A outer s H E) [] σ' H' s' → RelV v u → Q v H' → CE outer P w H s Q u s' :=
    fun {σ' H' v u s'} J rv q => ⟨v, H', J.os, J.bare, J.base, J.hok, rv, q⟩
  refine wpAny_mono (walk.run [] s1 (L2.start N vs) H _ I hgo) (fun fl s' ended => ?_) fun _ _ z => z
  match fl, ended with
  | .ret u, ⟨v, σ', H', J, rv, q⟩ => exact fin J rv q
  | .next, ⟨σ', H', J, q⟩ => exact fin (v := V.non) (u := Value.none) J rfl q
  | .brk, ⟨_, _, _, q⟩ => exact False.elim q
  | .cont, ⟨_, _, _, q⟩ => exact False.elim q
end Sg

namespace Sg
open PySem PySem.Spec PyProof.Rows L2
/-! lookers by what they take; the least looker, in plain Lean -/
def Lang : Type := List Nat → Int
noncomputable instance : DecidableEq Lang := fun a b => Classical.propDecidable (a = b)
def lang (rs : List LRow) (p : Int) : Lang := fun w => endAt rs (w.foldl (fun p x => nxt rs p x) p)
def der (L : Lang) (x : Nat) : Lang := fun w => L (x :: w)
theorem der_lang (rs : List LRow) (p : Int) (x : Nat) : lang rs (nxt rs p x) = der (lang rs p) x := rfl
theorem nxt_far {n : Nat} {rs : List LRow} (ok : RowsOk n rs) {p : Int} (h : InSt rs p) {x : Nat} (hx : ¬ x < n) : nxt rs p x = 0 := by
  unfold nxt
  have := ok.wid _ (rowOf_mem h)
  rw [List.getD_eq_getElem?_getD, List.getElem?_eq_none (by omega)]
  rfl
theorem once_nodup {κ : Type} [DecidableEq κ] (l : List κ) : (once l).Nodup := by
  have key : ∀ (r acc : List κ), acc.Nodup → (r.foldl addOne acc).Nodup := by
    intro r
    induction r with
    | nil => intro acc h; exact h
    | cons a r ih =>
      intro acc h
      refine ih _ ?_
      unfold addOne
      by_cases c : a ∈ acc
      · rw [if_pos c]; exact h
      · rw [if_neg c, List.nodup_append]
        exact ⟨h, by simp, fun x hx y hy e => c (by rw [List.mem_singleton.mp hy] at e; exact e ▸ hx)⟩
  exact key l [] List.nodup_nil
theorem nodup_of_once {κ : Type} [DecidableEq κ] {l : List κ} (h : l.length ≤ (once l).length) : l.Nodup := by
  have key : ∀ (r acc : List κ), acc.Nodup → acc.length + r.length ≤ (r.foldl addOne acc).length → (acc ++ r).Nodup := by
    intro r
    induction r with
    | nil => intro acc h _; simpa using h
    | cons a r ih =>
      intro acc hn hl
      have hb : ∀ (r acc : List κ), (r.foldl addOne acc).length ≤ acc.length + r.length := by
        intro r
        induction r with
        | nil => intro acc; exact Nat.le_refl _
        | cons b r ih2 =>
          intro acc
          have h1 := ih2 (addOne acc b)
          have h2 := addOne_len (acc := acc) (v := b)
          show (r.foldl addOne (addOne acc b)).length ≤ acc.length + (r.length + 1)
          omega
      have hl2 : acc.length + (r.length + 1) ≤ (r.foldl addOne (addOne acc a)).length := hl
      have h1 := hb r (addOne acc a)
      by_cases c : a ∈ acc
      · have e : addOne acc a = acc := if_pos c
        rw [e] at hl2 h1
        omega
      · have e : addOne acc a = acc ++ [a] := if_neg c
        rw [e] at hl2 h1
        have := ih (acc ++ [a]) (by
          rw [List.nodup_append]
          exact ⟨hn, by simp, fun x hx y hy e => c (by rw [List.mem_singleton.mp hy] at e; exact e ▸ hx)⟩) (by rw [List.length_append]; simp at hl2 ⊢; omega)
        simpa using this
  have := key l [] List.nodup_nil (by simpa [once] using h)
  simpa using this
/-- two tellings of the same things, the second one finer -/
theorem finer {α β : Type} [DecidableEq α] [DecidableEq β] {N : Nat} {f : Nat → α} {g : Nat → β} (hg : ∀ p q, p < N → q < N → g p = g q → f p = f q) :
    (once ((List.range N).map f)).length ≤ (once ((List.range N).map g)).length ∧
      ((once ((List.range N).map g)).length ≤ (once ((List.range N).map f)).length → ∀ p q, p < N → q < N → f p = f q → g p = g q) := by
  let φ : β → α := fun v => f (((List.range N).map g).idxOf v)
  have hφ : ∀ p, p < N → φ (g p) = f p := by
    intro p hp
    have hm : g p ∈ (List.range N).map g := List.mem_map.mpr ⟨p, List.mem_range.mpr hp, rfl⟩
    have hi := List.idxOf_lt_length_of_mem hm
    have he := List.getElem_idxOf hi
    rw [List.length_map, List.length_range] at hi
    refine hg _ _ hi hp ?_
    rw [List.getElem_map, List.getElem_range] at he
    exact he
  have sub : ∀ a ∈ once ((List.range N).map f), a ∈ (once ((List.range N).map g)).map φ := by
    intro a ha
    rw [once_mem] at ha
    obtain ⟨p, hp, rfl⟩ := List.mem_map.mp ha
    have hp2 := List.mem_range.mp hp
    exact List.mem_map.mpr ⟨g p, (once_mem _ _).mpr (List.mem_map.mpr ⟨p, hp, rfl⟩), hφ p hp2⟩
  refine ⟨by have := nodup_few (once_nodup _) sub; rwa [List.length_map] at this, fun hle p q hp hq e => ?_⟩
  have hn : ((once ((List.range N).map g)).map φ).Nodup := by
    refine nodup_of_once ?_
    have := nodup_few (once_nodup ((List.range N).map f)) (u := once ((once ((List.range N).map g)).map φ)) fun a ha => (once_mem _ _).mpr (sub a ha)
    rw [List.length_map]
    omega
  have inj : ∀ {l : List β}, (l.map φ).Nodup → ∀ x ∈ l, ∀ y ∈ l, φ x = φ y → x = y := by
    intro l
    induction l with
    | nil => intro _ x hx; exact nomatch hx
    | cons c r ih =>
      intro hn x hx y hy e
      obtain ⟨h1, h2⟩ := List.nodup_cons.mp hn
      rcases List.mem_cons.mp hx with ex | hx2
      · rcases List.mem_cons.mp hy with ey | hy2
        · rw [ex, ey]
        · exact absurd (List.mem_map.mpr ⟨y, hy2, by rw [← e, ex]⟩) h1
      · rcases List.mem_cons.mp hy with ey | hy2
        · exact absurd (List.mem_map.mpr ⟨x, hx2, by rw [e, ey]⟩) h1
        · exact ih h2 x hx2 y hy2 e
  have mem : ∀ p, p < N → g p ∈ once ((List.range N).map g) := fun p hp => (once_mem _ _).mpr (List.mem_map.mpr ⟨p, List.mem_range.mpr hp, rfl⟩)
  exact inj hn _ (mem p hp) _ (mem q hq) (by rw [hφ p hp, hφ q hq]; exact e)
/-! ### one round -/
def mk (ms : List Int) (p : Int) : Int := ms.getD p.toNat 0
def keyAt (rs : List LRow) (ms : List Int) (p : Nat) : NK := (mk ms p, (rowOf rs p).2.map (mk ms))
def keysTo (rs : List LRow) (ms : List Int) (i : Nat) : List NK := (List.range i).map (keyAt rs ms)
def markTo (rs : List LRow) (ms : List Int) (i : Nat) : List Int := (keysTo rs ms i).map fun k => (((once (keysTo rs ms i)).idxOf k : Nat) : Int)
/-- what holds of the marks of a round -/
structure MarkOk (rs : List LRow) (ms : List Int) : Prop where
  len : ms.length = rs.length
  fin : ∀ p q, InSt rs p → InSt rs q → mk ms p = mk ms q → endAt rs p = endAt rs q
  all : ∀ p q, InSt rs p → InSt rs q → lang rs p = lang rs q → mk ms p = mk ms q
def Kern (rs : List LRow) (ms : List Int) : Prop := ∀ p q, InSt rs p → InSt rs q → (mk ms p = mk ms q ↔ lang rs p = lang rs q)
theorem in_nat {rs : List LRow} {p : Int} (h : InSt rs p) : ((p.toNat : Nat) : Int) = p ∧ p.toNat < rs.length := ⟨by have := h.1; omega, by have := h.1; have := h.2; omega⟩
theorem idx_inj {κ : Type} [BEq κ] [LawfulBEq κ] {l : List κ} {a b : κ} (ha : a ∈ l) (hb : b ∈ l) (h : l.idxOf a = l.idxOf b) : a = b := by
  have h1 := List.getElem_idxOf (List.idxOf_lt_length_of_mem ha)
  have h2 := List.getElem_idxOf (List.idxOf_lt_length_of_mem hb)
  rw [← h1, ← h2]
  congr 1
theorem mk_mark {rs : List LRow} {ms : List Int} {p : Int} (h : InSt rs p) : mk (markTo rs ms rs.length) p = (((once (keysTo rs ms rs.length)).idxOf (keyAt rs ms p.toNat) : Nat) : Int) := by
  obtain ⟨h1, h2⟩ := in_nat h
  unfold mk markTo keysTo
  rw [List.getD_eq_getElem?_getD, List.getElem?_map, List.getElem?_map, List.getElem?_range h2]
  rfl
theorem key_mem {rs : List LRow} {ms : List Int} {p : Nat} (h : p < rs.length) : keyAt rs ms p ∈ once (keysTo rs ms rs.length) := (once_mem _ _).mpr (List.mem_map.mpr ⟨p, List.mem_range.mpr h, rfl⟩)
theorem mark_key {rs : List LRow} {ms : List Int} {p q : Int} (hp : InSt rs p) (hq : InSt rs q) : mk (markTo rs ms rs.length) p = mk (markTo rs ms rs.length) q ↔ keyAt rs ms p.toNat = keyAt rs ms q.toNat := by
  rw [mk_mark hp, mk_mark hq]
  constructor
  · intro h
    exact idx_inj (key_mem (in_nat hp).2) (key_mem (in_nat hq).2) (by omega)
  · intro h
    rw [h]
theorem key_mk {rs : List LRow} {ms : List Int} {p q : Int} (hp : InSt rs p) (hq : InSt rs q) (h : keyAt rs ms p.toNat = keyAt rs ms q.toNat) : mk ms p = mk ms q ∧ (rowOf rs p).2.map (mk ms) = (rowOf rs q).2.map (mk ms) := by
  have h1 := congrArg Prod.fst h
  have h2 := congrArg Prod.snd h
  unfold keyAt at h1 h2
  rw [(in_nat hp).1, (in_nat hq).1] at h1 h2
  exact ⟨h1, h2⟩
theorem lang_nxt {rs : List LRow} {p q : Int} (h : lang rs p = lang rs q) (x : Nat) : lang rs (nxt rs p x) = lang rs (nxt rs q x) := by rw [der_lang, der_lang, h]
theorem row_ext {n : Nat} {rs : List LRow} (ok : RowsOk n rs) {p q : Int} (hp : InSt rs p) (hq : InSt rs q) {f : Int → Int} : (rowOf rs p).2.map f = (rowOf rs q).2.map f ↔ ∀ x, x < n → f (nxt rs p x) = f (nxt rs q x) := by
  constructor
  · intro h x hx
    have := congrArg (fun l => l[x]?) h
    simp only [List.getElem?_map, nxt_get ok hp hx, nxt_get ok hq hx, Option.map_some] at this
    exact Option.some.inj this
  · intro h
    apply List.ext_getElem?
    intro x
    rw [List.getElem?_map, List.getElem?_map]
    by_cases hx : x < n
    · rw [nxt_get ok hp hx, nxt_get ok hq hx, Option.map_some, Option.map_some, h x hx]
    · have h1 := ok.wid _ (rowOf_mem hp)
      have h2 := ok.wid _ (rowOf_mem hq)
      rw [List.getElem?_eq_none (by omega), List.getElem?_eq_none (by omega)]
theorem mark_round {n : Nat} {rs : List LRow} (ok : RowsOk n rs) {ms : List Int} (h : MarkOk rs ms) : MarkOk rs (markTo rs ms rs.length) := by
  refine ⟨by simp [markTo, keysTo], fun p q hp hq e => ?_, fun p q hp hq e => ?_⟩
  · exact h.fin p q hp hq (key_mk hp hq ((mark_key hp hq).mp e)).1
  · refine (mark_key hp hq).mpr ?_
    unfold keyAt
    rw [(in_nat hp).1, (in_nat hq).1, h.all p q hp hq e]
    congr 1
    exact (row_ext ok hp hq).mpr fun x hx => h.all _ _ (nxt_in ok hp hx) (nxt_in ok hq hx) (lang_nxt e x)
theorem mk_list {ms : List Int} {N : Nat} (h : ms.length = N) : (List.range N).map (fun (p : Nat) => mk ms (p : Int)) = ms := by
  apply List.ext_getElem?
  intro i
  rw [List.getElem?_map]
  by_cases hi : i < N
  · rw [List.getElem?_range hi, List.getElem?_eq_getElem (by omega), Option.map_some]
    unfold mk
    rw [Int.toNat_natCast, List.getD_eq_getElem?_getD, List.getElem?_eq_getElem (by omega)]
    rfl
  · rw [List.getElem?_eq_none (by simpa using hi), List.getElem?_eq_none (by omega)]
    rfl
theorem mark_more {rs : List LRow} {ms : List Int} (hl : ms.length = rs.length) : (once ms).length ≤ (once (keysTo rs ms rs.length)).length := by
  have h := (finer (N := rs.length) (f := fun p : Nat => mk ms (p : Int)) (g := keyAt rs ms) fun p q _ _ e => congrArg Prod.fst e).1
  rwa [mk_list hl] at h
theorem mark_same {n : Nat} {rs : List LRow} (ok : RowsOk n rs) {ms : List Int} (h : MarkOk rs ms) (hc : (once (keysTo rs ms rs.length)).length = (once ms).length) : Kern rs (markTo rs ms rs.length) := by
  have h2 := (finer (N := rs.length) (f := fun p : Nat => mk ms (p : Int)) (g := keyAt rs ms) fun p q _ _ e => congrArg Prod.fst e).2
  rw [mk_list h.len] at h2
  have h3 := h2 (Nat.le_of_eq hc)
  have st : ∀ p q, InSt rs p → InSt rs q → mk ms p = mk ms q → ∀ x, mk ms (nxt rs p x) = mk ms (nxt rs q x) ∧ InSt rs (nxt rs p x) ∧ InSt rs (nxt rs q x) := by
    intro p q hp hq e x
    by_cases hx : x < n
    · refine ⟨?_, nxt_in ok hp hx, nxt_in ok hq hx⟩
      have := h3 p.toNat q.toNat (in_nat hp).2 (in_nat hq).2 (by show mk ms ((p.toNat : Nat) : Int) = mk ms ((q.toNat : Nat) : Int); rw [(in_nat hp).1, (in_nat hq).1]; exact e)
      exact (row_ext ok hp hq).mp (key_mk hp hq this).2 x hx
    · rw [nxt_far ok hp hx, nxt_far ok hq hx]
      exact ⟨rfl, in_zero ok, in_zero ok⟩
  have la : ∀ w p q, InSt rs p → InSt rs q → mk ms p = mk ms q → lang rs p w = lang rs q w := by
    intro w
    induction w with
    | nil => intro p q hp hq e; exact h.fin p q hp hq e
    | cons x w ih =>
      intro p q hp hq e
      obtain ⟨a, b, c⟩ := st p q hp hq e x
      exact ih _ _ b c a
  have hm := mark_round ok h
  intro p q hp hq
  refine ⟨fun e => ?_, fun e => hm.all p q hp hq e⟩
  exact funext fun w => la w p q hp hq (key_mk hp hq ((mark_key hp hq).mp e)).1
theorem mark_start {rs : List LRow} : MarkOk rs (rs.map (·.1)) := by
  have e : ∀ p, InSt rs p → mk (rs.map (·.1)) p = endAt rs p := by
    intro p hp
    unfold mk endAt rowOf
    rw [List.getD_eq_getElem?_getD, List.getElem?_map, List.getD_eq_getElem?_getD, List.getElem?_eq_getElem (in_nat hp).2]
    rfl
  refine ⟨by simp, fun p q hp hq h => ?_, fun p q hp hq h => ?_⟩
  · rw [e p hp, e q hq] at h; exact h
  · rw [e p hp, e q hq]
    exact congrFun h []
end Sg

namespace Sg
open PySem PySem.Spec PyProof.Rows L2
/-- a list told over a tuple, each thing by reading alone -/
theorem lc_read {K : PySem.W.Frag} {a D : Addr} {xs ys : List V} {j : Nat} {te : TE} {vs : List Nat} {σ : L2.St} {H1 : Hp} {Qd : Hp → Prop} (hD : H1 D = none) (hA : SqT K H1 a xs) (hl : ys.length = xs.length) (hz : xs.length ≤ 100000)
    (hw : ∀ x, wipe ((wipe σ vs).set j (some x)) vs = wipe σ vs)
    (hs : ∀ i x y, xs[i]? = some x → ys[i]? = some y → ∀ R : V → Hp → Prop, R y (upd H1 D (.lst (ys.take i))) → te ((wipe σ vs).set j (some x)) (upd H1 D (.lst (ys.take i))) R)
    (hd : Qd (upd H1 D (.lst ys))) :
    ∃ W : Nat → Nat → Hp → Prop, (∃ m, W 0 m (upd H1 D (.lst []))) ∧ ∀ i m H, W i m H →
      ((Itt K a).stop i H ∧ Qd H) ∨ ((Itt K a).go i H ∧ ∃ Nx : Hp → Prop, (∀ H', Nx H' → ∃ m', m' < m ∧ W (i + 1) m' H') ∧ ∀ x H', (Itt K a).yld i H x H' → gName j x (wipe σ vs) H' fun σ2 H2 => wipe σ2 vs = wipe σ vs ∧ tYes σ2 H2 fun b H3 =>
        if b = true then te σ2 H3 fun y H4 => ∃ acc, H4 D = some (.lst acc) ∧ acc.length < sizeLine ∧ Nx (upd H4 D (.lst (acc ++ [y]))) else Nx H3) := by
  have hA2 : ∀ i, SqT K (upd H1 D (.lst (ys.take i))) a xs := fun i => Same.sqT (same_upd hD) hA
  refine lc_gen (n := xs.length) (fun i H => H = upd H1 D (.lst (ys.take i))) rfl (fun i H hi e => ?_) (fun H e => ?_) (fun i x H H' hi e y => ?_) (fun H e => ?_)
  · subst e
    obtain ⟨x, hx⟩ : ∃ x, xs[i]? = some x := ⟨_, List.getElem?_eq_getElem hi⟩
    exact ⟨xs, x, hA2 i, hx⟩
  · subst e
    exact ⟨xs, hA2 _, Nat.le_refl _⟩
  · subst e
    obtain ⟨rfl, hx⟩ := y
    have hx2 := hx xs (hA2 i)
    obtain ⟨v, hv⟩ : ∃ v, ys[i]? = some v := ⟨_, List.getElem?_eq_getElem (by omega)⟩
    refine ⟨hw x, ?_⟩
    refine hs i x v hx2 hv _ ⟨_, upd_same, ?_, ?_⟩
    · rw [List.length_take]
      exact szlt (m := 100000) (by omega)
    · rw [upd_upd, List.take_add_one, hv]
      rfl
  · subst e
    rw [← hl, List.take_length]
    exact hd
theorem getD_get {ms : List Int} {p : Int} {N : Nat} (hl : ms.length = N) (h0 : 0 ≤ p) (h1 : p < (N : Int)) : atI (ms.map V.int) p = some (.int (mk ms p)) := by
  have e : p = ((p.toNat : Nat) : Int) := by omega
  have hlt : p.toNat < ms.length := by omega
  rw [e]
  refine atI_nat ?_
  rw [List.getElem?_map, List.getElem?_eq_getElem hlt]
  unfold mk
  rw [Int.toNat_natCast, List.getD_eq_getElem?_getD, List.getElem?_eq_getElem hlt]
  rfl
/-! ### numbers given as keys are met -/
theorem once_to_succ (rs : List LRow) (ms : List Int) (i : Nat) : once (keysTo rs ms (i + 1)) = addOne (once (keysTo rs ms i)) (keyAt rs ms i) := by
  unfold keysTo
  rw [List.range_succ, List.map_append, List.map_singleton, once_snoc]
theorem keysTo_succ (rs : List LRow) (ms : List Int) (i : Nat) : keysTo rs ms (i + 1) = keysTo rs ms i ++ [keyAt rs ms i] := by
  unfold keysTo
  rw [List.range_succ, List.map_append, List.map_singleton]
theorem idx_add {κ : Type} [DecidableEq κ] [BEq κ] [LawfulBEq κ] {l : List κ} {a b : κ} (h : a ∈ l) : (addOne l b).idxOf a = l.idxOf a := by
  unfold addOne
  by_cases c : b ∈ l
  · rw [if_pos c]
  · rw [if_neg c, List.idxOf_append, if_pos h]
theorem markTo_succ (rs : List LRow) (ms : List Int) (i : Nat) : markTo rs ms (i + 1) = markTo rs ms i ++ [(((once (keysTo rs ms (i + 1))).idxOf (keyAt rs ms i) : Nat) : Int)] := by
  unfold markTo
  rw [once_to_succ]
  conv => lhs; rw [keysTo_succ, List.map_append]
  congr 1
  refine List.map_congr_left fun k hk => ?_
  rw [idx_add ((once_mem _ _).mpr hk)]
theorem valN_idx : ∀ {kvs : List NE} {ks : List NK} {s : Nat}, kvs.map (·.1) = ks → (∀ j e, kvs[j]? = some e → e.2.2 = ((s + j : Nat) : Int)) → ∀ k, valN kvs k = if k ∈ ks then some ((s + ks.idxOf k : Nat) : Int) else none
  | [], _, s, rfl, _, k => by simp [valN]
  | e :: kvs, _, s, rfl, hp, k => by
    have ih := valN_idx (kvs := kvs) (ks := kvs.map (·.1)) (s := s + 1) rfl (fun j e' he => by
      have := hp (j + 1) e' he
      rw [this]
      omega) k
    by_cases c : e.1 = k
    · have h0 := hp 0 e rfl
      have v1 : valN (e :: kvs) k = some e.2.2 := by simp [valN, c]
      rw [v1, h0, List.map_cons, if_pos (by rw [c]; exact List.mem_cons_self), List.idxOf_cons, beq_iff_eq.mpr c]
      rfl
    · have v1 : valN (e :: kvs) k = valN kvs k := by simp [valN, c]
      rw [v1, ih, List.map_cons]
      by_cases hm : k ∈ kvs.map (·.1)
      · rw [if_pos hm, if_pos (List.mem_cons_of_mem _ hm), List.idxOf_cons, beq_eq_false_iff_ne.mpr c]
        show some ((s + 1 + _ : Nat) : Int) = some ((s + (_ + 1) : Nat) : Int)
        congr 2
        omega
      · rw [if_neg hm, if_neg (fun h => (List.mem_cons.mp h).elim (fun e2 => c e2.symm) hm)]
/-! ### the heap of one round -/
structure CoH (P : Program) (w : World) (H : Hp) (l pd fr : Addr) (rs : List LRow) (ms : List Int) (i : Nat) (H2 : Hp) (kvs : List NE) : Prop where
  same : Same H H2
  lm : H2 l = some (.lst (ms.map V.int))
  dict : H2 pd = some (dN P w pd kvs)
  ent : EntN H2 kvs
  keys : kvs.map (·.1) = once (keysTo rs ms i)
  pos : ∀ (j : Nat) e, kvs[j]? = some e → e.2.2 = (j : Int)
  fresh : H2 fr = some (.lst ((markTo rs ms i).map V.int))
section
variable {P : Program} {w : World} {H H2 : Hp} {l pd fr T : Addr} {rs : List LRow} {ms : List Int} {i : Nat} {kvs : List NE} {o : HO}
theorem CoH.other (c : CoH P w H l pd fr rs ms i H2 kvs) (hT : H2 T = none) : CoH P w H l pd fr rs ms i (upd H2 T o) kvs := by
  have s : Same H2 (upd H2 T o) := same_upd hT
  exact ⟨Same.trans c.same s, s _ _ c.lm, s _ _ c.dict, c.ent.mono fun b xs h => s _ _ h, c.keys, c.pos, s _ _ c.fresh⟩
theorem CoH.len (c : CoH P w H l pd fr rs ms i H2 kvs) : kvs.length = (once (keysTo rs ms i)).length := by rw [← c.keys, List.length_map]
theorem CoH.val (c : CoH P w H l pd fr rs ms i H2 kvs) (k : NK) : valN kvs k = if k ∈ once (keysTo rs ms i) then some (((once (keysTo rs ms i)).idxOf k : Nat) : Int) else none := by
  have h := valN_idx (s := 0) c.keys (fun j e he => by rw [c.pos j e he, Nat.zero_add]) k
  rw [Nat.zero_add] at h
  exact h
/-- the turn's end: the key is there, its number goes to the list -/
theorem CoH.step (c : CoH P w H l pd fr rs ms i H2 kvs) (n0 : H l = none) (n1 : H pd = none) (n2 : H fr = none) (e1 : l ≠ pd) (e2 : l ≠ fr) (e3 : pd ≠ fr) {b : Addr} (hb : KeyN H2 b (keyAt rs ms i)) (hno : keyAt rs ms i ∉ once (keysTo rs ms i)) :
    CoH P w H l pd fr rs ms (i + 1) (upd (upd H2 pd (dN P w pd (kvs ++ [(keyAt rs ms i, b, (kvs.length : Int))]))) fr (.lst ((markTo rs ms i).map V.int ++ [.int (kvs.length : Int)]))) (kvs ++ [(keyAt rs ms i, b, (kvs.length : Int))]) := by
  have hkeys : (kvs ++ [(keyAt rs ms i, b, (kvs.length : Int))]).map (·.1) = once (keysTo rs ms (i + 1)) := by
    rw [List.map_append, c.keys, once_to_succ]
    unfold addOne
    rw [if_neg hno]
    rfl
  have tu : ∀ a xs, H2 a = some (.tup xs) → (upd (upd H2 pd (dN P w pd (kvs ++ [(keyAt rs ms i, b, (kvs.length : Int))]))) fr (.lst ((markTo rs ms i).map V.int ++ [.int (kvs.length : Int)]))) a = some (.tup xs) := fun a xs h => by
    rw [upd_ne (ne_of h c.fresh (fun z => nomatch z)), upd_ne (ne_of h c.dict (fun z => nomatch z))]
    exact h
  refine ⟨fun a x ha => ?_, by rw [upd_ne e2, upd_ne e1]; exact c.lm, by rw [upd_ne e3, upd_same], fun e he => ?_, hkeys, fun j e he => ?_, ?_⟩
  · rw [upd_ne (ne_of_none ha n2), upd_ne (ne_of_none ha n1)]
    exact c.same a x ha
  · rcases List.mem_append.mp he with he | he
    · exact (c.ent e he).mono tu
    · obtain rfl := List.mem_singleton.mp he
      exact hb.mono tu
  · by_cases hj : j < kvs.length
    · rw [List.getElem?_append_left hj] at he
      exact c.pos j e he
    · rw [List.getElem?_append_right (by omega)] at he
      obtain ⟨h0, h1⟩ := List.getElem?_eq_some_iff.mp he
      have : j - kvs.length = 0 := by simpa using h0
      have e4 : j = kvs.length := by omega
      subst e4
      simp at he
      rw [← he]
  · rw [upd_same, markTo_succ, List.map_append, List.map_singleton]
    congr 4
    rw [c.len, once_to_succ]
    unfold addOne
    rw [if_neg hno, List.idxOf_append, if_neg hno]
    simp
theorem CoH.stay (c : CoH P w H l pd fr rs ms i H2 kvs) (n0 : H l = none) (n2 : H fr = none) (e2 : l ≠ fr) (e3 : pd ≠ fr) (hin : keyAt rs ms i ∈ once (keysTo rs ms i)) :
    CoH P w H l pd fr rs ms (i + 1) (upd H2 fr (.lst ((markTo rs ms i).map V.int ++ [.int (((once (keysTo rs ms i)).idxOf (keyAt rs ms i) : Nat) : Int)]))) kvs := by
  have ho : once (keysTo rs ms (i + 1)) = once (keysTo rs ms i) := by
    rw [once_to_succ]
    unfold addOne
    rw [if_pos hin]
  refine ⟨fun a x ha => ?_, by rw [upd_ne e2]; exact c.lm, by rw [upd_ne e3]; exact c.dict, c.ent.mono fun a xs h => ?_, by rw [ho]; exact c.keys, c.pos, ?_⟩
  · rw [upd_ne (ne_of_none ha n2)]
    exact c.same a x ha
  · rw [upd_ne (ne_of h c.fresh (fun z => nomatch z))]
    exact h
  · rw [upd_same, markTo_succ, List.map_append, List.map_singleton, ho]
end
end Sg
namespace Sg
open PySem PySem.Spec PyProof.Rows L2
theorem CoH.start {P : Program} {w : World} {H H1 : Hp} {l pd fr : Addr} {rs : List LRow} {ms : List Int} (s : Same H H1) (hl : H1 l = some (.lst (ms.map V.int))) (hp : H1 pd = none) (hf : (upd H1 pd (dN P w pd [])) fr = none) :
    CoH P w H l pd fr rs ms 0 (upd (upd H1 pd (dN P w pd [])) fr (.lst [])) [] := by
  have s1 : Same H1 (upd H1 pd (dN P w pd [])) := same_upd hp
  have s2 : Same (upd H1 pd (dN P w pd [])) (upd (upd H1 pd (dN P w pd [])) fr (.lst [])) := same_upd hf
  exact ⟨Same.trans s (Same.trans s1 s2), s2 _ _ (s1 _ _ hl), s2 _ _ upd_same, fun e he => (nomatch he), rfl, fun j e he => (by simp at he), upd_same⟩
end Sg
namespace Sg
open PySem PySem.Spec PyProof.Rows L2
theorem CoH.mid {P : Program} {w : World} {H H2 : Hp} {l pd fr : Addr} {rs : List LRow} {ms : List Int} {i : Nat} {kvs : List NE} (c : CoH P w H l pd fr rs ms i H2 kvs) (e3 : pd ≠ fr) {b : Addr} (hb : KeyN H2 b (keyAt rs ms i)) (hno : keyAt rs ms i ∉ once (keysTo rs ms i)) :
    (upd H2 pd (dN P w pd (kvs ++ [(keyAt rs ms i, b, (kvs.length : Int))]))) fr = some (.lst ((markTo rs ms i).map V.int)) ∧ EntN (upd H2 pd (dN P w pd (kvs ++ [(keyAt rs ms i, b, (kvs.length : Int))]))) (kvs ++ [(keyAt rs ms i, b, (kvs.length : Int))]) ∧
      KeyN (upd H2 pd (dN P w pd (kvs ++ [(keyAt rs ms i, b, (kvs.length : Int))]))) b (keyAt rs ms i) ∧ valN (kvs ++ [(keyAt rs ms i, b, (kvs.length : Int))]) (keyAt rs ms i) = some (kvs.length : Int) := by
  have tu : ∀ a xs, H2 a = some (.tup xs) → (upd H2 pd (dN P w pd (kvs ++ [(keyAt rs ms i, b, (kvs.length : Int))]))) a = some (.tup xs) := fun a xs h => by
    rw [upd_ne (ne_of h c.dict (fun z => nomatch z))]
    exact h
  refine ⟨by rw [upd_ne (Ne.symm e3)]; exact c.fresh, fun e he => ?_, hb.mono tu, ?_⟩
  · rcases List.mem_append.mp he with he | he
    · exact (c.ent e he).mono tu
    · obtain rfl := List.mem_singleton.mp he
      exact hb.mono tu
  · have h0 := c.val (keyAt rs ms i)
    rw [if_neg hno] at h0
    unfold valN at h0 ⊢
    rw [List.find?_append]
    cases hf : kvs.find? fun e => decide (e.1 = keyAt rs ms i) with
    | none => simp
    | some e => rw [hf] at h0; cases h0
theorem keys_few (rs : List LRow) (ms : List Int) (i : Nat) : (once (keysTo rs ms i)).length ≤ i := by
  have := once_len (keysTo rs ms i)
  unfold keysTo at this
  rw [List.length_map, List.length_range] at this
  exact this
theorem markTo_len (rs : List LRow) (ms : List Int) (i : Nat) : (markTo rs ms i).length = i := by simp [markTo, keysTo]
theorem once_map_idx {rs : List LRow} {ms : List Int} : (once (markTo rs ms rs.length)).length = (once (keysTo rs ms rs.length)).length := by
  have e1 : markTo rs ms rs.length = (List.range rs.length).map fun p => (((once (keysTo rs ms rs.length)).idxOf (keyAt rs ms p) : Nat) : Int) := by
    unfold markTo keysTo
    rw [List.map_map]
    rfl
  have h1 := (finer (N := rs.length) (f := fun p => (((once (keysTo rs ms rs.length)).idxOf (keyAt rs ms p) : Nat) : Int)) (g := keyAt rs ms) fun p q _ _ e => by rw [e]).1
  have h2 := (finer (N := rs.length) (g := fun p => (((once (keysTo rs ms rs.length)).idxOf (keyAt rs ms p) : Nat) : Int)) (f := keyAt rs ms) fun p q hp hq e => idx_inj (key_mem hp) (key_mem hq) (by omega)).1
  rw [← e1] at h1 h2
  exact Nat.le_antisymm h1 h2
end Sg

namespace Sg
open PySem PySem.Spec PyProof.Rows L2
/-! the least looker by what is taken from each state -/
noncomputable def clo (n : Nat) : Nat → Nat → Met Lang → Met Lang
  | 0, _, acc => acc
  | f + 1, i, acc => match acc[i]? with
    | none => acc
    | some (a, p) => clo n f (i + 1) (expandTo der acc a p n)
noncomputable def rowIn (n : Nat) (acc : Met Lang) (e : Lang × List Nat) : LRow := (e.1 [], (List.range n).map fun x => (((acc.map Prod.fst).idxOf (der e.1 x) : Nat) : Int))
noncomputable def canon (n : Nat) (L : Lang) (f : Nat) : List LRow := (clo n f 0 [(L, [])]).map (rowIn n (clo n f 0 [(L, [])]))
theorem clo_end {n f i : Nat} {acc : Met Lang} (h : acc.length ≤ i) : clo n f i acc = acc := by
  cases f with
  | zero => rfl
  | succ f =>
    unfold clo
    rw [List.getElem?_eq_none h]
theorem clo_go {n f i : Nat} {acc : Met Lang} {a : Lang} {p : List Nat} (h : acc[i]? = some (a, p)) : clo n (f + 1) i acc = clo n f (i + 1) (expandTo der acc a p n) := by
  show (match acc[i]? with | none => acc | some (a, p) => clo n f (i + 1) (expandTo der acc a p n)) = _
  rw [h]
theorem clo_more {n : Nat} {L : Lang} {u : List Lang} (hs : L ∈ u) (hc : ∀ a ∈ u, ∀ x, x < n → der a x ∈ u) : ∀ {f g i : Nat} {acc : Met Lang}, MetOk n der L acc → u.length < f + i → u.length < g + i → clo n f i acc = clo n g i acc
  | 0, g, i, acc, h, hf, _ => by
    have := met_few h hs hc
    rw [clo_end (by omega), clo_end (by omega)]
  | f + 1, 0, i, acc, h, _, hg => by
    have := met_few h hs hc
    rw [clo_end (by omega), clo_end (by omega)]
  | f + 1, g + 1, i, acc, h, hf, hg => by
    by_cases hi : i < acc.length
    · obtain ⟨⟨a, q⟩, hap⟩ : ∃ ap, acc[i]? = some ap := ⟨_, List.getElem?_eq_getElem hi⟩
      rw [clo_go hap, clo_go hap]
      exact clo_more hs hc (met_expand h (List.mem_of_getElem? hap)) (by omega) (by omega)
    · rw [clo_end (by omega), clo_end (by omega)]
/-- the languages of a looker -/
def langs (rs : List LRow) : List Lang := (stR rs.length).map (lang rs)
theorem langs_len (rs : List LRow) : (langs rs).length = rs.length := by unfold langs; rw [List.length_map, stR_len]
theorem langs_mem {rs : List LRow} {p : Int} (h : InSt rs p) : lang rs p ∈ langs rs := List.mem_map.mpr ⟨p, mem_stR.mpr h, rfl⟩
theorem langs_step {n : Nat} {rs : List LRow} (ok : RowsOk n rs) : ∀ a ∈ langs rs, ∀ x, x < n → der a x ∈ langs rs := by
  intro a ha x hx
  obtain ⟨p, hp, rfl⟩ := List.mem_map.mp ha
  exact List.mem_map.mpr ⟨nxt rs p x, mem_stR.mpr (nxt_in ok (mem_stR.mp hp) hx), rfl⟩
theorem met_langs {n : Nat} {rs : List LRow} (ok : RowsOk n rs) {acc : Met Lang} (h : MetOk n der (lang rs 0) acc) : acc.length ≤ rs.length := by
  have := met_few h (langs_mem (in_zero ok)) (langs_step ok)
  rwa [langs_len] at this
theorem clo_met {n : Nat} {L : Lang} : ∀ {f i : Nat} {acc : Met Lang}, MetOk n der L acc → MetOk n der L (clo n f i acc)
  | 0, _, _, h => h
  | f + 1, i, acc, h => by
    by_cases hi : i < acc.length
    · obtain ⟨⟨a, q⟩, hap⟩ : ∃ ap, acc[i]? = some ap := ⟨_, List.getElem?_eq_getElem hi⟩
      rw [clo_go hap]
      exact clo_met (met_expand h (List.mem_of_getElem? hap))
    · rw [clo_end (by omega)]
      exact h
theorem clo_sub {n : Nat} : ∀ {f i : Nat} {acc : Met Lang}, ∃ more, clo n f i acc = acc ++ more
  | 0, _, acc => ⟨[], by rw [List.append_nil]; rfl⟩
  | f + 1, i, acc => by
    by_cases hi : i < acc.length
    · obtain ⟨⟨a, q⟩, hap⟩ : ∃ ap, acc[i]? = some ap := ⟨_, List.getElem?_eq_getElem hi⟩
      rw [clo_go hap]
      obtain ⟨m1, e1⟩ := expandTo_sub (stp := der) (acc := acc) (a := a) (p := q) n
      obtain ⟨m2, e2⟩ := clo_sub (n := n) (f := f) (i := i + 1) (acc := expandTo der acc a q n)
      exact ⟨m1 ++ m2, by rw [e2, e1, List.append_assoc]⟩
    · rw [clo_end (by omega)]
      exact ⟨[], by rw [List.append_nil]⟩
theorem expandTo_in {acc : Met Lang} {a : Lang} {p : List Nat} : ∀ k x, x < k → der a x ∈ (expandTo der acc a p k).map Prod.fst
  | k + 1, x, hx => by
    rw [expandTo_succ]
    by_cases c : x < k
    · obtain ⟨m, e⟩ := addStep_sub (stp := der) (a := a) (p := p) (acc := expandTo der acc a p k) (x := k)
      rw [e, List.map_append]
      exact List.mem_append_left _ (expandTo_in k x c)
    · have : x = k := by omega
      subst this
      unfold addStep
      by_cases c2 : der a x ∈ (expandTo der acc a p x).map Prod.fst
      · rw [if_pos c2]; exact c2
      · rw [if_neg c2, List.map_append]
        exact List.mem_append_right _ (by simp)
/-- all that is met leads to what is met -/
theorem clo_closed {n : Nat} {L : Lang} {u : List Lang} (hs : L ∈ u) (hc : ∀ a ∈ u, ∀ x, x < n → der a x ∈ u) : ∀ {f i : Nat} {acc : Met Lang}, MetOk n der L acc → u.length < f + i → (∀ e ∈ acc.take i, ∀ x, x < n → der e.1 x ∈ acc.map Prod.fst) →
    ∀ e ∈ clo n f i acc, ∀ x, x < n → der e.1 x ∈ (clo n f i acc).map Prod.fst
  | 0, i, acc, h, hf, hcl => by
    have := met_few h hs hc
    rw [clo_end (by omega)]
    rw [List.take_of_length_le (by omega)] at hcl
    exact hcl
  | f + 1, i, acc, h, hf, hcl => by
    by_cases hi : i < acc.length
    · obtain ⟨⟨a, q⟩, hap⟩ : ∃ ap, acc[i]? = some ap := ⟨_, List.getElem?_eq_getElem hi⟩
      rw [clo_go hap]
      refine clo_closed hs hc (met_expand h (List.mem_of_getElem? hap)) (by omega) fun e he x hx => ?_
      obtain ⟨m1, e1⟩ := expandTo_sub (stp := der) (acc := acc) (a := a) (p := q) n
      have ht : (expandTo der acc a q n).take (i + 1) = acc.take i ++ [(a, q)] := by
        rw [e1, List.take_append_of_le_length (by omega), List.take_add_one, hap]
        rfl
      rw [ht] at he
      rcases List.mem_append.mp he with he | he
      · rw [e1, List.map_append]
        exact List.mem_append_left _ (hcl e he x hx)
      · obtain rfl := List.mem_singleton.mp he
        exact expandTo_in n x hx
    · rw [clo_end (by omega)]
      rw [List.take_of_length_le (by omega)] at hcl
      exact hcl
theorem canon_same {n : Nat} {r1 r2 : List LRow} (o1 : RowsOk n r1) (o2 : RowsOk n r2) (h : lang r1 0 = lang r2 0) : canon n (lang r1 0) (r1.length + 1) = canon n (lang r2 0) (r2.length + 1) := by
  have e1 : clo n (r1.length + 1) 0 [(lang r1 0, [])] = clo n (r1.length + r2.length + 2) 0 [(lang r1 0, [])] :=
    clo_more (langs_mem (in_zero o1)) (langs_step o1) (met_start _ _ _) (by rw [langs_len]; omega) (by rw [langs_len]; omega)
  have e2 : clo n (r2.length + 1) 0 [(lang r2 0, [])] = clo n (r1.length + r2.length + 2) 0 [(lang r2 0, [])] :=
    clo_more (langs_mem (in_zero o2)) (langs_step o2) (met_start _ _ _) (by rw [langs_len]; omega) (by rw [langs_len]; omega)
  unfold canon
  rw [e1, e2, h]
/-- the least looker is one, and takes the same -/
theorem canon_ok {n : Nat} {rs : List LRow} (ok : RowsOk n rs) : RowsOk n (canon n (lang rs 0) (rs.length + 1)) ∧ lang (canon n (lang rs 0) (rs.length + 1)) 0 = lang rs 0 := by
  have hm : MetOk n der (lang rs 0) (clo n (rs.length + 1) 0 [(lang rs 0, [])]) := clo_met (met_start _ _ _)
  have hcl : ∀ e ∈ clo n (rs.length + 1) 0 [(lang rs 0, [])], ∀ x, x < n → der e.1 x ∈ (clo n (rs.length + 1) 0 [(lang rs 0, [])]).map Prod.fst :=
    clo_closed (langs_mem (in_zero ok)) (langs_step ok) (met_start _ _ _) (by rw [langs_len]; omega) (fun e he => by simp at he)
  have hsub : ∃ more, clo n (rs.length + 1) 0 [(lang rs 0, [])] = [(lang rs 0, [])] ++ more := clo_sub
  have hfew := met_langs ok hm
  have hst := met_closed hm (fun a => a ∈ langs rs) (langs_mem (in_zero ok)) (fun a x ha hx => langs_step ok a ha x hx)
  unfold canon
  generalize clo n (rs.length + 1) 0 [(lang rs 0, [])] = F at hm hcl hsub hfew hst
  obtain ⟨more, hF⟩ := hsub
  have hpos : 1 ≤ F.length := by rw [hF]; simp
  have h600 := ok.top
  have hidx : ∀ e ∈ F, ∀ x, x < n → (F.map Prod.fst).idxOf (der e.1 x) < F.length := fun e he x hx => by
    have := List.idxOf_lt_length_of_mem (hcl e he x hx)
    rwa [List.length_map] at this
  have rok : RowsOk n (F.map (rowIn n F)) := by
    refine ⟨by rw [List.length_map]; exact hpos, by rw [List.length_map]; omega, fun r hr => ?_, fun r hr => ?_, fun r hr q hq => ?_⟩
    · obtain ⟨e, he, rfl⟩ := List.mem_map.mp hr
      obtain ⟨p, hp, hpe⟩ := List.mem_map.mp (hst e he)
      show e.1 [] = 0 ∨ e.1 [] = 1
      rw [← hpe]
      exact endAt_bit ok (mem_stR.mp hp)
    · obtain ⟨e, he, rfl⟩ := List.mem_map.mp hr
      unfold rowIn
      simp
    · obtain ⟨e, he, rfl⟩ := List.mem_map.mp hr
      obtain ⟨x, hx, rfl⟩ := List.mem_map.mp hq
      have := hidx e he x (List.mem_range.mp hx)
      rw [List.length_map]
      omega
  refine ⟨rok, ?_⟩
  have la : ∀ (w : List Nat) (i : Nat) (e : Lang × List Nat), F[i]? = some e → lang (F.map (rowIn n F)) (i : Int) w = e.1 w := by
    intro w
    induction w with
    | nil =>
      intro i e he
      show endAt (F.map (rowIn n F)) (i : Int) = e.1 []
      unfold endAt rowOf
      rw [Int.toNat_natCast, List.getD_eq_getElem?_getD, List.getElem?_map, he]
      rfl
    | cons x w ih =>
      intro i e he
      have hem := List.mem_of_getElem? he
      have hi : i < F.length := (List.getElem?_eq_some_iff.mp he).1
      have hin : InSt (F.map (rowIn n F)) (i : Int) := ⟨by omega, by rw [List.length_map]; omega⟩
      show lang (F.map (rowIn n F)) (nxt (F.map (rowIn n F)) (i : Int) x) w = e.1 (x :: w)
      by_cases hx : x < n
      · have hn : nxt (F.map (rowIn n F)) (i : Int) x = (((F.map Prod.fst).idxOf (der e.1 x) : Nat) : Int) := by
          unfold nxt rowOf
          rw [Int.toNat_natCast, List.getD_eq_getElem?_getD, List.getD_eq_getElem?_getD, List.getElem?_map, he]
          show ((rowIn n F e).2[x]?).getD 0 = _
          unfold rowIn
          rw [List.getElem?_map, List.getElem?_range hx]
          rfl
        rw [hn]
        have hmem := hcl e hem x hx
        have h1 := List.getElem_idxOf (List.idxOf_lt_length_of_mem hmem)
        have h2 := hidx e hem x hx
        rw [ih _ _ (List.getElem?_eq_getElem h2)]
        rw [List.getElem_map] at h1
        exact congrFun h1 w
      · rw [nxt_far rok hin hx]
        have h0 : F[0]? = some (lang rs 0, []) := by rw [hF]; rfl
        have := ih 0 _ h0
        rw [show ((0 : Nat) : Int) = 0 from rfl] at this
        rw [this]
        obtain ⟨p, hp, hpe⟩ := List.mem_map.mp (hst e hem)
        rw [← hpe]
        show lang rs 0 w = lang rs (nxt rs p x) w
        rw [nxt_far ok (mem_stR.mp hp) hx]
  have h0 : F[0]? = some (lang rs 0, []) := by rw [hF]; rfl
  exact funext fun w => la w 0 _ h0
theorem idx_more {κ : Type} [BEq κ] [LawfulBEq κ] {l m : List κ} {a : κ} (h : a ∈ l) : (l ++ m).idxOf a = l.idxOf a := by
  rw [List.idxOf_append, if_pos h]
theorem rowIn_more {n : Nat} {acc more : Met Lang} {e : Lang × List Nat} (h : ∀ x, x < n → der e.1 x ∈ acc.map Prod.fst) : rowIn n (acc ++ more) e = rowIn n acc e := by
  unfold rowIn
  congr 1
  refine List.map_congr_left fun x hx => ?_
  rw [List.map_append, idx_more (h x (List.mem_range.mp hx))]
end Sg

namespace Sg
open PySem PySem.Spec PyProof.Rows L2
theorem tk_put {H : Hp} {D : Addr} {o : HO} (nt : ∀ ys, H D ≠ some (.tup ys)) (nf : ∀ q v, H D ≠ some (.frz q v)) : TK H (upd H D o) :=
  ⟨fun b xs h => by rw [upd_ne (fun z => nt xs (by rw [← z]; exact h))]; exact h, fun b q v h => by rw [upd_ne (fun z => nf q v (by rw [← z]; exact h))]; exact h⟩
/-- what the dict of numbers tells: the place at which a language was met -/
def NumOk (rs : List LRow) (ms : List Int) (acc : Met Lang) (nb : List (Key × V)) : Prop :=
  (∀ p, InSt rs p → lang rs p ∈ acc.map Prod.fst → valV nb (.inl (mk ms p)) = some (.int (((acc.map Prod.fst).idxOf (lang rs p) : Nat) : Int))) ∧ (∀ p, InSt rs p → lang rs p ∉ acc.map Prod.fst → valV nb (.inl (mk ms p)) = none) ∧ nb.length ≤ acc.length
structure LsH (K : PySem.W.Frag) (H : Hp) (l nd ch rr : Addr) (rs : List LRow) (ms : List Int) (acc : Met Lang) (H2 : Hp) (cs : List Int) (nb : List (Key × V)) (vs : List V) (rws : List LRow) : Prop where
  same : Same H H2
  n1 : H l = none
  n2 : H nd = none
  n3 : H ch = none
  n4 : H rr = none
  e1 : ch ≠ l
  e2 : ch ≠ rr
  e3 : l ≠ rr
  lm : H2 l = some (.lst (ms.map V.int))
  dict : H2 nd = some (.dK nb)
  num : NumOk rs ms acc nb
  chl : H2 ch = some (.lst (cs.map V.int))
  csl : cs.map (lang rs) = acc.map Prod.fst
  csi : ∀ c ∈ cs, InSt rs c
  rows : H2 rr = some (.lst vs)
  pr : Paired (RSt K H2) vs rws
section
variable {K : PySem.W.Frag} {H H2 : Hp} {l nd ch rr D : Addr} {rs : List LRow} {ms : List Int} {acc : Met Lang} {cs : List Int} {nb : List (Key × V)} {vs : List V} {rws : List LRow} {o : HO}
theorem LsH.put (h : LsH K H l nd ch rr rs ms acc H2 cs nb vs rws) (h0 : H D = none) (d1 : l ≠ D) (d2 : nd ≠ D) (d3 : ch ≠ D) (d4 : rr ≠ D) (nt : ∀ ys, H2 D ≠ some (.tup ys)) (nf : ∀ q v, H2 D ≠ some (.frz q v)) : LsH K H l nd ch rr rs ms acc (upd H2 D o) cs nb vs rws :=
  { h with
    same := fun b x hb => by rw [upd_ne (ne_of_none hb h0)]; exact h.same b x hb
    lm := by rw [upd_ne d1]; exact h.lm
    dict := by rw [upd_ne d2]; exact h.dict
    chl := by rw [upd_ne d3]; exact h.chl
    rows := by rw [upd_ne d4]; exact h.rows
    pr := pr_mono h.pr fun _ _ r => r.mono (tk_put nt nf) }
theorem LsH.free (h : LsH K H l nd ch rr rs ms acc H2 cs nb vs rws) (h0 : H2 D = none) : H D = none ∧ l ≠ D ∧ nd ≠ D ∧ ch ≠ D ∧ rr ≠ D :=
  ⟨Same.free h.same h0, ne_of_none h.lm h0, ne_of_none h.dict h0, ne_of_none h.chl h0, ne_of_none h.rows h0⟩
theorem LsH.other (h : LsH K H l nd ch rr rs ms acc H2 cs nb vs rws) (h0 : H2 D = none) : LsH K H l nd ch rr rs ms acc (upd H2 D o) cs nb vs rws := by
  obtain ⟨a, b, c, d, e⟩ := h.free h0
  exact h.put a b c d e (fun _ => by rw [h0]; nofun) (fun _ _ => by rw [h0]; nofun)
theorem LsH.cnt (h : LsH K H l nd ch rr rs ms acc H2 cs nb vs rws) : cs.length = acc.length := by
  have := congrArg List.length h.csl
  rwa [List.length_map, List.length_map] at this
/-- a language that was not met -/
theorem NumOk.add {rs : List LRow} {ms : List Int} {acc : Met Lang} {nb : List (Key × V)} (h : NumOk rs ms acc nb) (kn : Kern rs ms) {c : Int} (hc : InSt rs c) (hn : lang rs c ∉ acc.map Prod.fst) (q : List Nat) : NumOk rs ms (acc ++ [(lang rs c, q)]) (putK nb (.inl (mk ms c)) (.int (acc.length : Int))) := by
  obtain ⟨h1, h2, h3⟩ := h
  have key : ∀ p, InSt rs p → ((Sum.inl (mk ms p) : Key) = Sum.inl (mk ms c) ↔ lang rs p = lang rs c) := fun p hp => ⟨fun e => (kn p c hp hc).mp (Sum.inl.inj e), fun e => by rw [(kn p c hp hc).mpr e]⟩
  refine ⟨fun p hp hm => ?_, fun p hp hm => ?_, ?_⟩
  · rw [valV_put]
    by_cases e : lang rs p = lang rs c
    · rw [if_pos ((key p hp).mpr e), e, List.map_append, List.idxOf_append, if_neg hn]
      simp
    · rw [if_neg (fun z => e ((key p hp).mp z))]
      rw [List.map_append] at hm ⊢
      have hm2 : lang rs p ∈ acc.map Prod.fst := (List.mem_append.mp hm).elim id fun h => absurd (by simpa using h) e
      rw [idx_more hm2]
      exact h1 p hp hm2
  · rw [valV_put]
    rw [List.map_append] at hm
    have e : lang rs p ≠ lang rs c := fun e => hm (List.mem_append_right _ (by simp [e]))
    rw [if_neg (fun z => e ((key p hp).mp z))]
    exact h2 p hp fun h => hm (List.mem_append_left _ h)
  · have := length_putK nb (.inl (mk ms c)) (.int (acc.length : Int))
    rw [List.length_append]
    simp
    omega
theorem LsH.met (h : LsH K H l nd ch rr rs ms acc H2 cs nb vs rws) (kn : Kern rs ms) {c : Int} (hc : InSt rs c) (hn : lang rs c ∉ acc.map Prod.fst) (q : List Nat) :
    LsH K H l nd ch rr rs ms (acc ++ [(lang rs c, q)]) (upd (upd H2 nd (.dK (putK nb (.inl (Sg.mk ms c)) (.int (acc.length : Int))))) ch (.lst (cs.map V.int ++ [.int c]))) (cs ++ [c]) (putK nb (.inl (Sg.mk ms c)) (.int (acc.length : Int))) vs rws := by
  have a1 : l ≠ nd := ne_of h.lm h.dict (fun z => nomatch z)
  have a2 : ch ≠ nd := ne_of h.chl h.dict (fun z => nomatch z)
  have a3 : rr ≠ nd := ne_of h.rows h.dict (fun z => nomatch z)
  have hch : (upd H2 nd (.dK (putK nb (.inl (Sg.mk ms c)) (.int (acc.length : Int))))) ch = some (.lst (cs.map V.int)) := by rw [upd_ne a2]; exact h.chl
  refine ⟨fun b x hb => ?_, h.n1, h.n2, h.n3, h.n4, h.e1, h.e2, h.e3, ?_, ?_, h.num.add kn hc hn q, by rw [upd_same, List.map_append]; rfl, ?_, fun d hd => ?_, ?_, pr_mono h.pr fun _ _ r => r.mono ?_⟩
  · rw [upd_ne (ne_of_none hb h.n3), upd_ne (ne_of_none hb h.n2)]
    exact h.same b x hb
  · rw [upd_ne (Ne.symm h.e1), upd_ne a1]; exact h.lm
  · rw [upd_ne (Ne.symm a2), upd_same]
  · rw [List.map_append, List.map_append, h.csl]; rfl
  · rcases List.mem_append.mp hd with hd | hd
    · exact h.csi d hd
    · rw [List.mem_singleton.mp hd]; exact hc
  · rw [upd_ne (Ne.symm h.e2), upd_ne a3]; exact h.rows
  · exact (tk_put (fun _ => by rw [h.dict]; nofun) (fun _ _ => by rw [h.dict]; nofun)).trans (tk_put (fun _ => by rw [hch]; nofun) (fun _ _ => by rw [hch]; nofun))
/-- a row is told -/
theorem LsH.row (h : LsH K H l nd ch rr rs ms acc H2 cs nb vs rws) {T T1 : Addr} {r : LRow} (hT : H2 T = some (.tup [.int r.1, .ref T1])) (hT1 : H2 T1 = some (.tup (r.2.map V.int))) :
    LsH K H l nd ch rr rs ms acc (upd H2 rr (.lst (vs ++ [.ref T]))) cs nb (vs ++ [.ref T]) (rws ++ [r]) := by
  have a3 : nd ≠ rr := ne_of h.dict h.rows (fun z => nomatch z)
  have k : TK H2 (upd H2 rr (.lst (vs ++ [.ref T]))) := tk_put (fun _ => by rw [h.rows]; nofun) (fun _ _ => by rw [h.rows]; nofun)
  exact { h with
    same := fun b x hb => by rw [upd_ne (ne_of_none hb h.n4)]; exact h.same b x hb
    lm := by rw [upd_ne h.e3]; exact h.lm
    dict := by rw [upd_ne a3]; exact h.dict
    chl := by rw [upd_ne h.e2]; exact h.chl
    rows := upd_same
    pr := pr_snoc (pr_mono h.pr fun _ _ r => r.mono k) ⟨T, T1, rfl, k.sqT (.inl (.inl hT)), k.sqT (.inl (.inl hT1))⟩ }
end
end Sg
namespace Sg
open PySem PySem.Spec PyProof.Rows L2
theorem LsH.start {K : PySem.W.Frag} {H H1 H2 : Hp} {l nd ch rr : Addr} {n : Nat} {rs : List LRow} {ms : List Int} (ok : RowsOk n rs) (s1 : Same H H1) (kn : Kern rs ms) (hl0 : H l = none) (hl : H1 l = some (.lst (ms.map V.int))) (hnd : H1 nd = none)
    (e2 : H2 = upd (upd H1 nd (.dK [])) nd (.dK [(.inl (Sg.mk ms 0), .int 0)])) (hch : H2 ch = none) (hrr : (upd H2 ch (.lst [.int 0])) rr = none) :
    LsH K H l nd ch rr rs ms [(lang rs 0, [])] (upd (upd H2 ch (.lst [.int 0])) rr (.lst [])) [0] [(.inl (Sg.mk ms 0), .int 0)] [] [] := by
  have s2 : Same H1 H2 := fun b x hb => by rw [e2, upd_ne (ne_of_none hb hnd), upd_ne (ne_of_none hb hnd)]; exact hb
  have s3 : Same H2 (upd H2 ch (.lst [.int 0])) := same_upd hch
  have s4 : Same (upd H2 ch (.lst [.int 0])) (upd (upd H2 ch (.lst [.int 0])) rr (.lst [])) := same_upd hrr
  have k1 : H2 nd = some (.dK [(.inl (Sg.mk ms 0), .int 0)]) := by rw [e2, upd_same]
  have l2 := s2 _ _ hl
  have c1 : (upd H2 ch (.lst [.int 0])) ch = some (.lst [.int 0]) := upd_same
  refine ⟨Same.trans s1 (Same.trans s2 (Same.trans s3 s4)), hl0, Same.free s1 hnd, Same.free (Same.trans s1 s2) hch, Same.free (Same.trans s1 (Same.trans s2 s3)) hrr, Ne.symm (ne_of_none l2 hch), ne_of_none c1 hrr, ne_of_none (s3 _ _ l2) hrr, s4 _ _ (s3 _ _ l2), s4 _ _ (s3 _ _ k1), ⟨fun p hp hm => ?_, fun p hp hm => ?_, Nat.le_refl _⟩, s4 _ _ c1, rfl, fun c hc => ?_, upd_same, .nil⟩
  · have e : lang rs p = lang rs 0 := by simpa using hm
    have e3 := (kn p 0 hp (in_zero ok)).mpr e
    rw [e3, e]
    simp [valV]
  · have e : lang rs p ≠ lang rs 0 := fun e => hm (by simp [e])
    have e3 : Sg.mk ms 0 ≠ Sg.mk ms p := fun z => e ((kn p 0 hp (in_zero ok)).mp z.symm)
    simp [valV, e3]
  · rw [List.mem_singleton.mp hc]
    exact in_zero ok
end Sg
namespace Sg
open PySem PySem.Spec PyProof.Rows L2
theorem leads_succ (acc : Met Lang) (L : Lang) (p : List Nat) (x : Nat) :
    (List.range (x + 1)).map (fun y => ((((expandTo der acc L p (x + 1)).map Prod.fst).idxOf (der L y) : Nat) : Int)) =
      (List.range x).map (fun y => ((((expandTo der acc L p x).map Prod.fst).idxOf (der L y) : Nat) : Int)) ++ [((((expandTo der acc L p (x + 1)).map Prod.fst).idxOf (der L x) : Nat) : Int)] := by
  rw [List.range_succ, List.map_append, List.map_singleton]
  congr 1
  refine List.map_congr_left fun y hy => ?_
  rw [expandTo_succ]
  obtain ⟨m, e⟩ := addStep_sub (stp := der) (a := L) (p := p) (acc := expandTo der acc L p x) (x := x)
  rw [e, List.map_append, idx_more (expandTo_in x y (List.mem_range.mp hy))]
theorem step_old {acc : Met Lang} {L : Lang} {p : List Nat} {x : Nat} (h : der L x ∈ (expandTo der acc L p x).map Prod.fst) : expandTo der acc L p (x + 1) = expandTo der acc L p x := by
  rw [expandTo_succ]
  unfold addStep
  rw [if_pos h]
theorem step_new {acc : Met Lang} {L : Lang} {p : List Nat} {x : Nat} (h : der L x ∉ (expandTo der acc L p x).map Prod.fst) : expandTo der acc L p (x + 1) = expandTo der acc L p x ++ [(der L x, p ++ [x])] := by
  rw [expandTo_succ]
  unfold addStep
  rw [if_neg h]
theorem idx_last {l : List Lang} {a : Lang} (h : a ∉ l) : (l ++ [a]).idxOf a = l.length := by
  rw [List.idxOf_append, if_neg h]
  simp
end Sg

/-! lookers as data for == and repr -/
namespace Sg
open PySem PySem.Spec PyProof.Rows L2
structure GoodD (d : PyData) : Prop where
  lay : d.canLay0 = true
  show_ : d.showable = true
  deep : d.depth ≤ 50
  size : d.shown.length ≤ sizeLine
theorem GoodD.shaped {d : PyData} (h : GoodD d) : SeqAt.shaped d = true := by
  unfold SeqAt.shaped
  rw [h.lay, decide_eq_true (Nat.le_trans h.deep (by decide))]
  rfl
theorem GoodD.noDict {d : PyData} (h : GoodD d) : d.hasDict = false := PyData.hasDict_of_canLay d h.lay
theorem GoodD.refl {d : PyData} (h : GoodD d) : PyData.eqv d d = true := SeqAt.eqv_refl d h.lay
def rowD (r : LRow) : PyData := .tuple [.int r.1, .tuple (r.2.map PyData.int)]
def lkD (z : Str) (rs : List LRow) : PyData := .tuple [.str z, .tuple (rs.map rowD)]
theorem ints_dp {K : PySem.W.Frag} {H : Hp} : ∀ l : List Int, DpAll K H (l.map V.int) (l.map PyData.int)
  | [] => .nil
  | i :: l => .cons (.int i) (ints_dp l)
theorem rows_dp {K : PySem.W.Frag} {H : Hp} {vs : List V} {rs : List LRow} (h : Paired (RSt K H) vs rs) : DpAll K H vs (rs.map rowD) := by
  induction h with
  | nil => exact .nil
  | cons r _ ih =>
    obtain ⟨a, b, rfl, h1, h2⟩ := r
    exact .cons (.tup h1 (.cons (.int _) (.cons (.tup h2 (ints_dp _)) .nil))) ih
theorem RLk.dp {K : PySem.W.Frag} {H : Hp} {v : V} {z : Str} {rs : List LRow} (h : RLk K H v z rs) : Dp K H v (lkD z rs) := by
  obtain ⟨a, b, rfl, h1, vs, h2, h3⟩ := h
  exact .tup h1 (.cons (.str z) (.cons (.tup h2 (rows_dp h3)) .nil))
/-! how great -/
theorem int_short : ∀ n : Fin 600, (PyData.shown (.int (n.val : Int))).length ≤ 8 ∧ PyData.weight (.int (n.val : Int)) ≤ 10 ∧ PyData.showable (.int (n.val : Int)) = true := by decide +kernel
theorem int_ok {i : Int} (h0 : 0 ≤ i) (h1 : i < 600) : (PyData.shown (.int i)).length ≤ 8 ∧ PyData.weight (.int i) ≤ 10 ∧ PyData.showable (.int i) = true := by
  have := int_short ⟨i.toNat, by omega⟩
  have e : ((i.toNat : Nat) : Int) = i := by omega
  rwa [show ((⟨i.toNat, by omega⟩ : Fin 600).val : Int) = i from e] at this
structure ListOk (ds : List PyData) (w dp : Nat) : Prop where
  lay : PyData.canLayAll0 ds = true
  show_ : PyData.showableAll ds = true
  short : PyData.leavesShortAll 8 ds = true
  deep : PyData.depthAll ds ≤ dp
  wt : PyData.weightAll ds ≤ ds.length * w
theorem listOk_map {α : Type} {f : α → PyData} {w dp : Nat} : ∀ {l : List α}, (∀ a ∈ l, (f a).canLay0 = true ∧ (f a).showable = true ∧ (f a).leavesShort 8 = true ∧ (f a).depth ≤ dp ∧ (f a).weight + 1 ≤ w) → ListOk (l.map f) w dp
  | [], _ => ⟨rfl, rfl, rfl, Nat.zero_le _, Nat.zero_le _⟩
  | a :: l, h => by
    obtain ⟨h1, h2, h3, h4, h5⟩ := h a List.mem_cons_self
    have ih := listOk_map (w := w) (dp := dp) (l := l) fun b hb => h b (List.mem_cons_of_mem _ hb)
    refine ⟨?_, ?_, ?_, ?_, ?_⟩
    · show ((f a).canLay0 && PyData.canLayAll0 (l.map f)) = true
      rw [h1, ih.lay]; rfl
    · show ((f a).showable && PyData.showableAll (l.map f)) = true
      rw [h2, ih.show_]; rfl
    · show ((f a).leavesShort 8 && PyData.leavesShortAll 8 (l.map f)) = true
      rw [h3, ih.short]; rfl
    · show max (f a).depth (PyData.depthAll (l.map f)) ≤ dp
      have := ih.deep
      omega
    · show (f a).weight + 1 + PyData.weightAll (l.map f) ≤ (l.map f).length.succ * w
      have := ih.wt
      rw [Nat.succ_mul]
      omega
theorem row_good {n : Nat} {rs : List LRow} (ok : RowsOk n rs) (hn : n ≤ 5) : ∀ r ∈ rs, (rowD r).canLay0 = true ∧ (rowD r).showable = true ∧ (rowD r).leavesShort 8 = true ∧ (rowD r).depth ≤ 2 ∧ (rowD r).weight + 1 ≤ 80 := by
  intro r hr
  have h600 := ok.top
  have hb := ok.bit r hr
  obtain ⟨b1, b2, b3⟩ := int_ok (i := r.1) (by omega) (by omega)
  have hw := ok.wid r hr
  have L := listOk_map (f := PyData.int) (w := 11) (dp := 0) (l := r.2) fun q hq => by
    have ht := ok.to r hr q hq
    obtain ⟨c1, c2, c3⟩ := int_ok (i := q) ht.1 (by omega)
    exact ⟨rfl, c3, decide_eq_true c1, Nat.le_refl _, by omega⟩
  have hlen : (r.2.map PyData.int).length ≤ 5 := by rw [List.length_map]; omega
  have hwt : PyData.weightAll (r.2.map PyData.int) ≤ 55 := Nat.le_trans L.wt (by omega)
  refine ⟨?_, ?_, ?_, ?_, ?_⟩
  · show (true && (PyData.canLayAll0 (r.2.map PyData.int) && true)) = true
    rw [L.lay]; rfl
  · show (PyData.showable (.int r.1) && (PyData.showableAll (r.2.map PyData.int) && true)) = true
    rw [b3, L.show_]; rfl
  · show (decide ((PyData.shown (.int r.1)).length ≤ 8) && (PyData.leavesShortAll 8 (r.2.map PyData.int) && true)) = true
    rw [decide_eq_true b1, L.short]; rfl
  · show max 0 (max (PyData.depthAll (r.2.map PyData.int) + 1) 0) + 1 ≤ 2
    have := L.deep
    omega
  · show (PyData.weight (.int r.1) + 1 + (PyData.weightAll (r.2.map PyData.int) + 1 + 0)) + 1 ≤ 80
    omega
theorem lk_good {z : Str} {rs : List LRow} (hz : SignsOk z) (ok : RowsOk z.length rs) : GoodD (lkD z rs) := by
  have h600 := ok.top
  have hz5 := hz.top
  have L := listOk_map (f := rowD) (w := 80) (dp := 2) (l := rs) (row_good ok hz5)
  have hz1 : PyData.strOk z = true := by
    unfold PyData.strOk
    rw [Array.all_eq_true_iff_forall_mem]
    intro c hc
    have := hz.low c (Array.mem_toList_iff.mpr hc)
    exact decide_eq_true (Nat.lt_of_lt_of_le this (by decide))
  have hsh : (lkD z rs).leavesShort 8 = true := by
    show ((z.cps.toList.all fun c => decide (c < 16 ^ 8)) && (PyData.leavesShortAll 8 (rs.map rowD) && true)) = true
    rw [L.short, List.all_eq_true.mpr fun c hc => decide_eq_true (Nat.lt_of_lt_of_le (hz.low c hc) (by decide))]
    rfl
  have hwt : PyData.weightAll (rs.map rowD) ≤ 48000 := Nat.le_trans L.wt (by rw [List.length_map]; omega)
  refine ⟨?_, ?_, ?_, ?_⟩
  · show (PyData.strOk z && (PyData.canLayAll0 (rs.map rowD) && true)) = true
    rw [hz1, L.lay]; rfl
  · show (true && (PyData.showableAll (rs.map rowD) && true)) = true
    rw [L.show_]; rfl
  · show max 0 (max (PyData.depthAll (rs.map rowD) + 1) 0) + 1 ≤ 50
    have := L.deep
    omega
  · refine PyData.shown_fits (B := 8) (Nat.le_refl _) (by omega) hsh ?_
    show z.cps.size + 1 + (PyData.weightAll (rs.map rowD) + 1 + 0) ≤ 2 ^ 20
    have : z.cps.size = z.length := rfl
    have e : (2 : Nat) ^ 20 = 1048576 := by decide
    omega
/-! is, is not of two truth values -/
def rNotT : R2 := fun x y H Q => match x, y with
  | .bl c, .bl d => Q (.bl (c != d)) H
  | _, _ => False
theorem op_isnotB {X : Cx} : OpR X (compareOp .IsNot) rNotT := by
  intro pins s σ H x y v u Q I rx ry h
  match x, y, h with
  | .bl c, .bl d, q =>
    cases (show v = Value.bool c from rx)
    cases (show u = Value.bool d from ry)
    exact isnot_bool ⟨.bl (c != d), H, I, rfl, q⟩
end Sg

/-! raise of an own error with any one argument; lists told with things laid on the way; counts -/
namespace Sg
open PySem PySem.Spec PyProof.Rows L2
theorem pmk_ownE {X : Cx} {C : Addr} {bmB : List Value} {B newId initId : String} {x : Str} {e : Expr} {te : TE} {p pos : Pos} (F : ExcBaseFacts B newId initId bmB) (q : PySem.W.excIn X.K C bmB newId = true) (gC : X.mg x = some (.ref C)) (kC : PySem.W.keepIn X.K (.ref C) = true) (raises : Raises X (.ref C)) (he : PE X e te) (hg : Gl X x)
    (dbg : (x == ("__debug__" : Str)) = false := by decide) (st : starEach [e] X.env = (false, eval e X.env) :: starEach [] X.env := by rfl) (plain : (backTo pos (starEach [] X.env)).any (·.1) = false := by rfl) : PMk X (.Call (.Name x p) [e] [] pos) (fun σ H Q => te σ H fun _ H1 => Q (.ref C) none H1) := by
  intro pins s σ H Q I goal
  refine wpAny_Call_Name_kw (ld_glob I hg gC ?_ dbg)
  have ha : PA X [e] (tCons te tNil) := pa_cons he pa_nil (hs := st)
  refine PySem.W.callWith_K (h₀ := X.base) I.ok.mod.kin kC (thn (ha.run pos pins s σ H (fun vs H1 => match vs with | [_] => Q (.ref C) none H1 | _ => False) I goal) fun us s1 ⟨vs, H1, I1, r1, q1⟩ => ?_) st plain
  refine ⟨I1.kIn, ?_⟩
  match vs, q1, r1 with
  | [v], q1, r1 =>
  obtain ⟨u, rfl, _⟩ := vals1 r1
  obtain ⟨bm, N, nm, qn, bs, hdct, sn, sub, ab, col, dd, k0, k1, k2, k3, k5, mN, hC, hN, hni, T⟩ := exc_obj I1.kIn q
  refine wpAny_call_exc_subT F T hC hN hni (fun h' e hm => ?_) (by show 1 ≤ sizeLine; rw [sizeLine_eq]; omega)
  exact mk_of I1 hm raises q1 (I1.hok.gone hm.new)
end Sg

/-! a def called with keywords alone -/
namespace Sg
open PySem PySem.Spec PyProof.Rows L2
structure DkK (P : Program) (w : World) (K : PySem.W.Frag) (mg : Str → Option Value) (base : Heap) (k : Nat) (x : Str) (ps ks : List Str) (g : List Value → List Value → List Value) (gV : List V → List V → List V) (sp : Sp) : Prop where
  ok : ∃ fd, FnOk P w K mg base (L2.CX P w) k (He.ga K x) fd ps sp ∧ KBinds K fd ps ks g gV
  kp : PySem.W.keepIn K (.ref (He.ga K x)) = true
  gm : mg x = some (.ref (He.ga K x))
def tCallRK (sp : Sp) (gV : List V → List V → List V) (W : WX) (t : TA) : TE := fun σ H Q => t σ H fun zs H1 => sp (gV [] zs) H1 Q fun cls d H' => W cls d σ H'
theorem pe_callRK0 {X : Cx} {k : Nat} {x : Str} {ps ks : List Str} {g : List Value → List Value → List Value} {gV : List V → List V → List V} {sp : Sp} {W : WX} {kws : List Keyword} {t : TA} {p pos : Pos} (D : DkK X.prog X.w X.K X.mg X.base k x ps ks g gV sp) (hr : Room k X.A) (tk : Takes X W) (hkw : PK X kws t) (hg : Gl X x := by rfl)
    (hall : (backToKw pos (keywordEach kws X.env)).all (·.1.isSome) = true := by rfl) (hks : (backToKw pos (keywordEach kws X.env)).filterMap (·.1) = ks := by rfl)
    (hdb : (x == ("__debug__" : Str)) = false := by decide) (hpl : ((backTo pos (starEach [] X.env)).any (·.1) || (backToKw pos (keywordEach kws X.env)).any (·.1.isNone)) = false := by rfl) :
    PE X (.Call (.Name x p) [] kws pos) (tCallRK sp gV W t) := by
  obtain ⟨fd, F, B⟩ := D.ok
  refine ⟨fun pins s σ H Q I goal => wpAny_Call_Name_kw (ld_glob I hg D.gm ?_ hdb)⟩
  refine PySem.W.callWith_KW0 (h₀ := X.base) I.ok.mod.kin D.kp hall (thn (hkw.run pos pins s σ H _ I goal) fun ws s1 ⟨zs, H1, I1, rz, q⟩ => ⟨I1.kIn, ?_⟩) hpl
  rw [hks]
  have r2 := B.rel (vs := []) (us := []) .nil rz
  have hl : (g [] ws).length = ps.length := by rw [← r2.length]; exact F.len _ _ _ _ q
  refine wpAny_call (codeAny_mono (F.run X.A X.stack s1 H1 ⟨[], ks.zip ws⟩ (g [] ws) (gV [] zs) Q (fun cls d H' => W cls d σ H') hr I1.env0 (B.to s1 [] ws I1.kIn hl) r2 q) fun r s' hq => ?_)
  match r, hq with
  | .error e, he => exact passAt tk σ pins H1 s1 e s' I1 he
  | .ok (.ret u), he => exact I1.after he
  | .ok .next, he => exact False.elim he
  | .ok .brk, he => exact False.elim he
  | .ok .cont, he => exact False.elim he
/-- two keywords, the second parameter first -/
def swG (us ws : List Value) : List Value := match us, ws with
  | [], [b, a] => [a, b]
  | _, _ => []
def swV (vs zs : List V) : List V := match vs, zs with
  | [], [b, a] => [a, b]
  | _, _ => []
theorem sw_binds {K : PySem.W.Frag} {x qual : Str} {params : Arguments} {body : List Stmt} {scope : Scope} {kws : List (Str × V)} {f : Addr} {fd : FuncData} {p1 p2 : Str} (F : FunD K x qual params body scope [] kws f fd)
    (h : ∀ (kV doc pm : Value) (an : Option Addr) (cdv ct : Value) (a b : Value), bindArgs (PySem.W.fnOf x qual params body scope .none kV doc pm an cdv ct) ⟨[], [(p2, b), (p1, a)]⟩ = pure [(p1, a), (p2, b)]) : KBinds K fd [p1, p2] [p2, p1] swG swV := by
  obtain ⟨oc, od, dV, kV, doc, pm, an, cdv, ct, osl, rfl, lk, hcd, hD, hK⟩ := F.ex
  rcases hD with ⟨_, rfl⟩ | ⟨e, _⟩
  · refine ⟨fun s us ws _ hl => ?_, fun {vs us zs ws} r rz => ?_⟩
    · match us, ws, hl with
      | [], [b, a], _ => exact .of_eq (h kV doc pm an cdv ct a b)
    · cases r with
      | nil =>
        cases rz with
        | nil => exact .nil
        | cons r1 rz1 =>
          cases rz1 with
          | nil => exact .nil
          | cons r2 rz2 =>
            cases rz2 with
            | nil => exact .cons r2 (.cons r1 .nil)
            | cons _ _ => exact .nil
      | cons _ _ => exact .nil
  · exact absurd rfl e
end Sg

/-! text * int, text[::-1] -/
namespace Sg
open PySem PySem.Spec PyProof.Rows L2
def mulT (x : Str) (n : Nat) : Str := ⟨(List.replicate n x.cps).foldl (· ++ ·) #[]⟩
def rMulS : R2 := fun x y H Q => ∃ z, ∃ n : Nat, x = .str z ∧ y = .int (n : Int) ∧ 2 ≤ n ∧ n ≤ 1000 ∧ 1 ≤ z.length ∧ z.length ≤ 1000 ∧ Q (.str (mulT z n)) H
theorem foldl_cps (x : Array Nat) : ∀ (n : Nat) (acc : Array Nat), ((List.replicate n x).foldl (· ++ ·) acc).toList = acc.toList ++ (List.replicate n x.toList).flatten
  | 0, acc => by simp
  | n + 1, acc => by
    rw [List.replicate_succ, List.foldl_cons, foldl_cps x n, Array.toList_append, List.replicate_succ, List.flatten_cons, List.append_assoc]
theorem mulT_cps (x : Str) (n : Nat) : (mulT x n).cps.toList = (List.replicate n x.cps.toList).flatten := by
  show ((List.replicate n x.cps).foldl (· ++ ·) #[]).toList = _
  rw [foldl_cps]
  rfl
theorem mulT_len (x : Str) (n : Nat) : (mulT x n).length = n * x.length := by
  have h : (mulT x n).cps.toList.length = n * x.length := by
    rw [mulT_cps, List.length_flatten, List.map_replicate, List.sum_replicate_nat]
    rfl
  exact h
theorem op_mulS {X : Cx} : OpR X (binaryOp .Mult) rMulS := by
  intro pins s σ H x y v u Q I rx ry h
  obtain ⟨z, n, rfl, rfl, h2, h3, h4, h5, q⟩ := h
  obtain ⟨t, rfl⟩ := rx
  obtain ⟨t', rfl⟩ := ry
  have hz : (mulT z n).length ≤ 1000000 := by
    rw [mulT_len]
    exact Nat.mul_le_mul h3 h5
  have e1 : ¬ ((n : Int) < 1) := by omega
  have e2 : ((n : Int) == 1 || z.length == 0) = false := by
    have a : ((n : Int) == 1) = false := by simp; omega
    have b : (z.length == 0) = false := by simp; omega
    rw [a, b]
    rfl
  have hm : z.length * n ≤ 1000000 := by
    rw [Nat.mul_comm]
    exact Nat.mul_le_mul h3 h5
  have hm2 : (z.length : Int) * (n : Int) ≤ 1000000 := by
    rw [← Int.natCast_mul]
    omega
  refine PySem.P.mul_str (by rw [decide_eq_false (by omega), decide_eq_false (by omega)]; rfl) (fun _ _ => ?_) (fun _ _ => ?_) ?_
  · exact Int.not_lt.mpr ((Int.le_ediv_iff_mul_le (by omega)).mpr (by omega))
  · rw [Int.toNat_natCast]
    exact decide_eq_false (Nat.not_lt.mpr (szle hm))
  · rw [if_neg e1, if_neg (by rw [e2]; decide), Int.toNat_natCast]
    exact ⟨szle hz, .str _, H, I.tok _, ⟨_, rfl⟩, q⟩
def tRevS (te : TE) : TE := fun σ H Q => te σ H fun x H1 => ∃ z, x = .str z ∧ z.length ≤ 1000 ∧ ∀ y : Str, (∀ c ∈ y.cps.toList, c ∈ z.cps.toList) → y.length ≤ 1000 → Q (.str y) H1
theorem pe_revS {X : Cx} {e : Expr} {te : TE} {k : Nat} {p1 p2 p3 pos : Pos} (he : PE X e te) : PE X (.Subscript e (.Slice none none (some (.UnaryOp .USub (.Constant (.int 1) k p1) p2)) p3) pos) (tRevS te) := by
  refine ⟨fun pins s σ H Q I h => ?_⟩
  refine Subscript_ (thn (he.run pins s σ H _ I h) fun v s1 ⟨x, H1, I1, r1, q1⟩ => ?_)
  obtain ⟨z, ex, hz, q⟩ := q1
  subst ex
  obtain ⟨t, rfl⟩ := r1
  have hst : PO X (some (.UnaryOp .USub (.Constant (.int 1) k p1) p2)) (tPart (tUn (rU fun i => .int (-i)) (tC (.int 1)))) := po_some (pe_un un_neg pe_int)
  refine wpAny_Slice (thn (po_none.run pins s1 σ H1 (fun o H2 => o = none ∧ H2 = H1) I1 ⟨rfl, rfl⟩) fun vl s2 ⟨l, H2, I2, pl, el, e2⟩ => ?_)
  subst el e2
  refine thn (po_none.run pins s2 σ H2 (fun o H3 => o = none ∧ H3 = H2) I2 ⟨rfl, rfl⟩) fun vu s3 ⟨u, H3, I3, pu, eu, e3⟩ => ?_
  subst eu e3
  refine thn (hst.run pins s3 σ H3 (fun o H4 => o = some (-1) ∧ H4 = H3) I3 ⟨1, rfl, -1, rfl, rfl, rfl⟩) fun vs s4 ⟨o, H4, I4, ps, eo, e4⟩ => ?_
  subst eo e4
  have I5 : Inv X pins σ H4 { s4 with heap := s4.heap.push { cls := .type "slice", data := .fields #[vl, vu, vs] } } := I4.kept (t' := s4.toks) fun b ob q => Heap.get?_push_of_some _ q
  cases pl
  cases pu
  cases ps with
  | int _ tk =>
  refine tail_any (ops := [.str z t, .ref s4.heap.objs.size]) (typeIs_str _ z t) (PySem.F.slot_str_getitem.lookup) ?_ (by with_unfolding_all rfl)
  refine wpAny_getItem_str_slice (l := none) (u := none) (st := some (-1, tk)) ⟨_, Heap.get?_push_size _ rfl, rfl, rfl⟩ rfl ?_
  show Made.post (if ((-1 : Int) == 1 && (PySem.Builtin.Str.strSliceIndices none none (-1) z.length).length == z.length) = true then Made.val (.str z t)
    else Made.str ⟨((PySem.Builtin.Str.strSliceIndices none none (-1) z.length).filterMap (z.cps[·]?)).toArray⟩) (EP X pins σ Q) _
  rw [if_neg (by simp)]
  have len : (⟨((PySem.Builtin.Str.strSliceIndices none none (-1) z.length).filterMap (z.cps[·]?)).toArray⟩ : Str).length ≤ 1000 := by
    have h1 : ((PySem.Builtin.Str.strSliceIndices none none (-1) z.length).filterMap (z.cps[·]?)).length ≤ z.length := by
      refine Nat.le_trans (List.length_filterMap_le _ _) ?_
      show (sliceRange ((z.length : Int) - 1) (-1) (-1)).length ≤ _
      unfold sliceRange
      rw [List.length_map, List.length_range, if_neg (by decide)]
      split
      · rw [show (-(-1 : Int)) = 1 by rfl, Int.ediv_one]
        omega
      · exact Nat.zero_le _
    show (List.toArray _).size ≤ 1000
    rw [List.size_toArray]
    exact Nat.le_trans h1 hz
  refine ⟨szle (m := 1000) len, .str _, H4, I5.tok _, ⟨_, rfl⟩, q _ (fun c hc => ?_) len⟩
  obtain ⟨i, _, hi⟩ := List.mem_filterMap.mp (by simpa using hc)
  exact Array.mem_toList_iff.mpr (Array.mem_of_getElem? hi)
end Sg

/-! methods and instances; what is never run -/
namespace Sg
open PySem PySem.Spec PyProof.Rows L2
abbrev FnM (K : PySem.W.Frag) (C m q : Str) (st : Stmt) (dvs : List V) (fd : FuncData) : Prop := FunD K m q (defArgs st) (defBody st) (defScope st) dvs [] (He.ma K (He.ga K C) m) fd
def clsAt (st : Stmt) (j : Nat) : Stmt := match st with
  | .ClassDef (body := b) .. => b.getD j (.Pass ⟨0, 0, 0, 0⟩)
  | _ => .Pass ⟨0, 0, 0, 0⟩
structure DkM (P : Program) (w : World) (K : PySem.W.Frag) (mg : Str → Option Value) (base : Heap) (k : Nat) (C m : Str) (ps : List Str) (dvs : List V) (sp : Sp) : Prop where
  ok : ∃ fd ds, FnOk P w K mg base (L2.CX P w) k (He.ma K (He.ga K C) m) fd ps sp ∧ Binds K fd ps ds ∧ Vals dvs ds
def spNo : Sp := fun _ _ _ _ => False
theorem dk_no {P : Program} {w : World} {K : PySem.W.Frag} {mg : Str → Option Value} {base : Heap} {x : Str} {st : Stmt} {ps : List Str} {fd : FuncData} (F : FnP K x st (He.ga K x) fd) (B : Binds K fd ps []) (g : mg x = some (.ref (He.ga K x))) (k : Nat) : Dk P w K mg base k x ps spNo :=
  ⟨⟨fd, ⟨fun _ _ _ _ h => h.elim, fun _ _ _ _ _ _ _ _ _ _ _ _ _ h => h.elim⟩, B⟩, F.kp, g⟩
theorem dkM_no {P : Program} {w : World} {K : PySem.W.Frag} {mg : Str → Option Value} {base : Heap} {C m : Str} {ps : List Str} {fd : FuncData} (B : Binds K fd ps []) (k : Nat) : DkM P w K mg base k C m ps [] spNo :=
  ⟨fd, [], ⟨fun _ _ _ _ h => h.elim, fun _ _ _ _ _ _ _ _ _ _ _ _ _ h => h.elim⟩, B, .nil⟩
def EF : XK := fun _ _ _ => False
theorem passF {X : Cx} : Passes (L2.CX X.prog X.w) X EF := fun pins σ H s e s' I c => passAt (W := fun _ _ _ _ => False) takes0 σ pins H s e s' I c
def tMethR (K : PySem.W.Frag) (C m : Str) (sp : Sp) (dvs : List V) (ta : TE) (t : TA) : TE := tMeth (He.ga K C) m sp dvs EF ta t
def tMakeR (K : PySem.W.Frag) (C : Str) (sp : Sp) (dvs : List V) (t : TA) : TE := tMake (He.ga K C) sp dvs EF t
section
variable {X : Cx} {k : Nat} {C m : Str} {ps : List Str} {dvs : List V} {sp : Sp} {o e : Expr} {es : List Expr} {ta : TE} {t : TA} {pos apos p : Pos}
theorem pe_methR {pl : Sem Bool} (he : PE X o ta) (c : Cls X.K (He.ga X.K C)) (hm : Meth X.K (He.ga X.K C) m (He.ma X.K (He.ga X.K C) m)) (D : DkM X.prog X.w X.K X.mg X.base k C m ps dvs sp) (hr : Room k X.A) (ha : PA X (e :: es) t)
    (hst : starEach (e :: es) X.env = (false, eval e X.env) :: starEach es X.env := by rfl) (hpl : (backTo pos (starEach es X.env)).any (·.1) = false := by rfl)
    (ht : eval (.Call (.Attribute o m apos) (e :: es) [] pos) X.env = (do
      let ov ← eval o X.env
      standAt apos.atName
      let (f, first) ← holding [ov] (getMethod ov m pl)
      callWith pos f first (backTo pos (starEach (e :: es) X.env)) (backToKw pos (keywordEach [] X.env))) := by rfl) :
    PE X (.Call (.Attribute o m apos) (e :: es) [] pos) (tMethR X.K C m sp dvs ta t) := by
  obtain ⟨fd, ds, F, B, hd⟩ := D.ok
  exact pe_meth he c hm F hr B hd passF ha hst hpl ht
theorem pe_methR0 {pl : Sem Bool} (he : PE X o ta) (c : Cls X.K (He.ga X.K C)) (hm : Meth X.K (He.ga X.K C) m (He.ma X.K (He.ga X.K C) m)) (D : DkM X.prog X.w X.K X.mg X.base k C m ps dvs sp) (hr : Room k X.A)
    (ht : eval (.Call (.Attribute o m apos) [] [] pos) X.env = (do
      let ov ← eval o X.env
      standAt apos.atName
      let (f, first) ← holding [ov] (getMethod ov m pl)
      callWith pos f first (backTo pos (starEach [] X.env)) (backToKw pos (keywordEach [] X.env))) := by rfl) :
    PE X (.Call (.Attribute o m apos) [] [] pos) (tMethR X.K C m sp dvs ta tNil) := by
  obtain ⟨fd, ds, F, B, hd⟩ := D.ok
  exact pe_meth0 he c hm F hr B hd passF ht
theorem pe_makeR (M : Mk X.K (He.ga X.K C) (He.ma X.K (He.ga X.K C) "__init__")) (hm : X.mg C = some (.ref (He.ga X.K C))) (D : DkM X.prog X.w X.K X.mg X.base k C "__init__" ps dvs sp) (hr : Room (k + 1) X.A)
    (ha : PA X (e :: es) t) (hg : Gl X C := by rfl) (hdb : (C == ("__debug__" : Str)) = false := by decide) (he : starEach (e :: es) X.env = (false, eval e X.env) :: starEach es X.env := by rfl) (hpl : (backTo pos (starEach es X.env)).any (·.1) = false := by rfl) :
    PE X (.Call (.Name C p) (e :: es) [] pos) (tMakeR X.K C sp dvs t) := by
  obtain ⟨fd, ds, F, B, hd⟩ := D.ok
  exact pe_make M F hr hg hm B hd passF ha hdb he hpl
end
/-! what is never run -/
theorem pe_dead {X : Cx} {e : Expr} : PE X e (fun _ _ _ => False) := ⟨fun _ _ _ _ _ _ h => h.elim⟩
theorem pt_dead {X : Cx} {e : Expr} : PT X e (fun _ _ _ => False) := ⟨fun _ _ _ _ _ _ h => h.elim⟩
theorem ps_dead {X : Cx} {s : Stmt} : PS X s (fun _ _ _ => False) := ⟨fun _ _ _ _ _ _ h => h.elim⟩
theorem pss_dead {X : Cx} {s : List Stmt} : PSs X s (fun _ _ _ => False) := ⟨fun _ _ _ _ _ _ h => h.elim⟩
end Sg

/-! tuple * int, from once on; tuple(text) -/
namespace Sg
open PySem PySem.Spec PyProof.Rows L2
theorem tuple_mul1 (l : Addr) (items : Array Value) (n : Nat) (dd : Option Addr) (sl : Array (Option Value)) (u : Tok) :
    Meets (Builtin.«tuple.__mul__» ⟨[.ref l, .int 1 u], []⟩) (fun _ R s => s.heap.get? l = some { cls := .type "tuple", dict := dd, data := .seq items n, slots := sl } ∧ R (.ok (.ret (Value.ref l))) s) :=
  .of_wp fun prog w A R s h => by
    obtain ⟨hp, g, d, tk, os⟩ := s
    obtain ⟨hl, h⟩ := h
    have f1 := AutoSeq1.idx_int
    have c0 : (decide ((1 : Int) < -(2 ^ 63)) || decide ((1 : Int) ≥ 2 ^ 63)) = false := by decide
    have c1 : (items.isEmpty || (1 : Int) == 1) = true := by rw [show ((1 : Int) == 1) = true by decide, Bool.or_true]
    wp_walk using wpAny_loadPart' hl
    repeat (first
      | (refine wpAny_ite_false (decide_eq_false (by rw [c0]; exact Bool.false_ne_true)) ?_; wp_walk using wpAny_loadPart' hl)
      | (refine wpAny_ite_true (decide_eq_true c1) ?_; wp_walk using wpAny_loadPart' hl))
    exact ⟨_, rfl, h⟩
def rRepT1 (K : PySem.W.Frag) : R2 := fun x y H Q => ∃ l k xs, x = .ref l ∧ y = .int k ∧ SqT K H l xs ∧ xs ≠ [] ∧ 1 ≤ k ∧ k ≤ 1000 ∧ xs.length ≤ 1000 ∧ ∀ p H', Same H H' → H' p = some (.tup (List.replicate k.toNat xs).flatten) ∨ (H' = H ∧ p = l ∧ k = 1) → Q (.ref p) H'
theorem op_repT1 {X : Cx} : OpR X (binaryOp .Mult) (rRepT1 X.K) := by
  intro pins s σ H x y v u Q I rx ry h
  obtain ⟨l, k, xs, rfl, rfl, hT, hne, h1, h2, hz, q⟩ := h
  by_cases hk : k = 1
  · subst hk
    cases rx
    obtain ⟨t, rfl⟩ := ry
    obtain ⟨its, r, ⟨⟨cls, dd, data, sl⟩, ho, hc, n, hd⟩, hs⟩ := I.tuple hT
    simp only at hc hd
    subst hc hd
    refine wpAny_binaryOp_repeat_ref (T := "tuple") (U := "int") (by decide) ⟨_, ho, rfl⟩ (fun s' => typeIs_int s' 1 t) noFill_tuple_mul F.fills_int_mul F.slot_int_rmul repeat_tuple F.slot_int_index.lookup
      (call_meets F.slot_int_rmul (typeIs_int s 1 t) F.entry_int_rmul (F.args_int_rmul_2 _ _) (int_rmul_tuple 1 t l its.toArray n dd sl)
        ⟨ho, rfl, ⟨_, ho, rfl⟩, call_meets F.slot_tuple_mul ⟨_, ho, rfl⟩ F.entry_tuple_mul (F.args_tuple_mul_2 _ _) (tuple_mul1 l its.toArray n dd sl t) ⟨ho, ?_⟩⟩)
    exact ⟨.ref l, H, I, rfl, q l H (fun _ _ h => h) (.inr ⟨rfl, rfl, rfl⟩)⟩
  · exact op_repT pins s σ H _ _ v u Q I rx ry ⟨l, k, xs, rfl, rfl, hT, hne, by omega, h2, hz, fun p hp => q p _ (same_upd hp) (.inl upd_same)⟩
def rTupS : List V → Hp → VK → Prop := fun xs H Q => match xs with
  | [.str z] => z.cps.size ≤ sizeLine ∧ ∀ p, H p = none → Q (.ref p) (upd H p (.tup ((signsOf z).map V.str)))
  | _ => False
theorem call_tupS {X : Cx} (hc : X.calm = true) : CallR X (.type "tuple") rTupS := by
  intro pins s σ H xs us Q I r h
  match xs, h with
  | [.str z], ⟨hz, q⟩ =>
    obtain ⟨u, rfl, t, rfl⟩ := vals1 r
    refine call_tuple_str (I.ok.hd hc) z t (fun h' tk acc' kp hit => ?_) hz
    have hv := vals_signs hit
    have hlen : ((signsOf z).map V.str).length ≤ sizeLine := by
      rw [List.length_map]; unfold signsOf; rw [List.length_map, Array.length_toList]; exact hz
    have I2 := I.kept (t' := tk) kp
    refine ⟨.ref h'.objs.size, _, I2.laid (a := h'.objs.size) (o := .tup ((signsOf z).map V.str)) (t' := tk) (fun b ob q => Heap.get?_push_of_some _ q) (Nat.le_refl _) ?_, rfl, q _ (I2.hok.fresh (Nat.le_refl _))⟩
    exact ⟨hlen, acc'.toList, by simpa using hv, by simpa using IsTup.new _ _⟩
end Sg

/-! tables of the program's top: a dict of texts to data; the hook that sees them -/
namespace Sg
open PySem PySem.Spec PyProof.Rows L2
mutual
/-- the value is this data, in what is written -/
def datB (K : PySem.W.Frag) : PyData → Value → Bool
  | .none, .none => true
  | .bool b, .bool c => b == c
  | .int i, .int j _ => decide (i = j)
  | .str x, .str y _ => decide (x = y)
  | .tuple ds, .ref a => (match K.lookup a with
    | some ⟨.type c, _, .seq its _, _⟩ => decide (c = "tuple") && (decide (its.size ≤ sizeLine) && datsB K ds its.toList)
    | _ => false)
  | _, _ => false
def datsB (K : PySem.W.Frag) : List PyData → List Value → Bool
  | [], [] => true
  | d :: ds, u :: us => datB K d u && datsB K ds us
  | _, _ => false
end
/-- data of what is written, at any heap -/
def DatK (K : PySem.W.Frag) (x : V) (d : PyData) : Prop := ∀ H : Hp, Dp K H x d
def DatsK (K : PySem.W.Frag) (xs : List V) (ds : List PyData) : Prop := ∀ H : Hp, DpAll K H xs ds
mutual
theorem datB_ok {K : PySem.W.Frag} : ∀ (d : PyData) (u : Value), datB K d u = true → ∃ x, RelV x u ∧ DatK K x d
  | .none, u, h => by
    cases u with
    | none => exact ⟨.non, rfl, fun _ => .non⟩
    | _ => simp [datB] at h
  | .bool b, u, h => by
    cases u with
    | bool c =>
      have e : b = c := by simpa [datB] using h
      exact ⟨.bl b, by rw [e]; rfl, fun _ => .bl b⟩
    | _ => simp [datB] at h
  | .int i, u, h => by
    cases u with
    | int j t =>
      have e : i = j := by simpa [datB] using h
      exact ⟨.int i, ⟨t, by rw [e]⟩, fun _ => .int i⟩
    | _ => simp [datB] at h
  | .str x, u, h => by
    cases u with
    | str y t =>
      have e : x = y := by simpa [datB] using h
      exact ⟨.str x, ⟨t, by rw [e]⟩, fun _ => .str x⟩
    | _ => simp [datB] at h
  | .list ds, u, h => by simp [datB] at h
  | .dict ds, u, h => by simp [datB] at h
  | .tuple ds, u, h => by
    cases u with
    | ref a =>
      rw [datB] at h
      split at h
      · rename_i c od its n sl q
        rw [Bool.and_eq_true, Bool.and_eq_true] at h
        obtain ⟨xs, r, hd⟩ := datsB_ok ds its.toList h.2.2
        refine ⟨.ref a, rfl, fun H => .tup (.inr ⟨_, its, n, q, congrArg Value.type (of_decide_eq_true h.1), rfl, of_decide_eq_true h.2.1, r⟩) (hd H)⟩
      · cases h
    | _ => simp [datB] at h
theorem datsB_ok {K : PySem.W.Frag} : ∀ (ds : List PyData) (us : List Value), datsB K ds us = true → ∃ xs, Vals xs us ∧ DatsK K xs ds
  | [], us, h => by
    cases us with
    | nil => exact ⟨[], .nil, fun _ => .nil⟩
    | cons u us => simp [datsB] at h
  | d :: ds, us, h => by
    cases us with
    | nil => simp [datsB] at h
    | cons u us =>
      rw [datsB, Bool.and_eq_true] at h
      obtain ⟨x, r, hx⟩ := datB_ok d u h.1
      obtain ⟨xs, rs, hxs⟩ := datsB_ok ds us h.2
      exact ⟨x :: xs, .cons r rs, fun H => .cons (hx H) (hxs H)⟩
end
/-- a table's values -/
def tabB (K : PySem.W.Frag) (a : Addr) (kvs : List (Str × PyData)) : Bool := kvs.all fun q => match PySem.W.nsIn K a q.1 with
  | some (some u) => datB K q.2 u
  | _ => false
theorem tabB_ok {K : PySem.W.Frag} {a : Addr} {kvs : List (Str × PyData)} (h : tabB K a kvs = true) {q : Str × PyData} (hq : q ∈ kvs) : ∃ u x, PySem.W.nsIn K a q.1 = some (some u) ∧ RelV x u ∧ DatK K x q.2 := by
  have h2 := List.all_eq_true.mp h q hq
  cases e : PySem.W.nsIn K a q.1 with
  | none => rw [e] at h2; cases h2
  | some r =>
    rw [e] at h2
    cases r with
    | none => cases h2
    | some u =>
      obtain ⟨x, r, hx⟩ := datB_ok q.2 u h2
      exact ⟨u, x, rfl, r, hx⟩
theorem relV_ref {x : V} {a : Addr} (h : RelV x (.ref a)) : x = .ref a := by
  cases x with
  | ref b => cases h; rfl
  | int i => obtain ⟨t, e⟩ := (show ∃ t, Value.ref a = Value.int i t from h); cases e
  | str i => obtain ⟨t, e⟩ := (show ∃ t, Value.ref a = Value.str i t from h); cases e
  | byt i => obtain ⟨t, e⟩ := (show ∃ t, Value.ref a = Value.bytes i t from h); cases e
  | flt i => obtain ⟨t, e⟩ := (show ∃ t, Value.ref a = Value.float i t from h); cases e
  | _ => cases h
/-- D[k], D a dict of the text with text keys -/
def rKd (K : PySem.W.Frag) (d : Addr) : R2 := fun x y H Q => ∃ (z : Str) (u0 : Value) (v0 : V), x = .ref d ∧ y = .str z ∧ PySem.W.nsIn K d z = some (some u0) ∧ RelV v0 u0 ∧ Q v0 H
theorem ix_kd {X : Cx} {d : Addr} {es : Array DictEntry} {n : Nat} (D : KDict X.K X.w d es n) : IxR X (rKd X.K d) := by
  intro value slice pins s σ H x y v u Q I rx ry h hs
  have e : v = .ref d := by
    obtain ⟨z, u0, v0, rfl, _⟩ := h
    exact rx
  subst e
  exact tail_any (kd_type D I) PySem.F.slot_dict_getitem.lookup (op_item_kd D pins s σ H x y _ u Q I rx ry h) hs
/-! a dict laid by the top asks one row of the world's habits: both answers -/
def wB (w : World) (b : Bool) : World := { w with params := { w.params with followText := fun s => bif decide (s = "special-get-raises") then b else w.params.followText s } }
theorem wB_eq (w : World) : wB w (w.params.followText "special-get-raises") = w := by
  have h : (fun s : String => bif decide (s = "special-get-raises") then w.params.followText "special-get-raises" else w.params.followText s) = w.params.followText := funext fun s => by
    by_cases e : s = "special-get-raises"
    · rw [decide_eq_true e, e]
      rfl
    · rw [decide_eq_false e]
      rfl
  unfold wB
  rw [h]
/-! the hook with tables and one Bool more -/
/-- what is named within n steps of the globals, each once, told by the bits of a number -/
def addB (p : List Addr × Nat) (a : Addr) : List Addr × Nat := match Nat.beq (Nat.land (Nat.shiftRight p.2 a) 1) 1 with
  | true => p
  | false => (a :: p.1, Nat.lor p.2 (Nat.shiftLeft 1 a))
def addsB : List Addr → List Addr × Nat → List Addr × Nat
  | [], p => p
  | a :: l, p => addsB l (addB p a)
def nextB (g : Addr → Option Obj) : List Addr → List Addr × Nat → List Addr × Nat
  | [], p => p
  | a :: l, p => nextB g l (match g a with
    | some o => addsB (He.refsD o) p
    | none => p)
def bfsB (g : Addr → Option Obj) : Nat → List Addr → Nat → List Addr → List Addr
  | 0, _, _, all => all
  | n + 1, fr, m, all => match nextB g fr ([], m) with
    | (fr', m') => bfsB g n fr' m' (fr' ++ all)
def asB (g : Addr → Option Obj) (n : Nat) : List Addr := bfsB g n [mainGlobals] (Nat.shiftLeft 1 mainGlobals) [mainGlobals]
def obsY (ex : PySem.W.Frag → Bool) (fa : List He.Fa) (fn : List He.DefD) (ts : List He.Tab) (K : PySem.W.Frag) : Bool × He.AlT := (ex K, He.obsT fa fn ts K)
def obsYG (n : Nat) (ex : PySem.W.Frag → Bool) (fa : List He.Fa) (fn : List He.DefD) (ts : List He.Tab) (g : Addr → Option Obj) : Bool × He.AlT := obsY ex fa fn ts (He.frG g (asB g n))
def SaysY (ex : PySem.W.Frag → Bool) (fa : List He.Fa) (fn : List He.DefD) (ts : List He.Tab) (w : World) (K : PySem.W.Frag) : Prop := He.SaysT fa fn ts w K ∧ ex K = true
def hookY (n : Nat) (ex : PySem.W.Frag → Bool) (fa : List He.Fa) (fn : List He.DefD) (ts : List He.Tab) : PySem.W.Hook where
  α := Bool × He.AlT
  obs := fun s => obsYG n ex fa fn ts s.heap.get?
  val := fun w => (true, He.valT fn ts w)
  says := fun w h => ∃ K : PySem.W.Frag, K.In h ∧ SaysY ex fa fn ts w K
  of := fun _ _ e => ⟨_, He.frG_in, congrArg (fun z : Bool × He.AlT => z.2) e, congrArg (fun z : Bool × He.AlT => z.1) e⟩
  keeps := fun _ _ _ ⟨K, hK, c⟩ k => ⟨K, PySem.W.Frag.In.keeps hK k, c⟩
theorem obsYG_eq {n : Nat} {ex : PySem.W.Frag → Bool} {fa : List He.Fa} {fn : List He.DefD} {ts : List He.Tab} {g : Addr → Option Obj} {s : Shared} (h : ∀ a, g a = s.heap.get? a) : obsYG n ex fa fn ts g = (hookY n ex fa fn ts).obs s := by
  have e : g = s.heap.get? := funext h
  rw [e]; rfl
end Sg

/-! t[::-1] of a tuple; list.extend(tuple); del xs[a:] -/
namespace Sg
open PySem PySem.Spec PyProof.Rows L2
section
variable {prog : Program} {w : World} {A : Around} {E : Value → Shared → Prop} {s : Shared}
theorem fm_congr {α β : Type} {f g : α → Option β} : ∀ (l : List α), (∀ x ∈ l, f x = g x) → l.filterMap f = l.filterMap g
  | [], _ => rfl
  | a :: l, h => by rw [List.filterMap_cons, List.filterMap_cons, h a (List.mem_cons_self ..), fm_congr l fun x hx => h x (List.mem_cons_of_mem _ hx)]
theorem adjust_rev (n : Nat) : Builtin.Slice.sliceAdjust none none (-1) (n : Int) = ((n : Int) - 1, -1) := rfl
theorem places_rev (n : Nat) : Builtin.Slice.slicePlaces ((n : Int) - 1) (-1) (-1) = n := by
  unfold Builtin.Slice.slicePlaces
  have h1 : ¬ ((-1 : Int) > 0) := by decide
  simp only [h1, if_false, show (-(-1) : Int) = 1 by rfl, Int.ediv_one]
  split <;> omega
theorem pick_rev (xs : Array Value) : ((List.range xs.size).filterMap fun (m : Nat) => xs[((xs.size : Int) - 1 + (m : Int) * (-1)).toNat]?).toArray = xs.toList.reverse.toArray := by
  rw [← PySem.W.krv_pick]
  unfold slicePick
  rw [PySem.W.krv_bounds]
  show _ = ((sliceRange ((xs.size : Int) - 1) (-1) (-1)).filterMap (xs[·]?)).toArray
  rw [PySem.W.krv_sliceRange, List.filterMap_map]
  refine congrArg List.toArray (fm_congr _ fun m hm => ?_)
  have := List.mem_range.mp hm
  show xs[_]? = xs[_]?
  rw [show ((xs.size : Int) - 1 + (m : Int) * (-1)).toNat = xs.size - 1 - m by omega]
theorem getItem_tuple_rev {t sl : Addr} {items : Array Value} {vl vu vs : Value} {Q : Value → Shared → Prop} (ht : IsTup s.heap t items) (hs : s.heap.IsSliceOf sl vl vu vs) (pl : IsPart vl none) (pu : IsPart vu none) (ps : IsPart vs (some (-1)))
    (h : Q (.ref s.heap.objs.size) { s with heap := s.heap.push { cls := .type "tuple", data := .seq items.toList.reverse.toArray } }) (hsz : items.size ≤ sizeLine) : wpAny (model prog w) A (getItem (.ref t) (.ref sl)) Q E s := by
  have htake : sizeOk (.seq items.toList.reverse.toArray) := by
    show items.toList.reverse.toArray.size ≤ sizeLine
    rw [List.size_toArray, List.length_reverse, Array.length_toList]
    exact hsz
  obtain ⟨os, hos, hcs, hds⟩ := id hs
  have hTs : s.TypeIs (.ref sl) "slice" := ⟨os, hos, hcs⟩
  unfold getItem
  try with_reducible refine wpAny_holding ?_
  first | refine wpAny_bind (wpAny_pure ?_) | skip
  refine wpAny_bind (wpAny_sequenceKey ht.typeIs (by decide) ?_)
  refine wpAny_bind (wpAny_callSpecial?_slot (name := Str.ofString "__getitem__") ht.typeIs PyProof.Rows.slot_tuple_getitem
    (wpAny_call_entry PyProof.Rows.slot_tuple_getitem ht.typeIs entry_tuple_getitem ?_ (args_tuple_getitem _ _)))
  show wpAny _ _ (Builtin.Tuple.tupleItemsOf (.ref t) >>= _) _ _ s
  refine wpAny_bind (tupleItemsOf_ ht ?_)
  refine wpAny_bind (wpAny_typeOf hTs ?_)
  rw [if_pos (by decide)]
  unfold Builtin.Slice.sliceApplied Builtin.Slice.sliceFields
  refine wpAny_bind (wpAny_bind (wpAny_bind (wpAny_field hos hds (x := vl) rfl (wpAny_bind (wpAny_field hos hds (x := vu) rfl (wpAny_bind (wpAny_field hos hds (x := vs) rfl (wpAny_pure ?_))))))))
  refine wpAny_bind (HT.slicePart_ ps ?_)
  show wpAny _ _ (if ((-1 : Int) == 0) = true then _ else _) _ _ s
  rw [if_neg (by decide)]
  refine wpAny_bind (HT.slicePart_ pl (wpAny_bind (HT.slicePart_ pu (wpAny_bind (wpAny_pure ?_)))))
  show wpAny _ _ (match Builtin.Slice.sliceAdjust none none (-1) (items.size : Int) with | (lo, hi) => pure (lo, (-1 : Int), Builtin.Slice.slicePlaces lo hi (-1))) _ _ s
  rw [adjust_rev]
  show wpAny _ _ (pure (((items.size : Int) - 1), (-1 : Int), Builtin.Slice.slicePlaces ((items.size : Int) - 1) (-1) (-1))) _ _ s
  rw [places_rev]
  refine wpAny_pure ?_
  show wpAny _ _ (if ((((items.size : Int) - 1) == 0 && (-1 : Int) == 1 && items.size == items.size) = true) then _ else _) _ _ s
  have hno : ¬ ((((items.size : Int) - 1) == 0 && (-1 : Int) == 1 && items.size == items.size) = true) := by
    rw [show ((-1 : Int) == 1) = false by decide, Bool.and_false, Bool.false_and]
    exact Bool.false_ne_true
  rw [if_neg hno, pick_rev]
  first
    | exact wpAny_bind (m := Builtin.Tuple.tupleExact _) (wpAny_newObj_type (wpAny_pure ⟨_, rfl, wpAny_pure h⟩) htake)
    | exact wpAny_bind (m := Builtin.Tuple.tupleExact _) (wpAny_newObj_type (wpAny_bind (wpAny_pure (wpAny_pure ⟨_, rfl, wpAny_pure h⟩))) htake)
    | exact wpAny_bind (wpAny_bind (m := Builtin.Tuple.tupleExact _) (wpAny_newObj_type (wpAny_pure (wpAny_pure ⟨_, rfl, wpAny_pure h⟩)) htake))
    | exact wpAny_bind (wpAny_bind (m := Builtin.Tuple.tupleExact _) (wpAny_newObj_type (wpAny_pure ⟨_, rfl, wpAny_pure h⟩) htake))
end
def tRevT (K : PySem.W.Frag) (te : TE) : TE := fun σ H Q => te σ H fun x H1 => ∃ a xs, x = .ref a ∧ SqT K H1 a xs ∧ ∀ p, H1 p = none → Q (.ref p) (upd H1 p (.tup xs.reverse))
theorem pe_revT {X : Cx} {e : Expr} {te : TE} {k : Nat} {p1 p2 p3 pos : Pos} (he : PE X e te) : PE X (.Subscript e (.Slice none none (some (.UnaryOp .USub (.Constant (.int 1) k p1) p2)) p3) pos) (tRevT X.K te) := by
  refine ⟨fun pins s σ H Q I h => ?_⟩
  refine Subscript_ (thn (he.run pins s σ H _ I h) fun v s1 ⟨x, H1, I1, r1, q1⟩ => ?_)
  obtain ⟨a, xs, ex, hx, q⟩ := q1
  subst ex
  cases r1
  have hst : PO X (some (.UnaryOp .USub (.Constant (.int 1) k p1) p2)) (tPart (tUn (rU fun i => .int (-i)) (tC (.int 1)))) := po_some (pe_un un_neg pe_int)
  refine wpAny_Slice (thn (po_none.run pins s1 σ H1 (fun o H2 => o = none ∧ H2 = H1) I1 ⟨rfl, rfl⟩) fun vl s2 ⟨l, H2, I2, pl, el, e2⟩ => ?_)
  subst el e2
  refine thn (po_none.run pins s2 σ H2 (fun o H3 => o = none ∧ H3 = H2) I2 ⟨rfl, rfl⟩) fun vu s3 ⟨u, H3, I3, pu, eu, e3⟩ => ?_
  subst eu e3
  refine thn (hst.run pins s3 σ H3 (fun o H4 => o = some (-1) ∧ H4 = H3) I3 ⟨1, rfl, -1, rfl, rfl, rfl⟩) fun vs s4 ⟨o, H4, I4, ps, eo, e4⟩ => ?_
  subst eo e4
  have I5 : Inv X pins σ H4 { s4 with heap := s4.heap.push { cls := .type "slice", data := .fields #[vl, vu, vs] } } := I4.kept (t' := s4.toks) fun b ob q => Heap.get?_push_of_some _ q
  obtain ⟨its, r, ht, hz⟩ := I5.tuple hx
  have hlen := r.length
  show wpAny (model X.prog X.w) X.A (subscriptTail e (.Slice none none (some (.UnaryOp .USub (.Constant (.int 1) k p1) p2)) p3) (.ref a) (.ref s4.heap.objs.size)) (EP X pins σ Q) X.xe { s4 with heap := s4.heap.push { cls := .type "slice", data := .fields #[vl, vu, vs] } }
  refine tail_any (ops := [.ref a, .ref s4.heap.objs.size]) ht.typeIs (PyProof.Rows.slot_tuple_getitem.lookup) ?_ (by with_unfolding_all rfl)
  refine getItem_tuple_rev ht (Heap.IsSliceOf.new _ vl vu vs) pl pu ps ?_ (by rw [List.size_toArray]; omega)
  refine ⟨.ref _, _, I5.laid (t' := s4.toks) (o := .tup xs.reverse) (fun b ob q => Heap.get?_push_of_some _ q) (Nat.le_refl _) ?_, rfl, q _ (I5.hok.fresh (Nat.le_refl _))⟩
  exact ⟨by rw [List.length_reverse]; exact hz, _, r.reverse, IsTup.new _ _⟩
theorem ext_tup (l : Addr) (items : Array Value) (n : Nat) (b : Addr) (items2 : Array Value) (n2 : Nat) (dd : Option Addr) (sl : Array (Option Value)) (hs0 : ¬(!items.isEmpty && Builtin.List.listTooLong (items.size + items2.size)) = true) (hs1 : items.size ≤ sizeLine) (hs2 : items.size + items2.size ≤ sizeLine + 1) :
    Meets (Builtin.«list.extend» ⟨[.ref l, .ref b], []⟩) (fun _ R s => s.heap.get? l = some { cls := .type "list", dict := none, data := .seq items n, slots := #[] } ∧ s.heap.get? b = some { cls := .type "tuple", dict := dd, data := .seq items2 n2, slots := sl } ∧ R (.ok (.ret Value.none)) { s with heap := s.heap.update l (Obj.mapSeq fun x => x ++ items2), toks := s.toks }) :=
  .of_wp fun prog w A R s h => by
    obtain ⟨hp, g, d, tk, os⟩ := s; obtain ⟨hl, hb, h⟩ := h; have f1 := AutoSeq1.idx_int; have f2 := AutoSeq1.sub_tuple_tuple; have f3 := AutoSeq1.sub_list_list; have f4 := AutoSeq1.sub_tuple_list; have f5 := AutoSeq1.sub_list_tuple;
    have hz' : (items ++ items2).size ≤ sizeLine + 1 := by rw [Array.size_append]; exact hs2
    wp_walk using (wpAny_updateSeq hl rfl (hz := hs1) (_hz' := hz')), wpAny_loadPart' hl, wpAny_loadPart' hb; exact ⟨_, rfl, h⟩
def rExtendT (K : PySem.W.Frag) : V → List V → Hp → VK → Prop := fun x vs H Q => ∃ l b xs zs, x = .ref l ∧ vs = [.ref b] ∧ H l = some (.lst xs) ∧ SqT K H b zs ∧ xs.length + zs.length ≤ sizeLine ∧ Q .non (upd H l (.lst (xs ++ zs)))
theorem mt_extendT {X : Cx} : MtM X "list.extend" (rExtendT X.K) := by
  intro pins s σ H x vs v us Q I rx rv h
  obtain ⟨l, b, xs, zs, rfl, rfl, hH, hB, hz, q⟩ := h
  cases rx
  obtain ⟨u, rfl, ru⟩ := rv.one
  cases ru
  obtain ⟨z, its, n, r, hl, e⟩ := I.lstM hH
  obtain ⟨its2, r2, ⟨⟨oc, od, odat, osl⟩, e2, ec, n2, ed⟩, hz2⟩ := I.tuple hB
  dsimp only at ec ed
  subst ec
  subst ed
  have hl2 := r2.length
  have hsz : its.toArray.size + its2.toArray.size ≤ sizeLine := by rw [List.size_toArray, List.size_toArray]; omega
  have hlong : ¬ (!its.toArray.isEmpty && Builtin.List.listTooLong (its.toArray.size + its2.toArray.size)) = true := by
    rw [notLongL hsz, Bool.and_false]
    exact Bool.false_ne_true
  refine call_meets F.slot_list_extend ⟨_, e, rfl⟩ F.entry_list_extend (F.args_list_extend_2 _ _)
    (ext_tup l its.toArray n b its2.toArray n2 od osl hlong (by rw [List.size_toArray]; omega) (by omega)) ⟨e, e2, ?_⟩
  refine ⟨.non, _, I.lset (its' := its ++ its2) hH e (by simp) (r.append r2) ?_, rfl, q⟩
  rw [List.length_append]
  omega
section
variable {prog : Program} {w : World} {A : Around} {E : Value → Shared → Prop} {s : Shared}
theorem bounds_from {a n : Nat} (h : a ≤ n) : sliceBounds (some (a : Int)) none none n = ((a : Int), (n : Int), 1) := by
  simp only [sliceBounds, Option.getD_none]
  have h1 : ¬ ((a : Int) < 0) := by omega
  simp only [h1, if_false, show (1 : Int) > 0 by decide, if_true]
  congr 1
  omega
theorem keep_pre (a n : Nat) : ∀ (xs : List Value) (k : Nat), k + xs.length = n → ((xs.zipIdx k).filterMap fun (p : Value × Nat) => if (decide ((a : Int) ≤ (p.2 : Int)) && decide ((p.2 : Int) < (n : Int)) && (((p.2 : Int) - (a : Int)) % 1 == 0)) = true then none else some p.1) = xs.take (a - k)
  | [], k, _ => by simp
  | x :: xs, k, h => by
    rw [List.length_cons] at h
    rw [List.zipIdx_cons, List.filterMap_cons, keep_pre a n xs (k + 1) (by omega)]
    have e1 : (((k : Int) - (a : Int)) % 1 == 0) = true := by rw [Int.emod_one]; rfl
    have e2 : decide ((k : Int) < (n : Int)) = true := decide_eq_true (by omega)
    simp only [e1, e2, Bool.and_true]
    by_cases hk : a ≤ k
    · rw [decide_eq_true (by omega : (a : Int) ≤ (k : Int)), if_pos rfl, show a - k = 0 by omega, show a - (k + 1) = 0 by omega]
      rfl
    · rw [decide_eq_false (by omega : ¬ (a : Int) ≤ (k : Int)), if_neg Bool.false_ne_true, show a - k = (a - (k + 1)) + 1 by omega, List.take_succ_cons]
theorem delItem_slice {l sl : Addr} {items : Array Value} {n : Nat} {vl : Value} {a : Nat} {Q : Unit → Shared → Prop}
    (e : s.heap.get? l = some { cls := .type "list", data := .seq items n }) (hs : s.heap.IsSliceOf sl vl .none .none) (pl : IsPart vl (some (a : Int))) (hc : a ≤ items.size)
    (hsz : items.size ≤ sizeLine) (h : ∀ f : Array Value → Array Value, f items = (items.toList.take a).toArray → Q () { s with heap := s.heap.update l (Obj.mapSeq f) }) :
    wpAny (model prog w) A (delItem (.ref l) (.ref sl)) Q E s := by
  have hl : s.heap.IsList l items := PySem.IsL.isList e
  obtain ⟨os, hos, hcs, hds⟩ := id hs
  have hTs : s.TypeIs (.ref sl) "slice" := ⟨os, hos, hcs⟩
  have hstep : ¬ ((rawPart none == rawInt 0) = true) := Bool.false_ne_true
  refine wpAny_delItem_slot hl.typeIs (by decide) F.slot_list_delitem (wpAny_call_entry F.slot_list_delitem hl.typeIs F.entry_list_delitem ?_ (F.args_list_delitem_2 _ _))
  show wpAny _ _ (Builtin.List.listSubscript? (.ref sl) >>= _) _ _ s
  refine wpAny_bind ?_
  unfold Builtin.List.listSubscript?
  refine wpAny_bind (wpAny_specialOf hTs slice_no_index ?_)
  simp only [Option.isNone_none, if_true]
  refine wpAny_pure ?_
  show wpAny _ _ (typeOf (.ref sl) >>= _) _ _ s
  refine wpAny_bind (wpAny_typeOf hTs ?_)
  first
    | rw [if_neg (by decide)]
    | refine PySem.W.KFB.if_not (by decide) ?_
  rw [listSliceParts_eq]
  refine wpAny_bind (wpAny_bind (wpAny_field hos hds (x := .none) rfl (wpAny_bind (wpAny_listPart .none ?_))))
  rw [if_neg hstep]
  refine wpAny_bind (wpAny_field hos hds (x := vl) rfl (wpAny_bind (wpAny_listPart pl ?_)))
  refine wpAny_bind (wpAny_field hos hds (x := .none) rfl (wpAny_bind (wpAny_listPart .none (wpAny_pure ?_))))
  refine wpAny_bind ?_
  unfold Builtin.List.listItems
  refine wpAny_bind (wpAny_seqItems e rfl (wpAny_pure ?_))
  refine wpAny_bind (wpAny_of_eq ((sliceIndices_raw (some (a : Int)) none none items.size (by simp)).trans (congrArg (pure : Int × Int × Int → Sem (Int × Int × Int)) (bounds_from hc))) ?_)
  refine wpAny_bind (wpAny_rule ?_)
  have key := keep_pre a items.size items.toList 0 (by rw [Array.length_toList, Nat.zero_add])
  rw [Nat.sub_zero] at key
  refine wpAny_bind (wpAny_updateSeq (hz := hsz) (_hz' := ?_) e rfl ?_)
  · refine wpAny_bind (wpAny_letGo ?_)
    exact wpAny_pure ⟨.none, rfl, h _ (congrArg List.toArray key)⟩
  · refine Nat.le_trans ?_ (Nat.le_succ_of_le hsz)
    rw [List.size_toArray]
    exact Nat.le_trans (List.length_filterMap_le _ _) (by rw [List.length_zipIdx, Array.length_toList]; exact Nat.le_refl _)
end
section
variable {X : Cx}
/-- del xs[e:] -/
def tDelFrom (to ti : TE) : TS := fun D σ H => to σ H fun x H1 => ti σ H1 fun y H2 => ∃ (l : Addr) (xs : List V) (a : Nat), x = .ref l ∧ y = .int a ∧ H2 l = some (.lst xs) ∧ a ≤ xs.length ∧ D.nx σ (upd H2 l (.lst (xs.take a)))
theorem ps_delFrom {o i : Expr} {to ti : TE} {p2 tpos pos : Pos} (ho : PE X o to) (hi : PE X i ti) : PS X (.Delete [.Subscript o (.Slice (some i) none none p2) tpos] pos) (tDelFrom to ti) := by
  refine ⟨fun pins s σ H D I h => ?_⟩
  refine wpAny_Delete (wpAny_deleteEach_cons (wpAny_delete_Subscript (thn (ho.run pins s σ H _ I h) fun u s1 ⟨x, H1, I1, rx, q1⟩ => ?_)))
  refine wpAny_Slice ?_
  rw [evalPart_some]
  refine thn (hi.run pins s1 σ H1 _ I1 q1) fun vl s2 ⟨y, H2, I2, ry, q2⟩ => ?_
  obtain ⟨l, xs, a, ex, ey, hH, ha, q⟩ := q2
  subst ex
  subst ey
  cases rx
  obtain ⟨t, rfl⟩ := (show ∃ t, vl = Value.int a t from ry)
  rw [evalPart_none]
  refine wpAny_pure ?_
  refine wpAny_pure ?_
  have I4 : Inv X pins σ H2 { s2 with heap := s2.heap.push { cls := .type "slice", data := .fields #[.int a t, .none, .none] } } := I2.kept (t' := s2.toks) fun b ob q => Heap.get?_push_of_some _ q
  obtain ⟨z, its, n, r, hl, e⟩ := I4.lstM hH
  refine delItem_slice (a := a) e (Heap.IsSliceOf.new _ _ _ _) (.int _ _) (by rw [List.size_toArray]; omega) (by rw [List.size_toArray]; omega) fun f hf => ?_
  refine wpAny_deleteEach_nil ⟨σ, _, I4.lset (its' := its.take a) (t' := s2.toks) hH e hf (r.take a) (by rw [List.length_take]; omega), q⟩
end
section
variable {X : Cx} {k : Nat} {C : Str} {ps : List Str} {dvs : List V} {sp : Sp} {p pos : Pos}
theorem pe_makeR0 (M : Mk X.K (He.ga X.K C) (He.ma X.K (He.ga X.K C) "__init__")) (hm : X.mg C = some (.ref (He.ga X.K C))) (D : DkM X.prog X.w X.K X.mg X.base k C "__init__" ps dvs sp) (hr : Room (k + 1) X.A)
    (hg : Gl X C := by rfl) (hdb : (C == ("__debug__" : Str)) = false := by decide) :
    PE X (.Call (.Name C p) [] [] pos) (tMakeR X.K C sp dvs tNil) := by
  obtain ⟨fd, ds, F, B, hd⟩ := D.ok
  exact pe_make0 M F hr hg hm B hd passF hdb
end
end Sg

/-! powers of great whole numbers -/
namespace Sg
open PySem PySem.Spec PyProof.Rows L2
def CPowB (i j : Int) : Prop := 0 ≤ j ∧ (Builtin.Int.intBits i : Int) * j ≤ 2 ^ 27
theorem op_powB {X : Cx} : OpR X (binaryOp .Pow) (rI CPowB fun i j => .int (i ^ j.toNat)) := opI fun _ _ _ _ _ _ _ hc q => pow_int hc.1 hc.2 q
/-- f() of a def with a contract -/
theorem pe_callR0 {X : Cx} {k : Nat} {x : Str} {ps : List Str} {sp : Sp} {W : WX} {p pos : Pos} (D : Dk X.prog X.w X.K X.mg X.base k x ps sp) (hr : Room k X.A) (tk : Takes X W) (hg : Gl X x := by rfl)
    (hdb : (x == ("__debug__" : Str)) = false := by decide) : PE X (.Call (.Name x p) [] [] pos) (tCallR sp W tNil) := by
  obtain ⟨fd, F, B⟩ := D.ok
  refine ⟨fun pins s σ H Q I h => ?_⟩
  refine wpAny_Call_Name_kw (ld_glob I hg D.gm ?_ hdb)
  exact PySem.W.callWith_K0 I.kIn D.kp (run_fnS (us := []) F hr B (passAt tk σ) I .nil h)
end Sg

/-! an own error whose __init__ says super().__init__(..) first -/
namespace Sg
open PySem PySem.Spec PyProof.Rows L2 NdefX

/-- what the written part says of the cell, the code, the class -/
structure SupC (K : PySem.W.Frag) (main : Str) (f cc cda C : Addr) (qual : Str) : Prop where
  cell : ∃ cl cld csl, K.lookup cc = some ⟨cl, cld, .cell (some (.ref C)), csl⟩
  code : ∃ ccl cdd vs ccs, K.lookup cda = some ⟨ccl, cdd, .fields vs, ccs⟩ ∧ ∃ file tf, vs[2]? = some (Value.str file tf) ∧ (main == file) = true
  cdq : PySem.W.codeIn K (.ref cda) qual = true
  sup : PySem.W.ks_superIn K C C "__init__" = some (some (.builtin "ValueError.__init__"))
  ve : PySem.W.subIn K (.ref C) (.type "ValueError") = some true
  me : PySem.W.subIn K (.ref C) (.ref C) = some true
  any : PySem.W.nsIn K cStatics "thirdparty.any" = some none

def supB (K : PySem.W.Frag) (main : Str) (f cc cda C : Addr) (qual : Str) : Bool :=
  (match K.lookup cc with | some ⟨_, _, .cell (some v), _⟩ => decide (v = .ref C) | _ => false) &&
  (match K.lookup cda with | some ⟨_, _, .fields vs, _⟩ => (match vs[2]? with | some (Value.str file _) => main == file | _ => false) | _ => false) &&
  PySem.W.codeIn K (.ref cda) qual && decide (PySem.W.ks_superIn K C C "__init__" = some (some (.builtin "ValueError.__init__"))) &&
  decide (PySem.W.subIn K (.ref C) (.type "ValueError") = some true) && decide (PySem.W.subIn K (.ref C) (.ref C) = some true) && decide (PySem.W.nsIn K cStatics "thirdparty.any" = some none)
theorem supB_ok {K : PySem.W.Frag} {main : Str} {f cc cda C : Addr} {qual : Str} (h : supB K main f cc cda C qual = true) : SupC K main f cc cda C qual := by
  unfold supB at h
  simp only [Bool.and_eq_true, decide_eq_true_eq] at h
  obtain ⟨⟨⟨⟨⟨⟨h1, h2⟩, h3⟩, h4⟩, h5⟩, h6⟩, h7⟩ := h
  refine ⟨?_, ?_, h3, h4, h5, h6, h7⟩
  · split at h1
    · rename_i a b v c e
      exact ⟨a, b, c, by rw [e, of_decide_eq_true h1]⟩
    · cases h1
  · split at h2
    · rename_i a b v c e
      refine ⟨a, b, v, c, e, ?_⟩
      split at h2
      · rename_i file tf e2
        exact ⟨file, tf, e2, h2⟩
      · cases h2
    · cases h2

section
variable {CX : CXT} {P : Program} {w : World} {K : PySem.W.Frag} {mg : Str → Option Value} {base : Heap} {N ps : List Str} {f cc cda C : Addr} {k : Nat} {sp : Sp} {name qual : Str} {params : Arguments} {body : List Stmt} {scope : Scope} {dV kV doc pm ct oc : Value} {an od : Option Addr} {osl : Array (Option Value)}
abbrev supF (name qual : Str) (params : Arguments) (body : List Stmt) (scope : Scope) (cc cda : Addr) : NF := ⟨name, qual, params, body, scope, [("__class__", cc)], cda⟩

theorem sup_cells {A : Around} {outer : List Env} {s : Shared} {H : Hp} (S : SupC K P.main.file f cc cda C qual) (e0 : Env0 P w K mg base A outer s H) : CellsAt [("__class__", cc)] ["__class__"] [none] s.heap H := by
  obtain ⟨cl, cld, csl, hc⟩ := S.cell
  have hb := e0.bs cc _ (e0.mod.kin _ _ hc)
  have hl : ∀ y c, List.lookup y [(("__class__" : Str), cc)] = some c → y = "__class__" ∧ c = cc := fun y c e => by
    have q := PySem.mem_of_lookup e
    simp only [List.mem_singleton, Prod.mk.injEq] at q
    exact q
  refine ⟨rfl, fun y c e => ?_, fun x y c e1 e2 => by rw [(hl x c e1).1, (hl y c e2).1], fun i y hi => ?_⟩
  · rw [(hl y c e).2]
    exact ⟨hb.2, _, _, hb.1, rfl⟩
  · match i, hi with
    | 0, hi =>
      have hi : some ("__class__" : Str) = some y := hi
      cases hi
      refine ⟨cc, rfl, fun v hv => ?_⟩
      have hv : some (none : Option V) = some (some v) := hv
      cases hv
    | i + 1, hi =>
      have hi : ([] : List Str)[i]? = some y := hi
      simp at hi

/-- super().__init__(..) -/
theorem sup_call {X : Cx} {pins : List (Addr × Obj)} {σ : L2.St} {H : Hp} {s : Shared} {a : Addr} {ar : Arg} {bd : List Stmt} {es : List Expr} {e : Expr} {p0 p1 p2 pos pos' : Pos} {ta : TA} {Q : Flow → Shared → Prop}
    (I : Inv X pins σ H s) (S : SupC X.K X.prog.main.file f cc cda C qual) (T : OexC X.K C)
    (henv : X.env = envF (supF name qual params body scope cc cda) f X.env.locals)
    (lk : X.K.lookup f = some ⟨oc, od, .func (PySem.W.fnX name qual params body scope [("__class__", cc)] dV kV doc pm an (.ref cda) ct), osl⟩)
    (hp : (params.posonlyargs ++ params.args).head? = some ar) (hself : X.N[0]? = some ar.arg) (hs0 : σ[0]? = some (some (.ref a)))
    (hks : scope.names.lookup ("super" : Str) = some .globalImplicit) (hkc : scope.names.lookup ("__class__" : Str) = some .free) (hka : scope.names.lookup ar.arg = some .local)
    (hmg : X.mg "super" = none) (htop : (X.prog.main.scope.names.lookup ("super" : Str)).isSome = false) (hboot : bootBuiltins "super" = some (.type "super"))
    (hpa : PA X (e :: es) ta) (he0 : H a = some (exo a C none))
    (he : starEach (e :: es) X.env = (false, eval e X.env) :: starEach es X.env) (hpl : (backTo pos (starEach es X.env)).any (·.1) = false)
    {R : List V → Hp → Prop} (h : ta σ H R) (hR : ∀ ws H1, R ws H1 → ws.length ≤ 1000 ∧ H1 a = some (exo a C none) ∧ ∀ s', Inv X pins σ H1 s' → Q .next s')
    (hsw : swapsWith (.Call (.Attribute (.Call (.Name "super" p0) [] [] p1) "__init__" p2) (e :: es) [] pos) none pos'.line X.env = pure false) (hq : interactive X.env = false) (pl : Sem Bool)
    (hcall : eval (.Call (.Attribute (.Call (.Name "super" p0) [] [] p1) "__init__" p2) (e :: es) [] pos) X.env = (do
      let ov ← attributeBase (.Call (.Name "super" p0) [] [] p1) "__init__" X.env (eval (.Call (.Name "super" p0) [] [] p1) X.env)
      standAt p2.atName
      let (f, first) ← holding [ov] (getMethod ov "__init__" pl)
      callWith pos f first (backTo pos (starEach (e :: es) X.env)) [])) :
    _root_.PySem.wpAt (model X.prog X.w) X.A (.func bd X.env) (exec (.Expr (.Call (.Attribute (.Call (.Name "super" p0) [] [] p1) "__init__" p2) (e :: es) [] pos) pos') X.env) Q X.xe s := by
  obtain ⟨cl, cld, csl, hc⟩ := S.cell
  obtain ⟨ccl, cdd, vs, ccs, hcode, file, tf, hvs, hfile⟩ := S.code
  obtain ⟨nm, q, Nn, bs, bm, sn, sub, ab, col, dd, k0, k1, k2, k3, k5, hC, hbm⟩ := T.cls
  have X0 := I.kIn
  obtain ⟨t1, ho⟩ := exo_at I.hok he0
  obtain ⟨m, hns, hloc⟩ := I.loc
  have hka' : X.env.kindOf ar.arg = some .local := by rw [henv]; exact hka
  have hm : m ar.arg = some (.ref a) := by
    obtain ⟨u, ru, l⟩ := hloc 0 ar.arg _ hself hs0 (.inl hka')
    obtain rfl : u = Value.ref a := ru
    rcases l with ⟨_, z⟩ | ⟨z, _⟩
    · exact z
    · rw [hka'] at z
      rcases z with z | z <;> cases z
  obtain ⟨mb, b1, b2⟩ := I.mod.blt
  refine ks_wpAt_Expr_any ?_ hq hsw
  refine ks_wpAt_MethodCall (pl := pl) ?_ hcall
  have hk : X.env.scope.kind = .function := I.ok.kind
  refine ks_wpAt_super_base (f := f) (cc := cda) (ar := ar) (by rw [henv]; exact hks) (by rw [henv]; exact hkc) (by decide) (by rw [henv]) (X0 _ _ lk) rfl hp (by rw [henv]) (X0 _ _ hcode) rfl hvs hfile htop ?_
  have hsup : X.env.kindOf "super" = some .globalImplicit := by rw [henv]; exact hks
  refine PySem.W.ks_loadName_global hk hsup (Calls.loadGlobal_builtin (by rw [I.ok.glob]; exact I.mod.glob.keeps I.bk) hmg (by rw [I.ok.blt]; exact b1.keeps I.bk) ((b2 _ (by decide)).trans hboot) ⟨rfl, ?_⟩)
  refine wpAny_loadName_free (c := cc) hk (by rw [henv]; exact hkc) (by rw [henv]; rfl) ⟨_, X0 _ _ hc, rfl⟩ ?_
  refine wpAny_loadName_local hk hka' hns hm ?_
  obtain ⟨hh, g, d, t, os⟩ := s
  refine ks_wpAny_isType_cls (X0 _ _ hC) rfl ⟨rfl, ?_⟩
  refine ks_wpAny_call_super (X0 _ _ hC) rfl ho rfl (fun c z => nomatch z) (PySem.W.looks_subIn X0 S.me) (fun h1 e1 kp1 => ?_)
  have I1 : Inv X pins σ H ⟨h1, g, d, t, os⟩ := I.kept (t' := t) kp1
  have ho1 := kp1 _ _ ho
  have X1 : X.K.In h1 := I1.kIn
  cases hcl : PySem.W.clsIn X.K C with
  | none =>
    exfalso
    have z := S.sup
    unfold PySem.W.ks_superIn at z
    rw [hcl] at z
    cases z
  | some cd =>
  have hsp := S.sup
  unfold PySem.W.ks_superIn at hsp
  rw [hcl] at hsp
  have IA : PySem.W.InstAt h1 a _ C none := ⟨ho1, rfl, rfl, trivial⟩
  have hI : PySem.W.Looks (model X.prog X.w) h1 (isInstance (.ref a) (.type "ValueError")) true := IA.type.andThen (PySem.W.looks_subIn X1 S.ve)
  refine PySem.W.kxs_getMethod PySem.W.kxs_ValueError (D := C) (x := a) (C := C) (l₀ := cd.mro) e1 (PySem.W.looks_opaque X1 S.any) (fun A Q E s k q => wpAny_bind ((PySem.W.looks_clsIn X1 hcl) A _ E s k (wpAny_pure q))) rfl X1 hsp hI (PySem.W.ks_ne X1 IA hcl) (by decide) ?_
  have kp2 : ∀ b o, h1.get? b = some o → (h1.push (PySem.W.kxs_mw "ValueError.__init__" a)).get? b = some o := fun b o z => Heap.get?_push_of_some _ z
  have hu : (h1.push (PySem.W.kxs_mw "ValueError.__init__" a)).get? h1.objs.size = some (PySem.W.kxs_mw "ValueError.__init__" a) := Heap.get?_push_size _ rfl
  have I2 : Inv X pins σ H ⟨h1.push (PySem.W.kxs_mw "ValueError.__init__" a), g, d, t + 1, os⟩ := I1.kept (t' := t + 1) kp2
  have hfr : H h1.objs.size = none := I1.hok.fresh (Nat.le_refl _)
  have I3 : Inv X ((h1.objs.size, PySem.W.kxs_mw "ValueError.__init__" a) :: pins) σ H ⟨h1.push (PySem.W.kxs_mw "ValueError.__init__" a), g, d, t + 1, os⟩ := I2.pins_of fun p hp => by
    rcases List.mem_cons.mp hp with rfl | hp
    · refine ⟨hu, hfr, Nat.ne_of_gt I1.lt, I1.nofs (Nat.le_refl _), fun v z => nomatch z⟩
    · exact I2.pin p (List.mem_append_right _ hp)
  rw [he]
  refine PySem.W.kxs_callWith (i := "ValueError.__init__") (x := a) (by show (false || (backTo pos (starEach es X.env)).any (·.1)) = false; rw [hpl]; rfl) ?_
  refine Calls.evalArgs_plain ?_
  have hpr := hpa.run pos _ _ σ H _ I3 h
  rw [he] at hpr
  refine thn hpr fun us s1 ⟨ws, H1, J, r, qR⟩ => ?_
  obtain ⟨hl, ea, q⟩ := hR ws H1 qR
  have hpin := J.pin (h1.objs.size, PySem.W.kxs_mw "ValueError.__init__" a) (List.mem_append_right _ List.mem_cons_self)
  refine ⟨hpin.1, ?_⟩
  have J0 : Inv X pins σ H1 s1 := J.pins_of fun p hp => J.pin p (List.mem_append_right _ (List.mem_cons_of_mem _ hp))
  obtain ⟨t2, ho2⟩ := exo_at J.hok ea
  have hlen : us.length ≤ sizeLine := by
    rw [← Paired.length r, sizeLine_eq]
    omega
  have XJ := J.kIn
  obtain ⟨hh2, g2, d2, tk2, os2⟩ := s1
  refine wpAny_call (codeAny_of_tree ?_)
  show wpAny _ X.A.in1 (callAny (.ref h1.objs.size) ⟨us, []⟩) _ _ _
  simp only [callAny]
  refine wpAny_bind (wpAny_load hpin.1 ?_)
  simp only [PySem.W.kxs_mw, show (Value.type "method-wrapper" == Value.type "method" || Value.type "method-wrapper" == Value.type "builtin_function_or_method" || Value.type "method-wrapper" == Value.type "method-wrapper") = true by decide, if_true]
  refine PySem.W.KFB.if_so (by decide) ?_
  refine wpAny_bind (PySem.W.check_bound_init F.excBase_ValueError.toExcCallFacts (XJ _ _ hC) ho2 rfl ?_)
  refine wpAny_bind (wpAny_pure (wpAny_pure ?_))
  refine ⟨plainId_quiet F.excBase_ValueError.init.plain _, codeAny_builtin F.excBase_ValueError.initEntry ?_⟩
  refine PySem.W.exc_init_tree (cls := .ref C) (t0 := t2) (dv := none) (c2 := .none) (c3 := .none) (b4 := .bool false) ho2 hlen fun h' k' hx ht => ?_
  have Jw := J0.write (t' := tk2) (x := a) (e := a) (o := exo a C none) (by rw [ea]; exact True.intro) (.inl rfl) k' ⟨_, hx⟩ (exo_ok hx)
  have eu : upd H1 a (exo a C none) = H1 := by
    funext b
    by_cases hb : b = a
    · rw [hb, upd_same, ea]
    · rw [upd_ne hb]
  rw [eu] at Jw
  exact q _ Jw

/-- THE RULE: a method whose first statement is super().__init__(..) -/
theorem fn_sup {rest : List Stmt} {e : Expr} {es : List Expr} {p0 p1 p2 pos pos' : Pos} {ar : Arg}
    (lk : K.lookup f = some ⟨oc, od, .func (PySem.W.fnX name qual params body scope [("__class__", cc)] dV kV doc pm an (.ref cda) ct), osl⟩)
    (hb0 : body = .Expr (.Call (.Attribute (.Call (.Name "super" p0) [] [] p1) "__init__" p2) (e :: es) [] pos) pos' :: rest)
    (S : SupC K P.main.file f cc cda C qual) (T : OexC K C) (NS : NScope N ps ["__class__"] scope)
    (hp : (params.posonlyargs ++ params.args).head? = some ar) (hself : N[0]? = some ar.arg) (hpar : ar.arg ∈ ps)
    (hks : scope.names.lookup ("super" : Str) = some .globalImplicit) (hmg : mg "super" = none) (htop : (P.main.scope.names.lookup ("super" : Str)).isSome = false) (hboot : bootBuiltins "super" = some (.type "super"))
    (he : ∀ L, starEach (e :: es) (envF (supF name qual params body scope cc cda) f L) = (false, eval e (envF (supF name qual params body scope cc cda) f L)) :: starEach es (envF (supF name qual params body scope cc cda) f L))
    (hpl : ∀ L, (backTo pos (starEach es (envF (supF name qual params body scope cc cda) f L))).any (·.1) = false)
    (hsw : ∀ L, swapsWith (.Call (.Attribute (.Call (.Name "super" p0) [] [] p1) "__init__" p2) (e :: es) [] pos) none pos'.line (envF (supF name qual params body scope cc cda) f L) = pure false)
    (hcall : ∀ L, ∃ pl : Sem Bool, eval (.Call (.Attribute (.Call (.Name "super" p0) [] [] p1) "__init__" p2) (e :: es) [] pos) (envF (supF name qual params body scope cc cda) f L) = (do
      let ov ← attributeBase (.Call (.Name "super" p0) [] [] p1) "__init__" (envF (supF name qual params body scope cc cda) f L) (eval (.Call (.Name "super" p0) [] [] p1) (envF (supF name qual params body scope cc cda) f L))
      standAt p2.atName
      let (fv, first) ← holding [ov] (getMethod ov "__init__" pl)
      callWith pos fv first (backTo pos (starEach (e :: es) (envF (supF name qual params body scope cc cda) f L))) []))
    (len : ∀ vs H Q E, sp vs H Q E → vs.length = ps.length)
    (hbody : ∀ (A : Around) (outer : List Env) (s : Shared) (H : Hp) (vs : List V) (Q : VK) (E : XK), Room k (A.deeper (envF (supF name qual params body scope cc cda) f s.heap.objs.size)) → sp vs H Q E →
      ∃ (ta : TA) (t : TS) (a : Addr), PA (ncx CX P w K mg base N (supF name qual params body scope cc cda) f A outer s H E) (e :: es) ta ∧ PSs (ncx CX P w K mg base N (supF name qual params body scope cc cda) f A outer s H E) rest t ∧ vs[0]? = some (.ref a) ∧ H a = some (exo a C none) ∧
        ta (startF N vs [none]) H fun ws H1 => ws.length ≤ 1000 ∧ H1 a = some (exo a C none) ∧ t { nx := fun _ H' => Q .non H', rt := Q } (startF N vs [none]) H1) :
    FnOk P w K mg base CX (k + 1) f (PySem.W.fnX name qual params body scope [("__class__", cc)] dV kV doc pm an (.ref cda) ct) ps sp := by
  refine ⟨len, fun A outer s H args us vs Q E hr e0 hb r hsp => ?_⟩
  have hl := len _ _ _ _ hsp
  have KX : K.In s.heap := e0.mod.kin.keeps fun b o e => (e0.bs b o e).1
  have lim : s.heap.NoLimit := e0.mod.nolimit.keeps fun b o e => (e0.bs b o e).1
  refine codeAny_call_function hr.depth (KX _ _ lk) rfl NS.co NS.gen rfl (PySem.W.codeRec_of KX S.cdq) (hb _ _ _ _ ?_)
  refine wpAny_newFunctionEnv NS.nocell (fun ⟨n, _⟩ hy => NS.par n (List.of_mem_zip hy).1) (fun h₁ hns hsb => ⟨lim.fresh _ hsb, ?_⟩) NS.kind
  show codeAny _ _ (.func body (envF (supF name qual params body scope cc cda) f s.heap.objs.size)) _ _
  refine ks_codeAny_funcAt ?_
  have kp : ∀ b o, s.heap.get? b = some o → h₁.get? b = some o := fun b o e => hsb.extBut b o (Nat.ne_of_lt (Heap.lt_size e)) (Heap.get?_push_of_some _ e)
  obtain ⟨ta, t, a, hta, ht, ev, ea, hq⟩ := hbody A outer s H vs Q E (hr.deeper _) hsp
  have I : Inv (ncx CX P w K mg base N (supF name qual params body scope cc cda) f A outer s H E) [] (startF N vs [none]) H { s with heap := h₁, toks := s.toks + (ps.zip us).length } := inv_startN NS hr.hd e0 hl r (sup_cells S e0) hns kp
  have fin : ∀ {s' : Shared} {σ' : L2.St} {H' : Hp} {v : V} {u : Value}, Inv (ncx CX P w K mg base N (supF name qual params body scope cc cda) f A outer s H E) [] σ' H' s' → L2.RelV v u → Q v H' → CE outer P w H s Q u s' :=
    fun {s' σ' H' v u} J rv q => ⟨v, H', J.os, J.bare, J.base, J.hok, rv, q⟩
  obtain ⟨pl, hc⟩ := hcall s.heap.objs.size
  have e1 : execs body (envF (supF name qual params body scope cc cda) f s.heap.objs.size) = execs (.Expr (.Call (.Attribute (.Call (.Name "super" p0) [] [] p1) "__init__" p2) (e :: es) [] pos) pos' :: rest) (envF (supF name qual params body scope cc cda) f s.heap.objs.size) := congrArg (fun b => execs b _) hb0
  rw [e1]
  refine ks_wpAt_execs_cons ?_
  have hs0 : (startF N vs [none])[0]? = some (some (.ref a)) := by
    unfold startF
    cases vs with
    | nil => cases ev
    | cons v vs =>
      cases ev
      rfl
  have hk1 : scope.names.lookup ("__class__" : Str) = some .free := NS.frk _ List.mem_cons_self
  refine sup_call (X := ncx CX P w K mg base N (supF name qual params body scope cc cda) f A outer s H E) (σ := startF N vs [none]) I S T rfl lk hp hself hs0 hks hk1 (NS.par _ hpar) hmg htop hboot hta ea (he _) (hpl _) hq (fun ws H1 hh => ⟨hh.1, hh.2.1, fun s1 J => ?_⟩) (hsw _) I.quiet pl hc
  exact wpAt_of_wpAny (wpAny_mono (ht.run [] s1 _ H1 _ J hh.2.2) (fun fl s' hs => by
    cases fl with
    | ret u =>
      obtain ⟨v, σ', H', J, rv, q⟩ := hs
      exact fin J rv q
    | next =>
      obtain ⟨σ', H', J, q⟩ := hs
      exact fin (v := V.non) (u := Value.none) J rfl q
    | brk =>
      obtain ⟨_, _, _, q⟩ := hs
      exact False.elim q
    | cont =>
      obtain ⟨_, _, _, q⟩ := hs
      exact False.elim q) fun e s' hs => hs)
end
end Sg

/-! own errors whose __init__ says super().__init__: the hook's facts of them, their raising; methods that let errors out -/
namespace Sg
open PySem PySem.Spec PyProof.Rows L2 NdefX
structure SupD where
  cls : Str
  qual : Str
  params : Arguments
  body : List Stmt
  scope : Scope
  fs : List Str
abbrev SupW : Type := Option (Str × Str × Arguments × FuncBody × Scope × Addr × List Str × Addr)
def supW (K : PySem.W.Frag) (d : SupD) : SupW := match K.lookup (He.ma K (He.ga K d.cls) "__init__") with
  | some ⟨_, _, .func fd, _⟩ => some (fd.name, fd.qualname, fd.params, fd.body, fd.scope, fd.globals, fd.closure.map (·.1), fd.builtins)
  | _ => none
def SupD.val (d : SupD) : SupW := some ("__init__", d.qual, d.params, .stmts d.body, d.scope, mainGlobals, ["__class__"], builtinsNs)
def oexB (K : PySem.W.Frag) (C : Addr) : Bool := (match K.lookup C with
  | some ⟨.type t, _, .cls cd, sl⟩ => (match cd.mro, sl.toList with
    | .ref C' :: bm, [_, _, _, _, some (.builtin n), _] => decide (t = "type") && (decide (C' = C) && (decide (n = "ValueError.__new__") && (!cd.hasDel && (cd.hasDict && PySem.HandSPX.refsVE bm))))
    | _, _ => false)
  | _ => false) && (He.eqO (PySem.W.findIn K (.ref C) "__setattr__") (some (some (.builtin "object.__setattr__"))) && (decide (PySem.W.subIn K (.ref C) (.type "BaseException") = some true) && (decide (PySem.W.typeIn K (.ref C) = some (.type "type")) && PySem.W.keepIn K (.ref C))))
theorem oexB_ok {K : PySem.W.Frag} {C : Addr} (h : oexB K C = true) : OexC K C := by
  obtain ⟨h1, h⟩ := He.ba h
  obtain ⟨h2, h⟩ := He.ba h
  obtain ⟨h3, h⟩ := He.ba h
  obtain ⟨h4, h5⟩ := He.ba h
  refine ⟨?_, He.eqO_ok h2, of_decide_eq_true h3, of_decide_eq_true h4, h5⟩
  split at h1
  · rename_i t dd cd sl e
    split at h1
    · rename_i C' bm k0 k1 k2 k3 n k5 em es
      obtain ⟨a0, h1⟩ := He.ba h1
      obtain ⟨a1, h1⟩ := He.ba h1
      obtain ⟨a2, h1⟩ := He.ba h1
      obtain ⟨a3, h1⟩ := He.ba h1
      obtain ⟨a4, a5⟩ := He.ba h1
      obtain ⟨nm, bs, mro, ns, qn, hd, sn, sub, ab, col, del⟩ := cd
      have a0 := of_decide_eq_true a0
      have a1 := of_decide_eq_true a1
      have a2 := of_decide_eq_true a2
      dsimp only at em a3 a4 a5
      rw [Bool.not_eq_true'] at a3
      subst a0 a1 a2 em a3 a4
      obtain ⟨sa⟩ := sl
      dsimp only at es
      subst es
      exact ⟨nm, qn, ns, bs, bm, sn, sub, ab, col, dd, k0, k1, k2, k3, k5, e, a5⟩
    · cases h1
  · cases h1
def supOk (K : PySem.W.Frag) (main : Str) (d : SupD) : Bool := (match K.lookup (He.ma K (He.ga K d.cls) "__init__") with
  | some ⟨_, _, .func fd, _⟩ => (match fd.closure, fd.code with
    | [(n, cc)], .ref cda => decide (fd.defaults = .none) && supB K main 0 cc cda (He.ga K d.cls) d.qual
    | _, _ => false)
  | _ => false) && (oexB K (He.ga K d.cls) && (He.eqO (PySem.W.findIn K (.ref (He.ga K d.cls)) "__init__") (some (some (.ref (He.ma K (He.ga K d.cls) "__init__")))) &&
    (decide (PySem.W.typeIn K (.ref (He.ma K (He.ga K d.cls) "__init__")) = some (.type "function")) && ((d.fs.all fun n => He.eqO (PySem.W.findIn K (.ref (He.ga K d.cls)) n) (some none)) && xfB K (He.ga K d.cls)))))
/-- what is known of such an error -/
structure SupT (K : PySem.W.Frag) (mg : Str → Option Value) (main : Str) (d : SupD) : Prop where
  gm : mg d.cls = some (.ref (He.ga K d.cls))
  su : mg "super" = none
  lk : ∃ oc od kV doc pm an ct osl cc cda, K.lookup (He.ma K (He.ga K d.cls) "__init__") = some ⟨oc, od, .func (PySem.W.fnX "__init__" d.qual d.params d.body d.scope [("__class__", cc)] .none kV doc pm an (.ref cda) ct), osl⟩ ∧ SupC K main (He.ma K (He.ga K d.cls) "__init__") cc cda (He.ga K d.cls) d.qual
  ox : OexC K (He.ga K d.cls)
  it : PySem.W.findIn K (.ref (He.ga K d.cls)) "__init__" = some (some (.ref (He.ma K (He.ga K d.cls) "__init__")))
  ft : PySem.W.typeIn K (.ref (He.ma K (He.ga K d.cls) "__init__")) = some (.type "function")
  nf : ∀ n ∈ d.fs, PySem.W.findIn K (.ref (He.ga K d.cls)) n = some none
  xf : XfC K (He.ga K d.cls)
theorem supT_mk {K : PySem.W.Frag} {mg : Str → Option Value} {main : Str} {d : SupD} (gm : mg d.cls = some (.ref (He.ga K d.cls))) (su : mg "super" = none) (e : supW K d = d.val) (h : supOk K main d = true) : SupT K mg main d := by
  obtain ⟨h1, h⟩ := He.ba h
  obtain ⟨h2, h⟩ := He.ba h
  obtain ⟨h3, h⟩ := He.ba h
  obtain ⟨h4, h⟩ := He.ba h
  obtain ⟨h5, h6⟩ := He.ba h
  refine ⟨gm, su, ?_, oexB_ok h2, He.eqO_ok h3, of_decide_eq_true h4, fun n hn => He.eqO_ok (List.all_eq_true.mp h5 n hn), xfB_ok h6⟩
  unfold supW at e
  cases q : K.lookup (He.ma K (He.ga K d.cls) "__init__") with
  | none =>
    rw [q] at h1
    cases h1
  | some o =>
    obtain ⟨oc, od, dt, osl⟩ := o
    rw [q] at h1 e
    cases dt with
    | func fd =>
      obtain ⟨n1, n2, n3, n4, n5, n6, n7, n8, n9, n10, n11, n12, n13, n14, n15⟩ := fd
      have e2 : (some (n1, n2, n3, n4, n5, n6, n7.map (·.1), n15) : SupW) = some (("__init__" : Str), d.qual, d.params, FuncBody.stmts d.body, d.scope, mainGlobals, [("__class__" : Str)], builtinsNs) := e
      simp only [Option.some.injEq, Prod.mk.injEq] at e2
      obtain ⟨g1, g2, g3, g4, g5, g6, g7, g8⟩ := e2
      subst g1 g2 g3 g4 g5 g6 g8
      dsimp only at h1
      match n7, n13, h1, g7 with
      | [(n, cc)], .ref cda, h1, g7 =>
        obtain ⟨b1, b2⟩ := He.ba h1
        have b1 := of_decide_eq_true b1
        subst b1
        simp only [List.map_cons, List.map_nil, List.cons.injEq, and_true] at g7
        subst g7
        have S := supB_ok b2
        exact ⟨oc, od, n9, n10, n11, n12, n14, osl, cc, cda, rfl, S.cell, S.code, S.cdq, S.sup, S.ve, S.me, S.any⟩
    | _ => cases h1
/-! the hook -/
def obsZ (ex : PySem.W.Frag → Bool) (fa : List He.Fa) (fn : List He.DefD) (ts : List He.Tab) (su : List SupD) (K : PySem.W.Frag) : (Bool × He.AlT) × List SupW := (obsY ex fa fn ts K, su.map (supW K))
def obsZG (n : Nat) (ex : PySem.W.Frag → Bool) (fa : List He.Fa) (fn : List He.DefD) (ts : List He.Tab) (su : List SupD) (g : Addr → Option Obj) : (Bool × He.AlT) × List SupW := obsZ ex fa fn ts su (He.frG g (cStatics :: asB g n))
structure SaysZ (ex : PySem.W.Frag → Bool) (fa : List He.Fa) (fn : List He.DefD) (ts : List He.Tab) (su : List SupD) (w : World) (K : PySem.W.Frag) : Prop where
  y : SaysY ex fa fn ts w K
  s : su.map (supW K) = su.map SupD.val
def hookZ (n : Nat) (ex : PySem.W.Frag → Bool) (fa : List He.Fa) (fn : List He.DefD) (ts : List He.Tab) (su : List SupD) : PySem.W.Hook where
  α := (Bool × He.AlT) × List SupW
  obs := fun s => obsZG n ex fa fn ts su s.heap.get?
  val := fun w => ((true, He.valT fn ts w), su.map SupD.val)
  says := fun w h => ∃ K : PySem.W.Frag, K.In h ∧ SaysZ ex fa fn ts su w K
  of := fun _ _ e => ⟨_, He.frG_in, ⟨congrArg (fun z : (Bool × He.AlT) × List SupW => z.1.2) e, congrArg (fun z : (Bool × He.AlT) × List SupW => z.1.1) e⟩, congrArg (fun z : (Bool × He.AlT) × List SupW => z.2) e⟩
  keeps := fun _ _ _ ⟨K, hK, c⟩ k => ⟨K, PySem.W.Frag.In.keeps hK k, c⟩
theorem obsZG_eq {n : Nat} {ex : PySem.W.Frag → Bool} {fa : List He.Fa} {fn : List He.DefD} {ts : List He.Tab} {su : List SupD} {g : Addr → Option Obj} {s : Shared} (h : ∀ a, g a = s.heap.get? a) : obsZG n ex fa fn ts su g = (hookZ n ex fa fn ts su).obs s := by
  have e : g = s.heap.get? := funext h
  rw [e]; rfl
theorem SaysZ.sup {ex : PySem.W.Frag → Bool} {fa : List He.Fa} {fn : List He.DefD} {ts : List He.Tab} {su : List SupD} {w : World} {K : PySem.W.Frag} (c : SaysZ ex fa fn ts su w K) (i : Nat) {d : SupD} (h : su[i]? = some d := by rfl) : supW K d = d.val := by
  have e : (su.map (supW K))[i]? = (su.map SupD.val)[i]? := by rw [c.s]
  rw [List.getElem?_map, List.getElem?_map, h] at e
  exact Option.some.inj e
/-! raising -/
structure DkO (P : Program) (w : World) (K : PySem.W.Frag) (mg : Str → Option Value) (base : Heap) (k : Nat) (x : Str) (ps : List Str) (sp : Sp) : Prop where
  ok : ∃ fd, FnOk P w K mg base (L2.CX P w) k (He.ma K (He.ga K x) "__init__") fd ps sp ∧ Binds K fd ps []
theorem pmk_oexR {X : Cx} {x main : Str} {d : SupD} {k : Nat} {ps : List Str} {sp : Sp} {e : Expr} {es : List Expr} {ta : TA} {p pos : Pos} (T : SupT X.K X.mg main d) (D : DkO X.prog X.w X.K X.mg X.base k x ps sp) (hr : Room (k + 1) X.A) (ha : PA X (e :: es) ta) (hg : Gl X x := by rfl) (ex : d.cls = x := by rfl)
    (hdb : (x == ("__debug__" : Str)) = false := by decide) (he : starEach (e :: es) X.env = (false, eval e X.env) :: starEach es X.env := by rfl) (hpl : (backTo pos (starEach es X.env)).any (·.1) = false := by rfl) :
    PMk X (.Call (.Name x p) (e :: es) [] pos) (tMkO (He.ga X.K x) sp [] ta) := by
  subst ex
  obtain ⟨fd, F, B⟩ := D.ok
  exact pmk_oex T.ox T.it T.ft F hr B .nil passF hg T.gm ha hdb he hpl
/-- the fields of an error made with two fields -/
theorem oex_two {H : Hp} {a d C : Addr} {f1 f2 : Str} {y1 y2 : V} (ha : H a = none) (hd : upd H a (exo a C none) d = none) (hn : d ≠ a) :
    upd (del (upd (upd (upd (upd H a (exo a C none)) d (exd d [(f1, y1)])) a (exo a C (some d))) d (exd d [(f2, y2), (f1, y1)])) a) d (.xd [(f2, y2), (f1, y1)]) = upd H d (.xd [(f2, y2), (f1, y1)]) := by
  funext b
  by_cases hb : b = d
  · rw [hb, upd_same, upd_same]
  · rw [upd_ne hb, upd_ne hb]
    by_cases h2 : b = a
    · rw [h2, del_same, ha]
    · rw [del_ne h2, upd_ne hb, upd_ne h2, upd_ne hb, upd_ne h2]
theorem oex_one {H : Hp} {a d C : Addr} {f1 : Str} {y1 : V} (ha : H a = none) (hd : upd H a (exo a C none) d = none) (hn : d ≠ a) :
    upd (del (upd (upd (upd H a (exo a C none)) d (exd d [(f1, y1)])) a (exo a C (some d))) a) d (.xd [(f1, y1)]) = upd H d (.xd [(f1, y1)]) := by
  funext b
  by_cases hb : b = d
  · rw [hb, upd_same, upd_same]
  · rw [upd_ne hb, upd_ne hb]
    by_cases h2 : b = a
    · rw [h2, del_same, ha]
    · rw [del_ne h2, upd_ne h2, upd_ne hb, upd_ne h2]
/-! methods that let errors out: E is the running def's own wish -/
theorem passE {X : Cx} {E : XK} (tk : Takes X (fun cls d _ H => E cls d H)) : Passes (L2.CX X.prog X.w) X E := fun pins σ H s e s' I c => passAt (W := fun cls d _ H => E cls d H) tk σ pins H s e s' I c
def tMethE (K : PySem.W.Frag) (C m : Str) (sp : Sp) (dvs : List V) (E : XK) (ta : TE) (t : TA) : TE := tMeth (He.ga K C) m sp dvs E ta t
section
variable {X : Cx} {k : Nat} {C m : Str} {ps : List Str} {dvs : List V} {sp : Sp} {E : XK} {o e : Expr} {es : List Expr} {ta : TE} {t : TA} {pos apos p : Pos}
theorem pe_methE {pl : Sem Bool} (tk : Takes X (fun cls d _ H => E cls d H)) (he : PE X o ta) (c : Cls X.K (He.ga X.K C)) (hm : Meth X.K (He.ga X.K C) m (He.ma X.K (He.ga X.K C) m)) (D : DkM X.prog X.w X.K X.mg X.base k C m ps dvs sp) (hr : Room k X.A) (ha : PA X (e :: es) t)
    (hst : starEach (e :: es) X.env = (false, eval e X.env) :: starEach es X.env := by rfl) (hpl : (backTo pos (starEach es X.env)).any (·.1) = false := by rfl)
    (ht : eval (.Call (.Attribute o m apos) (e :: es) [] pos) X.env = (do
      let ov ← eval o X.env
      standAt apos.atName
      let (f, first) ← holding [ov] (getMethod ov m pl)
      callWith pos f first (backTo pos (starEach (e :: es) X.env)) (backToKw pos (keywordEach [] X.env))) := by rfl) :
    PE X (.Call (.Attribute o m apos) (e :: es) [] pos) (tMethE X.K C m sp dvs E ta t) := by
  obtain ⟨fd, ds, F, B, hd⟩ := D.ok
  exact pe_meth he c hm F hr B hd (passE tk) ha hst hpl ht
theorem pe_methE0 {pl : Sem Bool} (tk : Takes X (fun cls d _ H => E cls d H)) (he : PE X o ta) (c : Cls X.K (He.ga X.K C)) (hm : Meth X.K (He.ga X.K C) m (He.ma X.K (He.ga X.K C) m)) (D : DkM X.prog X.w X.K X.mg X.base k C m ps dvs sp) (hr : Room k X.A)
    (ht : eval (.Call (.Attribute o m apos) [] [] pos) X.env = (do
      let ov ← eval o X.env
      standAt apos.atName
      let (f, first) ← holding [ov] (getMethod ov m pl)
      callWith pos f first (backTo pos (starEach [] X.env)) (backToKw pos (keywordEach [] X.env))) := by rfl) :
    PE X (.Call (.Attribute o m apos) [] [] pos) (tMethE X.K C m sp dvs E ta tNil) := by
  obtain ⟨fd, ds, F, B, hd⟩ := D.ok
  exact pe_meth0 he c hm F hr B hd (passE tk) ht
end
end Sg

/-! dicts whose keys are tuples of any kind (whole numbers, texts, None and tuples in them), with values of any kind -/
namespace Sg
open PySem PySem.Spec PyProof.Rows L2
mutual
inductive KeyV (H : Hp) : V → NestedKey → Prop
  | non : KeyV H .non .none
  | int (i : Int) : KeyV H (.int i) (.num i)
  | str (x : Str) : KeyV H (.str x) (.text x)
  | tup {a : Addr} {xs : List V} {ks : List NestedKey} : H a = some (.tup xs) → KeyVs H xs ks → KeyV H (.ref a) (.tup ks)
inductive KeyVs (H : Hp) : List V → List NestedKey → Prop
  | nil : KeyVs H [] []
  | cons {x : V} {k : NestedKey} {xs : List V} {ks : List NestedKey} : KeyV H x k → KeyVs H xs ks → KeyVs H (x :: xs) (k :: ks)
end
section
variable {H H' : Hp}
mutual
theorem KeyV.mono (s : ∀ b xs, H b = some (.tup xs) → H' b = some (.tup xs)) : ∀ (k : NestedKey) (x : V), KeyV H x k → KeyV H' x k
  | .none, x, h => by cases h; exact .non
  | .num i, x, h => by cases h; exact .int i
  | .text y, x, h => by cases h; exact .str y
  | .tup ks, x, h => by
    cases h with
    | tup h1 h2 => exact .tup (s _ _ h1) (KeyVs.mono s ks _ h2)
theorem KeyVs.mono (s : ∀ b xs, H b = some (.tup xs) → H' b = some (.tup xs)) : ∀ (ks : List NestedKey) (xs : List V), KeyVs H xs ks → KeyVs H' xs ks
  | [], xs, h => by cases h; exact .nil
  | k :: ks, xs, h => by
    cases h with
    | cons h1 h2 => exact .cons (KeyV.mono s k _ h1) (KeyVs.mono s ks _ h2)
end
end
section
variable {P : Program} {w : World} {H : Hp} {h : Heap}
mutual
theorem key_is (ok : HOk P w H h) : ∀ (k : NestedKey) (x : V) (u : Value), KeyV H x k → RelV x u → NestedIs h k u
  | .none, x, u, hk, r => by
    cases hk
    cases (show u = Value.none from r)
    exact .none
  | .num i, x, u, hk, r => by
    cases hk
    obtain ⟨t, rfl⟩ := (show ∃ t, u = Value.int i t from r)
    exact .int i t
  | .text y, x, u, hk, r => by
    cases hk
    obtain ⟨t, rfl⟩ := (show ∃ t, u = Value.str y t from r)
    exact .text y t
  | .tup ks, x, u, hk, r => by
    cases hk with
    | @tup a xs _ h1 h2 =>
      cases (show u = Value.ref a from r)
      obtain ⟨_, its, r2, o, g1, g2, n, g3⟩ := (show ObjOk P w H h a (.tup _) from ok a _ h1)
      exact .tup g1 g2 g3 (keys_is ok ks xs its h2 r2)
theorem keys_is (ok : HOk P w H h) : ∀ (ks : List NestedKey) (xs : List V) (us : List Value), KeyVs H xs ks → Vals xs us → NestedAll h ks us
  | [], xs, us, hk, r => by
    cases hk
    cases r
    exact .nil
  | k :: ks, xs, us, hk, r => by
    cases hk with
    | cons h1 h2 =>
      cases r with
      | cons r1 r2 => exact .cons (key_is ok k _ _ h1 r1) (keys_is ok ks _ _ h2 r2)
end
end
/-- an entry: the key, where it stands, the value -/
abbrev TE3 : Type := NestedKey × Addr × V
def tEnt (p : TE3) (x : NestedKey × Addr × Value) : Prop := p.1 = x.1 ∧ p.2.1 = x.2.1 ∧ RelV p.2.2 x.2.2
def TupD (P : Program) (w : World) (h : Heap) (d : Addr) (kvs : List TE3) : Prop :=
  (d == sysModules) = false ∧ ∃ xs, Paired tEnt kvs xs ∧ ∃ o es ep, h.get? d = some o ∧ o.ExactDict ∧ o.data = .dict es ep ∧ es.toList = xs.map (entryOfKey (nestedKind P w)) ∧ (xs.map (·.1)).Nodup
def dTu (P : Program) (w : World) (d : Addr) (kvs : List TE3) : HO := .ext fun h => TupD P w h d kvs
def KeyAt (H : Hp) (b : Addr) (k : NestedKey) : Prop := KeyV H (.ref b) k ∧ k.depth ≤ 8
def EntT (H : Hp) (kvs : List TE3) : Prop := ∀ e ∈ kvs, KeyAt H e.2.1 e.1
def valT (kvs : List TE3) (k : NestedKey) : Option V := (kvs.find? fun e => decide (e.1 = k)).map (·.2.2)
theorem KeyAt.mono {H H' : Hp} (s : ∀ b xs, H b = some (.tup xs) → H' b = some (.tup xs)) {b : Addr} {k : NestedKey} (h : KeyAt H b k) : KeyAt H' b k := ⟨KeyV.mono s _ _ h.1, h.2⟩
theorem EntT.mono {H H' : Hp} (s : ∀ b xs, H b = some (.tup xs) → H' b = some (.tup xs)) {kvs : List TE3} (h : EntT H kvs) : EntT H' kvs := fun e he => (h e he).mono s
theorem dTu_new {P : Program} {w : World} {H : Hp} {h : Heap} {d : Addr} {kvs : List TE3} (x : TupD P w h d kvs) : ObjOk P w H h d (dTu P w d kvs) := by
  obtain ⟨hd, xs, pr, o, es, ep, ho, r⟩ := id x
  refine ⟨x, ⟨o, ho⟩, fun h1 h2 p k => ?_⟩
  obtain ⟨hd, xs, pr, o, es, ep, ho, r⟩ := p
  exact ⟨hd, xs, pr, o, es, ep, k o ho, r⟩
theorem tkey_of {P : Program} {w : World} {H : Hp} {h : Heap} {b : Addr} {k : NestedKey} (ok : HOk P w H h) (x : KeyAt H b k) : (nestedKind P w).is h k b := ⟨key_is ok k _ _ x.1 rfl, x.2⟩
section
variable {P : Program} {w : World} {H : Hp} {h : Heap} {d : Addr} {kvs : List TE3}
theorem dTu_get (ok : HOk P w H h) (e : H d = some (dTu P w d kvs)) : TupD P w h d kvs := (show ObjOk P w H h d (.ext _) from ok d _ e).1
theorem dTu_of (ok : HOk P w H h) (e : H d = some (dTu P w d kvs)) (en : EntT H kvs) : (d == sysModules) = false ∧ ∃ xs, Paired tEnt kvs xs ∧ h.DictOfH (nestedKind P w) d xs := by
  obtain ⟨hd, xs, pr, o, es, ep, ho, h2, h3, h4, h5⟩ := dTu_get ok e
  refine ⟨hd, xs, pr, o, es, ep, ho, h2, h3, h4, fun x hx => ?_, h5⟩
  obtain ⟨i, hi⟩ := List.mem_iff_getElem?.mp hx
  obtain ⟨p, hp, e1, e2, _⟩ := pr_get' pr hi
  have := tkey_of ok (en p (List.mem_of_getElem? hp))
  rw [e1, e2] at this
  exact this
theorem tent_val {kvs : List TE3} {xs : List (NestedKey × Addr × Value)} (pr : Paired tEnt kvs xs) (k : NestedKey) : (∀ v, valT kvs k = some v → ∃ a u, RelV v u ∧ atKey xs k = some (a, u)) ∧ (valT kvs k = none → atKey xs k = none) := by
  induction pr with
  | nil =>
    refine ⟨fun i h => ?_, fun _ => rfl⟩
    cases h
  | @cons p x ps qs hq t ih =>
    obtain ⟨e1, e2, e3⟩ := hq
    by_cases c : p.1 = k
    · have c2 : x.1 = k := by rw [← e1, c]
      have v1 : valT (p :: ps) k = some p.2.2 := by simp [valT, c]
      have v2 : atKey (x :: qs) k = some x.2 := by simp [atKey, c2]
      refine ⟨fun i h => ?_, fun h => by rw [v1] at h; cases h⟩
      rw [v1] at h
      obtain rfl := Option.some.inj h
      exact ⟨x.2.1, x.2.2, e3, v2⟩
    · have c2 : ¬ x.1 = k := fun z => c (e1.trans z)
      have v1 : valT (p :: ps) k = valT ps k := by simp [valT, c]
      have v2 : atKey (x :: qs) k = atKey qs k := by simp [atKey, c2]
      rw [v1, v2]
      exact ih
theorem tup_empty (hp : Heap) (hb : sysModules < hp.objs.size) : TupD P w (hp.push { cls := .type "dict", data := .dict #[] }) hp.objs.size [] :=
  ⟨beq_eq_false_iff_ne.mpr (Ne.symm (Nat.ne_of_lt hb)), [], .nil, _, #[], 0, Heap.get?_push_size _ rfl, ⟨rfl, rfl, rfl⟩, rfl, rfl, List.nodup_nil⟩
end
/-! ### readings and rules -/
def tTNew (P : Program) (w : World) : TE := fun _ H Q => ∀ p, H p = none → Q (.ref p) (upd H p (dTu P w p []))
def tTIn (neg : Bool) (P : Program) (w : World) (ty td : TE) : TE := fun σ H Q => ty σ H fun y H1 => td σ H1 fun x H2 => ∃ a b kvs k, x = .ref a ∧ y = .ref b ∧ H2 a = some (dTu P w a kvs) ∧ EntT H2 kvs ∧ KeyAt H2 b k ∧ Q (.bl (if neg then !(valT kvs k).isSome else (valT kvs k).isSome)) H2
def tTGet (P : Program) (w : World) (td ty : TE) : TE := fun σ H Q => td σ H fun x H1 => ty σ H1 fun y H2 => ∃ a b kvs k v, x = .ref a ∧ y = .ref b ∧ H2 a = some (dTu P w a kvs) ∧ EntT H2 kvs ∧ KeyAt H2 b k ∧ valT kvs k = some v ∧ Q v H2
def sTPut (P : Program) (w : World) (td ty tv : TE) : TS := fun D σ H => tv σ H fun v H1 => td σ H1 fun x H2 => ty σ H2 fun y H3 => ∃ a b kvs k, x = .ref a ∧ y = .ref b ∧ H3 a = some (dTu P w a kvs) ∧ EntT H3 kvs ∧ KeyAt H3 b k ∧ valT kvs k = none ∧ kvs.length < 100000 ∧
  D.nx σ (upd H3 a (dTu P w a (kvs ++ [(k, b, v)])))
section
variable {X : Cx} {o i value : Expr} {pos pos' : Pos} {td ty tv : TE}
theorem pe_tnew : PE X (.Dict [] [] pos) (tTNew X.prog X.w) := ⟨fun pins s σ H Q I h =>
  wpAny_Dict_empty ⟨.ref s.heap.objs.size, _, I.laid (a := s.heap.objs.size) (o := dTu X.prog X.w s.heap.objs.size []) (t' := s.toks) (fun _ _ q => Heap.get?_push_of_some _ q) (Nat.le_refl _) (dTu_new (tup_empty s.heap I.big)), rfl, h _ (I.hok.fresh (Nat.le_refl _))⟩⟩
theorem pc_tnotin (hu : X.A.units + 64 < cLine) (hi : PE X i ty) (ho : PE X o td) : PC X .NotIn i o (tTIn true X.prog X.w ty td) := by
  refine ⟨fun pins s σ H Q I h => ?_⟩
  refine thn (hi.run pins s σ H _ I h) fun iv s1 ⟨y, H1, I1, ry, q1⟩ => thn (ho.run pins s1 σ H1 _ I1 q1) fun u s2 ⟨x, H2, I2, rx, a, b, kvs, k, ex, ey, e, en, kk, q2⟩ => ?_
  subst ex ey
  cases (show u = Value.ref a from rx)
  cases (show iv = Value.ref b from ry)
  obtain ⟨hd, xs, pr, dd⟩ := dTu_of I2.hok e en
  refine wpAny_notIn_heap (nroom hu) (tkey_of I2.hok kk) hd dd ⟨.bl (!(valT kvs k).isSome), H2, I2.tok _, ?_, q2⟩
  obtain ⟨g1, g2⟩ := tent_val pr k
  cases hv : valT kvs k with
  | none => rw [g2 hv]; rfl
  | some j =>
    obtain ⟨c, t, _, hat⟩ := g1 j hv
    rw [hat]
    rfl
theorem pc_tin (hu : X.A.units + 64 < cLine) (hi : PE X i ty) (ho : PE X o td) : PC X .In i o (tTIn false X.prog X.w ty td) := by
  refine ⟨fun pins s σ H Q I h => ?_⟩
  refine thn (hi.run pins s σ H _ I h) fun iv s1 ⟨y, H1, I1, ry, q1⟩ => thn (ho.run pins s1 σ H1 _ I1 q1) fun u s2 ⟨x, H2, I2, rx, a, b, kvs, k, ex, ey, e, en, kk, q2⟩ => ?_
  subst ex ey
  cases (show u = Value.ref a from rx)
  cases (show iv = Value.ref b from ry)
  obtain ⟨hd, xs, pr, dd⟩ := dTu_of I2.hok e en
  refine wpAny_in_heap (nroom hu) (tkey_of I2.hok kk) hd dd ⟨.bl ((valT kvs k).isSome), H2, I2.tok _, ?_, q2⟩
  obtain ⟨g1, g2⟩ := tent_val pr k
  cases hv : valT kvs k with
  | none => rw [g2 hv]; rfl
  | some j =>
    obtain ⟨c, t, _, hat⟩ := g1 j hv
    rw [hat]
    rfl
theorem pe_tget (hu : X.A.units + 64 < cLine) (ho : PE X o td) (hi : PE X i ty) (hs : NoSl i) : PE X (.Subscript o i pos) (tTGet X.prog X.w td ty) := by
  refine ⟨fun pins s σ H Q I h => ?_⟩
  refine subD_of PySem.F.slot_dict_getitem.lookup hs (thn (ho.run pins s σ H _ I h) fun u s1 ⟨x, H1, I1, rx, q1⟩ => thn (hi.run pins s1 σ H1 _ I1 q1) fun iv s2 ⟨y, H2, I2, ry, a, b, kvs, k, j, ex, ey, e, en, kk, hv, q2⟩ => ?_)
  subst ex ey
  cases (show u = Value.ref a from rx)
  cases (show iv = Value.ref b from ry)
  obtain ⟨hd, xs, pr, dd⟩ := dTu_of I2.hok e en
  obtain ⟨c, t, hr, hat⟩ := (tent_val pr k).1 j hv
  exact ⟨dd.typeIs, wpAny_getItem_heap (nroom hu) (tkey_of I2.hok kk) dd hat ⟨j, H2, I2.tok _, hr, q2⟩⟩
theorem ps_tput (hu : X.A.units + 64 < cLine) (ho : PE X o td) (hi : PE X i ty) (hv : PE X value tv) (hs : swapsWith value (some (.Subscript o i pos')) pos.line X.env = pure false) :
    PS X (.Assign [.Subscript o i pos'] value pos) (sTPut X.prog X.w td ty tv) := by
  refine ⟨fun pins s σ H D I h => ?_⟩
  refine wpAny_Assign_Subscript (thn (hv.run pins s σ H _ I h) fun r s1 ⟨v, H1, I1, rv, q1⟩ => thn (ho.run pins s1 σ H1 _ I1 q1) fun u s2 ⟨x, H2, I2, rx, q2⟩ => thn (hi.run pins s2 σ H2 _ I2 q2) fun iv s3 ⟨y, H3, I3, ry, a, b, kvs, k, ex, ey, e, en, kk, hno, hln, q3⟩ => ?_) hs
  subst ex ey
  cases (show u = Value.ref a from rx)
  cases (show iv = Value.ref b from ry)
  obtain ⟨hd, xs, pr, dd⟩ := dTu_of I3.hok e en
  have hz : xs.length ≤ sizeLine := by rw [← pr_len pr]; exact szle (m := 100000) (by omega)
  refine wpAny_setItem_heap (hsz := hz) (nroom hu) (tkey_of I3.hok kk) dd fun h' dd' hsb => ?_
  rw [storedH_new ((tent_val pr k).2 hno)] at dd'
  obtain ⟨ob, es, ep, hq, h2, h3, h4, _, h5⟩ := dd'
  exact ⟨σ, _, d_write I3 (by rw [e]; exact True.intro) hsb ⟨ob, hq⟩ (dTu_new ⟨hd, _, pr_snoc pr ⟨rfl, rfl, rv⟩, ob, es, ep, hq, h2, h3, h4, h5⟩), q3⟩
end
end Sg

/-! defs with defaults; membership in a table of the program's top; tuples alone stay -/
namespace Sg
open PySem PySem.Spec PyProof.Rows L2
abbrev FnPD (K : PySem.W.Frag) (x : Str) (st : Stmt) (dvs : List V) (f : Addr) (fd : FuncData) : Prop := FunD K x x (defArgs st) (defBody st) (defScope st) dvs [] f fd
structure DkD (P : Program) (w : World) (K : PySem.W.Frag) (mg : Str → Option Value) (base : Heap) (k : Nat) (x : Str) (ps : List Str) (dvs : List V) (sp : Sp) : Prop where
  ok : ∃ fd ds, FnOk P w K mg base (L2.CX P w) k (He.ga K x) fd ps sp ∧ Binds K fd ps ds ∧ Vals dvs ds
  kp : PySem.W.keepIn K (.ref (He.ga K x)) = true
  gm : mg x = some (.ref (He.ga K x))
def tCallD (sp : Sp) (dvs : List V) (t : TA) : TE := tCall sp dvs EF t
theorem pe_callD {X : Cx} {k : Nat} {x : Str} {ps : List Str} {dvs : List V} {sp : Sp} {e : Expr} {es : List Expr} {t : TA} {p pos : Pos} (D : DkD X.prog X.w X.K X.mg X.base k x ps dvs sp) (hr : Room k X.A) (ha : PA X (e :: es) t) (hg : Gl X x := by rfl)
    (hdb : (x == ("__debug__" : Str)) = false := by decide) (he : starEach (e :: es) X.env = (false, eval e X.env) :: starEach es X.env := by rfl) (hpl : (backTo pos (starEach es X.env)).any (·.1) = false := by rfl) :
    PE X (.Call (.Name x p) (e :: es) [] pos) (tCallD sp dvs t) := by
  obtain ⟨fd, ds, F, B, hd⟩ := D.ok
  exact pe_call F hr hg D.gm D.kp B hd passF ha hdb he hpl
def rKdIn (K : PySem.W.Frag) (d : Addr) (neg : Bool) : R2 := fun x y H Q => ∃ (z : Str) (r : Option Value), x = .str z ∧ y = .ref d ∧ PySem.W.nsIn K d z = some r ∧ Q (.bl (if neg then !r.isSome else r.isSome)) H
theorem op_kdNotIn {X : Cx} {d : Addr} {es : Array DictEntry} {n : Nat} (D : KDict X.K X.w d es n) : OpR X (compareOp .NotIn) (rKdIn X.K d true) := op_notIn_kd D
theorem op_kdIn {X : Cx} {d : Addr} {es : Array DictEntry} {n : Nat} (D : KDict X.K X.w d es n) : OpR X (compareOp .In) (rKdIn X.K d false) := op_in_kd D
/-- tuples that are not frozen stay -/
def TP (H H' : Hp) : Prop := ∀ b xs, H b = some (.tup xs) → H' b = some (.tup xs)
theorem TP.refl (H : Hp) : TP H H := fun _ _ h => h
theorem TP.trans {H H1 H2 : Hp} (a : TP H H1) (b : TP H1 H2) : TP H H2 := fun c xs h => b c xs (a c xs h)
theorem TP.of_same {H H' : Hp} (s : Same H H') : TP H H' := fun b _ h => s b _ h
theorem TP.of_but {H H' : Hp} {p : Addr} {xs : List V} (s : But p H H') (hp : H p = some (.lst xs)) : TP H H' :=
  fun b _ h => s b _ (fun z => by rw [z, hp] at h; cases h) h
theorem tp_upd {H : Hp} {p : Addr} {o q : HO} (hp : H p = some q) (hq : ∀ xs, q ≠ .tup xs) : TP H (upd H p o) := fun b xs h => by
  rw [upd_ne]
  · exact h
  · intro z
    rw [z, hp] at h
    exact hq xs (Option.some.inj h)
section
variable {H H' : Hp}
theorem KeyV.tp {x : V} {k : NestedKey} (s : TP H H') (h : KeyV H x k) : KeyV H' x k := KeyV.mono s _ _ h
theorem KeyVs.tp {xs : List V} {ks : List NestedKey} (s : TP H H') (h : KeyVs H xs ks) : KeyVs H' xs ks := KeyVs.mono s _ _ h
theorem KeyVs.len : ∀ {xs : List V} {ks : List NestedKey}, KeyVs H xs ks → xs.length = ks.length
  | _, _, .nil => rfl
  | _, _, .cons _ h => congrArg Nat.succ h.len
theorem KeyVs.get : ∀ {xs : List V} {ks : List NestedKey} {i : Nat} {x : V}, KeyVs H xs ks → xs[i]? = some x → ∃ k, ks[i]? = some k ∧ KeyV H x k
  | _, _, _, _, .nil, h => by simp at h
  | _, _, 0, _, .cons h1 _, h => by
    obtain rfl := Option.some.inj h
    exact ⟨_, rfl, h1⟩
  | _, _, i + 1, _, .cons _ h2, h => KeyVs.get (i := i) h2 h
theorem KeyVs.app : ∀ {xs ys : List V} {ks ls : List NestedKey}, KeyVs H xs ks → KeyVs H ys ls → KeyVs H (xs ++ ys) (ks ++ ls)
  | _, _, _, _, .nil, h => h
  | _, _, _, _, .cons h1 h2, h => .cons h1 (h2.app h)
theorem KeyVs.rev : ∀ {xs : List V} {ks : List NestedKey}, KeyVs H xs ks → KeyVs H xs.reverse ks.reverse
  | _, _, .nil => .nil
  | x :: xs, k :: ks, .cons h1 h2 => by
    rw [List.reverse_cons, List.reverse_cons]
    exact h2.rev.app (.cons h1 .nil)
theorem KeyV.kd {K : PySem.W.Frag} {x : V} {k : NestedKey} (h : KeyV H x k) : Kd K H x := by
  cases h with
  | non => exact .non
  | int i => exact .int i
  | str x => exact .str x
  | tup h1 _ => exact .tup (.inl (.inl h1))
end
end Sg

/-! what is a looker, of data of any shape -/
namespace Sg
open PySem PySem.Spec PyProof.Rows L2
mutual
def noL : PyData → Bool
  | .list _ => false
  | .dict _ => false
  | .tuple ds => noLs ds
  | _ => true
def noLs : List PyData → Bool
  | [] => true
  | d :: ds => noL d && noLs ds
end
theorem noLs_mem : ∀ {ds : List PyData} {d : PyData}, noLs ds = true → d ∈ ds → noL d = true
  | e :: ds, d, h, hd => by
    have h2 : (noL e && noLs ds) = true := by simpa [noLs] using h
    rw [Bool.and_eq_true] at h2
    rcases List.mem_cons.mp hd with rfl | hd
    · exact h2.1
    · exact noLs_mem h2.2 hd
theorem noLs_all : ∀ {ds : List PyData}, (∀ d ∈ ds, noL d = true) → noLs ds = true
  | [], _ => by simp [noLs]
  | e :: ds, h => by
    have : (noL e && noLs ds) = true := by rw [h e List.mem_cons_self, noLs_all fun d hd => h d (List.mem_cons_of_mem _ hd)]; rfl
    simpa [noLs] using this
theorem noL_tup {ds : List PyData} : noL (.tuple ds) = noLs ds := by simp [noL]
theorem len2 {α : Type} {l : List α} (h : l.length = 2) : ∃ a b, l = [a, b] := by
  cases l with
  | nil => cases h
  | cons a l =>
    cases l with
    | nil => cases h
    | cons b l =>
      cases l with
      | nil => exact ⟨a, b, rfl⟩
      | cons c l => simp at h
def btD : PyData → Bool
  | .int i => decide (0 ≤ i) && decide (i ≤ 1)
  | _ => false
def stD (n : Int) : PyData → Bool
  | .int i => decide (0 ≤ i) && decide (i < n)
  | _ => false
def sgD : PyData → Bool
  | .str z => sgB z
  | _ => false
def sgV : V → Bool
  | .str z => sgB z
  | _ => false
def rowN (n : Int) : PyData → Bool
  | .tuple ds => decide ((ds.length : Int) = n)
  | _ => false
def rowLk (n w : Nat) : PyData → Bool
  | .tuple [e, .tuple ts] => btD e && (decide (ts.length = w) && ts.all (stD n))
  | _ => false
def lkB : PyData → Bool
  | .tuple [.str z, .tuple ss] => sgB z && (decide (1 ≤ ss.length) && (decide (ss.length ≤ 600) && ss.all (rowLk ss.length z.length)))
  | _ => false
section
variable {K : PySem.W.Frag} {H H' : Hp} {v : V} {d : PyData}
theorem Dp.kd (h : Dp K H v d) (n : noL d = true) : Kd K H v := by
  cases h with
  | non => exact .non
  | bl b => exact .bl b
  | int i => exact .int i
  | str x => exact .str x
  | lst h1 h2 => simp [noL] at n
  | tup h1 h2 => exact .tup h1
theorem Dp.bt (h : Dp K H v d) : isBt v = btD d := by cases h <;> rfl
theorem Dp.st (h : Dp K H v d) (n : Int) : isSt n v = stD n d := by cases h <;> rfl
theorem Dp.sg (h : Dp K H v d) : sgV v = sgD d := by cases h <;> rfl
theorem dpAll_len : ∀ {vs : List V} {ds : List PyData}, DpAll K H vs ds → vs.length = ds.length
  | _, _, .nil => rfl
  | _, _, .cons _ h => congrArg Nat.succ (dpAll_len h)
theorem dpAll_get : ∀ {vs : List V} {ds : List PyData} {i : Nat} {x : V}, DpAll K H vs ds → vs[i]? = some x → ∃ e, ds[i]? = some e ∧ Dp K H x e
  | _, _, _, _, .nil, h => by simp at h
  | _, _, 0, _, .cons h1 _, h => by
    obtain rfl := Option.some.inj h
    exact ⟨_, rfl, h1⟩
  | _, _, i + 1, _, .cons _ h2, h => dpAll_get (i := i) h2 h
theorem dpAll_of : ∀ {vs : List V} {ds : List PyData}, vs.length = ds.length → (∀ (i : Nat) (x : V) (e : PyData), vs[i]? = some x → ds[i]? = some e → Dp K H x e) → DpAll K H vs ds
  | [], [], _, _ => .nil
  | x :: vs, e :: ds, hl, h => .cons (h 0 x e rfl rfl) (dpAll_of (Nat.succ.inj hl) fun i y f hy hf => h (i + 1) y f hy hf)
theorem dpAll_app : ∀ {vs us : List V} {ds es : List PyData}, DpAll K H vs ds → DpAll K H us es → DpAll K H (vs ++ us) (ds ++ es)
  | _, _, _, _, .nil, h => h
  | _, _, _, _, .cons h1 h2, h => .cons h1 (dpAll_app h2 h)
theorem dpAll_take : ∀ {vs : List V} {ds : List PyData} (n : Nat), DpAll K H vs ds → DpAll K H (vs.take n) (ds.take n)
  | _, _, 0, _ => .nil
  | _, _, _ + 1, .nil => .nil
  | _, _, n + 1, .cons h1 h2 => .cons h1 (dpAll_take n h2)
theorem dpAll_drop : ∀ {vs : List V} {ds : List PyData} (n : Nat), DpAll K H vs ds → DpAll K H (vs.drop n) (ds.drop n)
  | _, _, 0, h => h
  | _, _, _ + 1, .nil => .nil
  | _, _, n + 1, .cons _ h2 => dpAll_drop n h2
theorem dpAll_rep {x : V} {e : PyData} (h : Dp K H x e) : ∀ n, DpAll K H (List.replicate n x) (List.replicate n e)
  | 0 => .nil
  | n + 1 => .cons h (dpAll_rep h n)
mutual
theorem dp_mono (k : TK H H') : ∀ (d : PyData) (v : V), Dp K H v d → noL d = true → Dp K H' v d
  | .none, v, h, _ => by cases h; exact .non
  | .bool b, v, h, _ => by cases h; exact .bl b
  | .int i, v, h, _ => by cases h; exact .int i
  | .str x, v, h, _ => by cases h; exact .str x
  | .list ds, v, h, n => by simp [noL] at n
  | .dict ds, v, h, n => by simp [noL] at n
  | .tuple ds, v, h, n => by
    cases h with
    | tup h1 h2 => exact .tup (k.sqT h1) (dpAll_mono k ds _ h2 (by simpa [noL] using n))
theorem dpAll_mono (k : TK H H') : ∀ (ds : List PyData) (vs : List V), DpAll K H vs ds → noLs ds = true → DpAll K H' vs ds
  | [], vs, h, _ => by cases h; exact .nil
  | e :: ds, vs, h, n => by
    have n2 : (noL e && noLs ds) = true := by simpa [noLs] using n
    rw [Bool.and_eq_true] at n2
    cases h with
    | cons h1 h2 => exact .cons (dp_mono k e _ h1 n2.1) (dpAll_mono k ds _ h2 n2.2)
end
theorem Dp.rowB (h : Dp K H v d) (n : noL d = true) (m : Int) : RowB K H v m (rowN m d) := by
  cases h with
  | non => exact .inr ⟨.non, rfl, rfl⟩
  | bl b => exact .inr ⟨.bl b, rfl, rfl⟩
  | int i => exact .inr ⟨.int i, rfl, rfl⟩
  | str x => exact .inr ⟨.str x, rfl, rfl⟩
  | lst h1 h2 => simp [noL] at n
  | tup h1 h2 => exact .inl ⟨_, _, rfl, h1, by rw [dpAll_len h2]; rfl⟩
theorem Dp.isTup (h : Dp K H v d) (n : noL d = true) (t : isaB "tuple" v = true) : ∃ a xs ds, v = .ref a ∧ d = .tuple ds ∧ SqT K H a xs ∧ DpAll K H xs ds ∧ noLs ds = true := by
  cases h with
  | non => cases t
  | bl b => simp [isaB] at t
  | int i => simp [isaB] at t
  | str x => simp [isaB] at t
  | lst h1 h2 => simp [noL] at n
  | tup h1 h2 => exact ⟨_, _, _, rfl, rfl, h1, h2, by simpa [noL] using n⟩
theorem Dp.row2 (h : Dp K H v d) (n : noL d = true) (t : rowN 2 d = true) : ∃ a x y e f, v = .ref a ∧ d = .tuple [e, f] ∧ SqT K H a [x, y] ∧ Dp K H x e ∧ Dp K H y f ∧ noL e = true ∧ noL f = true := by
  cases h with
  | non => cases t
  | bl b => cases t
  | int i => cases t
  | str x => cases t
  | lst h1 h2 => cases t
  | tup h1 h2 =>
    rename_i a xs ds
    have hl : ds.length = 2 := by have := of_decide_eq_true t; omega
    have n2 : noLs ds = true := by simpa [noL] using n
    obtain ⟨e, f, rfl⟩ := len2 hl
    cases h2 with
    | cons k1 k2 =>
      cases k2 with
      | cons k2 k3 =>
        cases k3
        exact ⟨_, _, _, e, f, rfl, rfl, h1, k1, k2, noLs_mem n2 (by simp), noLs_mem n2 (by simp)⟩
end
theorem lkB_inv {d : PyData} (h : lkB d = true) : ∃ z ss, d = .tuple [.str z, .tuple ss] ∧ sgB z = true ∧ 1 ≤ ss.length ∧ ss.length ≤ 600 ∧ ∀ s ∈ ss, rowLk ss.length z.length s = true := by
  unfold lkB at h
  split at h
  · rename_i z ss
    simp only [Bool.and_eq_true, decide_eq_true_eq, List.all_eq_true] at h
    exact ⟨z, ss, rfl, h.1, h.2.1, h.2.2.1, h.2.2.2⟩
  · cases h
theorem lkB_of {z : Str} {ss : List PyData} (h1 : sgB z = true) (h2 : 1 ≤ ss.length) (h3 : ss.length ≤ 600) (h4 : ∀ s ∈ ss, rowLk ss.length z.length s = true) : lkB (.tuple [.str z, .tuple ss]) = true := by
  unfold lkB
  simp only [Bool.and_eq_true, decide_eq_true_eq, List.all_eq_true]
  exact ⟨h1, h2, h3, h4⟩
theorem rowLk_inv {n w : Nat} {d : PyData} (h : rowLk n w d = true) : ∃ e ts, d = .tuple [e, .tuple ts] ∧ btD e = true ∧ ts.length = w ∧ ∀ t ∈ ts, stD n t = true := by
  unfold rowLk at h
  split at h
  · rename_i e ts
    simp only [Bool.and_eq_true, decide_eq_true_eq, List.all_eq_true] at h
    exact ⟨e, ts, rfl, h.1, h.2.1, h.2.2⟩
  · cases h
theorem rowLk_of {n w : Nat} {e : PyData} {ts : List PyData} (h1 : btD e = true) (h2 : ts.length = w) (h3 : ∀ t ∈ ts, stD n t = true) : rowLk n w (.tuple [e, .tuple ts]) = true := by
  unfold rowLk
  simp only [Bool.and_eq_true, decide_eq_true_eq, List.all_eq_true]
  exact ⟨h1, h2, h3⟩
theorem no_of {b : Bool} (h : b = true → False) : b = false := by
  cases b with
  | false => rfl
  | true => exact (h rfl).elim
/-- a looker that is one -/
theorem rowD_noL (r : LRow) : noL (rowD r) = true := by
  unfold rowD
  rw [noL_tup]
  refine noLs_all fun d hd => ?_
  simp only [List.mem_cons, List.not_mem_nil, or_false] at hd
  rcases hd with rfl | rfl
  · simp [noL]
  · rw [noL_tup]
    refine noLs_all fun d hd => ?_
    obtain ⟨i, _, rfl⟩ := List.mem_map.mp hd
    simp [noL]
theorem lkD_noL (z : Str) (rs : List LRow) : noL (lkD z rs) = true := by
  unfold lkD
  rw [noL_tup]
  refine noLs_all fun d hd => ?_
  simp only [List.mem_cons, List.not_mem_nil, or_false] at hd
  rcases hd with rfl | rfl
  · simp [noL]
  · rw [noL_tup]
    refine noLs_all fun d hd => ?_
    obtain ⟨r, _, rfl⟩ := List.mem_map.mp hd
    exact rowD_noL r
theorem rowD_lk {n : Nat} {rs : List LRow} (ok : RowsOk n rs) {r : LRow} (hr : r ∈ rs) : rowLk rs.length n (rowD r) = true := by
  refine rowLk_of ?_ (by rw [List.length_map]; exact ok.wid r hr) fun t ht => ?_
  · rcases ok.bit r hr with e | e <;> rw [e] <;> rfl
  · obtain ⟨q, hq, rfl⟩ := List.mem_map.mp ht
    have := ok.to r hr q hq
    show (decide (0 ≤ q) && decide (q < (rs.length : Int))) = true
    rw [decide_eq_true this.1, decide_eq_true this.2]
    rfl
theorem lkD_lk {z : Str} {rs : List LRow} (hz : SignsOk z) (ok : RowsOk z.length rs) : lkB (lkD z rs) = true := by
  refine lkB_of hz.sgB (by rw [List.length_map]; exact ok.pos) (by rw [List.length_map]; exact ok.top) fun s hs => ?_
  obtain ⟨r, hr, rfl⟩ := List.mem_map.mp hs
  rw [List.length_map]
  exact rowD_lk ok hr
end Sg

namespace K08
open PySem PySem.Spec PyProof.Rows L2 Sg
def topS (i : Nat) : Stmt := PySem.Challenge.pw_signwright_k08_plain_steps.main.body.getD i (.Pass ⟨0, 0, 0, 0⟩)
def dd (i : Nat) (x : Str) : He.DefD := ⟨(x, none), x, x, defArgs (topS i), defBody (topS i), defScope (topS i), [], []⟩
def fns0 : List He.DefD := [dd 14 "work_parts", dd 15 "sets_asked", dd 17 "all_works", dd 18 "all_sets_in", dd 20 "step_size", dd 21 "work_size", dd 24 "step_texts", dd 25 "work_texts", dd 26 "work_names", dd 27 "work_funs", dd 28 "work_turns", dd 32 "is_printable", dd 33 "is_digit", dd 34 "is_small", dd 35 "is_great", dd 36 "is_row_char", dd 37 "is_row", dd 38 "is_fun_name", dd 40 "is_number", dd 41 "is_quotable", dd 46 "first_word", dd 49 "is_pairs", dd 50 "is_work_node", ⟨("is_work", none), "is_work", "is_work", defArgs (topS 51), defBody (topS 51), defScope (topS 51), [.non], []⟩, ⟨("is_item", none), "is_item", "is_item", defArgs (topS 53), defBody (topS 53), defScope (topS 53), [.non], []⟩, ⟨("is_program", none), "is_program", "is_program", defArgs (topS 54), defBody (topS 54), defScope (topS 54), [.non, .non], []⟩, dd 59 "are_signs", dd 60 "is_text_of", dd 61 "text_mistakes", dd 62 "name_mistakes"]
def fns1 : List He.DefD := [dd 63 "turn_mistakes", dd 65 "work_mistakes", dd 68 "item_mistakes", dd 69 "item_name", dd 70 "mistakes", dd 71 "check_program", dd 72 "known_names", dd 73 "fun_names", dd 74 "check_work", dd 75 "check_text", dd 76 "check_fun", ⟨("work_row_plan", none), "work_row", "work_row", defArgs (topS 81), defBody (topS 81), defScope (topS 81), [], []⟩, dd 83 "taken", dd 99 "bounded", dd 100 "without_last", dd 101 "turned_by", dd 105 "answer_unchecked", dd 106 "apply", dd 107 "apply_work", dd 109 "_law_bag", dd 110 "_law_take", dd 111 "_law_same", dd 112 "_law_signs", dd 113 "_law_word", dd 114 "_law_turn", dd 115 "_law_exchanged", dd 116 "_law_plain_step", dd 117 "_law_answered", dd 118 "law", ⟨("Rows", some "__init__"), "__init__", "Rows.__init__", defArgs (clsAt (topS 78) 0), defBody (clsAt (topS 78) 0), defScope (clsAt (topS 78) 0), [], []⟩]
def fns2 : List He.DefD := [⟨("Rows", some "number"), "number", "Rows.number", defArgs (clsAt (topS 78) 1), defBody (clsAt (topS 78) 1), defScope (clsAt (topS 78) 1), [], []⟩, ⟨("Rows", some "row"), "row", "Rows.row", defArgs (clsAt (topS 78) 2), defBody (clsAt (topS 78) 2), defScope (clsAt (topS 78) 2), [], []⟩, ⟨("Plan", some "__init__"), "__init__", "Plan.__init__", defArgs (clsAt (topS 84) 0), defBody (clsAt (topS 84) 0), defScope (clsAt (topS 84) 0), [.non, .non], []⟩, ⟨("Plan", some "work_row"), "work_row", "Plan.work_row", defArgs (clsAt (topS 84) 2), defBody (clsAt (topS 84) 2), defScope (clsAt (topS 84) 2), [], []⟩, ⟨("Plan", some "number_work"), "number_work", "Plan.number_work", defArgs (clsAt (topS 84) 5), defBody (clsAt (topS 84) 5), defScope (clsAt (topS 84) 5), [], []⟩, ⟨("Plan", some "see_work"), "see_work", "Plan.see_work", defArgs (clsAt (topS 84) 6), defBody (clsAt (topS 84) 6), defScope (clsAt (topS 84) 6), [], []⟩, ⟨("Worker", some "__init__"), "__init__", "Worker.__init__", defArgs (clsAt (topS 103) 0), defBody (clsAt (topS 103) 0), defScope (clsAt (topS 103) 0), [], []⟩, ⟨("Worker", some "plain_answer"), "plain_answer", "Worker.plain_answer", defArgs (clsAt (topS 103) 4), defBody (clsAt (topS 103) 4), defScope (clsAt (topS 103) 4), [], []⟩, ⟨("Worker", some "answer"), "answer", "Worker.answer", defArgs (clsAt (topS 103) 5), defBody (clsAt (topS 103) 5), defScope (clsAt (topS 103) 5), [], []⟩, ⟨("Worker", some "ask"), "ask", "Worker.ask", defArgs (clsAt (topS 103) 6), defBody (clsAt (topS 103) 6), defScope (clsAt (topS 103) 6), [], []⟩]
def fns : List He.DefD := fns0 ++ (fns1 ++ (fns2))
def fas0 : List He.Fa := [.glo "work_parts", .glo "sets_asked", .glo "all_works", .glo "all_sets_in", .glo "step_size", .glo "work_size", .glo "step_texts", .glo "work_texts", .glo "work_names", .glo "work_funs", .glo "work_turns", .glo "is_printable", .glo "is_digit", .glo "is_small", .glo "is_great", .glo "is_row_char", .glo "is_row", .glo "is_fun_name", .glo "is_number", .glo "is_quotable", .glo "first_word", .glo "is_pairs", .glo "is_work_node", .glo "is_work", .glo "is_item", .glo "is_program", .glo "are_signs", .glo "is_text_of", .glo "text_mistakes", .glo "name_mistakes"]
def fas1 : List He.Fa := [.glo "turn_mistakes", .glo "work_mistakes", .glo "item_mistakes", .glo "item_name", .glo "mistakes", .glo "check_program", .glo "known_names", .glo "fun_names", .glo "check_work", .glo "check_text", .glo "check_fun", .glo "work_row_plan", .glo "taken", .glo "bounded", .glo "without_last", .glo "turned_by", .glo "answer_unchecked", .glo "apply", .glo "apply_work", .glo "_law_bag", .glo "_law_take", .glo "_law_same", .glo "_law_signs", .glo "_law_word", .glo "_law_turn", .glo "_law_exchanged", .glo "_law_plain_step", .glo "_law_answered", .glo "law", .free "len"]
def fas2 : List He.Fa := [.free "sum", .free "all", .free "isinstance", .free "str", .free "bool", .free "int", .free "tuple", .free "set", .free "enumerate", .free "sorted", .free "range", .glo "Rows", .glo "Plan", .glo "Worker", .glo "ASK_SETS", .glo "BEAR_TEXT", .glo "RESERVED", .int "MOST_NUMBER" 99, .glo "WORK_LENGTHS", .int "MOST_SIGNS" 5, .int "MOST_SIZE" 60, .int "MOST_ITEMS" 24, .int "MOST_ANSWER" 10000, .str "ASK" "ask", .str "KEEP" "keep", .str "GO_ON" "go on", .cls "Rows", .mkr "Rows", .noat "Rows" "rows", .noat "Rows" "places"]
def fas3 : List He.Fa := [.meth "Rows" "number", .meth "Rows" "row", .cls "Plan", .mkr "Plan", .noat "Plan" "signs", .noat "Plan" "named_sets", .noat "Plan" "named_works", .noat "Plan" "set_table", .noat "Plan" "work_table", .noat "Plan" "set_places", .noat "Plan" "work_places", .meth "Plan" "work_row", .meth "Plan" "number_work", .meth "Plan" "see_work", .cls "Worker", .mkr "Worker", .noat "Worker" "plan", .noat "Worker" "spans", .noat "Worker" "kept", .meth "Worker" "plain_answer", .meth "Worker" "answer", .meth "Worker" "ask"]
def fas : List He.Fa := fas0 ++ (fas1 ++ (fas2 ++ (fas3)))
def loose0 : List PySem.Str := ["SignError", "BadProgram", "BadWork", "BadSigns", "BadName", "TooMany", "Rows", "Plan", "Spans", "Gathering", "Worker", "TWO_PARTS", "ONE_PART", "ASK_SETS", "BEAR_TEXT", "RESERVED", "MOST_NUMBER", "SET_LENGTHS", "WORK_LENGTHS", "WAYS", "MOST_SIGNS", "MOST_SIZE", "MOST_ITEMS", "COMBINE", "FOLLOW", "JOIN", "SEE", "MOST_ANSWER", "ASK", "KEEP"]
def loose1 : List PySem.Str := ["GO_ON", "_wall", "set_parts", "work_parts", "sets_asked", "all_sets", "all_works", "all_sets_in", "sets_size", "step_size", "work_size", "sets_texts", "sets_names", "step_texts", "work_texts", "work_names", "work_funs", "work_turns", "is_printable", "is_digit", "is_small", "is_great", "is_row_char", "is_row", "is_fun_name", "is_set_name", "is_number", "is_quotable", "first_word", "is_sets_node"]
def loose2 : List PySem.Str := ["is_sets", "is_pairs", "is_work_node", "is_work", "is_rest", "is_item", "is_program", "are_signs", "is_text_of", "text_mistakes", "name_mistakes", "turn_mistakes", "sets_mistakes", "work_mistakes", "claim_sets", "claim_funs", "item_mistakes", "item_name", "mistakes", "check_program", "known_names", "fun_names", "check_work", "check_text", "check_fun", "set_row", "set_row_plan", "work_row", "work_row_plan", "taken"]
def loose3 : List PySem.Str := ["row_parts", "first_bit", "places_in", "bounded", "without_last", "turned_by", "answer_unchecked", "apply", "apply_work", "_law_bag", "_law_take", "_law_same", "_law_signs", "_law_word", "_law_turn", "_law_exchanged", "_law_plain_step", "_law_answered"]
def loose : List PySem.Str := loose0 ++ (loose1 ++ (loose2 ++ (loose3)))
abbrev R : PySem.W.OpenRow := PySem.W.OpenLaw.row PySem.Challenge.rw_signwright_k08_plain_steps
def dat_ASK_SETS : PyData := .tuple [.str "only", .str "each", .str "if"]
def dat_BEAR_TEXT : PyData := .tuple [.str "put", .str "ahead", .str "behind"]
def dat_RESERVED : PyData := .tuple [.str "adds", .str "ahead", .str "any", .str "behind", .str "by", .str "claim", .str "each", .str "else", .str "fun", .str "gives", .str "head", .str "if", .str "less", .str "longest", .str "none", .str "on", .str "only", .str "put", .str "same", .str "set", .str "settles", .str "shortest", .str "signs", .str "skip", .str "takes", .str "turn", .str "undoes"]
def dat_WORK_LENGTHS_0 : Str × PyData := ("same", .int 1)
def dat_WORK_LENGTHS_1 : Str × PyData := ("put", .int 2)
def dat_WORK_LENGTHS_2 : Str × PyData := ("ahead", .int 2)
def dat_WORK_LENGTHS_3 : Str × PyData := ("behind", .int 2)
def dat_WORK_LENGTHS_4 : Str × PyData := ("head", .int 2)
def dat_WORK_LENGTHS_5 : Str × PyData := ("skip", .int 2)
def dat_WORK_LENGTHS_6 : Str × PyData := ("less", .int 2)
def dat_WORK_LENGTHS_7 : Str × PyData := ("only", .int 2)
def dat_WORK_LENGTHS_8 : Str × PyData := ("turn", .int 2)
def dat_WORK_LENGTHS_9 : Str × PyData := ("each", .int 4)
def dat_WORK_LENGTHS_10 : Str × PyData := ("if", .int 4)
def dat_WORK_LENGTHS_11 : Str × PyData := ("fun", .int 2)
def dat_WORK_LENGTHS_12 : Str × PyData := ("then", .int 3)
def tab_WORK_LENGTHS : List (Str × PyData) := [dat_WORK_LENGTHS_0, dat_WORK_LENGTHS_1, dat_WORK_LENGTHS_2, dat_WORK_LENGTHS_3, dat_WORK_LENGTHS_4, dat_WORK_LENGTHS_5, dat_WORK_LENGTHS_6, dat_WORK_LENGTHS_7, dat_WORK_LENGTHS_8, dat_WORK_LENGTHS_9, dat_WORK_LENGTHS_10, dat_WORK_LENGTHS_11, dat_WORK_LENGTHS_12]
def tabs : List He.Tab := [(fun K => He.ga K "WORK_LENGTHS", ["same", "put", "ahead", "behind", "head", "skip", "less", "only", "turn", "each", "if", "fun", "then"])]
def exL (K : PySem.W.Frag) : List Bool := [datB K dat_ASK_SETS (.ref (He.ga K "ASK_SETS")), datB K dat_BEAR_TEXT (.ref (He.ga K "BEAR_TEXT")), datB K dat_RESERVED (.ref (He.ga K "RESERVED")), tabB K (He.ga K "WORK_LENGTHS") tab_WORK_LENGTHS]
def exB (K : PySem.W.Frag) : Bool := (exL K).all id
abbrev hk : PySem.W.Hook := hookY 4 exB fas fns tabs
def ob (s : PySem.W.SharedT) : Bool × He.AlT := obsYG 4 exB fas fns tabs (HandSHeadRun.getT s)
theorem ob_eq (s : PySem.W.SharedT) : ob s = hk.obs s.abs := obsYG_eq (HandSHeadRun.getT_eq s)
theorem run_f (w : World) : HandSHeadRun.RunEq R (PySem.W.view R.prog [118]) hk ob 8000 loose (wB w false) := by
  intro os
  kernel_rfl
theorem run_t (w : World) : HandSHeadRun.RunEq R (PySem.W.view R.prog [118]) hk ob 8000 loose (wB w true) := by
  intro os
  kernel_rfl
theorem run (w : World) : HandSHeadRun.RunEq R (PySem.W.view R.prog [118]) hk ob 8000 loose w := by
  have k : HandSHeadRun.RunEq R (PySem.W.view R.prog [118]) hk ob 8000 loose (wB w (w.params.followText "special-get-raises")) := by
    cases w.params.followText "special-get-raises" with
    | false => exact run_f w
    | true => exact run_t w
  rwa [wB_eq] at k
structure Tx (w : World) (K : PySem.W.Frag) (mg : Str → Option Value) : Prop where
  g_work_parts : mg "work_parts" = some (.ref (He.ga K "work_parts"))
  g_sets_asked : mg "sets_asked" = some (.ref (He.ga K "sets_asked"))
  g_all_works : mg "all_works" = some (.ref (He.ga K "all_works"))
  g_all_sets_in : mg "all_sets_in" = some (.ref (He.ga K "all_sets_in"))
  g_step_size : mg "step_size" = some (.ref (He.ga K "step_size"))
  g_work_size : mg "work_size" = some (.ref (He.ga K "work_size"))
  g_step_texts : mg "step_texts" = some (.ref (He.ga K "step_texts"))
  g_work_texts : mg "work_texts" = some (.ref (He.ga K "work_texts"))
  g_work_names : mg "work_names" = some (.ref (He.ga K "work_names"))
  g_work_funs : mg "work_funs" = some (.ref (He.ga K "work_funs"))
  g_work_turns : mg "work_turns" = some (.ref (He.ga K "work_turns"))
  g_is_printable : mg "is_printable" = some (.ref (He.ga K "is_printable"))
  g_is_digit : mg "is_digit" = some (.ref (He.ga K "is_digit"))
  g_is_small : mg "is_small" = some (.ref (He.ga K "is_small"))
  g_is_great : mg "is_great" = some (.ref (He.ga K "is_great"))
  g_is_row_char : mg "is_row_char" = some (.ref (He.ga K "is_row_char"))
  g_is_row : mg "is_row" = some (.ref (He.ga K "is_row"))
  g_is_fun_name : mg "is_fun_name" = some (.ref (He.ga K "is_fun_name"))
  g_is_number : mg "is_number" = some (.ref (He.ga K "is_number"))
  g_is_quotable : mg "is_quotable" = some (.ref (He.ga K "is_quotable"))
  g_first_word : mg "first_word" = some (.ref (He.ga K "first_word"))
  g_is_pairs : mg "is_pairs" = some (.ref (He.ga K "is_pairs"))
  g_is_work_node : mg "is_work_node" = some (.ref (He.ga K "is_work_node"))
  g_is_work : mg "is_work" = some (.ref (He.ga K "is_work"))
  g_is_item : mg "is_item" = some (.ref (He.ga K "is_item"))
  g_is_program : mg "is_program" = some (.ref (He.ga K "is_program"))
  g_are_signs : mg "are_signs" = some (.ref (He.ga K "are_signs"))
  g_is_text_of : mg "is_text_of" = some (.ref (He.ga K "is_text_of"))
  g_text_mistakes : mg "text_mistakes" = some (.ref (He.ga K "text_mistakes"))
  g_name_mistakes : mg "name_mistakes" = some (.ref (He.ga K "name_mistakes"))
  g_turn_mistakes : mg "turn_mistakes" = some (.ref (He.ga K "turn_mistakes"))
  g_work_mistakes : mg "work_mistakes" = some (.ref (He.ga K "work_mistakes"))
  g_item_mistakes : mg "item_mistakes" = some (.ref (He.ga K "item_mistakes"))
  g_item_name : mg "item_name" = some (.ref (He.ga K "item_name"))
  g_mistakes : mg "mistakes" = some (.ref (He.ga K "mistakes"))
  g_check_program : mg "check_program" = some (.ref (He.ga K "check_program"))
  g_known_names : mg "known_names" = some (.ref (He.ga K "known_names"))
  g_fun_names : mg "fun_names" = some (.ref (He.ga K "fun_names"))
  g_check_work : mg "check_work" = some (.ref (He.ga K "check_work"))
  g_check_text : mg "check_text" = some (.ref (He.ga K "check_text"))
  g_check_fun : mg "check_fun" = some (.ref (He.ga K "check_fun"))
  g_work_row_plan : mg "work_row_plan" = some (.ref (He.ga K "work_row_plan"))
  g_taken : mg "taken" = some (.ref (He.ga K "taken"))
  g_bounded : mg "bounded" = some (.ref (He.ga K "bounded"))
  g_without_last : mg "without_last" = some (.ref (He.ga K "without_last"))
  g_turned_by : mg "turned_by" = some (.ref (He.ga K "turned_by"))
  g_answer_unchecked : mg "answer_unchecked" = some (.ref (He.ga K "answer_unchecked"))
  g_apply : mg "apply" = some (.ref (He.ga K "apply"))
  g_apply_work : mg "apply_work" = some (.ref (He.ga K "apply_work"))
  g__law_bag : mg "_law_bag" = some (.ref (He.ga K "_law_bag"))
  g__law_take : mg "_law_take" = some (.ref (He.ga K "_law_take"))
  g__law_same : mg "_law_same" = some (.ref (He.ga K "_law_same"))
  g__law_signs : mg "_law_signs" = some (.ref (He.ga K "_law_signs"))
  g__law_word : mg "_law_word" = some (.ref (He.ga K "_law_word"))
  g__law_turn : mg "_law_turn" = some (.ref (He.ga K "_law_turn"))
  g__law_exchanged : mg "_law_exchanged" = some (.ref (He.ga K "_law_exchanged"))
  g__law_plain_step : mg "_law_plain_step" = some (.ref (He.ga K "_law_plain_step"))
  g__law_answered : mg "_law_answered" = some (.ref (He.ga K "_law_answered"))
  g_law : mg "law" = some (.ref (He.ga K "law"))
  f_len : mg "len" = none
  f_sum : mg "sum" = none
  f_all : mg "all" = none
  f_isinstance : mg "isinstance" = none
  f_str : mg "str" = none
  f_bool : mg "bool" = none
  f_int : mg "int" = none
  f_tuple : mg "tuple" = none
  f_set : mg "set" = none
  f_enumerate : mg "enumerate" = none
  f_sorted : mg "sorted" = none
  f_range : mg "range" = none
  g_Rows : mg "Rows" = some (.ref (He.ga K "Rows"))
  g_Plan : mg "Plan" = some (.ref (He.ga K "Plan"))
  g_Worker : mg "Worker" = some (.ref (He.ga K "Worker"))
  c_MOST_NUMBER : ∃ t, mg "MOST_NUMBER" = some (.int 99 t)
  c_MOST_SIGNS : ∃ t, mg "MOST_SIGNS" = some (.int 5 t)
  c_MOST_SIZE : ∃ t, mg "MOST_SIZE" = some (.int 60 t)
  c_MOST_ITEMS : ∃ t, mg "MOST_ITEMS" = some (.int 24 t)
  c_MOST_ANSWER : ∃ t, mg "MOST_ANSWER" = some (.int 10000 t)
  c_ASK : ∃ t, mg "ASK" = some (.str "ask" t)
  c_KEEP : ∃ t, mg "KEEP" = some (.str "keep" t)
  c_GO_ON : ∃ t, mg "GO_ON" = some (.str "go on" t)
  cl_Rows : Cls K (He.ga K "Rows")
  mk_Rows : Mk K (He.ga K "Rows") (He.ma K (He.ga K "Rows") "__init__")
  na_Rows_rows : NoAttr K (He.ga K "Rows") "rows"
  na_Rows_places : NoAttr K (He.ga K "Rows") "places"
  m_Rows_number : Meth K (He.ga K "Rows") "number" (He.ma K (He.ga K "Rows") "number")
  m_Rows_row : Meth K (He.ga K "Rows") "row" (He.ma K (He.ga K "Rows") "row")
  cl_Plan : Cls K (He.ga K "Plan")
  mk_Plan : Mk K (He.ga K "Plan") (He.ma K (He.ga K "Plan") "__init__")
  na_Plan_signs : NoAttr K (He.ga K "Plan") "signs"
  na_Plan_named_sets : NoAttr K (He.ga K "Plan") "named_sets"
  na_Plan_named_works : NoAttr K (He.ga K "Plan") "named_works"
  na_Plan_set_table : NoAttr K (He.ga K "Plan") "set_table"
  na_Plan_work_table : NoAttr K (He.ga K "Plan") "work_table"
  na_Plan_set_places : NoAttr K (He.ga K "Plan") "set_places"
  na_Plan_work_places : NoAttr K (He.ga K "Plan") "work_places"
  m_Plan_work_row : Meth K (He.ga K "Plan") "work_row" (He.ma K (He.ga K "Plan") "work_row")
  m_Plan_number_work : Meth K (He.ga K "Plan") "number_work" (He.ma K (He.ga K "Plan") "number_work")
  m_Plan_see_work : Meth K (He.ga K "Plan") "see_work" (He.ma K (He.ga K "Plan") "see_work")
  cl_Worker : Cls K (He.ga K "Worker")
  mk_Worker : Mk K (He.ga K "Worker") (He.ma K (He.ga K "Worker") "__init__")
  na_Worker_plan : NoAttr K (He.ga K "Worker") "plan"
  na_Worker_spans : NoAttr K (He.ga K "Worker") "spans"
  na_Worker_kept : NoAttr K (He.ga K "Worker") "kept"
  m_Worker_plain_answer : Meth K (He.ga K "Worker") "plain_answer" (He.ma K (He.ga K "Worker") "plain_answer")
  m_Worker_answer : Meth K (He.ga K "Worker") "answer" (He.ma K (He.ga K "Worker") "answer")
  m_Worker_ask : Meth K (He.ga K "Worker") "ask" (He.ma K (He.ga K "Worker") "ask")
  d_work_parts : ∃ fd, FnP K "work_parts" (topS 14) (He.ga K "work_parts") fd
  d_sets_asked : ∃ fd, FnP K "sets_asked" (topS 15) (He.ga K "sets_asked") fd
  d_all_works : ∃ fd, FnP K "all_works" (topS 17) (He.ga K "all_works") fd
  d_all_sets_in : ∃ fd, FnP K "all_sets_in" (topS 18) (He.ga K "all_sets_in") fd
  d_step_size : ∃ fd, FnP K "step_size" (topS 20) (He.ga K "step_size") fd
  d_work_size : ∃ fd, FnP K "work_size" (topS 21) (He.ga K "work_size") fd
  d_step_texts : ∃ fd, FnP K "step_texts" (topS 24) (He.ga K "step_texts") fd
  d_work_texts : ∃ fd, FnP K "work_texts" (topS 25) (He.ga K "work_texts") fd
  d_work_names : ∃ fd, FnP K "work_names" (topS 26) (He.ga K "work_names") fd
  d_work_funs : ∃ fd, FnP K "work_funs" (topS 27) (He.ga K "work_funs") fd
  d_work_turns : ∃ fd, FnP K "work_turns" (topS 28) (He.ga K "work_turns") fd
  d_is_printable : ∃ fd, FnP K "is_printable" (topS 32) (He.ga K "is_printable") fd
  d_is_digit : ∃ fd, FnP K "is_digit" (topS 33) (He.ga K "is_digit") fd
  d_is_small : ∃ fd, FnP K "is_small" (topS 34) (He.ga K "is_small") fd
  d_is_great : ∃ fd, FnP K "is_great" (topS 35) (He.ga K "is_great") fd
  d_is_row_char : ∃ fd, FnP K "is_row_char" (topS 36) (He.ga K "is_row_char") fd
  d_is_row : ∃ fd, FnP K "is_row" (topS 37) (He.ga K "is_row") fd
  d_is_fun_name : ∃ fd, FnP K "is_fun_name" (topS 38) (He.ga K "is_fun_name") fd
  d_is_number : ∃ fd, FnP K "is_number" (topS 40) (He.ga K "is_number") fd
  d_is_quotable : ∃ fd, FnP K "is_quotable" (topS 41) (He.ga K "is_quotable") fd
  d_first_word : ∃ fd, FnP K "first_word" (topS 46) (He.ga K "first_word") fd
  d_is_pairs : ∃ fd, FnP K "is_pairs" (topS 49) (He.ga K "is_pairs") fd
  d_is_work_node : ∃ fd, FnP K "is_work_node" (topS 50) (He.ga K "is_work_node") fd
  d_is_work : ∃ fd, FnPD K "is_work" (topS 51) [.non] (He.ga K "is_work") fd
  d_is_item : ∃ fd, FnPD K "is_item" (topS 53) [.non] (He.ga K "is_item") fd
  d_is_program : ∃ fd, FnPD K "is_program" (topS 54) [.non, .non] (He.ga K "is_program") fd
  d_are_signs : ∃ fd, FnP K "are_signs" (topS 59) (He.ga K "are_signs") fd
  d_is_text_of : ∃ fd, FnP K "is_text_of" (topS 60) (He.ga K "is_text_of") fd
  d_text_mistakes : ∃ fd, FnP K "text_mistakes" (topS 61) (He.ga K "text_mistakes") fd
  d_name_mistakes : ∃ fd, FnP K "name_mistakes" (topS 62) (He.ga K "name_mistakes") fd
  d_turn_mistakes : ∃ fd, FnP K "turn_mistakes" (topS 63) (He.ga K "turn_mistakes") fd
  d_work_mistakes : ∃ fd, FnP K "work_mistakes" (topS 65) (He.ga K "work_mistakes") fd
  d_item_mistakes : ∃ fd, FnP K "item_mistakes" (topS 68) (He.ga K "item_mistakes") fd
  d_item_name : ∃ fd, FnP K "item_name" (topS 69) (He.ga K "item_name") fd
  d_mistakes : ∃ fd, FnP K "mistakes" (topS 70) (He.ga K "mistakes") fd
  d_check_program : ∃ fd, FnP K "check_program" (topS 71) (He.ga K "check_program") fd
  d_known_names : ∃ fd, FnP K "known_names" (topS 72) (He.ga K "known_names") fd
  d_fun_names : ∃ fd, FnP K "fun_names" (topS 73) (He.ga K "fun_names") fd
  d_check_work : ∃ fd, FnP K "check_work" (topS 74) (He.ga K "check_work") fd
  d_check_text : ∃ fd, FnP K "check_text" (topS 75) (He.ga K "check_text") fd
  d_check_fun : ∃ fd, FnP K "check_fun" (topS 76) (He.ga K "check_fun") fd
  d_work_row_plan : ∃ fd, FnP K "work_row" (topS 81) (He.ga K "work_row_plan") fd
  d_taken : ∃ fd, FnP K "taken" (topS 83) (He.ga K "taken") fd
  d_bounded : ∃ fd, FnP K "bounded" (topS 99) (He.ga K "bounded") fd
  d_without_last : ∃ fd, FnP K "without_last" (topS 100) (He.ga K "without_last") fd
  d_turned_by : ∃ fd, FnP K "turned_by" (topS 101) (He.ga K "turned_by") fd
  d_answer_unchecked : ∃ fd, FnP K "answer_unchecked" (topS 105) (He.ga K "answer_unchecked") fd
  d_apply : ∃ fd, FnP K "apply" (topS 106) (He.ga K "apply") fd
  d_apply_work : ∃ fd, FnP K "apply_work" (topS 107) (He.ga K "apply_work") fd
  d__law_bag : ∃ fd, FnP K "_law_bag" (topS 109) (He.ga K "_law_bag") fd
  d__law_take : ∃ fd, FnP K "_law_take" (topS 110) (He.ga K "_law_take") fd
  d__law_same : ∃ fd, FnP K "_law_same" (topS 111) (He.ga K "_law_same") fd
  d__law_signs : ∃ fd, FnP K "_law_signs" (topS 112) (He.ga K "_law_signs") fd
  d__law_word : ∃ fd, FnP K "_law_word" (topS 113) (He.ga K "_law_word") fd
  d__law_turn : ∃ fd, FnP K "_law_turn" (topS 114) (He.ga K "_law_turn") fd
  d__law_exchanged : ∃ fd, FnP K "_law_exchanged" (topS 115) (He.ga K "_law_exchanged") fd
  d__law_plain_step : ∃ fd, FnP K "_law_plain_step" (topS 116) (He.ga K "_law_plain_step") fd
  d__law_answered : ∃ fd, FnP K "_law_answered" (topS 117) (He.ga K "_law_answered") fd
  d_law : ∃ fd, FnP K "law" (topS 118) (He.ga K "law") fd
  d_Rows_m___init__ : ∃ fd, FnM K "Rows" "__init__" "Rows.__init__" (clsAt (topS 78) 0) [] fd
  d_Rows_m_number : ∃ fd, FnM K "Rows" "number" "Rows.number" (clsAt (topS 78) 1) [] fd
  d_Rows_m_row : ∃ fd, FnM K "Rows" "row" "Rows.row" (clsAt (topS 78) 2) [] fd
  d_Plan_m___init__ : ∃ fd, FnM K "Plan" "__init__" "Plan.__init__" (clsAt (topS 84) 0) [.non, .non] fd
  d_Plan_m_work_row : ∃ fd, FnM K "Plan" "work_row" "Plan.work_row" (clsAt (topS 84) 2) [] fd
  d_Plan_m_number_work : ∃ fd, FnM K "Plan" "number_work" "Plan.number_work" (clsAt (topS 84) 5) [] fd
  d_Plan_m_see_work : ∃ fd, FnM K "Plan" "see_work" "Plan.see_work" (clsAt (topS 84) 6) [] fd
  d_Worker_m___init__ : ∃ fd, FnM K "Worker" "__init__" "Worker.__init__" (clsAt (topS 103) 0) [] fd
  d_Worker_m_plain_answer : ∃ fd, FnM K "Worker" "plain_answer" "Worker.plain_answer" (clsAt (topS 103) 4) [] fd
  d_Worker_m_answer : ∃ fd, FnM K "Worker" "answer" "Worker.answer" (clsAt (topS 103) 5) [] fd
  d_Worker_m_ask : ∃ fd, FnM K "Worker" "ask" "Worker.ask" (clsAt (topS 103) 6) [] fd
  t_ASK_SETS : mg "ASK_SETS" = some (.ref (He.ga K "ASK_SETS"))
  u_ASK_SETS : DatK K (.ref (He.ga K "ASK_SETS")) dat_ASK_SETS
  t_BEAR_TEXT : mg "BEAR_TEXT" = some (.ref (He.ga K "BEAR_TEXT"))
  u_BEAR_TEXT : DatK K (.ref (He.ga K "BEAR_TEXT")) dat_BEAR_TEXT
  t_RESERVED : mg "RESERVED" = some (.ref (He.ga K "RESERVED"))
  u_RESERVED : DatK K (.ref (He.ga K "RESERVED")) dat_RESERVED
  t_WORK_LENGTHS : mg "WORK_LENGTHS" = some (.ref (He.ga K "WORK_LENGTHS"))
  u_WORK_LENGTHS : ∀ q ∈ tab_WORK_LENGTHS, ∃ u x, PySem.W.nsIn K (He.ga K "WORK_LENGTHS") q.1 = some (some u) ∧ RelV x u ∧ DatK K x q.2
  kd_WORK_LENGTHS : ∃ es n, KDict K w (He.ga K "WORK_LENGTHS") es n
theorem tx_mk {w : World} {K : PySem.W.Frag} {h : Heap} {mg : Str → Option Value} (X : K.In h) (G : h.Ns mainGlobals mg) (ct : He.SaysT fas fns tabs w K) (cx : exB K = true) : Tx w K mg where
  g_work_parts := He.glo_ok X G (ct.d.fact 0 (f := .glo "work_parts") rfl)
  g_sets_asked := He.glo_ok X G (ct.d.fact 1 (f := .glo "sets_asked") rfl)
  g_all_works := He.glo_ok X G (ct.d.fact 2 (f := .glo "all_works") rfl)
  g_all_sets_in := He.glo_ok X G (ct.d.fact 3 (f := .glo "all_sets_in") rfl)
  g_step_size := He.glo_ok X G (ct.d.fact 4 (f := .glo "step_size") rfl)
  g_work_size := He.glo_ok X G (ct.d.fact 5 (f := .glo "work_size") rfl)
  g_step_texts := He.glo_ok X G (ct.d.fact 6 (f := .glo "step_texts") rfl)
  g_work_texts := He.glo_ok X G (ct.d.fact 7 (f := .glo "work_texts") rfl)
  g_work_names := He.glo_ok X G (ct.d.fact 8 (f := .glo "work_names") rfl)
  g_work_funs := He.glo_ok X G (ct.d.fact 9 (f := .glo "work_funs") rfl)
  g_work_turns := He.glo_ok X G (ct.d.fact 10 (f := .glo "work_turns") rfl)
  g_is_printable := He.glo_ok X G (ct.d.fact 11 (f := .glo "is_printable") rfl)
  g_is_digit := He.glo_ok X G (ct.d.fact 12 (f := .glo "is_digit") rfl)
  g_is_small := He.glo_ok X G (ct.d.fact 13 (f := .glo "is_small") rfl)
  g_is_great := He.glo_ok X G (ct.d.fact 14 (f := .glo "is_great") rfl)
  g_is_row_char := He.glo_ok X G (ct.d.fact 15 (f := .glo "is_row_char") rfl)
  g_is_row := He.glo_ok X G (ct.d.fact 16 (f := .glo "is_row") rfl)
  g_is_fun_name := He.glo_ok X G (ct.d.fact 17 (f := .glo "is_fun_name") rfl)
  g_is_number := He.glo_ok X G (ct.d.fact 18 (f := .glo "is_number") rfl)
  g_is_quotable := He.glo_ok X G (ct.d.fact 19 (f := .glo "is_quotable") rfl)
  g_first_word := He.glo_ok X G (ct.d.fact 20 (f := .glo "first_word") rfl)
  g_is_pairs := He.glo_ok X G (ct.d.fact 21 (f := .glo "is_pairs") rfl)
  g_is_work_node := He.glo_ok X G (ct.d.fact 22 (f := .glo "is_work_node") rfl)
  g_is_work := He.glo_ok X G (ct.d.fact 23 (f := .glo "is_work") rfl)
  g_is_item := He.glo_ok X G (ct.d.fact 24 (f := .glo "is_item") rfl)
  g_is_program := He.glo_ok X G (ct.d.fact 25 (f := .glo "is_program") rfl)
  g_are_signs := He.glo_ok X G (ct.d.fact 26 (f := .glo "are_signs") rfl)
  g_is_text_of := He.glo_ok X G (ct.d.fact 27 (f := .glo "is_text_of") rfl)
  g_text_mistakes := He.glo_ok X G (ct.d.fact 28 (f := .glo "text_mistakes") rfl)
  g_name_mistakes := He.glo_ok X G (ct.d.fact 29 (f := .glo "name_mistakes") rfl)
  g_turn_mistakes := He.glo_ok X G (ct.d.fact 30 (f := .glo "turn_mistakes") rfl)
  g_work_mistakes := He.glo_ok X G (ct.d.fact 31 (f := .glo "work_mistakes") rfl)
  g_item_mistakes := He.glo_ok X G (ct.d.fact 32 (f := .glo "item_mistakes") rfl)
  g_item_name := He.glo_ok X G (ct.d.fact 33 (f := .glo "item_name") rfl)
  g_mistakes := He.glo_ok X G (ct.d.fact 34 (f := .glo "mistakes") rfl)
  g_check_program := He.glo_ok X G (ct.d.fact 35 (f := .glo "check_program") rfl)
  g_known_names := He.glo_ok X G (ct.d.fact 36 (f := .glo "known_names") rfl)
  g_fun_names := He.glo_ok X G (ct.d.fact 37 (f := .glo "fun_names") rfl)
  g_check_work := He.glo_ok X G (ct.d.fact 38 (f := .glo "check_work") rfl)
  g_check_text := He.glo_ok X G (ct.d.fact 39 (f := .glo "check_text") rfl)
  g_check_fun := He.glo_ok X G (ct.d.fact 40 (f := .glo "check_fun") rfl)
  g_work_row_plan := He.glo_ok X G (ct.d.fact 41 (f := .glo "work_row_plan") rfl)
  g_taken := He.glo_ok X G (ct.d.fact 42 (f := .glo "taken") rfl)
  g_bounded := He.glo_ok X G (ct.d.fact 43 (f := .glo "bounded") rfl)
  g_without_last := He.glo_ok X G (ct.d.fact 44 (f := .glo "without_last") rfl)
  g_turned_by := He.glo_ok X G (ct.d.fact 45 (f := .glo "turned_by") rfl)
  g_answer_unchecked := He.glo_ok X G (ct.d.fact 46 (f := .glo "answer_unchecked") rfl)
  g_apply := He.glo_ok X G (ct.d.fact 47 (f := .glo "apply") rfl)
  g_apply_work := He.glo_ok X G (ct.d.fact 48 (f := .glo "apply_work") rfl)
  g__law_bag := He.glo_ok X G (ct.d.fact 49 (f := .glo "_law_bag") rfl)
  g__law_take := He.glo_ok X G (ct.d.fact 50 (f := .glo "_law_take") rfl)
  g__law_same := He.glo_ok X G (ct.d.fact 51 (f := .glo "_law_same") rfl)
  g__law_signs := He.glo_ok X G (ct.d.fact 52 (f := .glo "_law_signs") rfl)
  g__law_word := He.glo_ok X G (ct.d.fact 53 (f := .glo "_law_word") rfl)
  g__law_turn := He.glo_ok X G (ct.d.fact 54 (f := .glo "_law_turn") rfl)
  g__law_exchanged := He.glo_ok X G (ct.d.fact 55 (f := .glo "_law_exchanged") rfl)
  g__law_plain_step := He.glo_ok X G (ct.d.fact 56 (f := .glo "_law_plain_step") rfl)
  g__law_answered := He.glo_ok X G (ct.d.fact 57 (f := .glo "_law_answered") rfl)
  g_law := He.glo_ok X G (ct.d.fact 58 (f := .glo "law") rfl)
  f_len := He.free_ok X G (ct.d.fact 59 (f := .free "len") rfl)
  f_sum := He.free_ok X G (ct.d.fact 60 (f := .free "sum") rfl)
  f_all := He.free_ok X G (ct.d.fact 61 (f := .free "all") rfl)
  f_isinstance := He.free_ok X G (ct.d.fact 62 (f := .free "isinstance") rfl)
  f_str := He.free_ok X G (ct.d.fact 63 (f := .free "str") rfl)
  f_bool := He.free_ok X G (ct.d.fact 64 (f := .free "bool") rfl)
  f_int := He.free_ok X G (ct.d.fact 65 (f := .free "int") rfl)
  f_tuple := He.free_ok X G (ct.d.fact 66 (f := .free "tuple") rfl)
  f_set := He.free_ok X G (ct.d.fact 67 (f := .free "set") rfl)
  f_enumerate := He.free_ok X G (ct.d.fact 68 (f := .free "enumerate") rfl)
  f_sorted := He.free_ok X G (ct.d.fact 69 (f := .free "sorted") rfl)
  f_range := He.free_ok X G (ct.d.fact 70 (f := .free "range") rfl)
  g_Rows := He.glo_ok X G (ct.d.fact 71 (f := .glo "Rows") rfl)
  g_Plan := He.glo_ok X G (ct.d.fact 72 (f := .glo "Plan") rfl)
  g_Worker := He.glo_ok X G (ct.d.fact 73 (f := .glo "Worker") rfl)
  c_MOST_NUMBER := He.int_ok X G (ct.d.fact 77 (f := .int "MOST_NUMBER" 99) rfl)
  c_MOST_SIGNS := He.int_ok X G (ct.d.fact 79 (f := .int "MOST_SIGNS" 5) rfl)
  c_MOST_SIZE := He.int_ok X G (ct.d.fact 80 (f := .int "MOST_SIZE" 60) rfl)
  c_MOST_ITEMS := He.int_ok X G (ct.d.fact 81 (f := .int "MOST_ITEMS" 24) rfl)
  c_MOST_ANSWER := He.int_ok X G (ct.d.fact 82 (f := .int "MOST_ANSWER" 10000) rfl)
  c_ASK := He.str_ok X G (ct.d.fact 83 (f := .str "ASK" "ask") rfl)
  c_KEEP := He.str_ok X G (ct.d.fact 84 (f := .str "KEEP" "keep") rfl)
  c_GO_ON := He.str_ok X G (ct.d.fact 85 (f := .str "GO_ON" "go on") rfl)
  cl_Rows := He.cls_ok (ct.d.fact 86 (f := .cls "Rows") rfl)
  mk_Rows := He.mkr_ok (ct.d.fact 87 (f := .mkr "Rows") rfl)
  na_Rows_rows := He.noat_ok (ct.d.fact 88 (f := .noat "Rows" "rows") rfl)
  na_Rows_places := He.noat_ok (ct.d.fact 89 (f := .noat "Rows" "places") rfl)
  m_Rows_number := He.meth_ok (ct.d.fact 90 (f := .meth "Rows" "number") rfl)
  m_Rows_row := He.meth_ok (ct.d.fact 91 (f := .meth "Rows" "row") rfl)
  cl_Plan := He.cls_ok (ct.d.fact 92 (f := .cls "Plan") rfl)
  mk_Plan := He.mkr_ok (ct.d.fact 93 (f := .mkr "Plan") rfl)
  na_Plan_signs := He.noat_ok (ct.d.fact 94 (f := .noat "Plan" "signs") rfl)
  na_Plan_named_sets := He.noat_ok (ct.d.fact 95 (f := .noat "Plan" "named_sets") rfl)
  na_Plan_named_works := He.noat_ok (ct.d.fact 96 (f := .noat "Plan" "named_works") rfl)
  na_Plan_set_table := He.noat_ok (ct.d.fact 97 (f := .noat "Plan" "set_table") rfl)
  na_Plan_work_table := He.noat_ok (ct.d.fact 98 (f := .noat "Plan" "work_table") rfl)
  na_Plan_set_places := He.noat_ok (ct.d.fact 99 (f := .noat "Plan" "set_places") rfl)
  na_Plan_work_places := He.noat_ok (ct.d.fact 100 (f := .noat "Plan" "work_places") rfl)
  m_Plan_work_row := He.meth_ok (ct.d.fact 101 (f := .meth "Plan" "work_row") rfl)
  m_Plan_number_work := He.meth_ok (ct.d.fact 102 (f := .meth "Plan" "number_work") rfl)
  m_Plan_see_work := He.meth_ok (ct.d.fact 103 (f := .meth "Plan" "see_work") rfl)
  cl_Worker := He.cls_ok (ct.d.fact 104 (f := .cls "Worker") rfl)
  mk_Worker := He.mkr_ok (ct.d.fact 105 (f := .mkr "Worker") rfl)
  na_Worker_plan := He.noat_ok (ct.d.fact 106 (f := .noat "Worker" "plan") rfl)
  na_Worker_spans := He.noat_ok (ct.d.fact 107 (f := .noat "Worker" "spans") rfl)
  na_Worker_kept := He.noat_ok (ct.d.fact 108 (f := .noat "Worker" "kept") rfl)
  m_Worker_plain_answer := He.meth_ok (ct.d.fact 109 (f := .meth "Worker" "plain_answer") rfl)
  m_Worker_answer := He.meth_ok (ct.d.fact 110 (f := .meth "Worker" "answer") rfl)
  m_Worker_ask := He.meth_ok (ct.d.fact 111 (f := .meth "Worker" "ask") rfl)
  d_work_parts := ct.d.def_ 0 (d := dd 14 "work_parts") rfl
  d_sets_asked := ct.d.def_ 1 (d := dd 15 "sets_asked") rfl
  d_all_works := ct.d.def_ 2 (d := dd 17 "all_works") rfl
  d_all_sets_in := ct.d.def_ 3 (d := dd 18 "all_sets_in") rfl
  d_step_size := ct.d.def_ 4 (d := dd 20 "step_size") rfl
  d_work_size := ct.d.def_ 5 (d := dd 21 "work_size") rfl
  d_step_texts := ct.d.def_ 6 (d := dd 24 "step_texts") rfl
  d_work_texts := ct.d.def_ 7 (d := dd 25 "work_texts") rfl
  d_work_names := ct.d.def_ 8 (d := dd 26 "work_names") rfl
  d_work_funs := ct.d.def_ 9 (d := dd 27 "work_funs") rfl
  d_work_turns := ct.d.def_ 10 (d := dd 28 "work_turns") rfl
  d_is_printable := ct.d.def_ 11 (d := dd 32 "is_printable") rfl
  d_is_digit := ct.d.def_ 12 (d := dd 33 "is_digit") rfl
  d_is_small := ct.d.def_ 13 (d := dd 34 "is_small") rfl
  d_is_great := ct.d.def_ 14 (d := dd 35 "is_great") rfl
  d_is_row_char := ct.d.def_ 15 (d := dd 36 "is_row_char") rfl
  d_is_row := ct.d.def_ 16 (d := dd 37 "is_row") rfl
  d_is_fun_name := ct.d.def_ 17 (d := dd 38 "is_fun_name") rfl
  d_is_number := ct.d.def_ 18 (d := dd 40 "is_number") rfl
  d_is_quotable := ct.d.def_ 19 (d := dd 41 "is_quotable") rfl
  d_first_word := ct.d.def_ 20 (d := dd 46 "first_word") rfl
  d_is_pairs := ct.d.def_ 21 (d := dd 49 "is_pairs") rfl
  d_is_work_node := ct.d.def_ 22 (d := dd 50 "is_work_node") rfl
  d_is_work := ct.d.def_ 23 (d := ⟨("is_work", none), "is_work", "is_work", defArgs (topS 51), defBody (topS 51), defScope (topS 51), [.non], []⟩) rfl
  d_is_item := ct.d.def_ 24 (d := ⟨("is_item", none), "is_item", "is_item", defArgs (topS 53), defBody (topS 53), defScope (topS 53), [.non], []⟩) rfl
  d_is_program := ct.d.def_ 25 (d := ⟨("is_program", none), "is_program", "is_program", defArgs (topS 54), defBody (topS 54), defScope (topS 54), [.non, .non], []⟩) rfl
  d_are_signs := ct.d.def_ 26 (d := dd 59 "are_signs") rfl
  d_is_text_of := ct.d.def_ 27 (d := dd 60 "is_text_of") rfl
  d_text_mistakes := ct.d.def_ 28 (d := dd 61 "text_mistakes") rfl
  d_name_mistakes := ct.d.def_ 29 (d := dd 62 "name_mistakes") rfl
  d_turn_mistakes := ct.d.def_ 30 (d := dd 63 "turn_mistakes") rfl
  d_work_mistakes := ct.d.def_ 31 (d := dd 65 "work_mistakes") rfl
  d_item_mistakes := ct.d.def_ 32 (d := dd 68 "item_mistakes") rfl
  d_item_name := ct.d.def_ 33 (d := dd 69 "item_name") rfl
  d_mistakes := ct.d.def_ 34 (d := dd 70 "mistakes") rfl
  d_check_program := ct.d.def_ 35 (d := dd 71 "check_program") rfl
  d_known_names := ct.d.def_ 36 (d := dd 72 "known_names") rfl
  d_fun_names := ct.d.def_ 37 (d := dd 73 "fun_names") rfl
  d_check_work := ct.d.def_ 38 (d := dd 74 "check_work") rfl
  d_check_text := ct.d.def_ 39 (d := dd 75 "check_text") rfl
  d_check_fun := ct.d.def_ 40 (d := dd 76 "check_fun") rfl
  d_work_row_plan := ct.d.def_ 41 (d := ⟨("work_row_plan", none), "work_row", "work_row", defArgs (topS 81), defBody (topS 81), defScope (topS 81), [], []⟩) rfl
  d_taken := ct.d.def_ 42 (d := dd 83 "taken") rfl
  d_bounded := ct.d.def_ 43 (d := dd 99 "bounded") rfl
  d_without_last := ct.d.def_ 44 (d := dd 100 "without_last") rfl
  d_turned_by := ct.d.def_ 45 (d := dd 101 "turned_by") rfl
  d_answer_unchecked := ct.d.def_ 46 (d := dd 105 "answer_unchecked") rfl
  d_apply := ct.d.def_ 47 (d := dd 106 "apply") rfl
  d_apply_work := ct.d.def_ 48 (d := dd 107 "apply_work") rfl
  d__law_bag := ct.d.def_ 49 (d := dd 109 "_law_bag") rfl
  d__law_take := ct.d.def_ 50 (d := dd 110 "_law_take") rfl
  d__law_same := ct.d.def_ 51 (d := dd 111 "_law_same") rfl
  d__law_signs := ct.d.def_ 52 (d := dd 112 "_law_signs") rfl
  d__law_word := ct.d.def_ 53 (d := dd 113 "_law_word") rfl
  d__law_turn := ct.d.def_ 54 (d := dd 114 "_law_turn") rfl
  d__law_exchanged := ct.d.def_ 55 (d := dd 115 "_law_exchanged") rfl
  d__law_plain_step := ct.d.def_ 56 (d := dd 116 "_law_plain_step") rfl
  d__law_answered := ct.d.def_ 57 (d := dd 117 "_law_answered") rfl
  d_law := ct.d.def_ 58 (d := dd 118 "law") rfl
  d_Rows_m___init__ := ct.d.def_ 59 (d := ⟨("Rows", some "__init__"), "__init__", "Rows.__init__", defArgs (clsAt (topS 78) 0), defBody (clsAt (topS 78) 0), defScope (clsAt (topS 78) 0), [], []⟩) rfl
  d_Rows_m_number := ct.d.def_ 60 (d := ⟨("Rows", some "number"), "number", "Rows.number", defArgs (clsAt (topS 78) 1), defBody (clsAt (topS 78) 1), defScope (clsAt (topS 78) 1), [], []⟩) rfl
  d_Rows_m_row := ct.d.def_ 61 (d := ⟨("Rows", some "row"), "row", "Rows.row", defArgs (clsAt (topS 78) 2), defBody (clsAt (topS 78) 2), defScope (clsAt (topS 78) 2), [], []⟩) rfl
  d_Plan_m___init__ := ct.d.def_ 62 (d := ⟨("Plan", some "__init__"), "__init__", "Plan.__init__", defArgs (clsAt (topS 84) 0), defBody (clsAt (topS 84) 0), defScope (clsAt (topS 84) 0), [.non, .non], []⟩) rfl
  d_Plan_m_work_row := ct.d.def_ 63 (d := ⟨("Plan", some "work_row"), "work_row", "Plan.work_row", defArgs (clsAt (topS 84) 2), defBody (clsAt (topS 84) 2), defScope (clsAt (topS 84) 2), [], []⟩) rfl
  d_Plan_m_number_work := ct.d.def_ 64 (d := ⟨("Plan", some "number_work"), "number_work", "Plan.number_work", defArgs (clsAt (topS 84) 5), defBody (clsAt (topS 84) 5), defScope (clsAt (topS 84) 5), [], []⟩) rfl
  d_Plan_m_see_work := ct.d.def_ 65 (d := ⟨("Plan", some "see_work"), "see_work", "Plan.see_work", defArgs (clsAt (topS 84) 6), defBody (clsAt (topS 84) 6), defScope (clsAt (topS 84) 6), [], []⟩) rfl
  d_Worker_m___init__ := ct.d.def_ 66 (d := ⟨("Worker", some "__init__"), "__init__", "Worker.__init__", defArgs (clsAt (topS 103) 0), defBody (clsAt (topS 103) 0), defScope (clsAt (topS 103) 0), [], []⟩) rfl
  d_Worker_m_plain_answer := ct.d.def_ 67 (d := ⟨("Worker", some "plain_answer"), "plain_answer", "Worker.plain_answer", defArgs (clsAt (topS 103) 4), defBody (clsAt (topS 103) 4), defScope (clsAt (topS 103) 4), [], []⟩) rfl
  d_Worker_m_answer := ct.d.def_ 68 (d := ⟨("Worker", some "answer"), "answer", "Worker.answer", defArgs (clsAt (topS 103) 5), defBody (clsAt (topS 103) 5), defScope (clsAt (topS 103) 5), [], []⟩) rfl
  d_Worker_m_ask := ct.d.def_ 69 (d := ⟨("Worker", some "ask"), "ask", "Worker.ask", defArgs (clsAt (topS 103) 6), defBody (clsAt (topS 103) 6), defScope (clsAt (topS 103) 6), [], []⟩) rfl
  t_ASK_SETS := He.glo_ok X G (ct.d.fact 74 (f := .glo "ASK_SETS") rfl)
  u_ASK_SETS := by
    obtain ⟨x, r, h⟩ := datB_ok _ _ (exAt cx (l := exL K) (i := 0) rfl)
    cases relV_ref r
    exact h
  t_BEAR_TEXT := He.glo_ok X G (ct.d.fact 75 (f := .glo "BEAR_TEXT") rfl)
  u_BEAR_TEXT := by
    obtain ⟨x, r, h⟩ := datB_ok _ _ (exAt cx (l := exL K) (i := 1) rfl)
    cases relV_ref r
    exact h
  t_RESERVED := He.glo_ok X G (ct.d.fact 76 (f := .glo "RESERVED") rfl)
  u_RESERVED := by
    obtain ⟨x, r, h⟩ := datB_ok _ _ (exAt cx (l := exL K) (i := 2) rfl)
    cases relV_ref r
    exact h
  t_WORK_LENGTHS := He.glo_ok X G (ct.d.fact 78 (f := .glo "WORK_LENGTHS") rfl)
  u_WORK_LENGTHS := fun q hq => tabB_ok (exAt cx (l := exL K) (i := 3) rfl) hq
  kd_WORK_LENGTHS := He.SaysT.tab ct 0
end K08

namespace K08
open PySem PySem.Spec PyProof.Rows L2 Sg
section
variable {P : Program} {w : World} {K : PySem.W.Frag} {mg : Str → Option Value} {base : Heap}
def btw (a b c : Nat) : Bool := decide (a ≤ c) && decide (c ≤ b)
def rcB (c : Nat) : Bool := btw 97 122 c || (btw 65 90 c || (btw 48 57 c || decide (c = 95)))
theorem le_cps {x y : Str} {a b : Nat} (hx : x.cps.toList = [a]) (hy : y.cps.toList = [b]) : (!decide (y.cps.toList < x.cps.toList)) = decide (a ≤ b) := by
  rw [hx, hy]
  have e : (([b] : List Nat) < [a]) ↔ b < a := by
    rw [List.cons_lt_cons_iff]
    constructor
    · rintro (h | ⟨_, h⟩)
      · exact h
      · exact absurd h (List.not_lt_nil _)
    · exact .inl
  by_cases h : a ≤ b
  · rw [decide_eq_true h, decide_eq_false fun z => absurd (e.mp z) (by omega)]
    rfl
  · rw [decide_eq_false h, decide_eq_true (e.mpr (by omega))]
    rfl
theorem ch_q {lo hi c : Nat} {l h : Str} {Q : VK} {H : Hp} (hl : l.cps.toList = [lo]) (hh : h.cps.toList = [hi]) (q : Q (.bl (btw lo hi c)) H) :
    if (!decide ((sgn c).cps.toList < l.cps.toList)) = true then Q (.bl !decide (h.cps.toList < (sgn c).cps.toList)) H else Q (.bl false) H := by
  have hc : (sgn c).cps.toList = [c] := rfl
  rw [le_cps hl hc, le_cps hc hh]
  unfold btw at q
  by_cases e : lo ≤ c
  · rw [decide_eq_true e, if_pos rfl]
    rwa [decide_eq_true e, Bool.true_and] at q
  · rw [decide_eq_false e, if_neg Bool.false_ne_true]
    rwa [decide_eq_false e, Bool.false_and] at q
def spCh (f : Nat → Bool) : Sp := fun vs H Q _ => ∃ c : Nat, vs = [.str (sgn c)] ∧ Q (.bl (f c)) H
theorem sc_is_printable : FnScope ["char"] ["char"] (defScope (topS 32)) := ⟨rfl, rfl, rfl, by decide +kernel, rfl, by decide +kernel, by decide +kernel⟩
theorem bd_is_printable {K : PySem.W.Frag} {f : Addr} {fd : FuncData} (F : FnP K "is_printable" (topS 32) f fd) : Binds K fd ["char"] [] := F.bindsN fun _ _ _ _ _ _ us hl => match us, hl with | [_], _ => rfl
theorem ok_is_printable (T : Tx w K mg) : Dk P w K mg base 1 "is_printable" ["char"] (spCh (btw 32 126)) := by
  obtain ⟨fd, F⟩ := T.d_is_printable
  refine ⟨⟨fd, F.ok sc_is_printable (fun vs H Q E h => ?_) (fun cdv A outer s H vs Q E hr h => ?_), bd_is_printable F⟩, F.kp, T.g_is_printable⟩
  · obtain ⟨c, rfl, _⟩ := h
    rfl
  · obtain ⟨c, rfl, q⟩ := h
    refine ⟨_, PSs.nox (pss_one (ps_ret (pe_chain op_le_str op_le_str pe_str (pv 0) pe_str))), ?_⟩
    simp only [cxOf, tYes, eq_self, if_true, if_false, wipe, rLenQ, rIxTQ, rIxLQ, rIxSQ, rInt1Q, rTupQ, rAppQ, rPopQ, rPopAtQ, rRevQ, rListS, rReprP, tLenSetT, tChain, tRetN, tRet, tSeq, tAsg, gName, tVar, tC, tCons, tNil, tCB, tOp, rI0, rI, tAndV, tOrV, tNotV, tIf, tTest, tB, tNot, tAnd, tOr, tIfS, tNext, tCallR, rIsK, rEq, rNe, tDrop, L2.start, List.map_cons, List.map_nil, List.length_cons, List.length_nil, Nat.reduceAdd, Nat.reduceSub, Nat.sub_self, List.replicate_zero, List.replicate_succ, List.append_nil, List.cons_append, List.nil_append, List.getElem?_cons_zero, List.getElem?_cons_succ, List.set_cons_zero, List.set_cons_succ, Option.some.injEq, List.cons.injEq, and_true, true_and, exists_eq_left, exists_eq_left', exists_eq_right, V.ty.injEq, V.int.injEq, V.bl.injEq, V.str.injEq, V.ref.injEq, exists_and_left, exists_const, reduceIte, reduceCtorEq, false_and, and_false, exists_false, or_false, false_or, Bool.not_true, Bool.not_false, Bool.false_eq_true, String.reduceEq, true_or, or_true, rNotT, tNNew, tNNotIn, tNGet, sNPut, tLenSetN, tPar, tAug, ipI, tDNotIn, sDPut, tDGet, tTup, tLst, tBM, tBM0, tCallD, tCall, rKdIn, tTNew, tTIn, tTGet, sTPut, Sg.tMethR, tMeth, tMakeR, tMake, tDGet2, tSAddK, rSAddK, rSInK, rSet0K, rExtend, rExtendT, tFld, sFld, tRevT, tDIn, tSl, tPart, tNoPart, tDelFrom, StX.tStar, tUn, rU]
    exact ch_q rfl rfl q
theorem sc_is_digit : FnScope ["char"] ["char"] (defScope (topS 33)) := ⟨rfl, rfl, rfl, by decide +kernel, rfl, by decide +kernel, by decide +kernel⟩
theorem bd_is_digit {K : PySem.W.Frag} {f : Addr} {fd : FuncData} (F : FnP K "is_digit" (topS 33) f fd) : Binds K fd ["char"] [] := F.bindsN fun _ _ _ _ _ _ us hl => match us, hl with | [_], _ => rfl
theorem ok_is_digit (T : Tx w K mg) : Dk P w K mg base 1 "is_digit" ["char"] (spCh (btw 48 57)) := by
  obtain ⟨fd, F⟩ := T.d_is_digit
  refine ⟨⟨fd, F.ok sc_is_digit (fun vs H Q E h => ?_) (fun cdv A outer s H vs Q E hr h => ?_), bd_is_digit F⟩, F.kp, T.g_is_digit⟩
  · obtain ⟨c, rfl, _⟩ := h
    rfl
  · obtain ⟨c, rfl, q⟩ := h
    refine ⟨_, PSs.nox (pss_one (ps_ret (pe_chain op_le_str op_le_str pe_str (pv 0) pe_str))), ?_⟩
    simp only [cxOf, tYes, eq_self, if_true, if_false, wipe, rLenQ, rIxTQ, rIxLQ, rIxSQ, rInt1Q, rTupQ, rAppQ, rPopQ, rPopAtQ, rRevQ, rListS, rReprP, tLenSetT, tChain, tRetN, tRet, tSeq, tAsg, gName, tVar, tC, tCons, tNil, tCB, tOp, rI0, rI, tAndV, tOrV, tNotV, tIf, tTest, tB, tNot, tAnd, tOr, tIfS, tNext, tCallR, rIsK, rEq, rNe, tDrop, L2.start, List.map_cons, List.map_nil, List.length_cons, List.length_nil, Nat.reduceAdd, Nat.reduceSub, Nat.sub_self, List.replicate_zero, List.replicate_succ, List.append_nil, List.cons_append, List.nil_append, List.getElem?_cons_zero, List.getElem?_cons_succ, List.set_cons_zero, List.set_cons_succ, Option.some.injEq, List.cons.injEq, and_true, true_and, exists_eq_left, exists_eq_left', exists_eq_right, V.ty.injEq, V.int.injEq, V.bl.injEq, V.str.injEq, V.ref.injEq, exists_and_left, exists_const, reduceIte, reduceCtorEq, false_and, and_false, exists_false, or_false, false_or, Bool.not_true, Bool.not_false, Bool.false_eq_true, String.reduceEq, true_or, or_true, rNotT, tNNew, tNNotIn, tNGet, sNPut, tLenSetN, tPar, tAug, ipI, tDNotIn, sDPut, tDGet, tTup, tLst, tBM, tBM0, tCallD, tCall, rKdIn, tTNew, tTIn, tTGet, sTPut, Sg.tMethR, tMeth, tMakeR, tMake, tDGet2, tSAddK, rSAddK, rSInK, rSet0K, rExtend, rExtendT, tFld, sFld, tRevT, tDIn, tSl, tPart, tNoPart, tDelFrom, StX.tStar, tUn, rU]
    exact ch_q rfl rfl q
theorem sc_is_small : FnScope ["char"] ["char"] (defScope (topS 34)) := ⟨rfl, rfl, rfl, by decide +kernel, rfl, by decide +kernel, by decide +kernel⟩
theorem bd_is_small {K : PySem.W.Frag} {f : Addr} {fd : FuncData} (F : FnP K "is_small" (topS 34) f fd) : Binds K fd ["char"] [] := F.bindsN fun _ _ _ _ _ _ us hl => match us, hl with | [_], _ => rfl
theorem ok_is_small (T : Tx w K mg) : Dk P w K mg base 1 "is_small" ["char"] (spCh (btw 97 122)) := by
  obtain ⟨fd, F⟩ := T.d_is_small
  refine ⟨⟨fd, F.ok sc_is_small (fun vs H Q E h => ?_) (fun cdv A outer s H vs Q E hr h => ?_), bd_is_small F⟩, F.kp, T.g_is_small⟩
  · obtain ⟨c, rfl, _⟩ := h
    rfl
  · obtain ⟨c, rfl, q⟩ := h
    refine ⟨_, PSs.nox (pss_one (ps_ret (pe_chain op_le_str op_le_str pe_str (pv 0) pe_str))), ?_⟩
    simp only [cxOf, tYes, eq_self, if_true, if_false, wipe, rLenQ, rIxTQ, rIxLQ, rIxSQ, rInt1Q, rTupQ, rAppQ, rPopQ, rPopAtQ, rRevQ, rListS, rReprP, tLenSetT, tChain, tRetN, tRet, tSeq, tAsg, gName, tVar, tC, tCons, tNil, tCB, tOp, rI0, rI, tAndV, tOrV, tNotV, tIf, tTest, tB, tNot, tAnd, tOr, tIfS, tNext, tCallR, rIsK, rEq, rNe, tDrop, L2.start, List.map_cons, List.map_nil, List.length_cons, List.length_nil, Nat.reduceAdd, Nat.reduceSub, Nat.sub_self, List.replicate_zero, List.replicate_succ, List.append_nil, List.cons_append, List.nil_append, List.getElem?_cons_zero, List.getElem?_cons_succ, List.set_cons_zero, List.set_cons_succ, Option.some.injEq, List.cons.injEq, and_true, true_and, exists_eq_left, exists_eq_left', exists_eq_right, V.ty.injEq, V.int.injEq, V.bl.injEq, V.str.injEq, V.ref.injEq, exists_and_left, exists_const, reduceIte, reduceCtorEq, false_and, and_false, exists_false, or_false, false_or, Bool.not_true, Bool.not_false, Bool.false_eq_true, String.reduceEq, true_or, or_true, rNotT, tNNew, tNNotIn, tNGet, sNPut, tLenSetN, tPar, tAug, ipI, tDNotIn, sDPut, tDGet, tTup, tLst, tBM, tBM0, tCallD, tCall, rKdIn, tTNew, tTIn, tTGet, sTPut, Sg.tMethR, tMeth, tMakeR, tMake, tDGet2, tSAddK, rSAddK, rSInK, rSet0K, rExtend, rExtendT, tFld, sFld, tRevT, tDIn, tSl, tPart, tNoPart, tDelFrom, StX.tStar, tUn, rU]
    exact ch_q rfl rfl q
theorem sc_is_great : FnScope ["char"] ["char"] (defScope (topS 35)) := ⟨rfl, rfl, rfl, by decide +kernel, rfl, by decide +kernel, by decide +kernel⟩
theorem bd_is_great {K : PySem.W.Frag} {f : Addr} {fd : FuncData} (F : FnP K "is_great" (topS 35) f fd) : Binds K fd ["char"] [] := F.bindsN fun _ _ _ _ _ _ us hl => match us, hl with | [_], _ => rfl
theorem ok_is_great (T : Tx w K mg) : Dk P w K mg base 1 "is_great" ["char"] (spCh (btw 65 90)) := by
  obtain ⟨fd, F⟩ := T.d_is_great
  refine ⟨⟨fd, F.ok sc_is_great (fun vs H Q E h => ?_) (fun cdv A outer s H vs Q E hr h => ?_), bd_is_great F⟩, F.kp, T.g_is_great⟩
  · obtain ⟨c, rfl, _⟩ := h
    rfl
  · obtain ⟨c, rfl, q⟩ := h
    refine ⟨_, PSs.nox (pss_one (ps_ret (pe_chain op_le_str op_le_str pe_str (pv 0) pe_str))), ?_⟩
    simp only [cxOf, tYes, eq_self, if_true, if_false, wipe, rLenQ, rIxTQ, rIxLQ, rIxSQ, rInt1Q, rTupQ, rAppQ, rPopQ, rPopAtQ, rRevQ, rListS, rReprP, tLenSetT, tChain, tRetN, tRet, tSeq, tAsg, gName, tVar, tC, tCons, tNil, tCB, tOp, rI0, rI, tAndV, tOrV, tNotV, tIf, tTest, tB, tNot, tAnd, tOr, tIfS, tNext, tCallR, rIsK, rEq, rNe, tDrop, L2.start, List.map_cons, List.map_nil, List.length_cons, List.length_nil, Nat.reduceAdd, Nat.reduceSub, Nat.sub_self, List.replicate_zero, List.replicate_succ, List.append_nil, List.cons_append, List.nil_append, List.getElem?_cons_zero, List.getElem?_cons_succ, List.set_cons_zero, List.set_cons_succ, Option.some.injEq, List.cons.injEq, and_true, true_and, exists_eq_left, exists_eq_left', exists_eq_right, V.ty.injEq, V.int.injEq, V.bl.injEq, V.str.injEq, V.ref.injEq, exists_and_left, exists_const, reduceIte, reduceCtorEq, false_and, and_false, exists_false, or_false, false_or, Bool.not_true, Bool.not_false, Bool.false_eq_true, String.reduceEq, true_or, or_true, rNotT, tNNew, tNNotIn, tNGet, sNPut, tLenSetN, tPar, tAug, ipI, tDNotIn, sDPut, tDGet, tTup, tLst, tBM, tBM0, tCallD, tCall, rKdIn, tTNew, tTIn, tTGet, sTPut, Sg.tMethR, tMeth, tMakeR, tMake, tDGet2, tSAddK, rSAddK, rSInK, rSet0K, rExtend, rExtendT, tFld, sFld, tRevT, tDIn, tSl, tPart, tNoPart, tDelFrom, StX.tStar, tUn, rU]
    exact ch_q rfl rfl q
theorem sc_is_row_char : FnScope ["char"] ["char"] (defScope (topS 36)) := ⟨rfl, rfl, rfl, by decide +kernel, rfl, by decide +kernel, by decide +kernel⟩
theorem bd_is_row_char {K : PySem.W.Frag} {f : Addr} {fd : FuncData} (F : FnP K "is_row_char" (topS 36) f fd) : Binds K fd ["char"] [] := F.bindsN fun _ _ _ _ _ _ us hl => match us, hl with | [_], _ => rfl
theorem ok_is_row_char (T : Tx w K mg) : Dk P w K mg base 2 "is_row_char" ["char"] (spCh rcB) := by
  have D_is_small := ok_is_small (P := P) (w := w) (base := base) T
  have D_is_great := ok_is_great (P := P) (w := w) (base := base) T
  have D_is_digit := ok_is_digit (P := P) (w := w) (base := base) T
  obtain ⟨fd, F⟩ := T.d_is_row_char
  refine ⟨⟨fd, F.ok sc_is_row_char (fun vs H Q E h => ?_) (fun cdv A outer s H vs Q E hr h => ?_), bd_is_row_char F⟩, F.kp, T.g_is_row_char⟩
  · obtain ⟨c, rfl, _⟩ := h
    rfl
  · obtain ⟨c, rfl, q⟩ := h
    refine ⟨_, PSs.nox (pss_one (ps_ret (pe_or (pe_callR D_is_small (hr.mono (by decide)) takes0 (pa_cons (pv 0) pa_nil)) (pe_or (pe_callR D_is_great (hr.mono (by decide)) takes0 (pa_cons (pv 0) pa_nil)) (pe_or (pe_callR D_is_digit (hr.mono (by decide)) takes0 (pa_cons (pv 0) pa_nil)) (pe_one (pe_cmpR op_eq (pv 0) pe_str (nomark _)))))))), ?_⟩
    simp only [cxOf, tYes, eq_self, if_true, if_false, wipe, rLenQ, rIxTQ, rIxLQ, rIxSQ, rInt1Q, rTupQ, rAppQ, rPopQ, rPopAtQ, rRevQ, rListS, rReprP, tLenSetT, tChain, tRetN, tRet, tSeq, tAsg, gName, tVar, tC, tCons, tNil, tCB, tOp, rI0, rI, tAndV, tOrV, tNotV, tIf, tTest, tB, tNot, tAnd, tOr, tIfS, tNext, tCallR, rIsK, rEq, rNe, tDrop, L2.start, List.map_cons, List.map_nil, List.length_cons, List.length_nil, Nat.reduceAdd, Nat.reduceSub, Nat.sub_self, List.replicate_zero, List.replicate_succ, List.append_nil, List.cons_append, List.nil_append, List.getElem?_cons_zero, List.getElem?_cons_succ, List.set_cons_zero, List.set_cons_succ, Option.some.injEq, List.cons.injEq, and_true, true_and, exists_eq_left, exists_eq_left', exists_eq_right, V.ty.injEq, V.int.injEq, V.bl.injEq, V.str.injEq, V.ref.injEq, exists_and_left, exists_const, reduceIte, reduceCtorEq, false_and, and_false, exists_false, or_false, false_or, Bool.not_true, Bool.not_false, Bool.false_eq_true, String.reduceEq, true_or, or_true, rNotT, tNNew, tNNotIn, tNGet, sNPut, tLenSetN, tPar, tAug, ipI, tDNotIn, sDPut, tDGet, tTup, tLst, tBM, tBM0, tCallD, tCall, rKdIn, tTNew, tTIn, tTGet, sTPut, Sg.tMethR, tMeth, tMakeR, tMake, tDGet2, tSAddK, rSAddK, rSInK, rSet0K, rExtend, rExtendT, tFld, sFld, tRevT, tDIn, tSl, tPart, tNoPart, tDelFrom, StX.tStar, tUn, rU]
    unfold rcB at q
    refine ⟨c, rfl, _, rfl, ?_⟩
    cases e1 : btw 97 122 c with
    | true => rw [e1] at q; exact ifT rfl q
    | false =>
      rw [e1] at q
      refine ifF rfl ⟨c, rfl, _, rfl, ?_⟩
      cases e2 : btw 65 90 c with
      | true => rw [e2] at q; exact ifT rfl q
      | false =>
        rw [e2] at q
        refine ifF rfl ⟨c, rfl, _, rfl, ?_⟩
        cases e3 : btw 48 57 c with
        | true => rw [e3] at q; exact ifT rfl q
        | false =>
          rw [e3] at q
          refine ifF rfl ⟨rfl, ?_⟩
          have e : decide (sgn c = Str.ofString "_") = decide (c = 95) := by
            refine decide_eq_decide.mpr ⟨fun h => ?_, fun h => by rw [h]; rfl⟩
            have h2 : [c] = [95] := congrArg (fun x : Str => x.cps.toList) h
            exact (List.cons.inj h2).1
          rw [e]
          exact q
theorem sc_is_row : FnScope ["word", "char"] ["word"] (defScope (topS 37)) := ⟨rfl, rfl, rfl, by decide +kernel, rfl, by decide +kernel, by decide +kernel⟩
theorem bd_is_row {K : PySem.W.Frag} {f : Addr} {fd : FuncData} (F : FnP K "is_row" (topS 37) f fd) : Binds K fd ["word"] [] := F.bindsN fun _ _ _ _ _ _ us hl => match us, hl with | [_], _ => rfl
def spRwd : Sp := fun vs H Q _ => ∃ z : Str, vs = [.str z] ∧ z.length ≤ 1000 ∧ ∀ H', Same H H' → Q (.bl (decide (1 ≤ z.length) && z.cps.toList.all rcB)) H'
theorem ok_is_row (T : Tx w K mg) : Dk P w K mg base 3 "is_row" ["word"] spRwd := by
  have D_is_row_char := ok_is_row_char (P := P) (w := w) (base := base) T
  obtain ⟨fd, F⟩ := T.d_is_row
  refine ⟨⟨fd, F.ok sc_is_row (fun vs H Q E h => ?_) (fun cdv A outer s H vs Q E hr h => ?_), bd_is_row F⟩, F.kp, T.g_is_row⟩
  · obtain ⟨z, rfl, _⟩ := h
    rfl
  · obtain ⟨z, rfl, hz, q⟩ := h
    refine ⟨_, PSs.nox (pss_one (ps_ret (pe_and (pe_cmpR op_ne (pv 0) pe_str (nomark _)) (pe_one (pe_callB (cr_all rfl) (by rfl) T.f_all (by decide +kernel) (pa_cons (pe_lc (own := [("char", 1)]) rfl sc_is_row.nd (pi_str (pv 0)) (blkOk_by (own := [("char", 1)]) (N := ["word", "char"]) (sc := defScope (topS 37)) (by decide +kernel)) (fun _ _ _ _ _ => (pg_name (i := 1) sc_is_row.nd rfl (.inl rfl))) (fun _ _ _ _ _ => pts_nil) (fun _ _ _ _ _ => (pe_callR D_is_row_char (hr.mono (by decide)) takes0 (pa_cons (pv 1) pa_nil)))) pa_nil)))))), ?_⟩
    simp only [cxOf, tYes, eq_self, if_true, if_false, wipe, rLenQ, rIxTQ, rIxLQ, rIxSQ, rInt1Q, rTupQ, rAppQ, rPopQ, rPopAtQ, rRevQ, rListS, rReprP, tLenSetT, tChain, tRetN, tRet, tSeq, tAsg, gName, tVar, tC, tCons, tNil, tCB, tOp, rI0, rI, tAndV, tOrV, tNotV, tIf, tTest, tB, tNot, tAnd, tOr, tIfS, tNext, tCallR, rIsK, rEq, rNe, tDrop, L2.start, List.map_cons, List.map_nil, List.length_cons, List.length_nil, Nat.reduceAdd, Nat.reduceSub, Nat.sub_self, List.replicate_zero, List.replicate_succ, List.append_nil, List.cons_append, List.nil_append, List.getElem?_cons_zero, List.getElem?_cons_succ, List.set_cons_zero, List.set_cons_succ, Option.some.injEq, List.cons.injEq, and_true, true_and, exists_eq_left, exists_eq_left', exists_eq_right, V.ty.injEq, V.int.injEq, V.bl.injEq, V.str.injEq, V.ref.injEq, exists_and_left, exists_const, reduceIte, reduceCtorEq, false_and, and_false, exists_false, or_false, false_or, Bool.not_true, Bool.not_false, Bool.false_eq_true, String.reduceEq, true_or, or_true, rNotT, tNNew, tNNotIn, tNGet, sNPut, tLenSetN, tPar, tAug, ipI, tDNotIn, sDPut, tDGet, tTup, tLst, tBM, tBM0, tCallD, tCall, rKdIn, tTNew, tTIn, tTGet, sTPut, Sg.tMethR, tMeth, tMakeR, tMake, tDGet2, tSAddK, rSAddK, rSInK, rSet0K, rExtend, rExtendT, tFld, sFld, tRevT, tDIn, tSl, tPart, tNoPart, tDelFrom, StX.tStar, tUn, rU]
    refine ⟨rfl, ?_⟩
    by_cases h1 : 1 ≤ z.length
    case neg =>
      have e : z = Str.ofString "" := by
        refine str_ext ?_
        have hl : z.cps.toList.length = z.length := Array.length_toList
        exact List.length_eq_zero_iff.mp (by omega)
      refine ifF (by rw [decide_eq_true e]; rfl) ?_
      have := q H fun _ _ h => h
      rwa [decide_eq_false h1, Bool.false_and] at this
    have hne : ¬ z = Str.ofString "" := fun e => by rw [e] at h1; exact absurd h1 (by decide)
    refine ifT (by rw [decide_eq_false hne]; rfl) ⟨_, rfl, z, rfl, fun D hD => ?_⟩
    refine lc_gen (n := z.cps.size) (fun i H' => Same H H' ∧ H' D = some (.lst ((z.cps.toList.take i).map fun c => V.bl (rcB c)))) ⟨same_upd hD, upd_same⟩ (fun i H' hi _ => hi) (fun H' _ => Nat.le_refl _) ?_ ?_
    · rintro i x H1 H2 hi ⟨s1, e1⟩ ⟨rfl, c, hc, rfl⟩
      have hc2 : z.cps.toList[i]? = some c := by rw [Array.getElem?_toList]; exact hc
      refine ⟨rfl, ?_⟩
      simp only [cxOf, tYes, eq_self, if_true, if_false, wipe, rLenQ, rIxTQ, rIxLQ, rIxSQ, rInt1Q, rTupQ, rAppQ, rPopQ, rPopAtQ, rRevQ, rListS, rReprP, tLenSetT, tChain, tRetN, tRet, tSeq, tAsg, gName, tVar, tC, tCons, tNil, tCB, tOp, rI0, rI, tAndV, tOrV, tNotV, tIf, tTest, tB, tNot, tAnd, tOr, tIfS, tNext, tCallR, rIsK, rEq, rNe, tDrop, L2.start, List.map_cons, List.map_nil, List.length_cons, List.length_nil, Nat.reduceAdd, Nat.reduceSub, Nat.sub_self, List.replicate_zero, List.replicate_succ, List.append_nil, List.cons_append, List.nil_append, List.getElem?_cons_zero, List.getElem?_cons_succ, List.set_cons_zero, List.set_cons_succ, Option.some.injEq, List.cons.injEq, and_true, true_and, exists_eq_left, exists_eq_left', exists_eq_right, V.ty.injEq, V.int.injEq, V.bl.injEq, V.str.injEq, V.ref.injEq, exists_and_left, exists_const, reduceIte, reduceCtorEq, false_and, and_false, exists_false, or_false, false_or, Bool.not_true, Bool.not_false, Bool.false_eq_true, String.reduceEq, true_or, or_true, rNotT, tNNew, tNNotIn, tNGet, sNPut, tLenSetN, tPar, tAug, ipI, tDNotIn, sDPut, tDGet, tTup, tLst, tBM, tBM0, tCallD, tCall, rKdIn, tTNew, tTIn, tTGet, sTPut, Sg.tMethR, tMeth, tMakeR, tMake, tDGet2, tSAddK, rSAddK, rSInK, rSet0K, rExtend, rExtendT, tFld, sFld, tRevT, tDIn, tSl, tPart, tNoPart, tDelFrom, StX.tStar, tUn, rU]
      refine ⟨c, rfl, _, e1, ?_, ?_, ?_⟩
      · rw [List.length_map, List.length_take]
        exact szlt (m := 1000) (by have : z.cps.toList.length = z.length := Array.length_toList; omega)
      · exact fun b o hb => by rw [upd_ne (ne_of_none hb hD)]; exact s1 b o hb
      · rw [upd_same, List.take_add_one, hc2, List.map_append]
        rfl
    · rintro H1 ⟨s1, e1⟩
      have ee : z.cps.toList.take z.cps.size = z.cps.toList := List.take_of_length_le (by simp)
      rw [ee] at e1
      refine ⟨D, z.cps.toList.map rcB, rfl, .inl (.inl ?_), ?_⟩
      · rw [e1, List.map_map]
        rfl
      · have e2 : (z.cps.toList.map rcB).all id = z.cps.toList.all rcB := by
          rw [List.all_map]
          rfl
        rw [e2]
        have := q H1 s1
        rwa [decide_eq_true h1, Bool.true_and] at this
structure RowOk (z : Str) : Prop where
  pos : 1 ≤ z.length
  top : z.length ≤ 1000
  all : z.cps.toList.all rcB = true
theorem RowOk.one {z : Str} (h : RowOk z) : ∃ c, z.cps.toList[0]? = some c ∧ z.cps.toList.getD 0 0 = c := by
  have hl : 0 < z.cps.toList.length := by rw [Array.length_toList]; exact h.pos
  exact ⟨_, List.getElem?_eq_getElem hl, by rw [List.getD_eq_getElem?_getD, List.getElem?_eq_getElem hl]; rfl⟩
def greatB (z : Str) : Bool := btw 65 90 (z.cps.toList.getD 0 0)
def smallB (z : Str) : Bool := btw 97 122 (z.cps.toList.getD 0 0)
def strsOf : PyData → List Str
  | .tuple ds => ds.filterMap fun d => match d with
    | .str x => some x
    | _ => none
  | _ => []
def resB (z : Str) : Bool := (strsOf dat_RESERVED).any fun y => decide (y = z)
theorem dpAll_strs {H : Hp} : ∀ {l : List Str} {xs : List V}, DpAll K H xs (l.map PyData.str) → xs = l.map V.str
  | [], xs, h => by cases h; rfl
  | y :: l, xs, h => by
    cases h with
    | cons h1 h2 =>
      cases h1
      rw [dpAll_strs h2]
      rfl
theorem strs_seq {H : Hp} {a : Addr} {l : List Str} (h : Dp K H (.ref a) (.tuple (l.map PyData.str))) : SqT K H a (l.map V.str) := by
  cases h with
  | tup h1 h2 => rwa [dpAll_strs h2] at h1
theorem in_strs {z : Str} {l : List Str} : inV (.str z) (l.map V.str) = l.any fun y => decide (y = z) := by
  unfold inV
  rw [List.any_map]
  rfl
theorem flat_strs {l : List Str} : (l.map V.str).all flatV = true := by
  rw [List.all_map]
  exact List.all_eq_true.mpr fun _ _ => rfl
theorem res_seq (T : Tx w K mg) (H : Hp) : SqT K H (He.ga K "RESERVED") ((strsOf dat_RESERVED).map V.str) := strs_seq (T.u_RESERVED H)
theorem sc_is_fun_name : FnScope ["value"] ["value"] (defScope (topS 38)) := ⟨rfl, rfl, rfl, by decide +kernel, rfl, by decide +kernel, by decide +kernel⟩
theorem bd_is_fun_name {K : PySem.W.Frag} {f : Addr} {fd : FuncData} (F : FnP K "is_fun_name" (topS 38) f fd) : Binds K fd ["value"] [] := F.bindsN fun _ _ _ _ _ _ us hl => match us, hl with | [_], _ => rfl
def spFn : Sp := fun vs H Q _ => ∃ z : Str, vs = [.str z] ∧ RowOk z ∧ resB z = false ∧ ∀ H', Same H H' → Q (.bl (smallB z)) H'
theorem ok_is_fun_name (T : Tx w K mg) : Dk P w K mg base 4 "is_fun_name" ["value"] spFn := by
  have D_is_row := ok_is_row (P := P) (w := w) (base := base) T
  have D_is_small := ok_is_small (P := P) (w := w) (base := base) T
  obtain ⟨fd, F⟩ := T.d_is_fun_name
  refine ⟨⟨fd, F.ok sc_is_fun_name (fun vs H Q E h => ?_) (fun cdv A outer s H vs Q E hr h => ?_), bd_is_fun_name F⟩, F.kp, T.g_is_fun_name⟩
  · obtain ⟨z, rfl, _⟩ := h
    rfl
  · obtain ⟨z, rfl, hz, hres, q⟩ := h
    refine ⟨_, PSs.nox (pss_cons (ps_if (PW.pt (pw_or (pt_not (pt_val (pe_callB call_isK (by rfl) T.f_isinstance PyProof.Rows.boot_isinstance (pa_cons (pv 0) (pa_cons (pe_bltn (v := .ty "str") (by rfl) T.f_str PyProof.Rows.boot_str rfl) pa_nil))))) (pw_or1 (pt_not (pt_val (pe_callR D_is_row (hr.mono (by decide)) takes0 (pa_cons (pv 0) pa_nil))))))) (pss_one (ps_ret pe_bl)) pss_nil)
      (pss_one (ps_ret (pe_and (pe_callR D_is_small (hr.mono (by decide)) takes0 (pa_cons (pe_ix ix_strQ (pv 0) pe_int (fun _ _ => rfl)) pa_nil)) (pe_one (pe_cmpR (show OpR _ _ (rIn K true) by exact op_notIn_seq) (pv 0) (pe_glob (v := .ref (He.ga K "RESERVED")) (by rfl) T.t_RESERVED rfl) rfl)))))), ?_⟩
    simp only [cxOf, tYes, eq_self, if_true, if_false, wipe, rLenQ, rIxTQ, rIxLQ, rIxSQ, rInt1Q, rTupQ, rAppQ, rPopQ, rPopAtQ, rRevQ, rListS, rReprP, tLenSetT, tChain, tRetN, tRet, tSeq, tAsg, gName, tVar, tC, tCons, tNil, tCB, tOp, rI0, rI, tAndV, tOrV, tNotV, tIf, tTest, tB, tNot, tAnd, tOr, tIfS, tNext, tCallR, rIsK, rEq, rNe, tDrop, L2.start, List.map_cons, List.map_nil, List.length_cons, List.length_nil, Nat.reduceAdd, Nat.reduceSub, Nat.sub_self, List.replicate_zero, List.replicate_succ, List.append_nil, List.cons_append, List.nil_append, List.getElem?_cons_zero, List.getElem?_cons_succ, List.set_cons_zero, List.set_cons_succ, Option.some.injEq, List.cons.injEq, and_true, true_and, exists_eq_left, exists_eq_left', exists_eq_right, V.ty.injEq, V.int.injEq, V.bl.injEq, V.str.injEq, V.ref.injEq, exists_and_left, exists_const, reduceIte, reduceCtorEq, false_and, and_false, exists_false, or_false, false_or, Bool.not_true, Bool.not_false, Bool.false_eq_true, String.reduceEq, true_or, or_true, rNotT, tNNew, tNNotIn, tNGet, sNPut, tLenSetN, tPar, tAug, ipI, tDNotIn, sDPut, tDGet, tTup, tLst, tBM, tBM0, tCallD, tCall, rKdIn, tTNew, tTIn, tTGet, sTPut, Sg.tMethR, tMeth, tMakeR, tMake, tDGet2, tSAddK, rSAddK, rSInK, rSet0K, rExtend, rExtendT, tFld, sFld, tRevT, tDIn, tSl, tPart, tNoPart, tDelFrom, StX.tStar, tUn, rU]
    obtain ⟨c, hc, e0⟩ := hz.one
    refine ⟨.str z, ifF (by simp [isaB]) ⟨z, rfl, hz.top, fun H1 s1 => ⟨_, rfl, ?_⟩⟩⟩
    rw [decide_eq_true hz.pos, hz.all]
    refine ifF rfl ⟨szle hz.top, c, atI_nat (j := 0) hc, c, rfl, _, rfl, ?_⟩
    unfold smallB at q
    rw [e0] at q
    cases e1 : btw 97 122 c with
    | false =>
      rw [e1] at q
      exact ifF rfl (q H1 s1)
    | true =>
      rw [e1] at q
      refine ifT rfl ⟨_, _, rfl, .inr (res_seq T H1), rfl, flat_strs, ?_⟩
      rw [in_strs]
      have e3 : ((strsOf dat_RESERVED).any fun y => decide (y = z)) = false := hres
      rw [e3]
      exact q H1 s1
theorem sc_is_number : FnScope ["value"] ["value"] (defScope (topS 40)) := ⟨rfl, rfl, rfl, by decide +kernel, rfl, by decide +kernel, by decide +kernel⟩
theorem bd_is_number {K : PySem.W.Frag} {f : Addr} {fd : FuncData} (F : FnP K "is_number" (topS 40) f fd) : Binds K fd ["value"] [] := F.bindsN fun _ _ _ _ _ _ us hl => match us, hl with | [_], _ => rfl
def spNu : Sp := fun vs H Q _ => ∃ n : Nat, vs = [.int n] ∧ n ≤ 99 ∧ Q (.bl true) H
theorem ok_is_number (T : Tx w K mg) : Dk P w K mg base 1 "is_number" ["value"] spNu := by
  obtain ⟨fd, F⟩ := T.d_is_number
  refine ⟨⟨fd, F.ok sc_is_number (fun vs H Q E h => ?_) (fun cdv A outer s H vs Q E hr h => ?_), bd_is_number F⟩, F.kp, T.g_is_number⟩
  · obtain ⟨n, rfl, _⟩ := h
    rfl
  · obtain ⟨n, rfl, hn, q⟩ := h
    obtain ⟨_, c_MOST_NUMBER⟩ := T.c_MOST_NUMBER
    refine ⟨_, PSs.nox (pss_cons (ps_if (PW.pt (pw_or (pt_not (pt_val (pe_callB call_isK (by rfl) T.f_isinstance PyProof.Rows.boot_isinstance (pa_cons (pv 0) (pa_cons (pe_bltn (v := .ty "int") (by rfl) T.f_int PyProof.Rows.boot_int rfl) pa_nil))))) (pw_or1 (pt_val (pe_callB call_isK (by rfl) T.f_isinstance PyProof.Rows.boot_isinstance (pa_cons (pv 0) (pa_cons (pe_bltn (v := .ty "bool") (by rfl) T.f_bool PyProof.Rows.boot_bool rfl) pa_nil))))))) (pss_one (ps_ret pe_bl)) pss_nil)
      (pss_one (ps_ret (pe_chain op_le op_le pe_int (pv 0) (pe_glob (v := .int 99) (by rfl) c_MOST_NUMBER ⟨_, rfl⟩))))), ?_⟩
    simp only [cxOf, tYes, eq_self, if_true, if_false, wipe, rLenQ, rIxTQ, rIxLQ, rIxSQ, rInt1Q, rTupQ, rAppQ, rPopQ, rPopAtQ, rRevQ, rListS, rReprP, tLenSetT, tChain, tRetN, tRet, tSeq, tAsg, gName, tVar, tC, tCons, tNil, tCB, tOp, rI0, rI, tAndV, tOrV, tNotV, tIf, tTest, tB, tNot, tAnd, tOr, tIfS, tNext, tCallR, rIsK, rEq, rNe, tDrop, L2.start, List.map_cons, List.map_nil, List.length_cons, List.length_nil, Nat.reduceAdd, Nat.reduceSub, Nat.sub_self, List.replicate_zero, List.replicate_succ, List.append_nil, List.cons_append, List.nil_append, List.getElem?_cons_zero, List.getElem?_cons_succ, List.set_cons_zero, List.set_cons_succ, Option.some.injEq, List.cons.injEq, and_true, true_and, exists_eq_left, exists_eq_left', exists_eq_right, V.ty.injEq, V.int.injEq, V.bl.injEq, V.str.injEq, V.ref.injEq, exists_and_left, exists_const, reduceIte, reduceCtorEq, false_and, and_false, exists_false, or_false, false_or, Bool.not_true, Bool.not_false, Bool.false_eq_true, String.reduceEq, true_or, or_true, rNotT, tNNew, tNNotIn, tNGet, sNPut, tLenSetN, tPar, tAug, ipI, tDNotIn, sDPut, tDGet, tTup, tLst, tBM, tBM0, tCallD, tCall, rKdIn, tTNew, tTIn, tTGet, sTPut, Sg.tMethR, tMeth, tMakeR, tMake, tDGet2, tSAddK, rSAddK, rSInK, rSet0K, rExtend, rExtendT, tFld, sFld, tRevT, tDIn, tSl, tPart, tNoPart, tDelFrom, StX.tStar, tUn, rU]
    refine ⟨.int _, ifF (by simp [isaB]) ⟨.int _, ifF (by simp [isaB]) ?_⟩⟩
    rw [decide_eq_true (by omega), decide_eq_true (by omega)]
    exact q
def qcB (c : Nat) : Bool := btw 32 126 c && !decide (c = 34)
def QtOk (z : Str) : Prop := ∀ c ∈ z.cps.toList, qcB c = true
theorem sc_is_quotable : FnScope ["value", "char"] ["value"] (defScope (topS 41)) := ⟨rfl, rfl, rfl, by decide +kernel, rfl, by decide +kernel, by decide +kernel⟩
theorem bd_is_quotable {K : PySem.W.Frag} {f : Addr} {fd : FuncData} (F : FnP K "is_quotable" (topS 41) f fd) : Binds K fd ["value"] [] := F.bindsN fun _ _ _ _ _ _ us hl => match us, hl with | [_], _ => rfl
def spQu : Sp := fun vs H Q _ => ∃ z : Str, vs = [.str z] ∧ QtOk z ∧ z.length ≤ 100000 ∧ ∀ H', Same H H' → Q (.bl true) H'
theorem ok_is_quotable (T : Tx w K mg) : Dk P w K mg base 2 "is_quotable" ["value"] spQu := by
  have D_is_printable := ok_is_printable (P := P) (w := w) (base := base) T
  obtain ⟨fd, F⟩ := T.d_is_quotable
  refine ⟨⟨fd, F.ok sc_is_quotable (fun vs H Q E h => ?_) (fun cdv A outer s H vs Q E hr h => ?_), bd_is_quotable F⟩, F.kp, T.g_is_quotable⟩
  · obtain ⟨z, rfl, _⟩ := h
    rfl
  · obtain ⟨z, rfl, hz, hl, q⟩ := h
    refine ⟨_, PSs.nox (pss_cons (ps_if (pt_not (pt_val (pe_callB call_isK (by rfl) T.f_isinstance PyProof.Rows.boot_isinstance (pa_cons (pv 0) (pa_cons (pe_bltn (v := .ty "str") (by rfl) T.f_str PyProof.Rows.boot_str rfl) pa_nil))))) (pss_one (ps_ret pe_bl)) pss_nil)
      (pss_one (ps_ret (pe_callB (cr_all rfl) (by rfl) T.f_all (by decide +kernel) (pa_cons (pe_lc (own := [("char", 1)]) rfl sc_is_quotable.nd (pi_str (pv 0)) (blkOk_by (own := [("char", 1)]) (N := ["value", "char"]) (sc := defScope (topS 41)) (by decide +kernel)) (fun _ _ _ _ _ => (pg_name (i := 1) sc_is_quotable.nd rfl (.inl rfl))) (fun _ _ _ _ _ => pts_nil) (fun _ _ _ _ _ => (pe_and (pe_callR D_is_printable (hr.mono (by decide)) takes0 (pa_cons (pv 1) pa_nil)) (pe_one (pe_cmpR op_ne (pv 1) pe_str (nomark _)))))) pa_nil))))), ?_⟩
    simp only [cxOf, tYes, eq_self, if_true, if_false, wipe, rLenQ, rIxTQ, rIxLQ, rIxSQ, rInt1Q, rTupQ, rAppQ, rPopQ, rPopAtQ, rRevQ, rListS, rReprP, tLenSetT, tChain, tRetN, tRet, tSeq, tAsg, gName, tVar, tC, tCons, tNil, tCB, tOp, rI0, rI, tAndV, tOrV, tNotV, tIf, tTest, tB, tNot, tAnd, tOr, tIfS, tNext, tCallR, rIsK, rEq, rNe, tDrop, L2.start, List.map_cons, List.map_nil, List.length_cons, List.length_nil, Nat.reduceAdd, Nat.reduceSub, Nat.sub_self, List.replicate_zero, List.replicate_succ, List.append_nil, List.cons_append, List.nil_append, List.getElem?_cons_zero, List.getElem?_cons_succ, List.set_cons_zero, List.set_cons_succ, Option.some.injEq, List.cons.injEq, and_true, true_and, exists_eq_left, exists_eq_left', exists_eq_right, V.ty.injEq, V.int.injEq, V.bl.injEq, V.str.injEq, V.ref.injEq, exists_and_left, exists_const, reduceIte, reduceCtorEq, false_and, and_false, exists_false, or_false, false_or, Bool.not_true, Bool.not_false, Bool.false_eq_true, String.reduceEq, true_or, or_true, rNotT, tNNew, tNNotIn, tNGet, sNPut, tLenSetN, tPar, tAug, ipI, tDNotIn, sDPut, tDGet, tTup, tLst, tBM, tBM0, tCallD, tCall, rKdIn, tTNew, tTIn, tTGet, sTPut, Sg.tMethR, tMeth, tMakeR, tMake, tDGet2, tSAddK, rSAddK, rSInK, rSet0K, rExtend, rExtendT, tFld, sFld, tRevT, tDIn, tSl, tPart, tNoPart, tDelFrom, StX.tStar, tUn, rU]
    refine ⟨.str z, ifF (by simp [isaB]) ⟨_, rfl, z, rfl, fun D hD => ?_⟩⟩
    refine lc_gen (n := z.cps.size) (fun i H' => Same H H' ∧ H' D = some (.lst ((z.cps.toList.take i).map fun c => V.bl (qcB c)))) ⟨same_upd hD, upd_same⟩ (fun i H' hi _ => hi) (fun H' _ => Nat.le_refl _) ?_ ?_
    · rintro i x H1 H2 hi ⟨s1, e1⟩ ⟨rfl, c, hc, rfl⟩
      have hc2 : z.cps.toList[i]? = some c := by rw [Array.getElem?_toList]; exact hc
      refine ⟨rfl, ?_⟩
      simp only [cxOf, tYes, eq_self, if_true, if_false, wipe, rLenQ, rIxTQ, rIxLQ, rIxSQ, rInt1Q, rTupQ, rAppQ, rPopQ, rPopAtQ, rRevQ, rListS, rReprP, tLenSetT, tChain, tRetN, tRet, tSeq, tAsg, gName, tVar, tC, tCons, tNil, tCB, tOp, rI0, rI, tAndV, tOrV, tNotV, tIf, tTest, tB, tNot, tAnd, tOr, tIfS, tNext, tCallR, rIsK, rEq, rNe, tDrop, L2.start, List.map_cons, List.map_nil, List.length_cons, List.length_nil, Nat.reduceAdd, Nat.reduceSub, Nat.sub_self, List.replicate_zero, List.replicate_succ, List.append_nil, List.cons_append, List.nil_append, List.getElem?_cons_zero, List.getElem?_cons_succ, List.set_cons_zero, List.set_cons_succ, Option.some.injEq, List.cons.injEq, and_true, true_and, exists_eq_left, exists_eq_left', exists_eq_right, V.ty.injEq, V.int.injEq, V.bl.injEq, V.str.injEq, V.ref.injEq, exists_and_left, exists_const, reduceIte, reduceCtorEq, false_and, and_false, exists_false, or_false, false_or, Bool.not_true, Bool.not_false, Bool.false_eq_true, String.reduceEq, true_or, or_true, rNotT, tNNew, tNNotIn, tNGet, sNPut, tLenSetN, tPar, tAug, ipI, tDNotIn, sDPut, tDGet, tTup, tLst, tBM, tBM0, tCallD, tCall, rKdIn, tTNew, tTIn, tTGet, sTPut, Sg.tMethR, tMeth, tMakeR, tMake, tDGet2, tSAddK, rSAddK, rSInK, rSet0K, rExtend, rExtendT, tFld, sFld, tRevT, tDIn, tSl, tPart, tNoPart, tDelFrom, StX.tStar, tUn, rU]
      have hq := hz c (List.mem_of_getElem? hc2)
      have e3 : decide (({ cps := #[c] } : Str) = Str.ofString "\"") = decide (c = 34) := by
        refine decide_eq_decide.mpr ⟨fun h => ?_, fun h => by rw [h]; rfl⟩
        have h2 : [c] = [34] := congrArg (fun x : Str => x.cps.toList) h
        exact (List.cons.inj h2).1
      have hb : btw 32 126 c = true := by
        unfold qcB at hq
        rw [Bool.and_eq_true] at hq
        exact hq.1
      refine ⟨c, rfl, _, rfl, ifT hb ⟨rfl, _, e1, ?_, ?_, ?_⟩⟩
      · rw [List.length_map, List.length_take]
        exact szlt (m := 100000) (by have : z.cps.toList.length = z.length := Array.length_toList; omega)
      · exact fun b o hb => by rw [upd_ne (ne_of_none hb hD)]; exact s1 b o hb
      · rw [upd_same, List.take_add_one, hc2, List.map_append, e3]
        have e4 : (!decide (c = 34)) = qcB c := by
          unfold qcB
          rw [hb]
          rfl
        rw [e4]
        rfl
    · rintro H1 ⟨s1, e1⟩
      have ee : z.cps.toList.take z.cps.size = z.cps.toList := List.take_of_length_le (by simp)
      rw [ee] at e1
      refine ⟨D, z.cps.toList.map qcB, rfl, .inl (.inl ?_), ?_⟩
      · rw [e1, List.map_map]
        rfl
      · have e2 : (z.cps.toList.map qcB).all id = true := by
          rw [List.all_map]
          exact List.all_eq_true.mpr hz
        rw [e2]
        exact q H1 s1
theorem sc_is_text_of : FnScope ["signs", "value", "char"] ["signs", "value"] (defScope (topS 60)) := ⟨rfl, rfl, rfl, by decide +kernel, rfl, by decide +kernel, by decide +kernel⟩
theorem bd_is_text_of {K : PySem.W.Frag} {f : Addr} {fd : FuncData} (F : FnP K "is_text_of" (topS 60) f fd) : Binds K fd ["signs", "value"] [] := F.bindsN fun _ _ _ _ _ _ us hl => match us, hl with | [_, _], _ => rfl
def txB (z t : Str) : Bool := t.cps.toList.all fun c => decide (c ∈ z.cps.toList)
def spTx (K : PySem.W.Frag) : Sp := fun vs H Q _ => ∃ z v, vs = [.str z, v] ∧ ((∃ t, v = .str t ∧ t.length ≤ 100000 ∧ ∀ H', Same H H' → Q (.bl (txB z t)) H') ∨ (Kd K H v ∧ isaB "str" v = false ∧ Q (.bl false) H))
theorem ok_is_text_of (T : Tx w K mg) : Dk P w K mg base 1 "is_text_of" ["signs", "value"] (spTx K) := by
  obtain ⟨fd, F⟩ := T.d_is_text_of
  refine ⟨⟨fd, F.ok sc_is_text_of (fun vs H Q E h => ?_) (fun cdv A outer s H vs Q E hr h => ?_), bd_is_text_of F⟩, F.kp, T.g_is_text_of⟩
  · obtain ⟨z, v, rfl, _⟩ := h
    rfl
  · obtain ⟨z, v, rfl, h⟩ := h
    refine ⟨_, PSs.nox (pss_cons (ps_if (pt_not (pt_val (pe_callB call_isK (by rfl) T.f_isinstance PyProof.Rows.boot_isinstance (pa_cons (pv 1) (pa_cons (pe_bltn (v := .ty "str") (by rfl) T.f_str PyProof.Rows.boot_str rfl) pa_nil))))) (pss_one (ps_ret pe_bl)) pss_nil)
      (pss_one (ps_ret (pe_callB (cr_all rfl) (by rfl) T.f_all (by decide +kernel) (pa_cons (pe_lc (own := [("char", 2)]) rfl sc_is_text_of.nd (pi_str (pv 1)) (blkOk_by (own := [("char", 2)]) (N := ["signs", "value", "char"]) (sc := defScope (topS 60)) (by decide +kernel)) (fun _ _ _ _ _ => (pg_name (i := 2) sc_is_text_of.nd rfl (.inl rfl))) (fun _ _ _ _ _ => pts_nil) (fun _ _ _ _ _ => (pe_cmpR op_in_sign (pv 2) (pv 0) rfl))) pa_nil))))), ?_⟩
    simp only [cxOf, tYes, eq_self, if_true, if_false, wipe, rLenQ, rIxTQ, rIxLQ, rIxSQ, rInt1Q, rTupQ, rAppQ, rPopQ, rPopAtQ, rRevQ, rListS, rReprP, tLenSetT, tChain, tRetN, tRet, tSeq, tAsg, gName, tVar, tC, tCons, tNil, tCB, tOp, rI0, rI, tAndV, tOrV, tNotV, tIf, tTest, tB, tNot, tAnd, tOr, tIfS, tNext, tCallR, rIsK, rEq, rNe, tDrop, L2.start, List.map_cons, List.map_nil, List.length_cons, List.length_nil, Nat.reduceAdd, Nat.reduceSub, Nat.sub_self, List.replicate_zero, List.replicate_succ, List.append_nil, List.cons_append, List.nil_append, List.getElem?_cons_zero, List.getElem?_cons_succ, List.set_cons_zero, List.set_cons_succ, Option.some.injEq, List.cons.injEq, and_true, true_and, exists_eq_left, exists_eq_left', exists_eq_right, V.ty.injEq, V.int.injEq, V.bl.injEq, V.str.injEq, V.ref.injEq, exists_and_left, exists_const, reduceIte, reduceCtorEq, false_and, and_false, exists_false, or_false, false_or, Bool.not_true, Bool.not_false, Bool.false_eq_true, String.reduceEq, true_or, or_true, rNotT, tNNew, tNNotIn, tNGet, sNPut, tLenSetN, tPar, tAug, ipI, tDNotIn, sDPut, tDGet, tTup, tLst, tBM, tBM0, tCallD, tCall, rKdIn, tTNew, tTIn, tTGet, sTPut, Sg.tMethR, tMeth, tMakeR, tMake, tDGet2, tSAddK, rSAddK, rSInK, rSet0K, rExtend, rExtendT, tFld, sFld, tRevT, tDIn, tSl, tPart, tNoPart, tDelFrom, StX.tStar, tUn, rU]
    rcases h with ⟨t, rfl, ht, q⟩ | ⟨hx, e, q⟩
    · refine ⟨.str t, ifF (by simp [isaB]) ⟨.str t, rfl, t, rfl, fun D hD => ?_⟩⟩
      refine lc_gen (n := t.cps.size) (fun i H' => Same H H' ∧ H' D = some (.lst ((t.cps.toList.take i).map fun c => V.bl (decide (c ∈ z.cps.toList))))) ⟨same_upd hD, upd_same⟩ (fun i H' hi _ => hi) (fun H' _ => Nat.le_refl _) ?_ ?_
      · rintro i x H1 H2 hi ⟨s1, e1⟩ ⟨rfl, c, hc, rfl⟩
        have hc2 : t.cps.toList[i]? = some c := by rw [Array.getElem?_toList]; exact hc
        refine ⟨rfl, ?_⟩
        simp only [cxOf, tYes, eq_self, if_true, if_false, wipe, rLenQ, rIxTQ, rIxLQ, rIxSQ, rInt1Q, rTupQ, rAppQ, rPopQ, rPopAtQ, rRevQ, rListS, rReprP, tLenSetT, tChain, tRetN, tRet, tSeq, tAsg, gName, tVar, tC, tCons, tNil, tCB, tOp, rI0, rI, tAndV, tOrV, tNotV, tIf, tTest, tB, tNot, tAnd, tOr, tIfS, tNext, tCallR, rIsK, rEq, rNe, tDrop, L2.start, List.map_cons, List.map_nil, List.length_cons, List.length_nil, Nat.reduceAdd, Nat.reduceSub, Nat.sub_self, List.replicate_zero, List.replicate_succ, List.append_nil, List.cons_append, List.nil_append, List.getElem?_cons_zero, List.getElem?_cons_succ, List.set_cons_zero, List.set_cons_succ, Option.some.injEq, List.cons.injEq, and_true, true_and, exists_eq_left, exists_eq_left', exists_eq_right, V.ty.injEq, V.int.injEq, V.bl.injEq, V.str.injEq, V.ref.injEq, exists_and_left, exists_const, reduceIte, reduceCtorEq, false_and, and_false, exists_false, or_false, false_or, Bool.not_true, Bool.not_false, Bool.false_eq_true, String.reduceEq, true_or, or_true, rNotT, tNNew, tNNotIn, tNGet, sNPut, tLenSetN, tPar, tAug, ipI, tDNotIn, sDPut, tDGet, tTup, tLst, tBM, tBM0, tCallD, tCall, rKdIn, tTNew, tTIn, tTGet, sTPut, Sg.tMethR, tMeth, tMakeR, tMake, tDGet2, tSAddK, rSAddK, rSInK, rSet0K, rExtend, rExtendT, tFld, sFld, tRevT, tDIn, tSl, tPart, tNoPart, tDelFrom, StX.tStar, tUn, rU]
        refine ⟨c, rfl, _, e1, ?_, ?_, ?_⟩
        · rw [List.length_map, List.length_take]
          exact szlt (m := 100000) (by have : t.cps.toList.length = t.length := Array.length_toList; omega)
        · exact fun b o hb => by rw [upd_ne (ne_of_none hb hD)]; exact s1 b o hb
        · rw [upd_same, List.take_add_one, hc2, List.map_append]
          rfl
      · rintro H1 ⟨s1, e1⟩
        have ee : t.cps.toList.take t.cps.size = t.cps.toList := List.take_of_length_le (by simp)
        rw [ee] at e1
        refine ⟨D, t.cps.toList.map fun c => decide (c ∈ z.cps.toList), rfl, .inl (.inl ?_), ?_⟩
        · rw [e1, List.map_map]
          rfl
        · have e2 : (t.cps.toList.map fun c => decide (c ∈ z.cps.toList)).all id = txB z t := by
            unfold txB
            rw [List.all_map]
            rfl
          rw [e2]
          exact q H1 s1
    · exact ⟨hx, ifT (by rw [e]; rfl) q⟩
end
end K08

/-! steps and works as trees -/
namespace K08
open PySem PySem.Spec PyProof.Rows L2 Sg
inductive Stp where
  | same
  | put (x : Str)
  | ahead (x : Str)
  | behind (x : Str)
  | head (n : Nat)
  | skip (n : Nat)
  | less (n : Nat)
  | turn (ps : List (Str × Str))
inductive Wk where
  | st (s : Stp)
  | th (a b : Wk)
  | fn
def pairK (p : Str × Str) : NestedKey := .tup [.text p.1, .text p.2]
def Stp.word : Stp → Str
  | .same => Str.ofString "same"
  | .put _ => Str.ofString "put"
  | .ahead _ => Str.ofString "ahead"
  | .behind _ => Str.ofString "behind"
  | .head _ => Str.ofString "head"
  | .skip _ => Str.ofString "skip"
  | .less _ => Str.ofString "less"
  | .turn _ => Str.ofString "turn"
def Stp.args : Stp → List NestedKey
  | .same => []
  | .put x => [.text x]
  | .ahead x => [.text x]
  | .behind x => [.text x]
  | .head n => [.num n]
  | .skip n => [.num n]
  | .less n => [.num n]
  | .turn ps => [.tup (ps.map pairK)]
def Stp.key (s : Stp) : NestedKey := .tup (.text s.word :: s.args)
def Wk.word : Wk → Str
  | .st s => s.word
  | .th _ _ => Str.ofString "then"
  | .fn => Str.ofString "fun"
def Wk.key : Wk → NestedKey
  | .st s => s.key
  | .th a b => .tup [.text (Str.ofString "then"), a.key, b.key]
  | .fn => .tup [.text (Str.ofString "fun"), .text (Str.ofString "f")]
def Wk.args : Wk → List NestedKey
  | .st s => s.args
  | .th a b => [a.key, b.key]
  | .fn => [.text (Str.ofString "f")]
theorem Wk.key_eq (w : Wk) : w.key = .tup (.text w.word :: w.args) := by cases w <;> rfl
def Wk.parts : Wk → List Wk
  | .th a b => [a, b]
  | _ => []
/-- all works within, from the left -/
def Wk.pre : Wk → List Wk
  | .th a b => .th a b :: (a.pre ++ b.pre)
  | w => [w]
def Wk.nodes : Wk → Nat
  | .th a b => 1 + a.nodes + b.nodes
  | _ => 1
theorem Wk.pre_len : ∀ w : Wk, w.pre.length = w.nodes
  | .st _ => rfl
  | .fn => rfl
  | .th a b => by
    show (a.pre ++ b.pre).length + 1 = 1 + a.nodes + b.nodes
    rw [List.length_append, a.pre_len, b.pre_len]
    omega
theorem Wk.nodes_pos (w : Wk) : 1 ≤ w.nodes := by
  cases w with
  | th a b => show 1 ≤ 1 + a.nodes + b.nodes; omega
  | _ => exact Nat.le_refl 1
theorem Wk.pre_eq (w : Wk) : w.pre = w :: (w.parts.flatMap Wk.pre) := by
  cases w with
  | th a b => show _ = Wk.th a b :: _; simp [Wk.pre, Wk.parts]
  | _ => rfl
theorem Wk.nodes_eq (w : Wk) : w.nodes = 1 + (w.parts.map Wk.nodes).sum := by
  cases w with
  | th a b => show 1 + a.nodes + b.nodes = 1 + (a.nodes + (b.nodes + 0)); omega
  | _ => rfl
section
variable {K : PySem.W.Frag} {H : Hp} {v : V}
theorem tup_view {ks : List NestedKey} (h : KeyV H v (.tup ks)) : ∃ a xs, v = .ref a ∧ H a = some (.tup xs) ∧ KeyVs H xs ks := by
  cases h with
  | tup h1 h2 => exact ⟨_, _, rfl, h1, h2⟩
theorem text_view {x : Str} (h : KeyV H v (.text x)) : v = .str x := by cases h; rfl
theorem num_view {i : Int} (h : KeyV H v (.num i)) : v = .int i := by cases h; rfl
theorem cons_view {k : NestedKey} {ks : List NestedKey} {xs : List V} (h : KeyVs H xs (k :: ks)) : ∃ x ys, xs = x :: ys ∧ KeyV H x k ∧ KeyVs H ys ks := by
  cases h with
  | cons h1 h2 => exact ⟨_, _, rfl, h1, h2⟩
theorem nil_view {xs : List V} (h : KeyVs H xs []) : xs = [] := by cases h; rfl
theorem wk_view {w : Wk} (h : KeyV H v w.key) : ∃ a xs, v = .ref a ∧ H a = some (.tup (.str w.word :: xs)) ∧ KeyVs H xs w.args := by
  rw [w.key_eq] at h
  obtain ⟨a, xs, rfl, h1, h2⟩ := tup_view h
  obtain ⟨x, ys, rfl, hx, hy⟩ := cons_view h2
  rw [text_view hx] at h1
  exact ⟨a, ys, rfl, h1, hy⟩
theorem one_view {k : NestedKey} {xs : List V} (h : KeyVs H xs [k]) : ∃ x, xs = [x] ∧ KeyV H x k := by
  obtain ⟨x, ys, rfl, h1, h2⟩ := cons_view h
  rw [nil_view h2]
  exact ⟨x, rfl, h1⟩
theorem two_view {k l : NestedKey} {xs : List V} (h : KeyVs H xs [k, l]) : ∃ x y, xs = [x, y] ∧ KeyV H x k ∧ KeyV H y l := by
  obtain ⟨x, ys, rfl, h1, h2⟩ := cons_view h
  obtain ⟨y, rfl, h3⟩ := one_view h2
  exact ⟨x, y, rfl, h1, h3⟩
theorem snoc_view {k : NestedKey} : ∀ {ks : List NestedKey} {xs : List V}, KeyVs H xs (ks ++ [k]) → ∃ ys x, xs = ys ++ [x] ∧ KeyVs H ys ks ∧ KeyV H x k
  | [], _, h => by
    obtain ⟨x, rfl, h1⟩ := one_view h
    exact ⟨[], x, rfl, .nil, h1⟩
  | _ :: ks, _, h => by
    obtain ⟨x, ys, rfl, h1, h2⟩ := cons_view h
    obtain ⟨zs, z, rfl, h3, h4⟩ := snoc_view h2
    exact ⟨x :: zs, z, rfl, .cons h1 h3, h4⟩
theorem key_strs : ∀ l : List Str, KeyVs H (l.map V.str) (l.map NestedKey.text)
  | [] => .nil
  | x :: l => .cons (.str x) (key_strs l)
theorem strs_key : ∀ {l : List Str} {xs : List V}, KeyVs H xs (l.map NestedKey.text) → xs = l.map V.str
  | [], _, h => nil_view h
  | x :: l, _, h => by
    obtain ⟨y, ys, rfl, h1, h2⟩ := cons_view h
    rw [text_view h1, strs_key h2]
    rfl
end
theorem for_none {J : It} {g : TG} {tb : TS} {D : Ends} {σ : L2.St} {H : Hp} (hs : J.stop 0 H) (q : D.nx σ H) :
    ∃ W : Nat → Nat → L2.St → Hp → Prop, (∃ m, W 0 m σ H) ∧ ∀ i m σ H, W i m σ H →
      (J.stop i H ∧ D.nx σ H) ∨ (J.go i H ∧ ∃ N : L2.St → Hp → Prop, (∀ σ' H', N σ' H' → ∃ m', m' < m ∧ W (i + 1) m' σ' H') ∧ ∀ x H', J.yld i H x H' → g x σ H' fun σ2 H2 => tb { D with nx := N, ct := N, bk := D.nx } σ2 H2) :=
  for_gen (n := 0) (fun _ σ' H' => σ' = σ ∧ H' = H) ⟨rfl, rfl⟩ (fun _ _ _ hi => absurd hi (Nat.not_lt_zero _)) (fun _ _ e => by obtain ⟨rfl, rfl⟩ := e; exact hs) (fun _ _ _ _ _ hi => absurd hi (Nat.not_lt_zero _)) fun _ _ e => by obtain ⟨rfl, rfl⟩ := e; exact q
theorem lc_none {J : It} {g : TG} {tt : TT} {te : TE} {vs : List Nat} {σ : L2.St} {H1 : Hp} {D : Addr} {Qd : Hp → Prop} (hs : J.stop 0 (upd H1 D (.lst []))) (q : Qd (upd H1 D (.lst []))) :
    ∃ W : Nat → Nat → Hp → Prop, (∃ m, W 0 m (upd H1 D (.lst []))) ∧ ∀ i m H, W i m H →
      (J.stop i H ∧ Qd H) ∨ (J.go i H ∧ ∃ Nx : Hp → Prop, (∀ H', Nx H' → ∃ m', m' < m ∧ W (i + 1) m' H') ∧ ∀ x H', J.yld i H x H' → g x (wipe σ vs) H' fun σ2 H2 => wipe σ2 vs = wipe σ vs ∧ tt σ2 H2 fun b H3 =>
        if b = true then te σ2 H3 fun y H4 => ∃ acc, H4 D = some (.lst acc) ∧ acc.length < sizeLine ∧ Nx (upd H4 D (.lst (acc ++ [y]))) else Nx H3) :=
  lc_gen (n := 0) (fun _ H' => H' = upd H1 D (.lst [])) rfl (fun _ _ hi => absurd hi (Nat.not_lt_zero _)) (fun _ e => by rw [e]; exact hs) (fun _ _ _ _ hi => absurd hi (Nat.not_lt_zero _)) fun _ e => by rw [e]; exact q
theorem while_none {c : TT} {tb : TS} {D : Ends} {σ : L2.St} {H : Hp} (hc : ∀ Q, Q false H → c σ H Q) (q : D.nx σ H) : tWhile c tb D σ H :=
  ⟨fun m σ' H' => σ' = σ ∧ H' = H, ⟨0, rfl, rfl⟩, fun _ _ _ e => by
    obtain ⟨rfl, rfl⟩ := e
    exact hc _ (by rw [if_neg Bool.false_ne_true]; exact q)⟩
/-- what stands elsewhere is as it was -/
def Chg (S : List Addr) (H H' : Hp) : Prop := ∀ b o, b ∉ S → H b = some o → H' b = some o
theorem Chg.refl (S : List Addr) (H : Hp) : Chg S H H := fun _ _ _ h => h
theorem Chg.trans {S : List Addr} {H H1 H2 : Hp} (a : Chg S H H1) (b : Chg S H1 H2) : Chg S H H2 := fun c o n h => b c o n (a c o n h)
theorem Chg.of_same {S : List Addr} {H H1 : Hp} (s : Same H H1) : Chg S H H1 := fun c o _ h => s c o h
theorem Chg.upd {S : List Addr} {H : Hp} {p : Addr} {o : HO} (h : p ∈ S) : Chg S H (L2.upd H p o) := fun c q n e => by
  have ne : c ≠ p := fun z => n (by rw [z]; exact h)
  rw [upd_ne ne]
  exact e
theorem Chg.mono {S S' : List Addr} {H H1 : Hp} (a : Chg S H H1) (h : ∀ x ∈ S, x ∈ S') : Chg S' H H1 := fun c o n e => a c o (fun z => n (h c z)) e
/-- new places may be used -/
theorem Same.chg {H H1 H2 : Hp} (s : Same H H1) (S : List Addr) (hS : ∀ x ∈ S, H x = none) (c : Chg S H1 H2) : Same H H2 := fun b o h => c b o (fun z => by rw [hS b z] at h; cases h) (s b o h)
theorem snoc_same {H H' : Hp} {D : Addr} {o : HO} (hD : H D = none) (s : Same H H') : Same H (L2.upd H' D o) := fun b q hb => by
  rw [upd_ne (ne_of_none hb hD)]
  exact s b q hb
theorem flat_len {α β : Type} {f : α → List β} (h : ∀ x, 1 ≤ (f x).length) : ∀ l : List α, l.length ≤ (l.flatMap f).length
  | [] => Nat.zero_le _
  | x :: l => by
    rw [List.flatMap_cons, List.length_append, List.length_cons]
    have := flat_len h l
    have := h x
    omega
def stWords : List Str := [Str.ofString "same", Str.ofString "put", Str.ofString "ahead", Str.ofString "behind", Str.ofString "head", Str.ofString "skip", Str.ofString "less", Str.ofString "turn"]
theorem st_mem (s : Stp) : s.word ∈ stWords := by
  cases s <;> simp [Stp.word, stWords]
theorem st_ne {s : Stp} {c : Str} (h : (stWords.all fun x => !decide (x = c)) = true) : s.word ≠ c := fun e => by
  have := List.all_eq_true.mp h _ (st_mem s)
  rw [decide_eq_true e] at this
  cases this
theorem st_any {s : Stp} {l : List Str} (h : (stWords.all fun x => !(l.any fun y => decide (y = x))) = true) : (l.any fun y => decide (y = s.word)) = false := by
  have := List.all_eq_true.mp h _ (st_mem s)
  cases e : l.any fun y => decide (y = s.word) with
  | false => rfl
  | true => rw [e] at this; cases this
theorem at_0 (x : V) (xs : List V) : atI (x :: xs) 0 = some x := atI_nat (j := 0) rfl
theorem at_1 (x y : V) (xs : List V) : atI (x :: y :: xs) 1 = some y := atI_nat (j := 1) rfl
theorem word_no {K : PySem.W.Frag} {H : Hp} {a : Addr} {x c : Str} {xs : List V} {A B : Prop} (ha : H a = some (.tup (.str x :: xs))) (hc : x ≠ c) (q : B) :
    ∃ ys, SqT K H a ys ∧ ∃ y, atI ys 0 = some y ∧ scal y (V.str c) = true ∧ if decide (y = V.str c) = true then A else B :=
  ⟨_, .inl (.inl ha), .str x, at_0 _ _, rfl, ifF (decide_eq_false fun e => hc (by cases e; rfl)) q⟩
theorem word_yes {K : PySem.W.Frag} {H : Hp} {a : Addr} {x c : Str} {xs : List V} {A B : Prop} (ha : H a = some (.tup (.str x :: xs))) (hc : x = c) (q : A) :
    ∃ ys, SqT K H a ys ∧ ∃ y, atI ys 0 = some y ∧ scal y (V.str c) = true ∧ if decide (y = V.str c) = true then A else B :=
  ⟨_, .inl (.inl ha), .str x, at_0 _ _, rfl, ifT (decide_eq_true (by rw [hc])) q⟩
theorem in_tab {K : PySem.W.Frag} {H : Hp} {Q : VK} {l : List Str} {g : Addr} {x : Str} {b : Bool} (hs : SqT K H g (l.map V.str)) (hb : (l.any fun y => decide (y = x)) = b) (q : Q (.bl b) H) : rIn K false (.str x) (.ref g) H Q :=
  ⟨_, _, rfl, .inr hs, rfl, flat_strs, by rw [in_strs, hb]; exact q⟩
theorem nt_then (w : Wk) (h : w.parts = []) : decide (w.word = Str.ofString "then") = false := by
  cases w with
  | th a b => cases h
  | fn => rfl
  | st s => cases s <;> rfl
end K08

namespace K08
open PySem PySem.Spec PyProof.Rows L2 Sg
section
variable {P : Program} {w : World} {K : PySem.W.Frag} {mg : Str → Option Value} {base : Heap}
theorem sc_work_parts : FnScope ["work"] ["work"] (defScope (topS 14)) := ⟨rfl, rfl, rfl, by decide +kernel, rfl, by decide +kernel, by decide +kernel⟩
theorem bd_work_parts {K : PySem.W.Frag} {f : Addr} {fd : FuncData} (F : FnP K "work_parts" (topS 14) f fd) : Binds K fd ["work"] [] := F.bindsN fun _ _ _ _ _ _ us hl => match us, hl with | [_], _ => rfl
def spWp : Sp := fun vs H Q _ => ∃ v t, vs = [v] ∧ KeyV H v (Wk.key t) ∧ ∀ a ys H', Same H H' → H' a = some (.tup ys) → KeyVs H' ys (t.parts.map Wk.key) → Q (.ref a) H'
theorem ok_work_parts (T : Tx w K mg) : Dk P w K mg base 1 "work_parts" ["work"] spWp := by
  obtain ⟨fd, F⟩ := T.d_work_parts
  refine ⟨⟨fd, F.ok sc_work_parts (fun vs H Q E h => ?_) (fun cdv A outer s H vs Q E hr h => ?_), bd_work_parts F⟩, F.kp, T.g_work_parts⟩
  · obtain ⟨v, t, rfl, _⟩ := h
    rfl
  · obtain ⟨v, t, rfl, hv, q⟩ := h
    obtain ⟨a, xs, rfl, ha, hx⟩ := wk_view hv
    refine ⟨_, PSs.nox (pss_cons (ps_if (pt_cmpR op_eq (pe_ix ix_tupQ (pv 0) pe_int (fun _ _ => rfl)) pe_str (nomark _)) (pss_one (ps_ret (pe_tup (pa_cons (pe_ix ix_tupQ (pv 0) pe_int (fun _ _ => rfl)) (pa_cons (pe_ix ix_tupQ (pv 0) pe_int (fun _ _ => rfl)) pa_nil))))) pss_nil)
      (pss_cons (ps_if (pt_cmpR op_eq (pe_ix ix_tupQ (pv 0) pe_int (fun _ _ => rfl)) pe_str (nomark _)) (pss_one (ps_ret (pe_tup (pa_cons (pe_ix ix_tupQ (pv 0) pe_int (fun _ _ => rfl)) pa_nil)))) pss_nil)
      (pss_cons (ps_if (pt_cmpR op_eq (pe_ix ix_tupQ (pv 0) pe_int (fun _ _ => rfl)) pe_str (nomark _)) (pss_one (ps_ret (pe_tup (pa_cons (pe_ix ix_tupQ (pv 0) pe_int (fun _ _ => rfl)) (pa_cons (pe_ix ix_tupQ (pv 0) pe_int (fun _ _ => rfl)) pa_nil))))) pss_nil)
      (pss_one (ps_ret (pe_tup pa_nil)))))), ?_⟩
    simp only [cxOf, tYes, eq_self, if_true, if_false, wipe, rLenQ, rIxTQ, rIxLQ, rIxSQ, rInt1Q, rTupQ, rAppQ, rPopQ, rPopAtQ, rRevQ, rListS, rReprP, tLenSetT, tChain, tRetN, tRet, tSeq, tAsg, gName, tVar, tC, tCons, tNil, tCB, tOp, rI0, rI, tAndV, tOrV, tNotV, tIf, tTest, tB, tNot, tAnd, tOr, tIfS, tNext, tCallR, rIsK, rEq, rNe, tDrop, L2.start, List.map_cons, List.map_nil, List.length_cons, List.length_nil, Nat.reduceAdd, Nat.reduceSub, Nat.sub_self, List.replicate_zero, List.replicate_succ, List.append_nil, List.cons_append, List.nil_append, List.getElem?_cons_zero, List.getElem?_cons_succ, List.set_cons_zero, List.set_cons_succ, Option.some.injEq, List.cons.injEq, and_true, true_and, exists_eq_left, exists_eq_left', exists_eq_right, V.ty.injEq, V.int.injEq, V.bl.injEq, V.str.injEq, V.ref.injEq, exists_and_left, exists_const, reduceIte, reduceCtorEq, false_and, and_false, exists_false, or_false, false_or, Bool.not_true, Bool.not_false, Bool.false_eq_true, String.reduceEq, true_or, or_true, rNotT, tNNew, tNNotIn, tNGet, sNPut, tLenSetN, tPar, tAug, ipI, tDNotIn, sDPut, tDGet, tTup, tLst, tBM, tBM0, tCallD, tCall, rKdIn, tTNew, tTIn, tTGet, sTPut, Sg.tMethR, tMeth, tMakeR, tMake, tDGet2, tSAddK, rSAddK, rSInK, rSet0K, rExtend, rExtendT, tFld, sFld, tRevT, tDIn, tSl, tPart, tNoPart, tDelFrom, StX.tStar, tUn, rU]
    have hS : SqT K H a (.str t.word :: xs) := .inl (.inl ha)
    cases t with
    | th b c =>
      obtain ⟨x, y, rfl, h1, h2⟩ := two_view hx
      exact word_yes ha rfl ⟨_, hS, x, rfl, _, hS, y, rfl, by rw [sizeLine_eq]; decide, fun p hp => q p _ _ (same_upd hp) upd_same (.cons (h1.tp (TP.of_same (same_upd hp))) (.cons (h2.tp (TP.of_same (same_upd hp))) .nil))⟩
    | fn => exact word_no ha (by decide +kernel) (word_no ha (by decide +kernel) (word_no ha (by decide +kernel) ⟨Nat.zero_le _, fun p hp => q p _ _ (same_upd hp) upd_same .nil⟩))
    | st s => exact word_no ha (st_ne (by decide +kernel)) (word_no ha (st_ne (by decide +kernel)) (word_no ha (st_ne (by decide +kernel)) ⟨Nat.zero_le _, fun p hp => q p _ _ (same_upd hp) upd_same .nil⟩))
theorem sc_sets_asked : FnScope ["work"] ["work"] (defScope (topS 15)) := ⟨rfl, rfl, rfl, by decide +kernel, rfl, by decide +kernel, by decide +kernel⟩
theorem bd_sets_asked {K : PySem.W.Frag} {f : Addr} {fd : FuncData} (F : FnP K "sets_asked" (topS 15) f fd) : Binds K fd ["work"] [] := F.bindsN fun _ _ _ _ _ _ us hl => match us, hl with | [_], _ => rfl
def spSa : Sp := fun vs H Q _ => ∃ v t, vs = [v] ∧ KeyV H v (Wk.key t) ∧ ∀ a H', Same H H' → H' a = some (.tup []) → Q (.ref a) H'
theorem ok_sets_asked (T : Tx w K mg) : Dk P w K mg base 1 "sets_asked" ["work"] spSa := by
  obtain ⟨fd, F⟩ := T.d_sets_asked
  refine ⟨⟨fd, F.ok sc_sets_asked (fun vs H Q E h => ?_) (fun cdv A outer s H vs Q E hr h => ?_), bd_sets_asked F⟩, F.kp, T.g_sets_asked⟩
  · obtain ⟨v, t, rfl, _⟩ := h
    rfl
  · obtain ⟨v, t, rfl, hv, q⟩ := h
    obtain ⟨a, xs, rfl, ha, hx⟩ := wk_view hv
    refine ⟨_, PSs.nox (pss_cons (ps_if (pt_cmpR (show OpR _ _ (rIn K false) by exact op_in_seq) (pe_ix ix_tupQ (pv 0) pe_int (fun _ _ => rfl)) (pe_glob (v := .ref (He.ga K "ASK_SETS")) (by rfl) T.t_ASK_SETS rfl) rfl) (pss_one (ps_ret (pe_tup (pa_cons (pe_ix ix_tupQ (pv 0) pe_int (fun _ _ => rfl)) pa_nil)))) pss_nil)
      (pss_one (ps_ret (pe_tup pa_nil)))), ?_⟩
    simp only [cxOf, tYes, eq_self, if_true, if_false, wipe, rLenQ, rIxTQ, rIxLQ, rIxSQ, rInt1Q, rTupQ, rAppQ, rPopQ, rPopAtQ, rRevQ, rListS, rReprP, tLenSetT, tChain, tRetN, tRet, tSeq, tAsg, gName, tVar, tC, tCons, tNil, tCB, tOp, rI0, rI, tAndV, tOrV, tNotV, tIf, tTest, tB, tNot, tAnd, tOr, tIfS, tNext, tCallR, rIsK, rEq, rNe, tDrop, L2.start, List.map_cons, List.map_nil, List.length_cons, List.length_nil, Nat.reduceAdd, Nat.reduceSub, Nat.sub_self, List.replicate_zero, List.replicate_succ, List.append_nil, List.cons_append, List.nil_append, List.getElem?_cons_zero, List.getElem?_cons_succ, List.set_cons_zero, List.set_cons_succ, Option.some.injEq, List.cons.injEq, and_true, true_and, exists_eq_left, exists_eq_left', exists_eq_right, V.ty.injEq, V.int.injEq, V.bl.injEq, V.str.injEq, V.ref.injEq, exists_and_left, exists_const, reduceIte, reduceCtorEq, false_and, and_false, exists_false, or_false, false_or, Bool.not_true, Bool.not_false, Bool.false_eq_true, String.reduceEq, true_or, or_true, rNotT, tNNew, tNNotIn, tNGet, sNPut, tLenSetN, tPar, tAug, ipI, tDNotIn, sDPut, tDGet, tTup, tLst, tBM, tBM0, tCallD, tCall, rKdIn, tTNew, tTIn, tTGet, sTPut, Sg.tMethR, tMeth, tMakeR, tMake, tDGet2, tSAddK, rSAddK, rSInK, rSet0K, rExtend, rExtendT, tFld, sFld, tRevT, tDIn, tSl, tPart, tNoPart, tDelFrom, StX.tStar, tUn, rU]
    refine ⟨_, .inl (.inl ha), .str t.word, at_0 _ _, in_tab (strs_seq (T.u_ASK_SETS H)) (l := strsOf dat_ASK_SETS) (b := false) (by cases t with | st s => exact st_any (by decide +kernel) | th b c => exact (by decide +kernel : ((strsOf dat_ASK_SETS).any fun y => decide (y = Str.ofString "then")) = false) | fn => exact (by decide +kernel : ((strsOf dat_ASK_SETS).any fun y => decide (y = Str.ofString "fun")) = false)) ⟨false, rfl, ifF rfl ⟨Nat.zero_le _, fun p hp => q p _ (same_upd hp) upd_same⟩⟩⟩
theorem sc_all_works : FnScope ["work", "found", "left", "one"] ["work"] (defScope (topS 17)) := ⟨rfl, rfl, rfl, by decide +kernel, rfl, by decide +kernel, by decide +kernel⟩
theorem bd_all_works {K : PySem.W.Frag} {f : Addr} {fd : FuncData} (F : FnP K "all_works" (topS 17) f fd) : Binds K fd ["work"] [] := F.bindsN fun _ _ _ _ _ _ us hl => match us, hl with | [_], _ => rfl
def spAw : Sp := fun vs H Q _ => ∃ v t, vs = [v] ∧ KeyV H v (Wk.key t) ∧ t.nodes ≤ 1000 ∧ ∀ l xs H', H l = none → Same H H' → H' l = some (.lst xs) → KeyVs H' xs (t.pre.map Wk.key) → Q (.ref l) H'
def AwI (H : Hp) (p p1 : Addr) (v : V) (t : Wk) (m : Nat) (σ : L2.St) (H' : Hp) : Prop := ∃ (done ps : List Wk) (fs ls : List V) (x3 : Option V), Same H H' ∧ H' p = some (.lst fs) ∧ H' p1 = some (.lst ls) ∧ KeyVs H' fs (done.map Wk.key) ∧ KeyVs H' ls (ps.map Wk.key).reverse ∧ done ++ ps.flatMap Wk.pre = t.pre ∧ m = (ps.map Wk.nodes).sum ∧ σ = [some v, some (.ref p), some (.ref p1), x3]
theorem ok_all_works (T : Tx w K mg) : Dk P w K mg base 2 "all_works" ["work"] spAw := by
  have D_work_parts := ok_work_parts (P := P) (w := w) (base := base) T
  obtain ⟨fd, F⟩ := T.d_all_works
  refine ⟨⟨fd, F.ok sc_all_works (fun vs H Q E h => ?_) (fun cdv A outer s H vs Q E hr h => ?_), bd_all_works F⟩, F.kp, T.g_all_works⟩
  · obtain ⟨v, t, rfl, _⟩ := h
    rfl
  · obtain ⟨v, t, rfl, hv, hn, q⟩ := h
    refine ⟨_, PSs.nox (pss_cons (ps_set (i := 1) sc_all_works.nd rfl (.inl rfl) (pe_lst pa_nil))
      (pss_cons (ps_set (i := 2) sc_all_works.nd rfl (.inl rfl) (pe_lst (pa_cons (pv 0) pa_nil)))
      (pss_cons (ps_while PassesOwn.never (pt_truth (pv 2) (by intro _; rfl)) (pss_cons (ps_set (i := 3) sc_all_works.nd rfl (.inl rfl) (pe_bm0 PySem.F.plainAttrs_list PySem.F.slot_list_pop PySem.F.type_list_pop mt_popQ (pv 2)))
      (pss_cons (ps_expr (pe_bm PySem.F.plainAttrs_list PySem.F.slot_list_append PySem.F.type_list_append mt_appQ (pv 1) (pa_cons (pv 3) pa_nil)))
      (pss_one (ps_expr (pe_bm PySem.F.plainAttrs_list PySem.F.slot_list_extend PySem.F.type_list_extend mt_extendT (pv 2) (pa_cons (pe_revT (pe_callR D_work_parts (hr.mono (by decide)) takes0 (pa_cons (pv 3) pa_nil))) pa_nil)))))))
      (pss_one (ps_ret (pv 1)))))), ?_⟩
    simp only [cxOf, tYes, eq_self, if_true, if_false, wipe, rLenQ, rIxTQ, rIxLQ, rIxSQ, rInt1Q, rTupQ, rAppQ, rPopQ, rPopAtQ, rRevQ, rListS, rReprP, tLenSetT, tChain, tRetN, tRet, tSeq, tAsg, gName, tVar, tC, tCons, tNil, tCB, tOp, rI0, rI, tAndV, tOrV, tNotV, tIf, tTest, tB, tNot, tAnd, tOr, tIfS, tNext, tCallR, rIsK, rEq, rNe, tDrop, L2.start, List.map_cons, List.map_nil, List.length_cons, List.length_nil, Nat.reduceAdd, Nat.reduceSub, Nat.sub_self, List.replicate_zero, List.replicate_succ, List.append_nil, List.cons_append, List.nil_append, List.getElem?_cons_zero, List.getElem?_cons_succ, List.set_cons_zero, List.set_cons_succ, Option.some.injEq, List.cons.injEq, and_true, true_and, exists_eq_left, exists_eq_left', exists_eq_right, V.ty.injEq, V.int.injEq, V.bl.injEq, V.str.injEq, V.ref.injEq, exists_and_left, exists_const, reduceIte, reduceCtorEq, false_and, and_false, exists_false, or_false, false_or, Bool.not_true, Bool.not_false, Bool.false_eq_true, String.reduceEq, true_or, or_true, rNotT, tNNew, tNNotIn, tNGet, sNPut, tLenSetN, tPar, tAug, ipI, tDNotIn, sDPut, tDGet, tTup, tLst, tBM, tBM0, tCallD, tCall, rKdIn, tTNew, tTIn, tTGet, sTPut, Sg.tMethR, tMeth, tMakeR, tMake, tDGet2, tSAddK, rSAddK, rSInK, rSet0K, rExtend, rExtendT, tFld, sFld, tRevT, tDIn, tSl, tPart, tNoPart, tDelFrom, StX.tStar, tUn, rU]
    refine ⟨Nat.zero_le _, fun p hp => ⟨by rw [sizeLine_eq]; decide, fun p1 hp1 => ?_⟩⟩
    have np : p ≠ p1 := ne_of_none upd_same hp1
    have hp1H : H p1 = none := by rwa [upd_ne (Ne.symm np)] at hp1
    have s0 := Same.trans (same_upd (o := HO.lst []) hp) (same_upd (o := HO.lst [v]) hp1)
    refine ⟨AwI H p p1 v t, ⟨_, [], [t], [], [v], none, s0, (upd_ne np).trans upd_same, upd_same, .nil, .cons (hv.tp (TP.of_same s0)) .nil, by simp, rfl, rfl⟩, ?_⟩
    rintro m σ H' ⟨done, ps, fs, ls, x3, s1, h1, h2, k1, k2, e1, rfl, rfl⟩
    simp only [cxOf, tYes, eq_self, if_true, if_false, wipe, rLenQ, rIxTQ, rIxLQ, rIxSQ, rInt1Q, rTupQ, rAppQ, rPopQ, rPopAtQ, rRevQ, rListS, rReprP, tLenSetT, tChain, tRetN, tRet, tSeq, tAsg, gName, tVar, tC, tCons, tNil, tCB, tOp, rI0, rI, tAndV, tOrV, tNotV, tIf, tTest, tB, tNot, tAnd, tOr, tIfS, tNext, tCallR, rIsK, rEq, rNe, tDrop, L2.start, List.map_cons, List.map_nil, List.length_cons, List.length_nil, Nat.reduceAdd, Nat.reduceSub, Nat.sub_self, List.replicate_zero, List.replicate_succ, List.append_nil, List.cons_append, List.nil_append, List.getElem?_cons_zero, List.getElem?_cons_succ, List.set_cons_zero, List.set_cons_succ, Option.some.injEq, List.cons.injEq, and_true, true_and, exists_eq_left, exists_eq_left', exists_eq_right, V.ty.injEq, V.int.injEq, V.bl.injEq, V.str.injEq, V.ref.injEq, exists_and_left, exists_const, reduceIte, reduceCtorEq, false_and, and_false, exists_false, or_false, false_or, Bool.not_true, Bool.not_false, Bool.false_eq_true, String.reduceEq, true_or, or_true, rNotT, tNNew, tNNotIn, tNGet, sNPut, tLenSetN, tPar, tAug, ipI, tDNotIn, sDPut, tDGet, tTup, tLst, tBM, tBM0, tCallD, tCall, rKdIn, tTNew, tTIn, tTGet, sTPut, Sg.tMethR, tMeth, tMakeR, tMake, tDGet2, tSAddK, rSAddK, rSInK, rSet0K, rExtend, rExtendT, tFld, sFld, tRevT, tDIn, tSl, tPart, tNoPart, tDelFrom, StX.tStar, tUn, rU]
    cases ps with
    | nil =>
      obtain rfl := nil_view k2
      refine ⟨false, .inl ⟨_, .inl (.inl h2), rfl⟩, ifF rfl (q p fs H' hp s1 h1 ?_)⟩
      rw [← e1]
      simpa using k1
    | cons t0 ps =>
      rw [List.map_cons, List.reverse_cons] at k2
      obtain ⟨ls, x, rfl, k2, kx⟩ := snoc_view k2
      refine ⟨true, .inl ⟨_, .inl (.inl h2), by simp⟩, ifT rfl ?_⟩
      refine ⟨fun σ H'' => ∃ m', m' < ((t0 :: ps).map Wk.nodes).sum ∧ AwI H p p1 v t m' σ H'', fun _ _ z => z, lst_ty h2, ls, x, h2, ?_⟩
      have t1 : TP H' (upd H' p1 (.lst ls)) := tp_upd h2 fun _ e => by cases e
      have g1 : (upd H' p1 (.lst ls)) p = some (.lst fs) := (upd_ne np).trans h1
      have t2 := t1.trans (tp_upd (o := HO.lst (fs ++ [x])) g1 fun _ e => by cases e)
      have g2 : (upd (upd H' p1 (.lst ls)) p (.lst (fs ++ [x]))) p1 = some (.lst ls) := (upd_ne (Ne.symm np)).trans upd_same
      have g3 : (upd (upd H' p1 (.lst ls)) p (.lst (fs ++ [x]))) p = some (.lst (fs ++ [x])) := upd_same
      have c2 : Chg [p, p1] H' (upd (upd H' p1 (.lst ls)) p (.lst (fs ++ [x]))) := (Chg.upd (by simp)).trans (Chg.upd (by simp))
      have hlen : done.length + (t0.pre.length + (ps.flatMap Wk.pre).length) = t.nodes := by
        rw [← t.pre_len, ← e1]
        simp
      refine ⟨lst_ty g1, fs, g1, ?_, lst_ty g2, x, t0, rfl, kx.tp t2, ?_⟩
      · rw [k1.len, List.length_map]
        exact szlt (m := 1000) (by rw [t0.pre_len] at hlen; have := t0.nodes_pos; omega)
      intro a ys H3 s3 ha kys
      refine ⟨a, rfl, ys, .inl (.inl ha), fun p2 hp2 => ⟨ls, ?_, ys.reverse, .inl (.inl upd_same), ?_, ?_⟩⟩
      · exact same_upd hp2 _ _ (s3 _ _ g2)
      · rw [k2.len, List.length_reverse, List.length_reverse, kys.len, List.length_map, List.length_map]
        have h5 : ps.length ≤ (ps.flatMap Wk.pre).length := flat_len (fun w => by rw [w.pre_len]; exact w.nodes_pos) ps
        have h6 : t0.parts.length ≤ 2 := by cases t0 <;> simp [Wk.parts]
        exact szle (m := 2000) (by omega)
      have s4 : Same H3 (upd H3 p2 (.tup ys.reverse)) := same_upd hp2
      have g4 := s4 _ _ (s3 _ _ g2)
      have g5 := s4 _ _ (s3 _ _ g3)
      have t3 : TP H' (upd (upd H3 p2 (.tup ys.reverse)) p1 (.lst (ls ++ ys.reverse))) := (t2.trans (TP.of_same (Same.trans s3 s4))).trans (tp_upd g4 fun _ e => by cases e)
      have t4 : TP H3 (upd (upd H3 p2 (.tup ys.reverse)) p1 (.lst (ls ++ ys.reverse))) := (TP.of_same s4).trans (tp_upd g4 fun _ e => by cases e)
      refine ⟨_, ?_, done ++ [t0], t0.parts ++ ps, fs ++ [x], ls ++ ys.reverse, some x, ?_, (upd_ne np).trans g5, upd_same, ?_, ?_, ?_, rfl, rfl⟩
      · rw [List.map_append, List.sum_append, List.map_cons, List.sum_cons, t0.nodes_eq]
        omega
      · exact Same.chg s1 [p, p1] (by simp [hp, hp1H]) ((c2.trans (Chg.of_same (Same.trans s3 s4))).trans (Chg.upd (by simp)))
      · rw [List.map_append]
        exact (k1.tp t3).app (.cons (kx.tp t3) .nil)
      · rw [List.map_append, List.reverse_append]
        exact (k2.tp t3).app (kys.rev.tp t4)
      · rw [← e1, List.flatMap_append, List.flatMap_cons, t0.pre_eq]
        simp
theorem sc_step_texts : FnScope ["work", "pair", "text"] ["work"] (defScope (topS 24)) := ⟨rfl, rfl, rfl, by decide +kernel, rfl, by decide +kernel, by decide +kernel⟩
theorem bd_step_texts {K : PySem.W.Frag} {f : Addr} {fd : FuncData} (F : FnP K "step_texts" (topS 24) f fd) : Binds K fd ["work"] [] := F.bindsN fun _ _ _ _ _ _ us hl => match us, hl with | [_], _ => rfl
def Stp.texts : Stp → List Str
  | .put x => [x]
  | .ahead x => [x]
  | .behind x => [x]
  | .turn ps => ps.flatMap fun p => [p.1, p.2]
  | _ => []
def Wk.stx : Wk → List Str
  | .st s => s.texts
  | _ => []
def spSt : Sp := fun vs H Q _ => ∃ v t, vs = [v] ∧ KeyV H v (Wk.key t) ∧ t.stx.length ≤ 1000 ∧ ∀ l H', Same H H' → H' l = some (.lst (t.stx.map V.str)) → Q (.ref l) H'
theorem ok_step_texts (T : Tx w K mg) : Dk P w K mg base 1 "step_texts" ["work"] spSt := by
  obtain ⟨fd, F⟩ := T.d_step_texts
  refine ⟨⟨fd, F.ok sc_step_texts (fun vs H Q E h => ?_) (fun cdv A outer s H vs Q E hr h => ?_), bd_step_texts F⟩, F.kp, T.g_step_texts⟩
  · obtain ⟨v, t, rfl, _⟩ := h
    rfl
  · obtain ⟨v, t, rfl, hv, hn, q⟩ := h
    obtain ⟨a, xs, rfl, ha, hx⟩ := wk_view hv
    refine ⟨_, PSs.nox (pss_cons (ps_if (pt_cmpR (show OpR _ _ (rIn K false) by exact op_in_seq) (pe_ix ix_tupQ (pv 0) pe_int (fun _ _ => rfl)) (pe_glob (v := .ref (He.ga K "BEAR_TEXT")) (by rfl) T.t_BEAR_TEXT rfl) rfl) (pss_one (ps_ret (pe_lst (pa_cons (pe_ix ix_tupQ (pv 0) pe_int (fun _ _ => rfl)) pa_nil)))) pss_nil)
      (pss_cons (ps_if (pt_cmpR op_eq (pe_ix ix_tupQ (pv 0) pe_int (fun _ _ => rfl)) pe_str (nomark _)) (pss_one (ps_ret (pe_lc2 (own := [("pair", 1), ("text", 2)]) (vs1 := [2]) rfl sc_step_texts.nd (pi_tup (pe_ix ix_tupQ (pv 0) pe_int (fun _ _ => rfl))) (blkOk_by (own := [("pair", 1), ("text", 2)]) (N := ["work", "pair", "text"]) (sc := defScope (topS 24)) (by decide +kernel)) (by decide) (fun _ _ _ _ _ => (pg_name (i := 1) sc_step_texts.nd rfl (.inl rfl))) (fun _ _ _ _ _ => pts_nil) (fun _ _ _ _ _ => (show PI _ _ _ (iTup K _) by exact pi_tup (pv 1))) (fun _ _ _ _ _ => (pg_name (i := 2) sc_step_texts.nd rfl (.inl rfl))) (fun _ _ _ _ _ => pts_nil) (fun _ _ _ _ _ => (pv 2))))) pss_nil)
      (pss_one (ps_ret (pe_lst pa_nil))))), ?_⟩
    simp only [cxOf, tYes, eq_self, if_true, if_false, wipe, rLenQ, rIxTQ, rIxLQ, rIxSQ, rInt1Q, rTupQ, rAppQ, rPopQ, rPopAtQ, rRevQ, rListS, rReprP, tLenSetT, tChain, tRetN, tRet, tSeq, tAsg, gName, tVar, tC, tCons, tNil, tCB, tOp, rI0, rI, tAndV, tOrV, tNotV, tIf, tTest, tB, tNot, tAnd, tOr, tIfS, tNext, tCallR, rIsK, rEq, rNe, tDrop, L2.start, List.map_cons, List.map_nil, List.length_cons, List.length_nil, Nat.reduceAdd, Nat.reduceSub, Nat.sub_self, List.replicate_zero, List.replicate_succ, List.append_nil, List.cons_append, List.nil_append, List.getElem?_cons_zero, List.getElem?_cons_succ, List.set_cons_zero, List.set_cons_succ, Option.some.injEq, List.cons.injEq, and_true, true_and, exists_eq_left, exists_eq_left', exists_eq_right, V.ty.injEq, V.int.injEq, V.bl.injEq, V.str.injEq, V.ref.injEq, exists_and_left, exists_const, reduceIte, reduceCtorEq, false_and, and_false, exists_false, or_false, false_or, Bool.not_true, Bool.not_false, Bool.false_eq_true, String.reduceEq, true_or, or_true, rNotT, tNNew, tNNotIn, tNGet, sNPut, tLenSetN, tPar, tAug, ipI, tDNotIn, sDPut, tDGet, tTup, tLst, tBM, tBM0, tCallD, tCall, rKdIn, tTNew, tTIn, tTGet, sTPut, Sg.tMethR, tMeth, tMakeR, tMake, tDGet2, tSAddK, rSAddK, rSInK, rSet0K, rExtend, rExtendT, tFld, sFld, tRevT, tDIn, tSl, tPart, tNoPart, tDelFrom, StX.tStar, tUn, rU]
    have hS : SqT K H a (.str t.word :: xs) := .inl (.inl ha)
    cases t with
    | fn => exact ⟨_, hS, _, at_0 _ _, in_tab (strs_seq (T.u_BEAR_TEXT H)) (l := strsOf dat_BEAR_TEXT) (by decide +kernel : ((strsOf dat_BEAR_TEXT).any fun y => decide (y = Str.ofString "fun")) = false) ⟨false, rfl, ifF rfl (word_no ha (by decide +kernel : Str.ofString "fun" ≠ _) ⟨Nat.zero_le _, fun p hp => q p _ (same_upd hp) upd_same⟩)⟩⟩
    | th b c => exact ⟨_, hS, _, at_0 _ _, in_tab (strs_seq (T.u_BEAR_TEXT H)) (l := strsOf dat_BEAR_TEXT) (by decide +kernel : ((strsOf dat_BEAR_TEXT).any fun y => decide (y = Str.ofString "then")) = false) ⟨false, rfl, ifF rfl (word_no ha (by decide +kernel : Str.ofString "then" ≠ _) ⟨Nat.zero_le _, fun p hp => q p _ (same_upd hp) upd_same⟩)⟩⟩
    | st s =>
      cases s with
      | same => exact ⟨_, hS, _, at_0 _ _, in_tab (strs_seq (T.u_BEAR_TEXT H)) (l := strsOf dat_BEAR_TEXT) (by decide +kernel : ((strsOf dat_BEAR_TEXT).any fun y => decide (y = Str.ofString "same")) = false) ⟨false, rfl, ifF rfl (word_no ha (by decide +kernel : Str.ofString "same" ≠ _) ⟨Nat.zero_le _, fun p hp => q p _ (same_upd hp) upd_same⟩)⟩⟩
      | head n => exact ⟨_, hS, _, at_0 _ _, in_tab (strs_seq (T.u_BEAR_TEXT H)) (l := strsOf dat_BEAR_TEXT) (by decide +kernel : ((strsOf dat_BEAR_TEXT).any fun y => decide (y = Str.ofString "head")) = false) ⟨false, rfl, ifF rfl (word_no ha (by decide +kernel : Str.ofString "head" ≠ _) ⟨Nat.zero_le _, fun p hp => q p _ (same_upd hp) upd_same⟩)⟩⟩
      | skip n => exact ⟨_, hS, _, at_0 _ _, in_tab (strs_seq (T.u_BEAR_TEXT H)) (l := strsOf dat_BEAR_TEXT) (by decide +kernel : ((strsOf dat_BEAR_TEXT).any fun y => decide (y = Str.ofString "skip")) = false) ⟨false, rfl, ifF rfl (word_no ha (by decide +kernel : Str.ofString "skip" ≠ _) ⟨Nat.zero_le _, fun p hp => q p _ (same_upd hp) upd_same⟩)⟩⟩
      | less n => exact ⟨_, hS, _, at_0 _ _, in_tab (strs_seq (T.u_BEAR_TEXT H)) (l := strsOf dat_BEAR_TEXT) (by decide +kernel : ((strsOf dat_BEAR_TEXT).any fun y => decide (y = Str.ofString "less")) = false) ⟨false, rfl, ifF rfl (word_no ha (by decide +kernel : Str.ofString "less" ≠ _) ⟨Nat.zero_le _, fun p hp => q p _ (same_upd hp) upd_same⟩)⟩⟩
      | put x =>
        obtain ⟨y, rfl, hy⟩ := one_view hx
        obtain rfl := text_view hy
        exact ⟨_, hS, _, at_0 _ _, in_tab (strs_seq (T.u_BEAR_TEXT H)) (l := strsOf dat_BEAR_TEXT) (by decide +kernel : ((strsOf dat_BEAR_TEXT).any fun y => decide (y = Str.ofString "put")) = true) ⟨true, rfl, ifT rfl ⟨_, hS, _, at_1 _ _ _, by rw [sizeLine_eq]; decide, fun p hp => q p _ (same_upd hp) upd_same⟩⟩⟩
      | ahead x =>
        obtain ⟨y, rfl, hy⟩ := one_view hx
        obtain rfl := text_view hy
        exact ⟨_, hS, _, at_0 _ _, in_tab (strs_seq (T.u_BEAR_TEXT H)) (l := strsOf dat_BEAR_TEXT) (by decide +kernel : ((strsOf dat_BEAR_TEXT).any fun y => decide (y = Str.ofString "ahead")) = true) ⟨true, rfl, ifT rfl ⟨_, hS, _, at_1 _ _ _, by rw [sizeLine_eq]; decide, fun p hp => q p _ (same_upd hp) upd_same⟩⟩⟩
      | behind x =>
        obtain ⟨y, rfl, hy⟩ := one_view hx
        obtain rfl := text_view hy
        exact ⟨_, hS, _, at_0 _ _, in_tab (strs_seq (T.u_BEAR_TEXT H)) (l := strsOf dat_BEAR_TEXT) (by decide +kernel : ((strsOf dat_BEAR_TEXT).any fun y => decide (y = Str.ofString "behind")) = true) ⟨true, rfl, ifT rfl ⟨_, hS, _, at_1 _ _ _, by rw [sizeLine_eq]; decide, fun p hp => q p _ (same_upd hp) upd_same⟩⟩⟩
      | turn ps =>
        obtain ⟨y, rfl, hy⟩ := one_view hx
        obtain ⟨b, pvs, rfl, hb, hps⟩ := tup_view hy
        refine ⟨_, hS, _, at_0 _ _, in_tab (strs_seq (T.u_BEAR_TEXT H)) (l := strsOf dat_BEAR_TEXT) (by decide +kernel : ((strsOf dat_BEAR_TEXT).any fun y => decide (y = Str.ofString "turn")) = false) ⟨false, rfl, ifF rfl (word_yes ha rfl ?_)⟩⟩
        unfold tLc2 iTup
        simp only [cxOf, tYes, eq_self, if_true, if_false, wipe, rLenQ, rIxTQ, rIxLQ, rIxSQ, rInt1Q, rTupQ, rAppQ, rPopQ, rPopAtQ, rRevQ, rListS, rReprP, tLenSetT, tChain, tRetN, tRet, tSeq, tAsg, gName, tVar, tC, tCons, tNil, tCB, tOp, rI0, rI, tAndV, tOrV, tNotV, tIf, tTest, tB, tNot, tAnd, tOr, tIfS, tNext, tCallR, rIsK, rEq, rNe, tDrop, L2.start, List.map_cons, List.map_nil, List.length_cons, List.length_nil, Nat.reduceAdd, Nat.reduceSub, Nat.sub_self, List.replicate_zero, List.replicate_succ, List.append_nil, List.cons_append, List.nil_append, List.getElem?_cons_zero, List.getElem?_cons_succ, List.set_cons_zero, List.set_cons_succ, Option.some.injEq, List.cons.injEq, and_true, true_and, exists_eq_left, exists_eq_left', exists_eq_right, V.ty.injEq, V.int.injEq, V.bl.injEq, V.str.injEq, V.ref.injEq, exists_and_left, exists_const, reduceIte, reduceCtorEq, false_and, and_false, exists_false, or_false, false_or, Bool.not_true, Bool.not_false, Bool.false_eq_true, String.reduceEq, true_or, or_true, rNotT, tNNew, tNNotIn, tNGet, sNPut, tLenSetN, tPar, tAug, ipI, tDNotIn, sDPut, tDGet, tTup, tLst, tBM, tBM0, tCallD, tCall, rKdIn, tTNew, tTIn, tTGet, sTPut, Sg.tMethR, tMeth, tMakeR, tMake, tDGet2, tSAddK, rSAddK, rSInK, rSet0K, rExtend, rExtendT, tFld, sFld, tRevT, tDIn, tSl, tPart, tNoPart, tDelFrom, StX.tStar, tUn, rU]
        refine ⟨_, hS, .ref b, at_1 _ _ _, b, rfl, ⟨_, .inl (.inl hb)⟩, fun D hD => ?_⟩
        refine ⟨fun i m H' => m + i = ps.length ∧ Same H H' ∧ H' D = some (.lst (((ps.take i).flatMap fun p => [p.1, p.2]).map V.str)), ⟨_, rfl, same_upd hD, upd_same⟩, ?_⟩
        rintro i m H' ⟨e, s1, h1⟩
        have hbl : pvs.length = ps.length := by rw [hps.len, List.length_map]
        cases m with
        | zero =>
          obtain rfl : i = ps.length := by omega
          rw [List.take_length] at h1
          exact .inl ⟨⟨_, .inl (.inl (s1 _ _ hb)), by omega⟩, q D H' s1 h1⟩
        | succ m =>
          have hi : i < ps.length := by omega
          obtain ⟨p, hp⟩ : ∃ p, ps[i]? = some p := ⟨_, List.getElem?_eq_getElem hi⟩
          obtain ⟨pv, hpv⟩ : ∃ p, pvs[i]? = some p := ⟨_, List.getElem?_eq_getElem (by omega)⟩
          refine .inr ⟨⟨_, pv, .inl (.inl (s1 _ _ hb)), hpv⟩, fun H'' => m + (i + 1) = ps.length ∧ Same H H'' ∧ H'' D = some (.lst (((ps.take (i + 1)).flatMap fun p => [p.1, p.2]).map V.str)), fun H'' h => ⟨m, Nat.lt_succ_self m, h⟩, ?_⟩
          rintro x H2 ⟨rfl, hx2⟩
          obtain rfl := (Option.some.inj ((hx2 _ (.inl (.inl (s1 _ _ hb)))).symm.trans hpv)).symm
          obtain ⟨k, hk, hpk⟩ := hps.get hpv
          rw [List.getElem?_map, hp] at hk
          obtain rfl := Option.some.inj hk
          obtain ⟨c, cs, rfl, hc, hcs⟩ := tup_view hpk
          obtain ⟨y1, y2, rfl, hy1, hy2⟩ := two_view hcs
          obtain rfl := text_view hy1
          obtain rfl := text_view hy2
          refine ⟨_, rfl, ⟨_, .inl (.inl (s1 _ _ hc))⟩, ?_⟩
          refine ⟨fun j k H3 => k + j = 2 ∧ Same H H3 ∧ H3 D = some (.lst (((ps.take i).flatMap fun p => [p.1, p.2]).map V.str ++ [V.str p.1, V.str p.2].take j)), ⟨2, rfl, s1, by rw [h1]; simp⟩, ?_⟩
          rintro j k H3 ⟨e3, s3, h3⟩
          have e9 : ((ps.take (i + 1)).flatMap fun p => [p.1, p.2]).map V.str = ((ps.take i).flatMap fun p => [p.1, p.2]).map V.str ++ [V.str p.1, V.str p.2] := by
            rw [List.take_add_one, hp]
            simp
          cases k with
          | zero =>
            obtain rfl : j = 2 := by omega
            refine .inl ⟨⟨_, .inl (.inl (s3 _ _ hc)), Nat.le_refl 2⟩, by omega, s3, ?_⟩
            rw [h3, e9]
            rfl
          | succ k =>
            have hj : j < 2 := by omega
            obtain ⟨z, hz⟩ : ∃ z, [V.str p.1, V.str p.2][j]? = some z := ⟨_, List.getElem?_eq_getElem hj⟩
            refine .inr ⟨⟨_, z, .inl (.inl (s3 _ _ hc)), hz⟩, fun H4 => k + (j + 1) = 2 ∧ Same H H4 ∧ H4 D = some (.lst (((ps.take i).flatMap fun p => [p.1, p.2]).map V.str ++ [V.str p.1, V.str p.2].take (j + 1))), fun H4 h => ⟨k, Nat.lt_succ_self k, h⟩, ?_⟩
            rintro x H4 ⟨rfl, hx4⟩
            obtain rfl := (Option.some.inj ((hx4 _ (.inl (.inl (s3 _ _ hc)))).symm.trans hz)).symm
            refine ⟨_, h3, ?_, by omega, fun b' o hb' => by rw [upd_ne (ne_of_none hb' hD)]; exact s3 b' o hb', ?_⟩
            · have hl : (((ps.take i).flatMap fun p => [p.1, p.2]).map V.str).length + 2 ≤ 1000 := by
                have h8 : (Wk.st (Stp.turn ps)).stx = ps.flatMap fun p => [p.1, p.2] := rfl
                rw [h8] at hn
                have h7 : ((ps.take (i + 1)).flatMap fun p => [p.1, p.2]).length ≤ (ps.flatMap fun p => [p.1, p.2]).length := by
                  conv => rhs; rw [← List.take_append_drop (i + 1) ps, List.flatMap_append, List.length_append]
                  omega
                have h6 := congrArg List.length e9
                rw [List.length_map, List.length_append] at h6
                have : [V.str p.1, V.str p.2].length = 2 := rfl
                omega
              refine szlt (m := 1000) ?_
              rw [List.length_append, List.length_take]
              have : [V.str p.1, V.str p.2].length = 2 := rfl
              omega
            · rw [upd_same, List.take_add_one, hz, List.append_assoc]
              rfl
end
end K08

namespace K08
open PySem PySem.Spec PyProof.Rows L2 Sg
section
variable {P : Program} {w : World} {K : PySem.W.Frag} {mg : Str → Option Value} {base : Heap}
theorem sc_all_sets_in : FnScope ["work", "found", "one", "sets"] ["work"] (defScope (topS 18)) := ⟨rfl, rfl, rfl, by decide +kernel, rfl, by decide +kernel, by decide +kernel⟩
theorem bd_all_sets_in {K : PySem.W.Frag} {f : Addr} {fd : FuncData} (F : FnP K "all_sets_in" (topS 18) f fd) : Binds K fd ["work"] [] := F.bindsN fun _ _ _ _ _ _ us hl => match us, hl with | [_], _ => rfl
def spAs : Sp := fun vs H Q _ => ∃ v t, vs = [v] ∧ KeyV H v (Wk.key t) ∧ t.nodes ≤ 1000 ∧ ∀ l H', Same H H' → H' l = some (.lst []) → Q (.ref l) H'
theorem ok_all_sets_in (T : Tx w K mg) : Dk P w K mg base 3 "all_sets_in" ["work"] spAs := by
  have D_all_works := ok_all_works (P := P) (w := w) (base := base) T
  have D_sets_asked := ok_sets_asked (P := P) (w := w) (base := base) T
  obtain ⟨fd, F⟩ := T.d_all_sets_in
  refine ⟨⟨fd, F.ok sc_all_sets_in (fun vs H Q E h => ?_) (fun cdv A outer s H vs Q E hr h => ?_), bd_all_sets_in F⟩, F.kp, T.g_all_sets_in⟩
  · obtain ⟨v, t, rfl, _⟩ := h
    rfl
  · obtain ⟨v, t, rfl, hv, hn, q⟩ := h
    refine ⟨_, PSs.nox (pss_cons (ps_set (i := 1) sc_all_sets_in.nd rfl (.inl rfl) (pe_lst pa_nil))
      (pss_cons (ps_for PassesOwn.never rfl (pi_list (pe_callR D_all_works (hr.mono (by decide)) takes0 (pa_cons (pv 0) pa_nil))) (pg_name (i := 2) sc_all_sets_in.nd rfl (.inl rfl)) (pss_one (ps_for PassesOwn.never rfl (pi_tup (pe_callR D_sets_asked (hr.mono (by decide)) takes0 (pa_cons (pv 2) pa_nil))) (pg_name (i := 3) sc_all_sets_in.nd rfl (.inl rfl)) (pss_one (ps_expr (pe_bm PySem.F.plainAttrs_list PySem.F.slot_list_extend PySem.F.type_list_extend mt_extendT (pv 1) (pa_cons pe_dead pa_nil)))))))
      (pss_one (ps_ret (pv 1))))), ?_⟩
    simp only [cxOf, tYes, eq_self, if_true, if_false, wipe, rLenQ, rIxTQ, rIxLQ, rIxSQ, rInt1Q, rTupQ, rAppQ, rPopQ, rPopAtQ, rRevQ, rListS, rReprP, tLenSetT, tChain, tRetN, tRet, tSeq, tAsg, gName, tVar, tC, tCons, tNil, tCB, tOp, rI0, rI, tAndV, tOrV, tNotV, tIf, tTest, tB, tNot, tAnd, tOr, tIfS, tNext, tCallR, rIsK, rEq, rNe, tDrop, L2.start, List.map_cons, List.map_nil, List.length_cons, List.length_nil, Nat.reduceAdd, Nat.reduceSub, Nat.sub_self, List.replicate_zero, List.replicate_succ, List.append_nil, List.cons_append, List.nil_append, List.getElem?_cons_zero, List.getElem?_cons_succ, List.set_cons_zero, List.set_cons_succ, Option.some.injEq, List.cons.injEq, and_true, true_and, exists_eq_left, exists_eq_left', exists_eq_right, V.ty.injEq, V.int.injEq, V.bl.injEq, V.str.injEq, V.ref.injEq, exists_and_left, exists_const, reduceIte, reduceCtorEq, false_and, and_false, exists_false, or_false, false_or, Bool.not_true, Bool.not_false, Bool.false_eq_true, String.reduceEq, true_or, or_true, rNotT, tNNew, tNNotIn, tNGet, sNPut, tLenSetN, tPar, tAug, ipI, tDNotIn, sDPut, tDGet, tTup, tLst, tBM, tBM0, tCallD, tCall, rKdIn, tTNew, tTIn, tTGet, sTPut, Sg.tMethR, tMeth, tMakeR, tMake, tDGet2, tSAddK, rSAddK, rSInK, rSet0K, rExtend, rExtendT, tFld, sFld, tRevT, tDIn, tSl, tPart, tNoPart, tDelFrom, StX.tStar, tUn, rU]
    refine ⟨Nat.zero_le _, fun p hp => ?_⟩
    have s0 := same_upd (o := HO.lst []) hp
    refine ⟨_, rfl, v, t, rfl, hv.tp (TP.of_same s0), hn, fun l xs H1 n1 s1 h1 k1 => ⟨l, rfl, ⟨xs, .inl (.inl h1)⟩, ?_⟩⟩
    refine for_list (K := K) (a := l) (xs := xs) (fun i σ H' => Same H1 H' ∧ ∃ x2 x3, σ = [some v, some (.ref p), x2, x3]) ⟨fun _ _ z => z, _, _, rfl⟩ (fun i σ H' _ h => .inl (.inl (h.1 _ _ h1))) ?_ ?_
    · rintro i x σ H' hx ⟨s2, x2, x3, rfl⟩
      obtain ⟨k, hk, hkv⟩ := k1.get hx
      rw [List.getElem?_map] at hk
      obtain ⟨t', _, rfl⟩ := Option.map_eq_some_iff.mp hk
      simp only [cxOf, tYes, eq_self, if_true, if_false, wipe, rLenQ, rIxTQ, rIxLQ, rIxSQ, rInt1Q, rTupQ, rAppQ, rPopQ, rPopAtQ, rRevQ, rListS, rReprP, tLenSetT, tChain, tRetN, tRet, tSeq, tAsg, gName, tVar, tC, tCons, tNil, tCB, tOp, rI0, rI, tAndV, tOrV, tNotV, tIf, tTest, tB, tNot, tAnd, tOr, tIfS, tNext, tCallR, rIsK, rEq, rNe, tDrop, L2.start, List.map_cons, List.map_nil, List.length_cons, List.length_nil, Nat.reduceAdd, Nat.reduceSub, Nat.sub_self, List.replicate_zero, List.replicate_succ, List.append_nil, List.cons_append, List.nil_append, List.getElem?_cons_zero, List.getElem?_cons_succ, List.set_cons_zero, List.set_cons_succ, Option.some.injEq, List.cons.injEq, and_true, true_and, exists_eq_left, exists_eq_left', exists_eq_right, V.ty.injEq, V.int.injEq, V.bl.injEq, V.str.injEq, V.ref.injEq, exists_and_left, exists_const, reduceIte, reduceCtorEq, false_and, and_false, exists_false, or_false, false_or, Bool.not_true, Bool.not_false, Bool.false_eq_true, String.reduceEq, true_or, or_true, rNotT, tNNew, tNNotIn, tNGet, sNPut, tLenSetN, tPar, tAug, ipI, tDNotIn, sDPut, tDGet, tTup, tLst, tBM, tBM0, tCallD, tCall, rKdIn, tTNew, tTIn, tTGet, sTPut, Sg.tMethR, tMeth, tMakeR, tMake, tDGet2, tSAddK, rSAddK, rSInK, rSet0K, rExtend, rExtendT, tFld, sFld, tRevT, tDIn, tSl, tPart, tNoPart, tDelFrom, StX.tStar, tUn, rU]
      refine ⟨_, rfl, x, t', rfl, hkv.tp (TP.of_same s2), fun a H2 s3 h3 => ⟨a, rfl, ⟨_, .inl (.inl h3)⟩, for_none ⟨_, .inl (.inl h3), Nat.le_refl 0⟩ ⟨Same.trans s2 s3, _, _, rfl⟩⟩⟩
    · rintro σ H' ⟨s2, x2, x3, rfl⟩
      have s3 := Same.trans s1 s2
      exact ⟨_, rfl, q p H' (Same.trans s0 s3) (s3 _ _ upd_same)⟩
theorem sc_step_size : FnScope ["work"] ["work"] (defScope (topS 20)) := ⟨rfl, rfl, rfl, by decide +kernel, rfl, by decide +kernel, by decide +kernel⟩
theorem bd_step_size {K : PySem.W.Frag} {f : Addr} {fd : FuncData} (F : FnP K "step_size" (topS 20) f fd) : Binds K fd ["work"] [] := F.bindsN fun _ _ _ _ _ _ us hl => match us, hl with | [_], _ => rfl
def Stp.sz : Stp → Nat
  | .turn ps => 1 + ps.length
  | _ => 1
def Wk.sz : Wk → Nat
  | .st s => s.sz
  | _ => 1
def spSz : Sp := fun vs H Q _ => ∃ v t, vs = [v] ∧ KeyV H v (Wk.key t) ∧ Q (.int (t.sz : Int)) H
theorem ok_step_size (T : Tx w K mg) : Dk P w K mg base 1 "step_size" ["work"] spSz := by
  obtain ⟨fd, F⟩ := T.d_step_size
  refine ⟨⟨fd, F.ok sc_step_size (fun vs H Q E h => ?_) (fun cdv A outer s H vs Q E hr h => ?_), bd_step_size F⟩, F.kp, T.g_step_size⟩
  · obtain ⟨v, t, rfl, _⟩ := h
    rfl
  · obtain ⟨v, t, rfl, hv, q⟩ := h
    obtain ⟨a, xs, rfl, ha, hx⟩ := wk_view hv
    refine ⟨_, PSs.nox (pss_cons (ps_if (pt_cmpR op_eq (pe_ix ix_tupQ (pv 0) pe_int (fun _ _ => rfl)) pe_str (nomark _)) (pss_one (ps_ret (pe_op op_add pe_int (pe_callB call_lenQ (by rfl) T.f_len PySem.boot_len (pa_cons (pe_ix ix_tupQ (pv 0) pe_int (fun _ _ => rfl)) pa_nil))))) pss_nil)
      (pss_one (ps_ret pe_int))), ?_⟩
    simp only [cxOf, tYes, eq_self, if_true, if_false, wipe, rLenQ, rIxTQ, rIxLQ, rIxSQ, rInt1Q, rTupQ, rAppQ, rPopQ, rPopAtQ, rRevQ, rListS, rReprP, tLenSetT, tChain, tRetN, tRet, tSeq, tAsg, gName, tVar, tC, tCons, tNil, tCB, tOp, rI0, rI, tAndV, tOrV, tNotV, tIf, tTest, tB, tNot, tAnd, tOr, tIfS, tNext, tCallR, rIsK, rEq, rNe, tDrop, L2.start, List.map_cons, List.map_nil, List.length_cons, List.length_nil, Nat.reduceAdd, Nat.reduceSub, Nat.sub_self, List.replicate_zero, List.replicate_succ, List.append_nil, List.cons_append, List.nil_append, List.getElem?_cons_zero, List.getElem?_cons_succ, List.set_cons_zero, List.set_cons_succ, Option.some.injEq, List.cons.injEq, and_true, true_and, exists_eq_left, exists_eq_left', exists_eq_right, V.ty.injEq, V.int.injEq, V.bl.injEq, V.str.injEq, V.ref.injEq, exists_and_left, exists_const, reduceIte, reduceCtorEq, false_and, and_false, exists_false, or_false, false_or, Bool.not_true, Bool.not_false, Bool.false_eq_true, String.reduceEq, true_or, or_true, rNotT, tNNew, tNNotIn, tNGet, sNPut, tLenSetN, tPar, tAug, ipI, tDNotIn, sDPut, tDGet, tTup, tLst, tBM, tBM0, tCallD, tCall, rKdIn, tTNew, tTIn, tTGet, sTPut, Sg.tMethR, tMeth, tMakeR, tMake, tDGet2, tSAddK, rSAddK, rSInK, rSet0K, rExtend, rExtendT, tFld, sFld, tRevT, tDIn, tSl, tPart, tNoPart, tDelFrom, StX.tStar, tUn, rU]
    have hS : SqT K H a (.str t.word :: xs) := .inl (.inl ha)
    cases t with
    | fn => exact word_no ha (by decide +kernel) q
    | th b c => exact word_no ha (by decide +kernel : Str.ofString "then" ≠ _) q
    | st s =>
      cases s with
      | turn ps =>
        obtain ⟨y, rfl, hy⟩ := one_view hx
        obtain ⟨b, pvs, rfl, hb, hps⟩ := tup_view hy
        refine word_yes ha rfl ?_
        refine ⟨_, hS, _, at_1 _ _ _, pvs, .inr (.inl (.inl hb)), ?_⟩
        have e : ((1 : Int) + (pvs.length : Nat)) = ((Wk.st (Stp.turn ps)).sz : Nat) := by
          rw [hps.len, List.length_map]
          show _ = ((1 + ps.length : Nat) : Int)
          omega
        rw [e]
        exact q
      | put x => exact word_no ha (by decide +kernel : Str.ofString "put" ≠ _) q
      | ahead x => exact word_no ha (by decide +kernel : Str.ofString "ahead" ≠ _) q
      | behind x => exact word_no ha (by decide +kernel : Str.ofString "behind" ≠ _) q
      | head x => exact word_no ha (by decide +kernel : Str.ofString "head" ≠ _) q
      | skip x => exact word_no ha (by decide +kernel : Str.ofString "skip" ≠ _) q
      | less x => exact word_no ha (by decide +kernel : Str.ofString "less" ≠ _) q
      | same => exact word_no ha (by decide +kernel : Str.ofString "same" ≠ _) q
theorem sum_cast : ∀ l : List Wk, (l.map fun t => (t.sz : Int)).sum = (((l.map Wk.sz).sum : Nat) : Int)
  | [] => rfl
  | t :: l => by
    rw [List.map_cons, List.sum_cons, List.map_cons, List.sum_cons, sum_cast l]
    omega
theorem sc_work_size : FnScope ["work", "steps", "one"] ["work"] (defScope (topS 21)) := ⟨rfl, rfl, rfl, by decide +kernel, rfl, by decide +kernel, by decide +kernel⟩
theorem bd_work_size {K : PySem.W.Frag} {f : Addr} {fd : FuncData} (F : FnP K "work_size" (topS 21) f fd) : Binds K fd ["work"] [] := F.bindsN fun _ _ _ _ _ _ us hl => match us, hl with | [_], _ => rfl
def Wk.size (t : Wk) : Nat := (t.pre.map Wk.sz).sum
def spWz : Sp := fun vs H Q _ => ∃ v t, vs = [v] ∧ KeyV H v (Wk.key t) ∧ t.nodes ≤ 1000 ∧ ∀ H', Same H H' → Q (.int (t.size : Int)) H'
theorem ok_work_size (T : Tx w K mg) : Dk P w K mg base 4 "work_size" ["work"] spWz := by
  have D_all_works := ok_all_works (P := P) (w := w) (base := base) T
  have D_all_sets_in := ok_all_sets_in (P := P) (w := w) (base := base) T
  have D_step_size := ok_step_size (P := P) (w := w) (base := base) T
  obtain ⟨fd, F⟩ := T.d_work_size
  refine ⟨⟨fd, F.ok sc_work_size (fun vs H Q E h => ?_) (fun cdv A outer s H vs Q E hr h => ?_), bd_work_size F⟩, F.kp, T.g_work_size⟩
  · obtain ⟨v, t, rfl, _⟩ := h
    rfl
  · obtain ⟨v, t, rfl, hv, hn, q⟩ := h
    refine ⟨_, PSs.nox (pss_cons (ps_set (i := 1) sc_work_size.nd rfl (.inl rfl) (pe_callB (show CallR _ (.builtin "sum") (rSum K) by exact cr_sum rfl) (by rfl) T.f_sum (by decide +kernel) (pa_cons (pe_lc (own := [("one", 2)]) rfl sc_work_size.nd (pi_list (pe_callR D_all_works (hr.mono (by decide)) takes0 (pa_cons (pv 0) pa_nil))) (blkOk_by (own := [("one", 2)]) (N := ["work", "steps", "one"]) (sc := defScope (topS 21)) (by decide +kernel)) (fun _ _ _ _ _ => (pg_name (i := 2) sc_work_size.nd rfl (.inl rfl))) (fun _ _ _ _ _ => pts_nil) (fun _ _ _ _ _ => (pe_callR D_step_size (hr.mono (by decide)) takes0 (pa_cons (pv 2) pa_nil)))) pa_nil)))
      (pss_one (ps_ret (pe_op op_add (pv 1) (pe_callB call_lenQ (by rfl) T.f_len PySem.boot_len (pa_cons (pe_callR D_all_sets_in (hr.mono (by decide)) takes0 (pa_cons (pv 0) pa_nil)) pa_nil)))))), ?_⟩
    simp only [cxOf, tYes, eq_self, if_true, if_false, wipe, rLenQ, rIxTQ, rIxLQ, rIxSQ, rInt1Q, rTupQ, rAppQ, rPopQ, rPopAtQ, rRevQ, rListS, rReprP, tLenSetT, tChain, tRetN, tRet, tSeq, tAsg, gName, tVar, tC, tCons, tNil, tCB, tOp, rI0, rI, tAndV, tOrV, tNotV, tIf, tTest, tB, tNot, tAnd, tOr, tIfS, tNext, tCallR, rIsK, rEq, rNe, tDrop, L2.start, List.map_cons, List.map_nil, List.length_cons, List.length_nil, Nat.reduceAdd, Nat.reduceSub, Nat.sub_self, List.replicate_zero, List.replicate_succ, List.append_nil, List.cons_append, List.nil_append, List.getElem?_cons_zero, List.getElem?_cons_succ, List.set_cons_zero, List.set_cons_succ, Option.some.injEq, List.cons.injEq, and_true, true_and, exists_eq_left, exists_eq_left', exists_eq_right, V.ty.injEq, V.int.injEq, V.bl.injEq, V.str.injEq, V.ref.injEq, exists_and_left, exists_const, reduceIte, reduceCtorEq, false_and, and_false, exists_false, or_false, false_or, Bool.not_true, Bool.not_false, Bool.false_eq_true, String.reduceEq, true_or, or_true, rNotT, tNNew, tNNotIn, tNGet, sNPut, tLenSetN, tPar, tAug, ipI, tDNotIn, sDPut, tDGet, tTup, tLst, tBM, tBM0, tCallD, tCall, rKdIn, tTNew, tTIn, tTGet, sTPut, Sg.tMethR, tMeth, tMakeR, tMake, tDGet2, tSAddK, rSAddK, rSInK, rSet0K, rExtend, rExtendT, tFld, sFld, tRevT, tDIn, tSl, tPart, tNoPart, tDelFrom, StX.tStar, tUn, rU]
    refine ⟨_, rfl, v, t, rfl, hv, hn, fun l xs H1 n1 s1 h1 k1 => ⟨l, rfl, ⟨xs, .inl (.inl h1)⟩, fun D hD => ?_⟩⟩
    have hlen : xs.length = t.pre.length := by rw [k1.len, List.length_map]
    have hpl := t.pre_len
    refine lc_gen (n := xs.length) (fun i H' => Same H1 H' ∧ H' D = some (.lst ((t.pre.take i).map fun t => V.int (t.sz : Nat)))) ⟨same_upd hD, upd_same⟩ (fun i H' hi e => ⟨_, _, .inl (.inl (e.1 _ _ h1)), List.getElem?_eq_getElem hi⟩) (fun H' e => ⟨_, .inl (.inl (e.1 _ _ h1)), Nat.le_refl _⟩) ?_ ?_
    · rintro i x H2 H3 hi ⟨s2, h2⟩ ⟨rfl, hx⟩
      have hx := hx _ (.inl (.inl (s2 _ _ h1)))
      obtain ⟨k, hk, hkv⟩ := k1.get hx
      rw [List.getElem?_map] at hk
      obtain ⟨t', ht', rfl⟩ := Option.map_eq_some_iff.mp hk
      refine ⟨rfl, ?_⟩
      simp only [cxOf, tYes, eq_self, if_true, if_false, wipe, rLenQ, rIxTQ, rIxLQ, rIxSQ, rInt1Q, rTupQ, rAppQ, rPopQ, rPopAtQ, rRevQ, rListS, rReprP, tLenSetT, tChain, tRetN, tRet, tSeq, tAsg, gName, tVar, tC, tCons, tNil, tCB, tOp, rI0, rI, tAndV, tOrV, tNotV, tIf, tTest, tB, tNot, tAnd, tOr, tIfS, tNext, tCallR, rIsK, rEq, rNe, tDrop, L2.start, List.map_cons, List.map_nil, List.length_cons, List.length_nil, Nat.reduceAdd, Nat.reduceSub, Nat.sub_self, List.replicate_zero, List.replicate_succ, List.append_nil, List.cons_append, List.nil_append, List.getElem?_cons_zero, List.getElem?_cons_succ, List.set_cons_zero, List.set_cons_succ, Option.some.injEq, List.cons.injEq, and_true, true_and, exists_eq_left, exists_eq_left', exists_eq_right, V.ty.injEq, V.int.injEq, V.bl.injEq, V.str.injEq, V.ref.injEq, exists_and_left, exists_const, reduceIte, reduceCtorEq, false_and, and_false, exists_false, or_false, false_or, Bool.not_true, Bool.not_false, Bool.false_eq_true, String.reduceEq, true_or, or_true, rNotT, tNNew, tNNotIn, tNGet, sNPut, tLenSetN, tPar, tAug, ipI, tDNotIn, sDPut, tDGet, tTup, tLst, tBM, tBM0, tCallD, tCall, rKdIn, tTNew, tTIn, tTGet, sTPut, Sg.tMethR, tMeth, tMakeR, tMake, tDGet2, tSAddK, rSAddK, rSInK, rSet0K, rExtend, rExtendT, tFld, sFld, tRevT, tDIn, tSl, tPart, tNoPart, tDelFrom, StX.tStar, tUn, rU]
      refine ⟨x, t', rfl, hkv.tp (TP.of_same s2), _, h2, ?_, snoc_same hD s2, ?_⟩
      · rw [List.length_map, List.length_take]
        exact szlt (m := 1000) (by omega)
      · rw [upd_same, List.take_add_one, ht', List.map_append]
        rfl
    · rintro H2 ⟨s2, h2⟩
      rw [hlen, List.take_length] at h2
      refine ⟨D, t.pre.map fun t => (t.sz : Int), rfl, .inl (.inl (by rw [h2, List.map_map]; rfl)), v, t, rfl, hv.tp (TP.of_same (Same.trans s1 s2)), hn, fun l2 H3 s3 h3 => ⟨[], .inl (.inl (.inl h3)), _, rfl, ?_⟩⟩
      have e : ((t.pre.map fun t => (t.sz : Int)).sum + (([] : List V).length : Nat)) = (t.size : Nat) := by
        rw [sum_cast]
        rfl
      rw [e]
      exact q H3 (Same.trans (Same.trans s1 s2) s3)
theorem sc_work_texts : FnScope ["work", "found", "one"] ["work"] (defScope (topS 25)) := ⟨rfl, rfl, rfl, by decide +kernel, rfl, by decide +kernel, by decide +kernel⟩
theorem bd_work_texts {K : PySem.W.Frag} {f : Addr} {fd : FuncData} (F : FnP K "work_texts" (topS 25) f fd) : Binds K fd ["work"] [] := F.bindsN fun _ _ _ _ _ _ us hl => match us, hl with | [_], _ => rfl
def Wk.txs (t : Wk) : List Str := t.pre.flatMap Wk.stx
def spWt : Sp := fun vs H Q _ => ∃ v t, vs = [v] ∧ KeyV H v (Wk.key t) ∧ t.nodes ≤ 1000 ∧ t.txs.length ≤ 1000 ∧ ∀ l H', Same H H' → H' l = some (.lst (t.txs.map V.str)) → Q (.ref l) H'
theorem ok_work_texts (T : Tx w K mg) : Dk P w K mg base 4 "work_texts" ["work"] spWt := by
  have D_all_works := ok_all_works (P := P) (w := w) (base := base) T
  have D_all_sets_in := ok_all_sets_in (P := P) (w := w) (base := base) T
  have D_step_texts := ok_step_texts (P := P) (w := w) (base := base) T
  obtain ⟨fd, F⟩ := T.d_work_texts
  refine ⟨⟨fd, F.ok sc_work_texts (fun vs H Q E h => ?_) (fun cdv A outer s H vs Q E hr h => ?_), bd_work_texts F⟩, F.kp, T.g_work_texts⟩
  · obtain ⟨v, t, rfl, _⟩ := h
    rfl
  · obtain ⟨v, t, rfl, hv, hn, hx1, q⟩ := h
    refine ⟨_, PSs.nox (pss_cons (ps_set (i := 1) sc_work_texts.nd rfl (.inl rfl) (pe_lst pa_nil))
      (pss_cons (ps_for PassesOwn.never rfl (pi_list (pe_callR D_all_works (hr.mono (by decide)) takes0 (pa_cons (pv 0) pa_nil))) (pg_name (i := 2) sc_work_texts.nd rfl (.inl rfl)) (pss_one (ps_expr (pe_bm PySem.F.plainAttrs_list PySem.F.slot_list_extend PySem.F.type_list_extend mt_extend (pv 1) (pa_cons (pe_callR D_step_texts (hr.mono (by decide)) takes0 (pa_cons (pv 2) pa_nil)) pa_nil)))))
      (pss_cons (ps_for PassesOwn.never rfl (pi_list (pe_callR D_all_sets_in (hr.mono (by decide)) takes0 (pa_cons (pv 0) pa_nil))) (pg_name (i := 2) sc_work_texts.nd rfl (.inl rfl)) (pss_one (ps_if (pt_cmpR op_eq (pe_ix ix_tupQ (pv 2) pe_int (fun _ _ => rfl)) pe_str (nomark _)) (pss_one (ps_expr (pe_bm PySem.F.plainAttrs_list PySem.F.slot_list_append PySem.F.type_list_append mt_appQ (pv 1) (pa_cons (pe_ix ix_tupQ (pv 2) pe_int (fun _ _ => rfl)) pa_nil)))) pss_nil)))
      (pss_one (ps_ret (pv 1)))))), ?_⟩
    simp only [cxOf, tYes, eq_self, if_true, if_false, wipe, rLenQ, rIxTQ, rIxLQ, rIxSQ, rInt1Q, rTupQ, rAppQ, rPopQ, rPopAtQ, rRevQ, rListS, rReprP, tLenSetT, tChain, tRetN, tRet, tSeq, tAsg, gName, tVar, tC, tCons, tNil, tCB, tOp, rI0, rI, tAndV, tOrV, tNotV, tIf, tTest, tB, tNot, tAnd, tOr, tIfS, tNext, tCallR, rIsK, rEq, rNe, tDrop, L2.start, List.map_cons, List.map_nil, List.length_cons, List.length_nil, Nat.reduceAdd, Nat.reduceSub, Nat.sub_self, List.replicate_zero, List.replicate_succ, List.append_nil, List.cons_append, List.nil_append, List.getElem?_cons_zero, List.getElem?_cons_succ, List.set_cons_zero, List.set_cons_succ, Option.some.injEq, List.cons.injEq, and_true, true_and, exists_eq_left, exists_eq_left', exists_eq_right, V.ty.injEq, V.int.injEq, V.bl.injEq, V.str.injEq, V.ref.injEq, exists_and_left, exists_const, reduceIte, reduceCtorEq, false_and, and_false, exists_false, or_false, false_or, Bool.not_true, Bool.not_false, Bool.false_eq_true, String.reduceEq, true_or, or_true, rNotT, tNNew, tNNotIn, tNGet, sNPut, tLenSetN, tPar, tAug, ipI, tDNotIn, sDPut, tDGet, tTup, tLst, tBM, tBM0, tCallD, tCall, rKdIn, tTNew, tTIn, tTGet, sTPut, Sg.tMethR, tMeth, tMakeR, tMake, tDGet2, tSAddK, rSAddK, rSInK, rSet0K, rExtend, rExtendT, tFld, sFld, tRevT, tDIn, tSl, tPart, tNoPart, tDelFrom, StX.tStar, tUn, rU]
    refine ⟨Nat.zero_le _, fun p hp => ?_⟩
    have s0 := same_upd (o := HO.lst []) hp
    refine ⟨_, rfl, v, t, rfl, hv.tp (TP.of_same s0), hn, fun l xs H1 n1 s1 h1 k1 => ⟨l, rfl, ⟨xs, .inl (.inl h1)⟩, ?_⟩⟩
    have hlen : xs.length = t.pre.length := by rw [k1.len, List.length_map]
    have hpl := t.pre_len
    have hlp : l ≠ p := fun e => by rw [e, upd_same] at n1; cases n1
    refine for_list (K := K) (a := l) (xs := xs) (fun i σ H' => Chg [p] H1 H' ∧ H' p = some (.lst (((t.pre.take i).flatMap Wk.stx).map V.str)) ∧ ∃ x2, σ = [some v, some (.ref p), x2]) ⟨Chg.refl _ _, s1 _ _ upd_same, _, rfl⟩ (fun i σ H' _ h => .inl (.inl (h.1 _ _ (by simpa using hlp) h1))) ?_ ?_
    · rintro i x σ H' hx ⟨s2, h2, x2, rfl⟩
      obtain ⟨k, hk, hkv⟩ := k1.get hx
      rw [List.getElem?_map] at hk
      obtain ⟨t', ht', rfl⟩ := Option.map_eq_some_iff.mp hk
      simp only [cxOf, tYes, eq_self, if_true, if_false, wipe, rLenQ, rIxTQ, rIxLQ, rIxSQ, rInt1Q, rTupQ, rAppQ, rPopQ, rPopAtQ, rRevQ, rListS, rReprP, tLenSetT, tChain, tRetN, tRet, tSeq, tAsg, gName, tVar, tC, tCons, tNil, tCB, tOp, rI0, rI, tAndV, tOrV, tNotV, tIf, tTest, tB, tNot, tAnd, tOr, tIfS, tNext, tCallR, rIsK, rEq, rNe, tDrop, L2.start, List.map_cons, List.map_nil, List.length_cons, List.length_nil, Nat.reduceAdd, Nat.reduceSub, Nat.sub_self, List.replicate_zero, List.replicate_succ, List.append_nil, List.cons_append, List.nil_append, List.getElem?_cons_zero, List.getElem?_cons_succ, List.set_cons_zero, List.set_cons_succ, Option.some.injEq, List.cons.injEq, and_true, true_and, exists_eq_left, exists_eq_left', exists_eq_right, V.ty.injEq, V.int.injEq, V.bl.injEq, V.str.injEq, V.ref.injEq, exists_and_left, exists_const, reduceIte, reduceCtorEq, false_and, and_false, exists_false, or_false, false_or, Bool.not_true, Bool.not_false, Bool.false_eq_true, String.reduceEq, true_or, or_true, rNotT, tNNew, tNNotIn, tNGet, sNPut, tLenSetN, tPar, tAug, ipI, tDNotIn, sDPut, tDGet, tTup, tLst, tBM, tBM0, tCallD, tCall, rKdIn, tTNew, tTIn, tTGet, sTPut, Sg.tMethR, tMeth, tMakeR, tMake, tDGet2, tSAddK, rSAddK, rSInK, rSet0K, rExtend, rExtendT, tFld, sFld, tRevT, tDIn, tSl, tPart, tNoPart, tDelFrom, StX.tStar, tUn, rU]
      have ht3 := List.mem_of_getElem? ht'
      have hsx : ((t.pre.take i).flatMap Wk.stx).length + t'.stx.length ≤ 1000 := by
        have e := List.take_append_drop (i + 1) t.pre
        have h7 : ((t.pre.take (i + 1)).flatMap Wk.stx).length ≤ (t.pre.flatMap Wk.stx).length := by
          conv => rhs; rw [← e, List.flatMap_append, List.length_append]
          omega
        rw [List.take_add_one, ht', List.flatMap_append, List.length_append] at h7
        have h8 : (Option.toList (some t')).flatMap Wk.stx = t'.stx := by simp
        rw [h8] at h7
        have h9 : (t.pre.flatMap Wk.stx).length ≤ 1000 := hx1
        omega
      have tt : TP H1 H' := fun b zs hb => s2 _ _ (by
        intro e
        rw [List.mem_singleton] at e
        rw [e, s1 _ _ upd_same] at hb
        cases hb) hb
      refine ⟨lst_ty h2, x, t', rfl, hkv.tp tt, by omega, fun l2 H3 s3 h3 => ⟨l2, rfl, _, s3 _ _ h2, _, h3, ?_, (s2.trans (Chg.of_same s3)).trans (Chg.upd (by simp)), ?_, _, rfl⟩⟩
      · rw [List.length_map, List.length_map]
        exact szle (m := 1000) hsx
      · rw [upd_same, List.take_add_one, ht', List.flatMap_append, List.map_append]
        simp
    · rintro σ H' ⟨s2, h2, x2, rfl⟩
      simp only [cxOf, tYes, eq_self, if_true, if_false, wipe, rLenQ, rIxTQ, rIxLQ, rIxSQ, rInt1Q, rTupQ, rAppQ, rPopQ, rPopAtQ, rRevQ, rListS, rReprP, tLenSetT, tChain, tRetN, tRet, tSeq, tAsg, gName, tVar, tC, tCons, tNil, tCB, tOp, rI0, rI, tAndV, tOrV, tNotV, tIf, tTest, tB, tNot, tAnd, tOr, tIfS, tNext, tCallR, rIsK, rEq, rNe, tDrop, L2.start, List.map_cons, List.map_nil, List.length_cons, List.length_nil, Nat.reduceAdd, Nat.reduceSub, Nat.sub_self, List.replicate_zero, List.replicate_succ, List.append_nil, List.cons_append, List.nil_append, List.getElem?_cons_zero, List.getElem?_cons_succ, List.set_cons_zero, List.set_cons_succ, Option.some.injEq, List.cons.injEq, and_true, true_and, exists_eq_left, exists_eq_left', exists_eq_right, V.ty.injEq, V.int.injEq, V.bl.injEq, V.str.injEq, V.ref.injEq, exists_and_left, exists_const, reduceIte, reduceCtorEq, false_and, and_false, exists_false, or_false, false_or, Bool.not_true, Bool.not_false, Bool.false_eq_true, String.reduceEq, true_or, or_true, rNotT, tNNew, tNNotIn, tNGet, sNPut, tLenSetN, tPar, tAug, ipI, tDNotIn, sDPut, tDGet, tTup, tLst, tBM, tBM0, tCallD, tCall, rKdIn, tTNew, tTIn, tTGet, sTPut, Sg.tMethR, tMeth, tMakeR, tMake, tDGet2, tSAddK, rSAddK, rSInK, rSet0K, rExtend, rExtendT, tFld, sFld, tRevT, tDIn, tSl, tPart, tNoPart, tDelFrom, StX.tStar, tUn, rU]
      rw [hlen, List.take_length] at h2
      have s3 : Same H H' := Same.chg (Same.trans s0 s1) [p] (by simp [hp]) s2
      refine ⟨_, rfl, v, t, rfl, hv.tp (TP.of_same s3), hn, fun l3 H3 s4 h3 => ⟨l3, rfl, ⟨[], .inl (.inl h3)⟩, for_none ⟨_, .inl (.inl h3), Nat.le_refl 0⟩ ⟨_, rfl, q p H3 (Same.trans s3 s4) (s4 _ _ h2)⟩⟩⟩
theorem sc_work_names : FnScope ["work", "one"] ["work"] (defScope (topS 26)) := ⟨rfl, rfl, rfl, by decide +kernel, rfl, by decide +kernel, by decide +kernel⟩
theorem bd_work_names {K : PySem.W.Frag} {f : Addr} {fd : FuncData} (F : FnP K "work_names" (topS 26) f fd) : Binds K fd ["work"] [] := F.bindsN fun _ _ _ _ _ _ us hl => match us, hl with | [_], _ => rfl
theorem ok_work_names (T : Tx w K mg) : Dk P w K mg base 4 "work_names" ["work"] spAs := by
  have D_all_sets_in := ok_all_sets_in (P := P) (w := w) (base := base) T
  obtain ⟨fd, F⟩ := T.d_work_names
  refine ⟨⟨fd, F.ok sc_work_names (fun vs H Q E h => ?_) (fun cdv A outer s H vs Q E hr h => ?_), bd_work_names F⟩, F.kp, T.g_work_names⟩
  · obtain ⟨v, t, rfl, _⟩ := h
    rfl
  · obtain ⟨v, t, rfl, hv, hn, q⟩ := h
    refine ⟨_, PSs.nox (pss_one (ps_ret (pe_lc (own := [("one", 1)]) rfl sc_work_names.nd (pi_list (pe_callR D_all_sets_in (hr.mono (by decide)) takes0 (pa_cons (pv 0) pa_nil))) (blkOk_by (own := [("one", 1)]) (N := ["work", "one"]) (sc := defScope (topS 26)) (by decide +kernel)) (fun _ _ _ _ _ => (pg_name (i := 1) sc_work_names.nd rfl (.inl rfl))) (fun _ _ _ _ _ => (pts_one (pt_cmpR op_eq (pe_ix (show IxR _ (rIxTQ K) by exact ix_tupQ) (pv 1) pe_int (fun _ _ => rfl)) pe_str (nomark _)))) (fun _ _ _ _ _ => (pe_ix (show IxR _ (rIxTQ K) by exact ix_tupQ) (pv 1) pe_int (fun _ _ => rfl)))))), ?_⟩
    simp only [cxOf, tYes, eq_self, if_true, if_false, wipe, rLenQ, rIxTQ, rIxLQ, rIxSQ, rInt1Q, rTupQ, rAppQ, rPopQ, rPopAtQ, rRevQ, rListS, rReprP, tLenSetT, tChain, tRetN, tRet, tSeq, tAsg, gName, tVar, tC, tCons, tNil, tCB, tOp, rI0, rI, tAndV, tOrV, tNotV, tIf, tTest, tB, tNot, tAnd, tOr, tIfS, tNext, tCallR, rIsK, rEq, rNe, tDrop, L2.start, List.map_cons, List.map_nil, List.length_cons, List.length_nil, Nat.reduceAdd, Nat.reduceSub, Nat.sub_self, List.replicate_zero, List.replicate_succ, List.append_nil, List.cons_append, List.nil_append, List.getElem?_cons_zero, List.getElem?_cons_succ, List.set_cons_zero, List.set_cons_succ, Option.some.injEq, List.cons.injEq, and_true, true_and, exists_eq_left, exists_eq_left', exists_eq_right, V.ty.injEq, V.int.injEq, V.bl.injEq, V.str.injEq, V.ref.injEq, exists_and_left, exists_const, reduceIte, reduceCtorEq, false_and, and_false, exists_false, or_false, false_or, Bool.not_true, Bool.not_false, Bool.false_eq_true, String.reduceEq, true_or, or_true, rNotT, tNNew, tNNotIn, tNGet, sNPut, tLenSetN, tPar, tAug, ipI, tDNotIn, sDPut, tDGet, tTup, tLst, tBM, tBM0, tCallD, tCall, rKdIn, tTNew, tTIn, tTGet, sTPut, Sg.tMethR, tMeth, tMakeR, tMake, tDGet2, tSAddK, rSAddK, rSInK, rSet0K, rExtend, rExtendT, tFld, sFld, tRevT, tDIn, tSl, tPart, tNoPart, tDelFrom, StX.tStar, tUn, rU]
    refine ⟨_, rfl, v, t, rfl, hv, hn, fun l H1 s1 h1 => ⟨l, rfl, ⟨[], .inl (.inl h1)⟩, fun D hD => ?_⟩⟩
    exact lc_none ⟨_, .inl (.inl (same_upd hD _ _ h1)), Nat.le_refl 0⟩ (q D _ (Same.trans s1 (same_upd hD)) upd_same)
theorem sc_work_funs : FnScope ["work", "one"] ["work"] (defScope (topS 27)) := ⟨rfl, rfl, rfl, by decide +kernel, rfl, by decide +kernel, by decide +kernel⟩
theorem bd_work_funs {K : PySem.W.Frag} {f : Addr} {fd : FuncData} (F : FnP K "work_funs" (topS 27) f fd) : Binds K fd ["work"] [] := F.bindsN fun _ _ _ _ _ _ us hl => match us, hl with | [_], _ => rfl
def fnF : Wk → Option Str
  | .fn => some (Str.ofString "f")
  | _ => none
def Wk.fns (t : Wk) : List Str := t.pre.filterMap fnF
def spWf : Sp := fun vs H Q _ => ∃ v t, vs = [v] ∧ KeyV H v (Wk.key t) ∧ t.nodes ≤ 1000 ∧ ∀ l H', Same H H' → H' l = some (.lst (t.fns.map V.str)) → Q (.ref l) H'
theorem ok_work_funs (T : Tx w K mg) : Dk P w K mg base 3 "work_funs" ["work"] spWf := by
  have D_all_works := ok_all_works (P := P) (w := w) (base := base) T
  obtain ⟨fd, F⟩ := T.d_work_funs
  refine ⟨⟨fd, F.ok sc_work_funs (fun vs H Q E h => ?_) (fun cdv A outer s H vs Q E hr h => ?_), bd_work_funs F⟩, F.kp, T.g_work_funs⟩
  · obtain ⟨v, t, rfl, _⟩ := h
    rfl
  · obtain ⟨v, t, rfl, hv, hn, q⟩ := h
    refine ⟨_, PSs.nox (pss_one (ps_ret (pe_lc (own := [("one", 1)]) rfl sc_work_funs.nd (pi_list (pe_callR D_all_works (hr.mono (by decide)) takes0 (pa_cons (pv 0) pa_nil))) (blkOk_by (own := [("one", 1)]) (N := ["work", "one"]) (sc := defScope (topS 27)) (by decide +kernel)) (fun _ _ _ _ _ => (pg_name (i := 1) sc_work_funs.nd rfl (.inl rfl))) (fun _ _ _ _ _ => (pts_one (pt_cmpR op_eq (pe_ix (show IxR _ (rIxTQ K) by exact ix_tupQ) (pv 1) pe_int (fun _ _ => rfl)) pe_str (nomark _)))) (fun _ _ _ _ _ => (pe_ix (show IxR _ (rIxTQ K) by exact ix_tupQ) (pv 1) pe_int (fun _ _ => rfl)))))), ?_⟩
    simp only [cxOf, tYes, eq_self, if_true, if_false, wipe, rLenQ, rIxTQ, rIxLQ, rIxSQ, rInt1Q, rTupQ, rAppQ, rPopQ, rPopAtQ, rRevQ, rListS, rReprP, tLenSetT, tChain, tRetN, tRet, tSeq, tAsg, gName, tVar, tC, tCons, tNil, tCB, tOp, rI0, rI, tAndV, tOrV, tNotV, tIf, tTest, tB, tNot, tAnd, tOr, tIfS, tNext, tCallR, rIsK, rEq, rNe, tDrop, L2.start, List.map_cons, List.map_nil, List.length_cons, List.length_nil, Nat.reduceAdd, Nat.reduceSub, Nat.sub_self, List.replicate_zero, List.replicate_succ, List.append_nil, List.cons_append, List.nil_append, List.getElem?_cons_zero, List.getElem?_cons_succ, List.set_cons_zero, List.set_cons_succ, Option.some.injEq, List.cons.injEq, and_true, true_and, exists_eq_left, exists_eq_left', exists_eq_right, V.ty.injEq, V.int.injEq, V.bl.injEq, V.str.injEq, V.ref.injEq, exists_and_left, exists_const, reduceIte, reduceCtorEq, false_and, and_false, exists_false, or_false, false_or, Bool.not_true, Bool.not_false, Bool.false_eq_true, String.reduceEq, true_or, or_true, rNotT, tNNew, tNNotIn, tNGet, sNPut, tLenSetN, tPar, tAug, ipI, tDNotIn, sDPut, tDGet, tTup, tLst, tBM, tBM0, tCallD, tCall, rKdIn, tTNew, tTIn, tTGet, sTPut, Sg.tMethR, tMeth, tMakeR, tMake, tDGet2, tSAddK, rSAddK, rSInK, rSet0K, rExtend, rExtendT, tFld, sFld, tRevT, tDIn, tSl, tPart, tNoPart, tDelFrom, StX.tStar, tUn, rU]
    refine ⟨_, rfl, v, t, rfl, hv, hn, fun l xs H1 n1 s1 h1 k1 => ⟨l, rfl, ⟨xs, .inl (.inl h1)⟩, fun D hD => ?_⟩⟩
    have hlen : xs.length = t.pre.length := by rw [k1.len, List.length_map]
    have hpl := t.pre_len
    refine lc_gen (n := xs.length) (fun i H' => Same H1 H' ∧ H' D = some (.lst (((t.pre.take i).filterMap fnF).map V.str))) ⟨same_upd hD, upd_same⟩ (fun i H' hi e => ⟨_, _, .inl (.inl (e.1 _ _ h1)), List.getElem?_eq_getElem hi⟩) (fun H' e => ⟨_, .inl (.inl (e.1 _ _ h1)), Nat.le_refl _⟩) ?_ ?_
    · rintro i x H2 H3 hi ⟨s2, h2⟩ ⟨rfl, hx⟩
      have hx := hx _ (.inl (.inl (s2 _ _ h1)))
      obtain ⟨k, hk, hkv⟩ := k1.get hx
      rw [List.getElem?_map] at hk
      obtain ⟨t', ht', rfl⟩ := Option.map_eq_some_iff.mp hk
      refine ⟨rfl, ?_⟩
      obtain ⟨a, ys, rfl, ha, hy⟩ := wk_view (hkv.tp (TP.of_same s2))
      simp only [cxOf, tYes, eq_self, if_true, if_false, wipe, rLenQ, rIxTQ, rIxLQ, rIxSQ, rInt1Q, rTupQ, rAppQ, rPopQ, rPopAtQ, rRevQ, rListS, rReprP, tLenSetT, tChain, tRetN, tRet, tSeq, tAsg, gName, tVar, tC, tCons, tNil, tCB, tOp, rI0, rI, tAndV, tOrV, tNotV, tIf, tTest, tB, tNot, tAnd, tOr, tIfS, tNext, tCallR, rIsK, rEq, rNe, tDrop, L2.start, List.map_cons, List.map_nil, List.length_cons, List.length_nil, Nat.reduceAdd, Nat.reduceSub, Nat.sub_self, List.replicate_zero, List.replicate_succ, List.append_nil, List.cons_append, List.nil_append, List.getElem?_cons_zero, List.getElem?_cons_succ, List.set_cons_zero, List.set_cons_succ, Option.some.injEq, List.cons.injEq, and_true, true_and, exists_eq_left, exists_eq_left', exists_eq_right, V.ty.injEq, V.int.injEq, V.bl.injEq, V.str.injEq, V.ref.injEq, exists_and_left, exists_const, reduceIte, reduceCtorEq, false_and, and_false, exists_false, or_false, false_or, Bool.not_true, Bool.not_false, Bool.false_eq_true, String.reduceEq, true_or, or_true, rNotT, tNNew, tNNotIn, tNGet, sNPut, tLenSetN, tPar, tAug, ipI, tDNotIn, sDPut, tDGet, tTup, tLst, tBM, tBM0, tCallD, tCall, rKdIn, tTNew, tTIn, tTGet, sTPut, Sg.tMethR, tMeth, tMakeR, tMake, tDGet2, tSAddK, rSAddK, rSInK, rSet0K, rExtend, rExtendT, tFld, sFld, tRevT, tDIn, tSl, tPart, tNoPart, tDelFrom, StX.tStar, tUn, rU]
      have hl2 : ((t.pre.take i).filterMap fnF).length ≤ 1000 := Nat.le_trans (List.length_filterMap_le _ _) (by rw [List.length_take]; omega)
      cases t' with
      | fn =>
        obtain ⟨y, rfl, hy2⟩ := one_view hy
        obtain rfl := text_view hy2
        refine word_yes ha rfl ⟨_, .inl (.inl ha), _, at_1 _ _ _, _, h2, ?_, snoc_same hD s2, ?_⟩
        · rw [List.length_map]
          exact szlt (m := 1000) hl2
        · rw [upd_same, List.take_add_one, ht', List.filterMap_append, List.map_append]
          rfl
      | th b c =>
        refine word_no ha (by decide +kernel : Str.ofString "then" ≠ _) ⟨s2, ?_⟩
        rw [h2, List.take_add_one, ht', List.filterMap_append, List.map_append]
        simp [fnF]
      | st s =>
        refine word_no ha (st_ne (by decide +kernel)) ⟨s2, ?_⟩
        rw [h2, List.take_add_one, ht', List.filterMap_append, List.map_append]
        simp [fnF]
    · rintro H2 ⟨s2, h2⟩
      rw [hlen, List.take_length] at h2
      exact q D H2 (Same.trans s1 s2) h2
theorem sc_work_turns : FnScope ["work", "one"] ["work"] (defScope (topS 28)) := ⟨rfl, rfl, rfl, by decide +kernel, rfl, by decide +kernel, by decide +kernel⟩
theorem bd_work_turns {K : PySem.W.Frag} {f : Addr} {fd : FuncData} (F : FnP K "work_turns" (topS 28) f fd) : Binds K fd ["work"] [] := F.bindsN fun _ _ _ _ _ _ us hl => match us, hl with | [_], _ => rfl
def tuF : Wk → Option (List (Str × Str))
  | .st (.turn ps) => some ps
  | _ => none
def Wk.turns (t : Wk) : List (List (Str × Str)) := t.pre.filterMap tuF
def spWu : Sp := fun vs H Q _ => ∃ v t, vs = [v] ∧ KeyV H v (Wk.key t) ∧ t.nodes ≤ 1000 ∧ ∀ l xs H', Same H H' → H' l = some (.lst xs) → KeyVs H' xs (t.turns.map fun ps => .tup (ps.map pairK)) → Q (.ref l) H'
theorem ok_work_turns (T : Tx w K mg) : Dk P w K mg base 3 "work_turns" ["work"] spWu := by
  have D_all_works := ok_all_works (P := P) (w := w) (base := base) T
  obtain ⟨fd, F⟩ := T.d_work_turns
  refine ⟨⟨fd, F.ok sc_work_turns (fun vs H Q E h => ?_) (fun cdv A outer s H vs Q E hr h => ?_), bd_work_turns F⟩, F.kp, T.g_work_turns⟩
  · obtain ⟨v, t, rfl, _⟩ := h
    rfl
  · obtain ⟨v, t, rfl, hv, hn, q⟩ := h
    refine ⟨_, PSs.nox (pss_one (ps_ret (pe_lc (own := [("one", 1)]) rfl sc_work_turns.nd (pi_list (pe_callR D_all_works (hr.mono (by decide)) takes0 (pa_cons (pv 0) pa_nil))) (blkOk_by (own := [("one", 1)]) (N := ["work", "one"]) (sc := defScope (topS 28)) (by decide +kernel)) (fun _ _ _ _ _ => (pg_name (i := 1) sc_work_turns.nd rfl (.inl rfl))) (fun _ _ _ _ _ => (pts_one (pt_cmpR op_eq (pe_ix (show IxR _ (rIxTQ K) by exact ix_tupQ) (pv 1) pe_int (fun _ _ => rfl)) pe_str (nomark _)))) (fun _ _ _ _ _ => (pe_ix (show IxR _ (rIxTQ K) by exact ix_tupQ) (pv 1) pe_int (fun _ _ => rfl)))))), ?_⟩
    simp only [cxOf, tYes, eq_self, if_true, if_false, wipe, rLenQ, rIxTQ, rIxLQ, rIxSQ, rInt1Q, rTupQ, rAppQ, rPopQ, rPopAtQ, rRevQ, rListS, rReprP, tLenSetT, tChain, tRetN, tRet, tSeq, tAsg, gName, tVar, tC, tCons, tNil, tCB, tOp, rI0, rI, tAndV, tOrV, tNotV, tIf, tTest, tB, tNot, tAnd, tOr, tIfS, tNext, tCallR, rIsK, rEq, rNe, tDrop, L2.start, List.map_cons, List.map_nil, List.length_cons, List.length_nil, Nat.reduceAdd, Nat.reduceSub, Nat.sub_self, List.replicate_zero, List.replicate_succ, List.append_nil, List.cons_append, List.nil_append, List.getElem?_cons_zero, List.getElem?_cons_succ, List.set_cons_zero, List.set_cons_succ, Option.some.injEq, List.cons.injEq, and_true, true_and, exists_eq_left, exists_eq_left', exists_eq_right, V.ty.injEq, V.int.injEq, V.bl.injEq, V.str.injEq, V.ref.injEq, exists_and_left, exists_const, reduceIte, reduceCtorEq, false_and, and_false, exists_false, or_false, false_or, Bool.not_true, Bool.not_false, Bool.false_eq_true, String.reduceEq, true_or, or_true, rNotT, tNNew, tNNotIn, tNGet, sNPut, tLenSetN, tPar, tAug, ipI, tDNotIn, sDPut, tDGet, tTup, tLst, tBM, tBM0, tCallD, tCall, rKdIn, tTNew, tTIn, tTGet, sTPut, Sg.tMethR, tMeth, tMakeR, tMake, tDGet2, tSAddK, rSAddK, rSInK, rSet0K, rExtend, rExtendT, tFld, sFld, tRevT, tDIn, tSl, tPart, tNoPart, tDelFrom, StX.tStar, tUn, rU]
    refine ⟨_, rfl, v, t, rfl, hv, hn, fun l xs H1 n1 s1 h1 k1 => ⟨l, rfl, ⟨xs, .inl (.inl h1)⟩, fun D hD => ?_⟩⟩
    have hlen : xs.length = t.pre.length := by rw [k1.len, List.length_map]
    have hpl := t.pre_len
    refine lc_gen (n := xs.length) (fun i H' => Same H1 H' ∧ ∃ zs, H' D = some (.lst zs) ∧ KeyVs H' zs (((t.pre.take i).filterMap tuF).map fun ps => .tup (ps.map pairK))) ⟨same_upd hD, [], upd_same, .nil⟩ (fun i H' hi e => ⟨_, _, .inl (.inl (e.1 _ _ h1)), List.getElem?_eq_getElem hi⟩) (fun H' e => ⟨_, .inl (.inl (e.1 _ _ h1)), Nat.le_refl _⟩) ?_ ?_
    · rintro i x H2 H3 hi ⟨s2, zs, h2, k2⟩ ⟨rfl, hx⟩
      have hx := hx _ (.inl (.inl (s2 _ _ h1)))
      obtain ⟨k, hk, hkv⟩ := k1.get hx
      rw [List.getElem?_map] at hk
      obtain ⟨t', ht', rfl⟩ := Option.map_eq_some_iff.mp hk
      refine ⟨rfl, ?_⟩
      obtain ⟨a, ys, rfl, ha, hy⟩ := wk_view (hkv.tp (TP.of_same s2))
      simp only [cxOf, tYes, eq_self, if_true, if_false, wipe, rLenQ, rIxTQ, rIxLQ, rIxSQ, rInt1Q, rTupQ, rAppQ, rPopQ, rPopAtQ, rRevQ, rListS, rReprP, tLenSetT, tChain, tRetN, tRet, tSeq, tAsg, gName, tVar, tC, tCons, tNil, tCB, tOp, rI0, rI, tAndV, tOrV, tNotV, tIf, tTest, tB, tNot, tAnd, tOr, tIfS, tNext, tCallR, rIsK, rEq, rNe, tDrop, L2.start, List.map_cons, List.map_nil, List.length_cons, List.length_nil, Nat.reduceAdd, Nat.reduceSub, Nat.sub_self, List.replicate_zero, List.replicate_succ, List.append_nil, List.cons_append, List.nil_append, List.getElem?_cons_zero, List.getElem?_cons_succ, List.set_cons_zero, List.set_cons_succ, Option.some.injEq, List.cons.injEq, and_true, true_and, exists_eq_left, exists_eq_left', exists_eq_right, V.ty.injEq, V.int.injEq, V.bl.injEq, V.str.injEq, V.ref.injEq, exists_and_left, exists_const, reduceIte, reduceCtorEq, false_and, and_false, exists_false, or_false, false_or, Bool.not_true, Bool.not_false, Bool.false_eq_true, String.reduceEq, true_or, or_true, rNotT, tNNew, tNNotIn, tNGet, sNPut, tLenSetN, tPar, tAug, ipI, tDNotIn, sDPut, tDGet, tTup, tLst, tBM, tBM0, tCallD, tCall, rKdIn, tTNew, tTIn, tTGet, sTPut, Sg.tMethR, tMeth, tMakeR, tMake, tDGet2, tSAddK, rSAddK, rSInK, rSet0K, rExtend, rExtendT, tFld, sFld, tRevT, tDIn, tSl, tPart, tNoPart, tDelFrom, StX.tStar, tUn, rU]
      have hl2 : ((t.pre.take i).filterMap tuF).length ≤ 1000 := Nat.le_trans (List.length_filterMap_le _ _) (by rw [List.length_take]; omega)
      have no : tuF t' = none → Same H1 H3 ∧ ∃ zs, H3 D = some (.lst zs) ∧ KeyVs H3 zs (((t.pre.take (i + 1)).filterMap tuF).map fun ps => .tup (ps.map pairK)) := fun e => ⟨s2, zs, h2, by
        rw [List.take_add_one, ht', List.filterMap_append]
        simpa [e] using k2⟩
      cases t' with
      | fn => exact word_no ha (by decide +kernel : Str.ofString "fun" ≠ _) (no rfl)
      | th b c => exact word_no ha (by decide +kernel : Str.ofString "then" ≠ _) (no rfl)
      | st s =>
        cases s with
        | turn ps =>
          obtain ⟨y, rfl, hy2⟩ := one_view hy
          refine word_yes ha rfl ⟨_, .inl (.inl ha), _, at_1 _ _ _, _, h2, ?_, snoc_same hD s2, _, upd_same, ?_⟩
          · rw [k2.len, List.length_map]
            exact szlt (m := 1000) hl2
          · rw [List.take_add_one, ht', List.filterMap_append, List.map_append]
            have tt : TP H3 (upd H3 D (.lst (zs ++ [y]))) := tp_upd h2 fun _ e => by cases e
            exact (k2.tp tt).app (.cons (hy2.tp tt) .nil)
        | put x => exact word_no ha (by decide +kernel : Str.ofString "put" ≠ _) (no rfl)
        | ahead x => exact word_no ha (by decide +kernel : Str.ofString "ahead" ≠ _) (no rfl)
        | behind x => exact word_no ha (by decide +kernel : Str.ofString "behind" ≠ _) (no rfl)
        | head x => exact word_no ha (by decide +kernel : Str.ofString "head" ≠ _) (no rfl)
        | skip x => exact word_no ha (by decide +kernel : Str.ofString "skip" ≠ _) (no rfl)
        | less x => exact word_no ha (by decide +kernel : Str.ofString "less" ≠ _) (no rfl)
        | same => exact word_no ha (by decide +kernel : Str.ofString "same" ≠ _) (no rfl)
    · rintro H2 ⟨s2, zs, h2, k2⟩
      rw [hlen, List.take_length] at k2
      exact q D zs H2 (Same.trans s1 s2) h2 k2
end
end K08

namespace K08
open PySem PySem.Spec PyProof.Rows L2 Sg
mutual
def dK : NestedKey → PyData
  | .none => .none
  | .num i => .int i
  | .text x => .str x
  | .tup ks => .tuple (dKs ks)
def dKs : List NestedKey → List PyData
  | [] => []
  | k :: ks => dK k :: dKs ks
end
mutual
theorem dK_depth : ∀ k : NestedKey, (dK k).depth = k.depth
  | .none => rfl
  | .num i => rfl
  | .text x => rfl
  | .tup ks => by
    show PyData.depthAll (dKs ks) + 1 = NestedKey.depthAll ks + 1
    rw [dKs_depth ks]
theorem dKs_depth : ∀ ks : List NestedKey, PyData.depthAll (dKs ks) = NestedKey.depthAll ks
  | [] => rfl
  | k :: ks => by
    show max (dK k).depth (PyData.depthAll (dKs ks)) = max k.depth (NestedKey.depthAll ks)
    rw [dK_depth k, dKs_depth ks]
end
section
variable {K : PySem.W.Frag} {H : Hp}
mutual
theorem kv_dp : ∀ (k : NestedKey) (x : V), KeyV H x k → Dp K H x (dK k)
  | .none, x, h => by cases h; exact .non
  | .num i, x, h => by cases h; exact .int i
  | .text y, x, h => by cases h; exact .str y
  | .tup ks, x, h => by
    cases h with
    | tup h1 h2 => exact .tup (.inl (.inl h1)) (kvs_dp ks _ h2)
theorem kvs_dp : ∀ (ks : List NestedKey) (xs : List V), KeyVs H xs ks → DpAll K H xs (dKs ks)
  | [], xs, h => by cases h; exact .nil
  | k :: ks, xs, h => by
    cases h with
    | cons h1 h2 => exact .cons (kv_dp k _ h1) (kvs_dp ks _ h2)
end
end
/-- may be asked for being equal -/
def KS (k : NestedKey) : Prop := (dK k).canLay0 = true ∧ k.depth ≤ 60
theorem KS.shaped {k : NestedKey} (h : KS k) : SeqAt.shaped (dK k) = true := by
  unfold SeqAt.shaped
  rw [h.1, dK_depth, decide_eq_true (Nat.le_trans h.2 (by decide))]
  rfl
theorem QtOk.ok {z : Str} (h : QtOk z) : PyData.strOk z = true := by
  unfold PyData.strOk
  rw [Array.all_eq_true]
  intro i hi
  have := h z.cps[i] (by rw [Array.mem_toList_iff]; exact Array.getElem_mem hi)
  unfold qcB btw at this
  simp only [Bool.and_eq_true, decide_eq_true_eq] at this
  exact decide_eq_true (by omega)
def Stp.Good (s : Stp) : Prop := (∀ x ∈ s.texts, QtOk x ∧ x.length ≤ 1000) ∧ match s with
  | .head n => n ≤ 99
  | .skip n => n ≤ 99
  | .less n => n ≤ 99
  | .turn ps => ps ≠ [] ∧ ps.length ≤ 100
  | _ => True
def Wk.Good : Wk → Prop
  | .st s => s.Good
  | .th a b => a.Good ∧ b.Good
  | .fn => True
theorem lay_pairs : ∀ {ps : List (Str × Str)}, (∀ x ∈ ps.flatMap (fun p => [p.1, p.2]), QtOk x ∧ x.length ≤ 1000) → PyData.canLayAll0 (dKs (ps.map pairK)) = true
  | [], _ => rfl
  | p :: ps, h => by
    show (((PyData.strOk p.1) && ((PyData.strOk p.2) && true)) && PyData.canLayAll0 (dKs (ps.map pairK))) = true
    rw [(h p.1 (by simp)).1.ok, (h p.2 (by simp)).1.ok, lay_pairs fun x hx => h x (by rw [List.flatMap_cons]; exact List.mem_append_right _ hx)]
    rfl
theorem depth_pairs : ∀ ps : List (Str × Str), NestedKey.depthAll (ps.map pairK) ≤ 1
  | [] => Nat.zero_le _
  | p :: ps => by
    show max (max 0 (max 0 0) + 1) (NestedKey.depthAll (ps.map pairK)) ≤ 1
    have := depth_pairs ps
    omega
theorem st_strOk (s : Stp) : PyData.strOk s.word = true :=
  List.all_eq_true.mp (by decide +kernel : (stWords.all fun x => PyData.strOk x) = true) _ (st_mem s)
theorem then_ok : PyData.strOk (Str.ofString "then") = true := by decide +kernel
theorem fun_ok : PyData.strOk (Str.ofString "fun") = true := by decide +kernel
theorem f_ok : PyData.strOk (Str.ofString "f") = true := by decide +kernel
theorem Stp.ks {s : Stp} (h : s.Good) : KS s.key := by
  cases s with
  | turn ps =>
    refine ⟨?_, ?_⟩
    · show (PyData.strOk (Stp.word (.turn ps)) && (PyData.canLayAll0 (dKs (ps.map pairK)) && true)) = true
      rw [st_strOk, lay_pairs h.1]
      rfl
    · show max 0 (max (NestedKey.depthAll (ps.map pairK) + 1) 0) + 1 ≤ 60
      have := depth_pairs ps
      omega
  | put x =>
    refine ⟨?_, by show max 0 (max 0 0) + 1 ≤ 60; omega⟩
    show (PyData.strOk (Stp.word (.put x)) && (PyData.strOk x && true)) = true
    rw [st_strOk, (h.1 x (by simp [Stp.texts])).1.ok]
    rfl
  | ahead x =>
    refine ⟨?_, by show max 0 (max 0 0) + 1 ≤ 60; omega⟩
    show (PyData.strOk (Stp.word (.ahead x)) && (PyData.strOk x && true)) = true
    rw [st_strOk, (h.1 x (by simp [Stp.texts])).1.ok]
    rfl
  | behind x =>
    refine ⟨?_, by show max 0 (max 0 0) + 1 ≤ 60; omega⟩
    show (PyData.strOk (Stp.word (.behind x)) && (PyData.strOk x && true)) = true
    rw [st_strOk, (h.1 x (by simp [Stp.texts])).1.ok]
    rfl
  | head n => exact ⟨by show (PyData.strOk (Stp.word (.head n)) && (true && true)) = true; rw [st_strOk]; rfl, by show max 0 (max 0 0) + 1 ≤ 60; omega⟩
  | skip n => exact ⟨by show (PyData.strOk (Stp.word (.skip n)) && (true && true)) = true; rw [st_strOk]; rfl, by show max 0 (max 0 0) + 1 ≤ 60; omega⟩
  | less n => exact ⟨by show (PyData.strOk (Stp.word (.less n)) && (true && true)) = true; rw [st_strOk]; rfl, by show max 0 (max 0 0) + 1 ≤ 60; omega⟩
  | same => exact ⟨by show (PyData.strOk (Stp.word .same) && true) = true; rw [st_strOk]; rfl, by show max 0 0 + 1 ≤ 60; omega⟩
theorem Wk.lay : ∀ {t : Wk}, t.Good → (dK t.key).canLay0 = true
  | .st s, h => (Stp.ks h).1
  | .fn, _ => by
    show (PyData.strOk (Str.ofString "fun") && (PyData.strOk (Str.ofString "f") && true)) = true
    rw [fun_ok, f_ok]
    rfl
  | .th a b, h => by
    show (PyData.strOk (Str.ofString "then") && ((dK a.key).canLay0 && ((dK b.key).canLay0 && true))) = true
    rw [then_ok, Wk.lay h.1, Wk.lay h.2]
    rfl
theorem Wk.depth_th (a b : Wk) : (Wk.th a b).key.depth = max a.key.depth b.key.depth + 1 := by
  show max 0 (max a.key.depth (max b.key.depth 0)) + 1 = _
  omega
theorem Wk.ks {t : Wk} (h : t.Good) (hd : t.key.depth ≤ 60) : KS t.key := ⟨t.lay h, hd⟩
section
variable {P : Program} {w : World} {K : PySem.W.Frag} {mg : Str → Option Value} {base : Heap}
theorem eq_nil {H : Hp} {Q : VK} {a p : Addr} {k : NestedKey} {ks : List NestedKey} (hv : KeyV H (.ref a) (.tup (k :: ks))) (hk : KS (.tup (k :: ks))) (hp : H p = none) (q : Q (.bl false) (upd H p (.tup []))) : rEqD K (.ref a) (.ref p) (upd H p (.tup [])) Q :=
  ⟨dK (.tup (k :: ks)), .tuple [], kv_dp _ _ (hv.tp (TP.of_same (same_upd hp))), .tup (.inl (.inl upd_same)) .nil, hk.shaped, by decide +kernel, q⟩
theorem in3 {H : Hp} {Q : VK} {x a b c : Str} {r : Bool} (hb : ([a, b, c].any fun y => decide (y = x)) = r) (q : ∀ p, H p = none → Q (.bl r) (upd H p (.tup [.str a, .str b, .str c]))) :
    3 ≤ sizeLine ∧ ∀ p, H p = none → rIn K false (.str x) (.ref p) (upd H p (.tup [.str a, .str b, .str c])) Q :=
  ⟨by rw [sizeLine_eq]; decide, fun p hp => in_tab (l := [a, b, c]) (.inl (.inl upd_same)) hb (q p hp)⟩
theorem in2 {H : Hp} {Q : VK} {x a b : Str} {r : Bool} (hb : ([a, b].any fun y => decide (y = x)) = r) (q : ∀ p, H p = none → Q (.bl r) (upd H p (.tup [.str a, .str b]))) :
    2 ≤ sizeLine ∧ ∀ p, H p = none → rIn K false (.str x) (.ref p) (upd H p (.tup [.str a, .str b])) Q :=
  ⟨by rw [sizeLine_eq]; decide, fun p hp => in_tab (l := [a, b]) (.inl (.inl upd_same)) hb (q p hp)⟩
theorem weq_no {x c : Str} {A B : Prop} (h : x ≠ c) (q : B) : scal (V.str x) (V.str c) = true ∧ if decide (V.str x = V.str c) = true then A else B :=
  ⟨rfl, ifF (decide_eq_false fun e => h (by cases e; rfl)) q⟩
theorem weq_yes {x c : Str} {A B : Prop} (h : x = c) (q : A) : scal (V.str x) (V.str c) = true ∧ if decide (V.str x = V.str c) = true then A else B :=
  ⟨rfl, ifT (decide_eq_true (by rw [h])) q⟩
theorem wl_mem (t : Wk) : (t.word, PyData.int ((t.args.length + 1 : Nat) : Int)) ∈ tab_WORK_LENGTHS := by
  cases t with
  | st s => cases s <;> simp [tab_WORK_LENGTHS, dat_WORK_LENGTHS_0, dat_WORK_LENGTHS_1, dat_WORK_LENGTHS_2, dat_WORK_LENGTHS_3, dat_WORK_LENGTHS_4, dat_WORK_LENGTHS_5, dat_WORK_LENGTHS_6, dat_WORK_LENGTHS_7, dat_WORK_LENGTHS_8, dat_WORK_LENGTHS_9, dat_WORK_LENGTHS_10, dat_WORK_LENGTHS_11, dat_WORK_LENGTHS_12, Wk.word, Stp.word, Wk.args, Stp.args]
  | _ => simp [tab_WORK_LENGTHS, dat_WORK_LENGTHS_0, dat_WORK_LENGTHS_1, dat_WORK_LENGTHS_2, dat_WORK_LENGTHS_3, dat_WORK_LENGTHS_4, dat_WORK_LENGTHS_5, dat_WORK_LENGTHS_6, dat_WORK_LENGTHS_7, dat_WORK_LENGTHS_8, dat_WORK_LENGTHS_9, dat_WORK_LENGTHS_10, dat_WORK_LENGTHS_11, dat_WORK_LENGTHS_12, Wk.word, Stp.word, Wk.args, Stp.args]
theorem wl (T : Tx w K mg) (t : Wk) : ∃ u, PySem.W.nsIn K (He.ga K "WORK_LENGTHS") t.word = some (some u) ∧ RelV (.int ((t.args.length + 1 : Nat) : Int)) u := by
  obtain ⟨u, x, h1, h2, h3⟩ := T.u_WORK_LENGTHS _ (wl_mem t)
  have := h3 (fun _ => none)
  cases this
  exact ⟨u, h1, h2⟩
theorem f_small : smallB (Str.ofString "f") = true := by decide +kernel
theorem sc_first_word : FnScope ["value"] ["value"] (defScope (topS 46)) := ⟨rfl, rfl, rfl, by decide +kernel, rfl, by decide +kernel, by decide +kernel⟩
theorem bd_first_word {K : PySem.W.Frag} {f : Addr} {fd : FuncData} (F : FnP K "first_word" (topS 46) f fd) : Binds K fd ["value"] [] := F.bindsN fun _ _ _ _ _ _ us hl => match us, hl with | [_], _ => rfl
def spFw : Sp := fun vs H Q _ => ∃ v x ks, vs = [v] ∧ KeyV H v (.tup (.text x :: ks)) ∧ KS (.tup (.text x :: ks)) ∧ ∀ H', Same H H' → Q (.str x) H'
theorem ok_first_word (T : Tx w K mg) : Dk P w K mg base 1 "first_word" ["value"] spFw := by
  obtain ⟨fd, F⟩ := T.d_first_word
  refine ⟨⟨fd, F.ok sc_first_word (fun vs H Q E h => ?_) (fun cdv A outer s H vs Q E hr h => ?_), bd_first_word F⟩, F.kp, T.g_first_word⟩
  · obtain ⟨v, x, ks, rfl, _⟩ := h
    rfl
  · obtain ⟨v, x, ks, rfl, hv, hk, q⟩ := h
    obtain ⟨a, xs, rfl, ha, hx⟩ := tup_view hv
    obtain ⟨y, ys, rfl, hy, hys⟩ := cons_view hx
    obtain rfl := text_view hy
    refine ⟨_, PSs.nox (pss_cons (ps_if (PW.pt (pw_or (pt_not (pt_val (pe_callB call_isK (by rfl) T.f_isinstance PyProof.Rows.boot_isinstance (pa_cons (pv 0) (pa_cons (pe_bltn (v := .ty "tuple") (by rfl) T.f_tuple PyProof.Rows.boot_tuple rfl) pa_nil))))) (pw_or1 (pt_cmpR (op_eqD hr.units) (pv 0) (pe_tup pa_nil) (nomark _))))) (pss_one (ps_ret pe_str)) pss_nil)
      (pss_cons (ps_if (pt_not (pt_val (pe_callB call_isK (by rfl) T.f_isinstance PyProof.Rows.boot_isinstance (pa_cons (pe_ix ix_tupQ (pv 0) pe_int (fun _ _ => rfl)) (pa_cons (pe_bltn (v := .ty "str") (by rfl) T.f_str PyProof.Rows.boot_str rfl) pa_nil))))) (pss_one (ps_ret pe_str)) pss_nil)
      (pss_one (ps_ret (pe_ix ix_tupQ (pv 0) pe_int (fun _ _ => rfl)))))), ?_⟩
    simp only [cxOf, tYes, eq_self, if_true, if_false, wipe, rLenQ, rIxTQ, rIxLQ, rIxSQ, rInt1Q, rTupQ, rAppQ, rPopQ, rPopAtQ, rRevQ, rListS, rReprP, tLenSetT, tChain, tRetN, tRet, tSeq, tAsg, gName, tVar, tC, tCons, tNil, tCB, tOp, rI0, rI, tAndV, tOrV, tNotV, tIf, tTest, tB, tNot, tAnd, tOr, tIfS, tNext, tCallR, rIsK, rEq, rNe, tDrop, L2.start, List.map_cons, List.map_nil, List.length_cons, List.length_nil, Nat.reduceAdd, Nat.reduceSub, Nat.sub_self, List.replicate_zero, List.replicate_succ, List.append_nil, List.cons_append, List.nil_append, List.getElem?_cons_zero, List.getElem?_cons_succ, List.set_cons_zero, List.set_cons_succ, Option.some.injEq, List.cons.injEq, and_true, true_and, exists_eq_left, exists_eq_left', exists_eq_right, V.ty.injEq, V.int.injEq, V.bl.injEq, V.str.injEq, V.ref.injEq, exists_and_left, exists_const, reduceIte, reduceCtorEq, false_and, and_false, exists_false, or_false, false_or, Bool.not_true, Bool.not_false, Bool.false_eq_true, String.reduceEq, true_or, or_true, rNotT, tNNew, tNNotIn, tNGet, sNPut, tLenSetN, tPar, tAug, ipI, tDNotIn, sDPut, tDGet, tTup, tLst, tBM, tBM0, tCallD, tCall, rKdIn, tTNew, tTIn, tTGet, sTPut, Sg.tMethR, tMeth, tMakeR, tMake, tDGet2, tSAddK, rSAddK, rSInK, rSet0K, rExtend, rExtendT, tFld, sFld, tRevT, tDIn, tSl, tPart, tNoPart, tDelFrom, StX.tStar, tUn, rU]
    refine ⟨.tup (.inl (.inl ha)), ifF rfl ⟨Nat.zero_le _, fun p hp => eq_nil hv hk hp ⟨false, rfl, ifF rfl ?_⟩⟩⟩
    have s1 := same_upd (o := HO.tup []) hp
    exact ⟨_, .inl (.inl (s1 _ _ ha)), _, at_0 _ _, .str x, ifF rfl ⟨_, .inl (.inl (s1 _ _ ha)), _, at_0 _ _, q _ s1⟩⟩
theorem sc_is_pairs : FnScope ["value", "pair"] ["value"] (defScope (topS 49)) := ⟨rfl, rfl, rfl, by decide +kernel, rfl, by decide +kernel, by decide +kernel⟩
theorem bd_is_pairs {K : PySem.W.Frag} {f : Addr} {fd : FuncData} (F : FnP K "is_pairs" (topS 49) f fd) : Binds K fd ["value"] [] := F.bindsN fun _ _ _ _ _ _ us hl => match us, hl with | [_], _ => rfl
def spIp : Sp := fun vs H Q _ => ∃ v ps, vs = [v] ∧ KeyV H v (.tup (ps.map pairK)) ∧ ps ≠ [] ∧ (∀ x ∈ ps.flatMap (fun p => [p.1, p.2]), QtOk x ∧ x.length ≤ 1000) ∧ ∀ H', Same H H' → Q (.bl true) H'
theorem ok_is_pairs (T : Tx w K mg) : Dk P w K mg base 3 "is_pairs" ["value"] spIp := by
  have D_is_quotable := ok_is_quotable (P := P) (w := w) (base := base) T
  obtain ⟨fd, F⟩ := T.d_is_pairs
  refine ⟨⟨fd, F.ok sc_is_pairs (fun vs H Q E h => ?_) (fun cdv A outer s H vs Q E hr h => ?_), bd_is_pairs F⟩, F.kp, T.g_is_pairs⟩
  · obtain ⟨v, ps, rfl, _⟩ := h
    rfl
  · obtain ⟨v, ps, rfl, hv, hne, hx, q⟩ := h
    obtain ⟨a, xs, rfl, ha, hxs⟩ := tup_view hv
    refine ⟨_, PSs.nox (pss_cons (ps_if (PW.pt (pw_or (pt_not (pt_val (pe_callB call_isK (by rfl) T.f_isinstance PyProof.Rows.boot_isinstance (pa_cons (pv 0) (pa_cons (pe_bltn (v := .ty "tuple") (by rfl) T.f_tuple PyProof.Rows.boot_tuple rfl) pa_nil))))) (pw_or1 (pt_cmpR (op_eqD hr.units) (pv 0) (pe_tup pa_nil) (nomark _))))) (pss_one (ps_ret pe_bl)) pss_nil)
      (pss_cons (ps_for PassesOwn.never rfl (pi_tup (pv 0)) (pg_name (i := 1) sc_is_pairs.nd rfl (.inl rfl)) (pss_cons (ps_if (PW.pt (pw_or (pt_not (pt_val (pe_callB call_isK (by rfl) T.f_isinstance PyProof.Rows.boot_isinstance (pa_cons (pv 1) (pa_cons (pe_bltn (v := .ty "tuple") (by rfl) T.f_tuple PyProof.Rows.boot_tuple rfl) pa_nil))))) (pw_or1 (pt_cmpR op_ne (pe_callB call_lenQ (by rfl) T.f_len PySem.boot_len (pa_cons (pv 1) pa_nil)) pe_int (nomark _))))) (pss_one (ps_ret pe_bl)) pss_nil)
      (pss_one (ps_if (PW.pt (pw_or (pt_not (pt_val (pe_callR D_is_quotable (hr.mono (by decide)) takes0 (pa_cons (pe_ix ix_tupQ (pv 1) pe_int (fun _ _ => rfl)) pa_nil)))) (pw_or1 (pt_not (pt_val (pe_callR D_is_quotable (hr.mono (by decide)) takes0 (pa_cons (pe_ix ix_tupQ (pv 1) pe_int (fun _ _ => rfl)) pa_nil))))))) (pss_one (ps_ret pe_bl)) pss_nil))))
      (pss_one (ps_ret pe_bl)))), ?_⟩
    simp only [cxOf, tYes, eq_self, if_true, if_false, wipe, rLenQ, rIxTQ, rIxLQ, rIxSQ, rInt1Q, rTupQ, rAppQ, rPopQ, rPopAtQ, rRevQ, rListS, rReprP, tLenSetT, tChain, tRetN, tRet, tSeq, tAsg, gName, tVar, tC, tCons, tNil, tCB, tOp, rI0, rI, tAndV, tOrV, tNotV, tIf, tTest, tB, tNot, tAnd, tOr, tIfS, tNext, tCallR, rIsK, rEq, rNe, tDrop, L2.start, List.map_cons, List.map_nil, List.length_cons, List.length_nil, Nat.reduceAdd, Nat.reduceSub, Nat.sub_self, List.replicate_zero, List.replicate_succ, List.append_nil, List.cons_append, List.nil_append, List.getElem?_cons_zero, List.getElem?_cons_succ, List.set_cons_zero, List.set_cons_succ, Option.some.injEq, List.cons.injEq, and_true, true_and, exists_eq_left, exists_eq_left', exists_eq_right, V.ty.injEq, V.int.injEq, V.bl.injEq, V.str.injEq, V.ref.injEq, exists_and_left, exists_const, reduceIte, reduceCtorEq, false_and, and_false, exists_false, or_false, false_or, Bool.not_true, Bool.not_false, Bool.false_eq_true, String.reduceEq, true_or, or_true, rNotT, tNNew, tNNotIn, tNGet, sNPut, tLenSetN, tPar, tAug, ipI, tDNotIn, sDPut, tDGet, tTup, tLst, tBM, tBM0, tCallD, tCall, rKdIn, tTNew, tTIn, tTGet, sTPut, Sg.tMethR, tMeth, tMakeR, tMake, tDGet2, tSAddK, rSAddK, rSInK, rSet0K, rExtend, rExtendT, tFld, sFld, tRevT, tDIn, tSl, tPart, tNoPart, tDelFrom, StX.tStar, tUn, rU]
    have hl0 : KS (.tup (ps.map pairK)) := ⟨lay_pairs hx, by
      show NestedKey.depthAll (ps.map pairK) + 1 ≤ 60
      have := depth_pairs ps
      omega⟩
    obtain ⟨p0, pr, rfl⟩ := List.exists_cons_of_ne_nil hne
    refine ⟨.tup (.inl (.inl ha)), ifF rfl ⟨Nat.zero_le _, fun p hp => eq_nil hv hl0 hp ⟨false, rfl, ifF rfl ?_⟩⟩⟩
    have s1 := same_upd (o := HO.tup []) hp
    generalize upd H p (HO.tup []) = H1 at s1
    refine ⟨_, rfl, a, rfl, ⟨_, .inl (.inl (s1 _ _ ha))⟩, ?_⟩
    refine for_tup (K := K) (a := a) (xs := xs) (fun i σ H' => Same H H' ∧ ∃ x1, σ = [some (.ref a), x1]) ⟨s1, _, rfl⟩ (fun i σ H' _ h => .inl (.inl (h.1 _ _ ha))) ?_ ?_
    · rintro i x σ H' hi ⟨s2, x1, rfl⟩
      obtain ⟨k, hk, hkv⟩ := hxs.get hi
      rw [List.getElem?_map] at hk
      obtain ⟨pq, hpq, rfl⟩ := Option.map_eq_some_iff.mp hk
      obtain ⟨c, cs, rfl, hc, hcs⟩ := tup_view (hkv.tp (TP.of_same s2))
      obtain ⟨y1, y2, rfl, hy1, hy2⟩ := two_view hcs
      obtain rfl := text_view hy1
      obtain rfl := text_view hy2
      have hm := List.mem_of_getElem? hpq
      have q1 := hx pq.1 (List.mem_flatMap.mpr ⟨pq, hm, by simp⟩)
      have q2 := hx pq.2 (List.mem_flatMap.mpr ⟨pq, hm, by simp⟩)
      have hS : SqT K H' c [.str pq.1, .str pq.2] := .inl (.inl hc)
      simp only [cxOf, tYes, eq_self, if_true, if_false, wipe, rLenQ, rIxTQ, rIxLQ, rIxSQ, rInt1Q, rTupQ, rAppQ, rPopQ, rPopAtQ, rRevQ, rListS, rReprP, tLenSetT, tChain, tRetN, tRet, tSeq, tAsg, gName, tVar, tC, tCons, tNil, tCB, tOp, rI0, rI, tAndV, tOrV, tNotV, tIf, tTest, tB, tNot, tAnd, tOr, tIfS, tNext, tCallR, rIsK, rEq, rNe, tDrop, L2.start, List.map_cons, List.map_nil, List.length_cons, List.length_nil, Nat.reduceAdd, Nat.reduceSub, Nat.sub_self, List.replicate_zero, List.replicate_succ, List.append_nil, List.cons_append, List.nil_append, List.getElem?_cons_zero, List.getElem?_cons_succ, List.set_cons_zero, List.set_cons_succ, Option.some.injEq, List.cons.injEq, and_true, true_and, exists_eq_left, exists_eq_left', exists_eq_right, V.ty.injEq, V.int.injEq, V.bl.injEq, V.str.injEq, V.ref.injEq, exists_and_left, exists_const, reduceIte, reduceCtorEq, false_and, and_false, exists_false, or_false, false_or, Bool.not_true, Bool.not_false, Bool.false_eq_true, String.reduceEq, true_or, or_true, rNotT, tNNew, tNNotIn, tNGet, sNPut, tLenSetN, tPar, tAug, ipI, tDNotIn, sDPut, tDGet, tTup, tLst, tBM, tBM0, tCallD, tCall, rKdIn, tTNew, tTIn, tTGet, sTPut, Sg.tMethR, tMeth, tMakeR, tMake, tDGet2, tSAddK, rSAddK, rSInK, rSet0K, rExtend, rExtendT, tFld, sFld, tRevT, tDIn, tSl, tPart, tNoPart, tDelFrom, StX.tStar, tUn, rU]
      refine ⟨.tup hS, ifF rfl ⟨_, .inr hS, rfl, ifF rfl ⟨_, hS, _, rfl, pq.1, rfl, q1.1, Nat.le_trans q1.2 (by decide), fun H2 s3 => ⟨true, rfl, ifF rfl ⟨_, Same.sqT s3 hS, _, rfl, pq.2, rfl, q2.1, Nat.le_trans q2.2 (by decide), fun H3 s4 => ⟨true, rfl, ifF rfl ⟨Same.trans s2 (Same.trans s3 s4), _, rfl⟩⟩⟩⟩⟩⟩⟩
    · rintro σ H' ⟨s2, x1, rfl⟩
      exact q H' s2
theorem sc_is_work_node : FnScope ["value", "most", "word"] ["value", "most"] (defScope (topS 50)) := ⟨rfl, rfl, rfl, by decide +kernel, rfl, by decide +kernel, by decide +kernel⟩
theorem bd_is_work_node {K : PySem.W.Frag} {f : Addr} {fd : FuncData} (F : FnP K "is_work_node" (topS 50) f fd) : Binds K fd ["value", "most"] [] := F.bindsN fun _ _ _ _ _ _ us hl => match us, hl with | [_, _], _ => rfl
def spWn : Sp := fun vs H Q _ => ∃ v t m, vs = [v, m] ∧ KeyV H v (Wk.key t) ∧ t.Good ∧ t.key.depth ≤ 60 ∧ ∀ H', Same H H' → Q (.bl true) H'
theorem ok_is_work_node (T : Tx w K mg) : Dk P w K mg base 5 "is_work_node" ["value", "most"] spWn := by
  have D_first_word := ok_first_word (P := P) (w := w) (base := base) T
  have D_is_quotable := ok_is_quotable (P := P) (w := w) (base := base) T
  have D_is_number := ok_is_number (P := P) (w := w) (base := base) T
  have D_is_pairs := ok_is_pairs (P := P) (w := w) (base := base) T
  have D_is_fun_name := ok_is_fun_name (P := P) (w := w) (base := base) T
  obtain ⟨_, _, kd_WORK_LENGTHS⟩ := T.kd_WORK_LENGTHS
  obtain ⟨fd, F⟩ := T.d_is_work_node
  refine ⟨⟨fd, F.ok sc_is_work_node (fun vs H Q E h => ?_) (fun cdv A outer s H vs Q E hr h => ?_), bd_is_work_node F⟩, F.kp, T.g_is_work_node⟩
  · obtain ⟨v, t, m, rfl, _⟩ := h
    rfl
  · obtain ⟨v, t, m, rfl, hv, hg, hd, q⟩ := h
    obtain ⟨a, xs, rfl, ha, hx⟩ := wk_view hv
    refine ⟨_, PSs.nox (pss_cons (ps_set (i := 2) sc_is_work_node.nd rfl (.inl rfl) (pe_callR D_first_word (hr.mono (by decide)) takes0 (pa_cons (pv 0) pa_nil)))
      (pss_cons (ps_if (PW.pt (pw_or (pt_cmpR (op_kdNotIn kd_WORK_LENGTHS) (pv 2) (pe_glob (v := .ref (He.ga K "WORK_LENGTHS")) (by rfl) T.t_WORK_LENGTHS rfl) rfl) (pw_or1 (pt_cmpR op_ne (pe_callB call_lenQ (by rfl) T.f_len PySem.boot_len (pa_cons (pv 0) pa_nil)) (pe_ix (ix_kd kd_WORK_LENGTHS) (pe_glob (v := .ref (He.ga K "WORK_LENGTHS")) (by rfl) T.t_WORK_LENGTHS rfl) (pv 2) (fun _ _ => rfl)) (nomark _))))) (pss_one (ps_ret pe_bl)) pss_nil)
      (pss_cons (ps_if (pt_cmpR (show OpR _ _ (rIn K false) by exact op_in_seq) (pv 2) (pe_tup (pa_cons pe_str (pa_cons pe_str (pa_cons pe_str pa_nil)))) rfl) (pss_one (ps_ret (pe_callR D_is_quotable (hr.mono (by decide)) takes0 (pa_cons (pe_ix ix_tupQ (pv 0) pe_int (fun _ _ => rfl)) pa_nil)))) pss_nil)
      (pss_cons (ps_if (pt_cmpR (show OpR _ _ (rIn K false) by exact op_in_seq) (pv 2) (pe_tup (pa_cons pe_str (pa_cons pe_str (pa_cons pe_str pa_nil)))) rfl) (pss_one (ps_ret (pe_callR D_is_number (hr.mono (by decide)) takes0 (pa_cons (pe_ix ix_tupQ (pv 0) pe_int (fun _ _ => rfl)) pa_nil)))) pss_nil)
      (pss_cons (ps_if (pt_cmpR op_eq (pv 2) pe_str (nomark _)) (pss_one (ps_ret (pe_callR D_is_pairs (hr.mono (by decide)) takes0 (pa_cons (pe_ix ix_tupQ (pv 0) pe_int (fun _ _ => rfl)) pa_nil)))) pss_nil)
      (pss_cons (ps_if (pt_cmpR op_eq (pv 2) pe_str (nomark _)) (pss_one (ps_ret (pe_callR D_is_fun_name (hr.mono (by decide)) takes0 (pa_cons (pe_ix ix_tupQ (pv 0) pe_int (fun _ _ => rfl)) pa_nil)))) pss_nil)
      (pss_cons (ps_if (pt_cmpR (show OpR _ _ (rIn K false) by exact op_in_seq) (pv 2) (pe_tup (pa_cons pe_str (pa_cons pe_str pa_nil))) rfl) (pss_one (ps_ret pe_dead)) pss_nil)
      (pss_cons (ps_if (pt_cmpR op_eq (pv 2) pe_str (nomark _)) (pss_one (ps_ret (pe_dead))) pss_nil)
      (pss_one (ps_ret pe_bl)))))))))), ?_⟩
    simp only [cxOf, tYes, eq_self, if_true, if_false, wipe, rLenQ, rIxTQ, rIxLQ, rIxSQ, rInt1Q, rTupQ, rAppQ, rPopQ, rPopAtQ, rRevQ, rListS, rReprP, tLenSetT, tChain, tRetN, tRet, tSeq, tAsg, gName, tVar, tC, tCons, tNil, tCB, tOp, rI0, rI, tAndV, tOrV, tNotV, tIf, tTest, tB, tNot, tAnd, tOr, tIfS, tNext, tCallR, rIsK, rEq, rNe, tDrop, L2.start, List.map_cons, List.map_nil, List.length_cons, List.length_nil, Nat.reduceAdd, Nat.reduceSub, Nat.sub_self, List.replicate_zero, List.replicate_succ, List.append_nil, List.cons_append, List.nil_append, List.getElem?_cons_zero, List.getElem?_cons_succ, List.set_cons_zero, List.set_cons_succ, Option.some.injEq, List.cons.injEq, and_true, true_and, exists_eq_left, exists_eq_left', exists_eq_right, V.ty.injEq, V.int.injEq, V.bl.injEq, V.str.injEq, V.ref.injEq, exists_and_left, exists_const, reduceIte, reduceCtorEq, false_and, and_false, exists_false, or_false, false_or, Bool.not_true, Bool.not_false, Bool.false_eq_true, String.reduceEq, true_or, or_true, rNotT, tNNew, tNNotIn, tNGet, sNPut, tLenSetN, tPar, tAug, ipI, tDNotIn, sDPut, tDGet, tTup, tLst, tBM, tBM0, tCallD, tCall, rKdIn, tTNew, tTIn, tTGet, sTPut, Sg.tMethR, tMeth, tMakeR, tMake, tDGet2, tSAddK, rSAddK, rSInK, rSet0K, rExtend, rExtendT, tFld, sFld, tRevT, tDIn, tSl, tPart, tNoPart, tDelFrom, StX.tStar, tUn, rU]
    have hk := Wk.ks hg hd
    rw [t.key_eq] at hk
    refine ⟨_, t.word, t.args, rfl, by rw [← t.key_eq]; exact hv, hk, fun H1 s1 => ?_⟩
    obtain ⟨u, hu, hr2⟩ := wl T t
    have hT : ∀ H', Same H H' → SqT K H' a (.str t.word :: xs) := fun H' s' => .inl (.inl (s' _ _ ha))
    refine ⟨t.word, rfl, some u, hu, ifF rfl ⟨_, .inr (hT H1 s1), ⟨t.word, u, _, rfl, rfl, hu, hr2, rfl, ifF ?_ ?_⟩⟩⟩
    · have e : (((V.str t.word :: xs).length : Nat) : Int) = ((t.args.length + 1 : Nat) : Int) := by rw [List.length_cons, hx.len]
      rw [e, decide_eq_true rfl]
      rfl
    cases t with
    | fn =>
      obtain ⟨z, rfl, hz⟩ := one_view hx
      obtain rfl := text_view hz
      exact in3 (by decide +kernel : ([Str.ofString "put", Str.ofString "ahead", Str.ofString "behind"].any fun y => decide (y = Str.ofString "fun")) = false) fun p1 h1 => ⟨false, rfl, ifF rfl (in3 (by decide +kernel : ([Str.ofString "head", Str.ofString "skip", Str.ofString "less"].any fun y => decide (y = Str.ofString "fun")) = false) fun p2 h2 => ⟨false, rfl, ifF rfl (weq_no (by decide +kernel : Str.ofString "fun" ≠ Str.ofString "turn") (weq_yes rfl (⟨_, hT _ (Same.trans (Same.trans s1 (same_upd h1)) (same_upd h2)), _, at_1 _ _ _, Str.ofString "f", rfl, ⟨by decide +kernel, by decide +kernel, by decide +kernel⟩, by decide +kernel, fun H' s' => by rw [f_small]; exact q H' (Same.trans (Same.trans (Same.trans s1 (same_upd h1)) (same_upd h2)) s')⟩)))⟩)⟩
    | th b c => exact in3 (by decide +kernel : ([Str.ofString "put", Str.ofString "ahead", Str.ofString "behind"].any fun y => decide (y = Str.ofString "then")) = false) fun p1 h1 => ⟨false, rfl, ifF rfl (in3 (by decide +kernel : ([Str.ofString "head", Str.ofString "skip", Str.ofString "less"].any fun y => decide (y = Str.ofString "then")) = false) fun p2 h2 => ⟨false, rfl, ifF rfl (weq_no (by decide +kernel : Str.ofString "then" ≠ Str.ofString "turn") (weq_no (by decide +kernel : Str.ofString "then" ≠ Str.ofString "fun") (in2 (by decide +kernel : ([Str.ofString "only", Str.ofString "if"].any fun y => decide (y = Str.ofString "then")) = false) fun p3 h3 => ⟨false, rfl, ifF rfl (weq_no (by decide +kernel : Str.ofString "then" ≠ Str.ofString "each") (q _ (Same.trans (Same.trans (Same.trans s1 (same_upd h1)) (same_upd h2)) (same_upd h3))))⟩)))⟩)⟩
    | st s =>
      cases s with
      | put y =>
        obtain ⟨z, rfl, hz⟩ := one_view hx
        obtain rfl := text_view hz
        exact in3 (by decide +kernel : ([Str.ofString "put", Str.ofString "ahead", Str.ofString "behind"].any fun y => decide (y = Str.ofString "put")) = true) fun p1 h1 => ⟨true, rfl, ifT rfl (⟨_, hT _ (Same.trans s1 (same_upd h1)), _, at_1 _ _ _, y, rfl, (hg.1 y (by simp [Stp.texts])).1, Nat.le_trans (hg.1 y (by simp [Stp.texts])).2 (by decide), fun H' s' => q H' (Same.trans (Same.trans s1 (same_upd h1)) s')⟩)⟩
      | ahead y =>
        obtain ⟨z, rfl, hz⟩ := one_view hx
        obtain rfl := text_view hz
        exact in3 (by decide +kernel : ([Str.ofString "put", Str.ofString "ahead", Str.ofString "behind"].any fun y => decide (y = Str.ofString "ahead")) = true) fun p1 h1 => ⟨true, rfl, ifT rfl (⟨_, hT _ (Same.trans s1 (same_upd h1)), _, at_1 _ _ _, y, rfl, (hg.1 y (by simp [Stp.texts])).1, Nat.le_trans (hg.1 y (by simp [Stp.texts])).2 (by decide), fun H' s' => q H' (Same.trans (Same.trans s1 (same_upd h1)) s')⟩)⟩
      | behind y =>
        obtain ⟨z, rfl, hz⟩ := one_view hx
        obtain rfl := text_view hz
        exact in3 (by decide +kernel : ([Str.ofString "put", Str.ofString "ahead", Str.ofString "behind"].any fun y => decide (y = Str.ofString "behind")) = true) fun p1 h1 => ⟨true, rfl, ifT rfl (⟨_, hT _ (Same.trans s1 (same_upd h1)), _, at_1 _ _ _, y, rfl, (hg.1 y (by simp [Stp.texts])).1, Nat.le_trans (hg.1 y (by simp [Stp.texts])).2 (by decide), fun H' s' => q H' (Same.trans (Same.trans s1 (same_upd h1)) s')⟩)⟩
      | head n =>
        obtain ⟨z, rfl, hz⟩ := one_view hx
        obtain rfl := num_view hz
        exact in3 (by decide +kernel : ([Str.ofString "put", Str.ofString "ahead", Str.ofString "behind"].any fun y => decide (y = Str.ofString "head")) = false) fun p1 h1 => ⟨false, rfl, ifF rfl (in3 (by decide +kernel : ([Str.ofString "head", Str.ofString "skip", Str.ofString "less"].any fun y => decide (y = Str.ofString "head")) = true) fun p2 h2 => ⟨true, rfl, ifT rfl (⟨_, hT _ (Same.trans (Same.trans s1 (same_upd h1)) (same_upd h2)), _, at_1 _ _ _, n, rfl, hg.2, q _ (Same.trans (Same.trans s1 (same_upd h1)) (same_upd h2))⟩)⟩)⟩
      | skip n =>
        obtain ⟨z, rfl, hz⟩ := one_view hx
        obtain rfl := num_view hz
        exact in3 (by decide +kernel : ([Str.ofString "put", Str.ofString "ahead", Str.ofString "behind"].any fun y => decide (y = Str.ofString "skip")) = false) fun p1 h1 => ⟨false, rfl, ifF rfl (in3 (by decide +kernel : ([Str.ofString "head", Str.ofString "skip", Str.ofString "less"].any fun y => decide (y = Str.ofString "skip")) = true) fun p2 h2 => ⟨true, rfl, ifT rfl (⟨_, hT _ (Same.trans (Same.trans s1 (same_upd h1)) (same_upd h2)), _, at_1 _ _ _, n, rfl, hg.2, q _ (Same.trans (Same.trans s1 (same_upd h1)) (same_upd h2))⟩)⟩)⟩
      | less n =>
        obtain ⟨z, rfl, hz⟩ := one_view hx
        obtain rfl := num_view hz
        exact in3 (by decide +kernel : ([Str.ofString "put", Str.ofString "ahead", Str.ofString "behind"].any fun y => decide (y = Str.ofString "less")) = false) fun p1 h1 => ⟨false, rfl, ifF rfl (in3 (by decide +kernel : ([Str.ofString "head", Str.ofString "skip", Str.ofString "less"].any fun y => decide (y = Str.ofString "less")) = true) fun p2 h2 => ⟨true, rfl, ifT rfl (⟨_, hT _ (Same.trans (Same.trans s1 (same_upd h1)) (same_upd h2)), _, at_1 _ _ _, n, rfl, hg.2, q _ (Same.trans (Same.trans s1 (same_upd h1)) (same_upd h2))⟩)⟩)⟩
      | turn ps =>
        obtain ⟨z, rfl, hz⟩ := one_view hx
        exact in3 (by decide +kernel : ([Str.ofString "put", Str.ofString "ahead", Str.ofString "behind"].any fun y => decide (y = Str.ofString "turn")) = false) fun p1 h1 => ⟨false, rfl, ifF rfl (in3 (by decide +kernel : ([Str.ofString "head", Str.ofString "skip", Str.ofString "less"].any fun y => decide (y = Str.ofString "turn")) = false) fun p2 h2 => ⟨false, rfl, ifF rfl (weq_yes rfl (⟨_, hT _ (Same.trans (Same.trans s1 (same_upd h1)) (same_upd h2)), _, at_1 _ _ _, z, ps, rfl, hz.tp (TP.of_same (Same.trans (Same.trans s1 (same_upd h1)) (same_upd h2))), hg.2.1, hg.1, fun H' s' => q H' (Same.trans (Same.trans (Same.trans s1 (same_upd h1)) (same_upd h2)) s')⟩))⟩)⟩
      | same => exact in3 (by decide +kernel : ([Str.ofString "put", Str.ofString "ahead", Str.ofString "behind"].any fun y => decide (y = Str.ofString "same")) = false) fun p1 h1 => ⟨false, rfl, ifF rfl (in3 (by decide +kernel : ([Str.ofString "head", Str.ofString "skip", Str.ofString "less"].any fun y => decide (y = Str.ofString "same")) = false) fun p2 h2 => ⟨false, rfl, ifF rfl (weq_no (by decide +kernel : Str.ofString "same" ≠ Str.ofString "turn") (weq_no (by decide +kernel : Str.ofString "same" ≠ Str.ofString "fun") (in2 (by decide +kernel : ([Str.ofString "only", Str.ofString "if"].any fun y => decide (y = Str.ofString "same")) = false) fun p3 h3 => ⟨false, rfl, ifF rfl (weq_no (by decide +kernel : Str.ofString "same" ≠ Str.ofString "each") (q _ (Same.trans (Same.trans (Same.trans s1 (same_upd h1)) (same_upd h2)) (same_upd h3))))⟩)))⟩)⟩
theorem sc_is_work : FnScope ["value", "most", "left", "many", "one"] ["value", "most"] (defScope (topS 51)) := ⟨rfl, rfl, rfl, by decide +kernel, rfl, by decide +kernel, by decide +kernel⟩
theorem bd_is_work_1 {K : PySem.W.Frag} {f : Addr} {fd : FuncData} (F : FnPD K "is_work" (topS 51) [.non] f fd) : ∃ ds, Vals ([.non] : List V) ds ∧ Binds K fd ["value", "most"] ds := F.binds1 (n := 1) (j := 0) (by decide) (by rfl) fun T kV doc pm an cdv ct us its hu hi => match us, its, hu, hi with | [_], [_], _, _ => ⟨_, rfl, rfl⟩
theorem bd_is_work_2 {K : PySem.W.Frag} {f : Addr} {fd : FuncData} (F : FnPD K "is_work" (topS 51) [.non] f fd) : ∃ ds, Vals ([] : List V) ds ∧ Binds K fd ["value", "most"] ds := F.binds1 (n := 2) (j := 1) (by decide) (by rfl) fun T kV doc pm an cdv ct us its hu hi => match us, its, hu, hi with | [_, _], [_], _, _ => ⟨_, rfl, rfl⟩
def spIw : Sp := fun vs H Q _ => ∃ v t m, vs = [v, m] ∧ (m = .non ∨ m = .int 60) ∧ KeyV H v (Wk.key t) ∧ t.Good ∧ t.key.depth ≤ 60 ∧ t.nodes ≤ 60 ∧ ∀ H', Same H H' → Q (.bl true) H'
theorem nodes_len : ∀ ps : List Wk, ps.length ≤ (ps.map Wk.nodes).sum
  | [] => Nat.zero_le _
  | y :: ps => by
    rw [List.map_cons, List.sum_cons, List.length_cons]
    have := y.nodes_pos
    have := nodes_len ps
    omega
theorem most_ok {m : V} {c : Nat} {A B : Prop} (hm : m = .non ∨ m = .int 60) (hc : c + 1 ≤ 60) (q : B) : if (!decide (m = V.non)) = true then ∃ x : Int, m = V.int x ∧ if decide (x < (c : Int) + 1) = true then A else B else B := by
  rcases hm with rfl | rfl
  · exact ifF rfl q
  · exact ifT rfl ⟨60, rfl, ifF (decide_eq_false (by omega)) q⟩
def IwI (H : Hp) (p : Addr) (v m : V) (t : Wk) (n : Nat) (σ : L2.St) (H' : Hp) : Prop := ∃ (ps : List Wk) (ls : List V) (c : Nat) (x4 : Option V), Same H H' ∧ H' p = some (.lst ls) ∧ KeyVs H' ls (ps.map Wk.key) ∧ (∀ x ∈ ps, x.Good ∧ x.key.depth ≤ 60) ∧ c + (ps.map Wk.nodes).sum = t.nodes ∧ n = (ps.map Wk.nodes).sum ∧ σ = [some v, some m, some (.ref p), some (.int c), x4]
theorem ok_is_work_2 (T : Tx w K mg) : DkD P w K mg base 6 "is_work" ["value", "most"] [] spIw := by
  have D_is_work_node := ok_is_work_node (P := P) (w := w) (base := base) T
  have D_work_parts := ok_work_parts (P := P) (w := w) (base := base) T
  obtain ⟨fd, F⟩ := T.d_is_work
  obtain ⟨ds, hd, hb⟩ := bd_is_work_2 F
  refine ⟨⟨fd, ds, F.ok sc_is_work (fun vs H Q E h => ?_) (fun cdv A outer s H vs Q E hr h => ?_), hb, hd⟩, F.kp, T.g_is_work⟩
  · obtain ⟨v, t, m, rfl, _⟩ := h
    rfl
  · obtain ⟨v, t, m, rfl, hm, hv, hg, hd, hn, q⟩ := h
    refine ⟨_, PSs.nox (pss_cons (ps_set (i := 2) sc_is_work.nd rfl (.inl rfl) (pe_lst (pa_cons (pv 0) pa_nil)))
      (pss_cons (ps_set (i := 3) sc_is_work.nd rfl (.inl rfl) pe_int)
      (pss_cons (ps_while PassesOwn.never (pt_truth (pv 2) (by intro _; rfl)) (pss_cons (ps_set (i := 4) sc_is_work.nd rfl (.inl rfl) (pe_bm0 PySem.F.plainAttrs_list PySem.F.slot_list_pop PySem.F.type_list_pop mt_popQ (pv 2)))
      (pss_cons (ps_aug (i := 3) sc_is_work.nd rfl (.inl rfl) pe_int ip_add)
      (pss_cons (ps_if (PW.pt (pw_and (pt_cmpR op_notN (pv 1) pe_non (nomark _)) (pw_and1 (pt_cmpR op_gt (pv 3) (pv 1) (nomark _))))) (pss_one (ps_ret pe_bl)) pss_nil)
      (pss_cons (ps_if (pt_not (pt_val (pe_callR D_is_work_node (hr.mono (by decide)) takes0 (pa_cons (pv 4) (pa_cons (pv 1) pa_nil))))) (pss_one (ps_ret pe_bl)) pss_nil)
      (pss_one (ps_expr (pe_bm PySem.F.plainAttrs_list PySem.F.slot_list_extend PySem.F.type_list_extend mt_extendT (pv 2) (pa_cons (pe_callR D_work_parts (hr.mono (by decide)) takes0 (pa_cons (pv 4) pa_nil)) pa_nil)))))))))
      (pss_one (ps_ret pe_bl))))), ?_⟩
    simp only [cxOf, tYes, eq_self, if_true, if_false, wipe, rLenQ, rIxTQ, rIxLQ, rIxSQ, rInt1Q, rTupQ, rAppQ, rPopQ, rPopAtQ, rRevQ, rListS, rReprP, tLenSetT, tChain, tRetN, tRet, tSeq, tAsg, gName, tVar, tC, tCons, tNil, tCB, tOp, rI0, rI, tAndV, tOrV, tNotV, tIf, tTest, tB, tNot, tAnd, tOr, tIfS, tNext, tCallR, rIsK, rEq, rNe, tDrop, L2.start, List.map_cons, List.map_nil, List.length_cons, List.length_nil, Nat.reduceAdd, Nat.reduceSub, Nat.sub_self, List.replicate_zero, List.replicate_succ, List.append_nil, List.cons_append, List.nil_append, List.getElem?_cons_zero, List.getElem?_cons_succ, List.set_cons_zero, List.set_cons_succ, Option.some.injEq, List.cons.injEq, and_true, true_and, exists_eq_left, exists_eq_left', exists_eq_right, V.ty.injEq, V.int.injEq, V.bl.injEq, V.str.injEq, V.ref.injEq, exists_and_left, exists_const, reduceIte, reduceCtorEq, false_and, and_false, exists_false, or_false, false_or, Bool.not_true, Bool.not_false, Bool.false_eq_true, String.reduceEq, true_or, or_true, rNotT, tNNew, tNNotIn, tNGet, sNPut, tLenSetN, tPar, tAug, ipI, tDNotIn, sDPut, tDGet, tTup, tLst, tBM, tBM0, tCallD, tCall, rKdIn, tTNew, tTIn, tTGet, sTPut, Sg.tMethR, tMeth, tMakeR, tMake, tDGet2, tSAddK, rSAddK, rSInK, rSet0K, rExtend, rExtendT, tFld, sFld, tRevT, tDIn, tSl, tPart, tNoPart, tDelFrom, StX.tStar, tUn, rU]
    refine ⟨by rw [sizeLine_eq]; decide, fun p hp => ?_⟩
    refine ⟨IwI H p v m t, ⟨_, [t], [v], 0, none, same_upd hp, upd_same, .cons (hv.tp (TP.of_same (same_upd hp))) .nil, by simp [hg, hd], by simp, rfl, rfl⟩, ?_⟩
    rintro n σ H' ⟨ps, ls, c, x4, s1, h1, k1, g1, e1, rfl, rfl⟩
    simp only [cxOf, tYes, eq_self, if_true, if_false, wipe, rLenQ, rIxTQ, rIxLQ, rIxSQ, rInt1Q, rTupQ, rAppQ, rPopQ, rPopAtQ, rRevQ, rListS, rReprP, tLenSetT, tChain, tRetN, tRet, tSeq, tAsg, gName, tVar, tC, tCons, tNil, tCB, tOp, rI0, rI, tAndV, tOrV, tNotV, tIf, tTest, tB, tNot, tAnd, tOr, tIfS, tNext, tCallR, rIsK, rEq, rNe, tDrop, L2.start, List.map_cons, List.map_nil, List.length_cons, List.length_nil, Nat.reduceAdd, Nat.reduceSub, Nat.sub_self, List.replicate_zero, List.replicate_succ, List.append_nil, List.cons_append, List.nil_append, List.getElem?_cons_zero, List.getElem?_cons_succ, List.set_cons_zero, List.set_cons_succ, Option.some.injEq, List.cons.injEq, and_true, true_and, exists_eq_left, exists_eq_left', exists_eq_right, V.ty.injEq, V.int.injEq, V.bl.injEq, V.str.injEq, V.ref.injEq, exists_and_left, exists_const, reduceIte, reduceCtorEq, false_and, and_false, exists_false, or_false, false_or, Bool.not_true, Bool.not_false, Bool.false_eq_true, String.reduceEq, true_or, or_true, rNotT, tNNew, tNNotIn, tNGet, sNPut, tLenSetN, tPar, tAug, ipI, tDNotIn, sDPut, tDGet, tTup, tLst, tBM, tBM0, tCallD, tCall, rKdIn, tTNew, tTIn, tTGet, sTPut, Sg.tMethR, tMeth, tMakeR, tMake, tDGet2, tSAddK, rSAddK, rSInK, rSet0K, rExtend, rExtendT, tFld, sFld, tRevT, tDIn, tSl, tPart, tNoPart, tDelFrom, StX.tStar, tUn, rU]
    rcases List.eq_nil_or_concat ps with rfl | ⟨ps, t0, rfl⟩
    · obtain rfl := nil_view k1
      exact ⟨false, .inl ⟨_, .inl (.inl h1), rfl⟩, ifF rfl (q H' s1)⟩
    · rw [List.concat_eq_append] at *
      rw [List.map_append] at k1
      obtain ⟨ls, x, rfl, k1, kx⟩ := snoc_view k1
      have gt := g1 t0 (by simp)
      have e2 : c + ((ps.map Wk.nodes).sum + t0.nodes) = t.nodes := by
        rw [← e1]
        simp
      have hp0 := t0.nodes_pos
      refine ⟨true, .inl ⟨_, .inl (.inl h1), by simp⟩, ifT rfl ?_⟩
      refine ⟨fun σ H'' => ∃ m', m' < ((ps ++ [t0]).map Wk.nodes).sum ∧ IwI H p v m t m' σ H'', fun _ _ z => z, lst_ty h1, ls, x, h1, ?_⟩
      have t1 : TP H' (upd H' p (.lst ls)) := tp_upd h1 fun _ e => by cases e
      refine most_ok hm (by omega) ⟨x, t0, m, rfl, kx.tp t1, gt.1, gt.2, fun H1 s3 => ⟨true, rfl, ifF rfl ⟨lst_ty (s3 _ _ upd_same), x, t0, rfl, (kx.tp t1).tp (TP.of_same s3), fun a ys H2 s4 ha kys => ⟨a, rfl, ls, s4 _ _ (s3 _ _ upd_same), ys, .inl (.inl ha), ?_, ?_⟩⟩⟩⟩
      · have h6 : t0.parts.length ≤ 2 := by cases t0 <;> simp [Wk.parts]
        have h5 := nodes_len ps
        rw [k1.len, kys.len, List.length_map, List.length_map]
        exact szle (m := 2000) (by omega)
      · have g2 : H2 p = some (.lst ls) := s4 _ _ (s3 _ _ upd_same)
        have t2 : TP H2 (upd H2 p (.lst (ls ++ ys))) := tp_upd g2 fun _ e => by cases e
        have t3 := t1.trans ((TP.of_same (Same.trans s3 s4)).trans t2)
        have e3 := t0.nodes_eq
        have gp : ∀ y ∈ t0.parts, y.Good ∧ y.key.depth ≤ 60 := by
          intro y hy
          cases t0 with
          | th a b =>
            have hd2 := gt.2
            rw [Wk.depth_th] at hd2
            rcases List.mem_cons.mp hy with rfl | hy
            · exact ⟨gt.1.1, by omega⟩
            · obtain rfl := List.mem_singleton.mp hy
              exact ⟨gt.1.2, by omega⟩
          | fn => cases hy
          | st s => cases hy
        refine ⟨((ps ++ t0.parts).map Wk.nodes).sum, ?_, ps ++ t0.parts, ls ++ ys, c + 1, some x, ?_, upd_same, ?_, ?_, ?_, rfl, by simp⟩
        · rw [List.map_append, List.sum_append, List.map_append, List.sum_append]
          simp
          omega
        · exact Same.chg s1 [p] (by simp [hp]) ((Chg.upd (by simp)).trans ((Chg.of_same (Same.trans s3 s4)).trans (Chg.upd (by simp))))
        · rw [List.map_append]
          exact (k1.tp t3).app (kys.tp t2)
        · intro y hy
          rcases List.mem_append.mp hy with h | h
          · exact g1 y (List.mem_append_left _ h)
          · exact gp y h
        · rw [List.map_append, List.sum_append]
          omega
end
end K08

namespace K08
open PySem PySem.Spec PyProof.Rows L2 Sg
def itemK (t : Wk) : NestedKey := .tup [.text (Str.ofString "fun"), .text (Str.ofString "f"), t.key]
def progK (z : Str) (bd : Option Wk) : NestedKey := .tup [.text z, .tup (bd.toList.map itemK)]
/-- what the works of our programs are -/
structure Wk.In (z : Str) (t : Wk) : Prop where
  good : t.Good
  deep : t.key.depth ≤ 40
  nodes : t.nodes ≤ 60
  size : t.size ≤ 60
  txl : t.txs.length ≤ 1000
  txs : ∀ x ∈ t.txs, x.length ≤ 1000 ∧ txB z x = true
  turns : ∀ ps ∈ t.turns, (∀ p ∈ ps, p.1.length = 1) ∧ (ps.map (·.1)).Nodup ∧ ps.length ≤ 100
structure PrOk (z : Str) (bd : Option Wk) : Prop where
  pos : 1 ≤ z.length
  top : z.length ≤ 5
  nodup : (once (signsOf z)).length = z.length
  qt : QtOk z
  bd : ∀ t, bd = some t → t.In z ∧ t.fns = []
theorem item_ks {t : Wk} (h : t.Good) (hd : t.key.depth ≤ 40) : KS (itemK t) := by
  refine ⟨?_, ?_⟩
  · show (PyData.strOk (Str.ofString "fun") && (PyData.strOk (Str.ofString "f") && ((dK t.key).canLay0 && true))) = true
    rw [fun_ok, f_ok, t.lay h]
    rfl
  · show max 0 (max 0 (max t.key.depth 0)) + 1 ≤ 60
    omega
section
variable {P : Program} {w : World} {K : PySem.W.Frag} {mg : Str → Option Value} {base : Heap}
theorem sc_is_item : FnScope ["value", "most", "word"] ["value", "most"] (defScope (topS 53)) := ⟨rfl, rfl, rfl, by decide +kernel, rfl, by decide +kernel, by decide +kernel⟩
theorem bd_is_item_1 {K : PySem.W.Frag} {f : Addr} {fd : FuncData} (F : FnPD K "is_item" (topS 53) [.non] f fd) : ∃ ds, Vals ([.non] : List V) ds ∧ Binds K fd ["value", "most"] ds := F.binds1 (n := 1) (j := 0) (by decide) (by rfl) fun T kV doc pm an cdv ct us its hu hi => match us, its, hu, hi with | [_], [_], _, _ => ⟨_, rfl, rfl⟩
theorem bd_is_item_2 {K : PySem.W.Frag} {f : Addr} {fd : FuncData} (F : FnPD K "is_item" (topS 53) [.non] f fd) : ∃ ds, Vals ([] : List V) ds ∧ Binds K fd ["value", "most"] ds := F.binds1 (n := 2) (j := 1) (by decide) (by rfl) fun T kV doc pm an cdv ct us its hu hi => match us, its, hu, hi with | [_, _], [_], _, _ => ⟨_, rfl, rfl⟩
def spIi : Sp := fun vs H Q _ => ∃ v t m, vs = [v, m] ∧ (m = .non ∨ m = .int 60) ∧ KeyV H v (itemK t) ∧ t.Good ∧ t.key.depth ≤ 40 ∧ t.nodes ≤ 60 ∧ ∀ H', Same H H' → Q (.bl true) H'
theorem ok_is_item_2 (T : Tx w K mg) : DkD P w K mg base 7 "is_item" ["value", "most"] [] spIi := by
  have D_first_word := ok_first_word (P := P) (w := w) (base := base) T
  have D_is_fun_name := ok_is_fun_name (P := P) (w := w) (base := base) T
  have D_is_work_2 := ok_is_work_2 (P := P) (w := w) (base := base) T
  obtain ⟨fd, F⟩ := T.d_is_item
  obtain ⟨ds, hd, hb⟩ := bd_is_item_2 F
  refine ⟨⟨fd, ds, F.ok sc_is_item (fun vs H Q E h => ?_) (fun cdv A outer s H vs Q E hr h => ?_), hb, hd⟩, F.kp, T.g_is_item⟩
  · obtain ⟨v, t, m, rfl, _⟩ := h
    rfl
  · obtain ⟨v, t, m, rfl, hm, hv, hg, hd, hn, q⟩ := h
    obtain ⟨a, xs, rfl, ha, hx⟩ := tup_view hv
    obtain ⟨x, ys, rfl, hx1, hx2⟩ := cons_view hx
    obtain ⟨y, z, rfl, hx3, hx4⟩ := two_view hx2
    obtain rfl := text_view hx1
    obtain rfl := text_view hx3
    refine ⟨_, PSs.nox (pss_cons (ps_set (i := 2) sc_is_item.nd rfl (.inl rfl) (pe_callR D_first_word (hr.mono (by decide)) takes0 (pa_cons (pv 0) pa_nil)))
      (pss_cons (ps_if (pt_cmpR op_eq (pv 2) pe_str (nomark _)) (pss_one (ps_ret (pe_and (pe_cmpR op_eq (pe_callB call_lenQ (by rfl) T.f_len PySem.boot_len (pa_cons (pv 0) pa_nil)) pe_int (nomark _)) (pe_and pe_dead (pe_one pe_dead))))) pss_nil)
      (pss_cons (ps_if (pt_cmpR op_eq (pv 2) pe_str (nomark _)) (pss_one (ps_ret (pe_and (pe_cmpR op_eq (pe_callB call_lenQ (by rfl) T.f_len PySem.boot_len (pa_cons (pv 0) pa_nil)) pe_int (nomark _)) (pe_and (pe_callR D_is_fun_name (hr.mono (by decide)) takes0 (pa_cons (pe_ix ix_tupQ (pv 0) pe_int (fun _ _ => rfl)) pa_nil)) (pe_one (pe_callD D_is_work_2 (hr.mono (by decide)) (pa_cons (pe_ix ix_tupQ (pv 0) pe_int (fun _ _ => rfl)) (pa_cons (pv 1) pa_nil)))))))) pss_nil)
      (pss_cons (ps_if (PW.pt (pw_or (pt_cmpR op_ne (pv 2) pe_str (nomark _)) (pw_or1 (pt_cmpR op_ne (pe_callB call_lenQ (by rfl) T.f_len PySem.boot_len (pa_cons (pv 0) pa_nil)) pe_int (nomark _))))) (pss_one (ps_ret pe_bl)) pss_nil)
      (pss_one (ps_ret (pe_and (pe_callR D_is_fun_name (hr.mono (by decide)) takes0 (pa_cons (pe_ix ix_tupQ (pv 0) pe_int (fun _ _ => rfl)) pa_nil)) (pe_one pe_dead)))))))), ?_⟩
    simp only [cxOf, tYes, eq_self, if_true, if_false, wipe, rLenQ, rIxTQ, rIxLQ, rIxSQ, rInt1Q, rTupQ, rAppQ, rPopQ, rPopAtQ, rRevQ, rListS, rReprP, tLenSetT, tChain, tRetN, tRet, tSeq, tAsg, gName, tVar, tC, tCons, tNil, tCB, tOp, rI0, rI, tAndV, tOrV, tNotV, tIf, tTest, tB, tNot, tAnd, tOr, tIfS, tNext, tCallR, rIsK, rEq, rNe, tDrop, L2.start, List.map_cons, List.map_nil, List.length_cons, List.length_nil, Nat.reduceAdd, Nat.reduceSub, Nat.sub_self, List.replicate_zero, List.replicate_succ, List.append_nil, List.cons_append, List.nil_append, List.getElem?_cons_zero, List.getElem?_cons_succ, List.set_cons_zero, List.set_cons_succ, Option.some.injEq, List.cons.injEq, and_true, true_and, exists_eq_left, exists_eq_left', exists_eq_right, V.ty.injEq, V.int.injEq, V.bl.injEq, V.str.injEq, V.ref.injEq, exists_and_left, exists_const, reduceIte, reduceCtorEq, false_and, and_false, exists_false, or_false, false_or, Bool.not_true, Bool.not_false, Bool.false_eq_true, String.reduceEq, true_or, or_true, rNotT, tNNew, tNNotIn, tNGet, sNPut, tLenSetN, tPar, tAug, ipI, tDNotIn, sDPut, tDGet, tTup, tLst, tBM, tBM0, tCallD, tCall, rKdIn, tTNew, tTIn, tTGet, sTPut, Sg.tMethR, tMeth, tMakeR, tMake, tDGet2, tSAddK, rSAddK, rSInK, rSet0K, rExtend, rExtendT, tFld, sFld, tRevT, tDIn, tSl, tPart, tNoPart, tDelFrom, StX.tStar, tUn, rU]
    have hk : KS (itemK t) := item_ks hg hd
    have hT : ∀ H', Same H H' → SqT K H' a [.str (Str.ofString "fun"), .str (Str.ofString "f"), z] := fun H' s' => .inl (.inl (s' _ _ ha))
    refine ⟨_, Str.ofString "fun", _, rfl, hv, hk, fun H1 s1 => weq_no (by decide +kernel) (weq_yes rfl ⟨_, .inr (hT _ s1), rfl, ifT rfl ⟨_, hT _ s1, _, rfl, _, rfl, ⟨by decide +kernel, by decide +kernel, by decide +kernel⟩, by decide +kernel, fun H2 s2 => ?_⟩⟩)⟩
    have s3 := Same.trans s1 s2
    rw [f_small]
    exact ⟨true, rfl, ifT rfl ⟨_, hT _ s3, _, rfl, z, t, m, rfl, hm, hx4.tp (TP.of_same s3), hg, by omega, hn, fun H3 s4 => q H3 (Same.trans s3 s4)⟩⟩
theorem sc_is_program : FnScope ["value", "most", "most_items", "signs", "rows", "one"] ["value", "most", "most_items"] (defScope (topS 54)) := ⟨rfl, rfl, rfl, by decide +kernel, rfl, by decide +kernel, by decide +kernel⟩
theorem bd_is_program_1 {K : PySem.W.Frag} {f : Addr} {fd : FuncData} (F : FnPD K "is_program" (topS 54) [.non, .non] f fd) : ∃ ds, Vals ([.non, .non] : List V) ds ∧ Binds K fd ["value", "most", "most_items"] ds := F.binds1 (n := 1) (j := 0) (by decide) (by rfl) fun T kV doc pm an cdv ct us its hu hi => match us, its, hu, hi with | [_], [_, _], _, _ => ⟨_, rfl, rfl⟩
theorem bd_is_program_2 {K : PySem.W.Frag} {f : Addr} {fd : FuncData} (F : FnPD K "is_program" (topS 54) [.non, .non] f fd) : ∃ ds, Vals ([.non] : List V) ds ∧ Binds K fd ["value", "most", "most_items"] ds := F.binds1 (n := 2) (j := 1) (by decide) (by rfl) fun T kV doc pm an cdv ct us its hu hi => match us, its, hu, hi with | [_, _], [_, _], _, _ => ⟨_, rfl, rfl⟩
theorem bd_is_program_3 {K : PySem.W.Frag} {f : Addr} {fd : FuncData} (F : FnPD K "is_program" (topS 54) [.non, .non] f fd) : ∃ ds, Vals ([] : List V) ds ∧ Binds K fd ["value", "most", "most_items"] ds := F.binds1 (n := 3) (j := 2) (by decide) (by rfl) fun T kV doc pm an cdv ct us its hu hi => match us, its, hu, hi with | [_, _, _], [_, _], _, _ => ⟨_, rfl, rfl⟩
theorem mi_ok {K : PySem.W.Frag} {H : Hp} {b : Addr} {rs : List V} {mi : V} {A B : Prop} (hm : mi = .non ∨ mi = .int 24) (hb : SqT K H b rs) (hl : rs.length ≤ 1) (q : B) :
    if (!decide (mi = V.non)) = true then ∃ ys : List V, (SqL K H b ys ∨ SqT K H b ys) ∧ ∃ x : Int, mi = V.int x ∧ if decide (x < (ys.length : Int)) = true then A else B else B := by
  rcases hm with rfl | rfl
  · exact ifF rfl q
  · exact ifT rfl ⟨rs, .inr hb, 24, rfl, ifF (decide_eq_false (by omega)) q⟩
def spPr : Sp := fun vs H Q _ => ∃ v z bd m mi, vs = [v, m, mi] ∧ (m = .non ∨ m = .int 60) ∧ (mi = .non ∨ mi = .int 24) ∧ KeyV H v (progK z bd) ∧ PrOk z bd ∧ ∀ H', Same H H' → Q (.bl true) H'
theorem ok_is_program_3 (T : Tx w K mg) : DkD P w K mg base 8 "is_program" ["value", "most", "most_items"] [] spPr := by
  have D_is_item_2 := ok_is_item_2 (P := P) (w := w) (base := base) T
  have D_is_quotable := ok_is_quotable (P := P) (w := w) (base := base) T
  obtain ⟨fd, F⟩ := T.d_is_program
  obtain ⟨ds, hd, hb⟩ := bd_is_program_3 F
  refine ⟨⟨fd, ds, F.ok sc_is_program (fun vs H Q E h => ?_) (fun cdv A outer s H vs Q E hr h => ?_), hb, hd⟩, F.kp, T.g_is_program⟩
  · obtain ⟨v, z, bd, m, mi, rfl, _⟩ := h
    rfl
  · obtain ⟨v, z, bd, m, mi, rfl, hm, hmi, hv, hz, q⟩ := h
    obtain ⟨a, xs, rfl, ha, hx⟩ := tup_view hv
    obtain ⟨x, y, rfl, hx1, hx2⟩ := two_view hx
    obtain rfl := text_view hx1
    obtain ⟨b, rs, rfl, hb, hrs⟩ := tup_view hx2
    refine ⟨_, PSs.nox (pss_cons (ps_if (PW.pt (pw_or (pt_not (pt_val (pe_callB call_isK (by rfl) T.f_isinstance PyProof.Rows.boot_isinstance (pa_cons (pv 0) (pa_cons (pe_bltn (v := .ty "tuple") (by rfl) T.f_tuple PyProof.Rows.boot_tuple rfl) pa_nil))))) (pw_or1 (pt_cmpR op_ne (pe_callB call_lenQ (by rfl) T.f_len PySem.boot_len (pa_cons (pv 0) pa_nil)) pe_int (nomark _))))) (pss_one (ps_ret pe_bl)) pss_nil)
      (pss_cons (ps_asg (pv 0) (pg_tup (by rfl) (pgs_cons (pg_name (i := 3) sc_is_program.nd rfl (.inl rfl)) (pgs_cons (pg_name (i := 4) sc_is_program.nd rfl (.inl rfl)) pgs_nil))))
      (pss_cons (ps_if (PW.pt (pw_or (pt_not (pt_val (pe_callR D_is_quotable (hr.mono (by decide)) takes0 (pa_cons (pv 3) pa_nil)))) (pw_or1 (pt_not (pt_val (pe_callB call_isK (by rfl) T.f_isinstance PyProof.Rows.boot_isinstance (pa_cons (pv 4) (pa_cons (pe_bltn (v := .ty "tuple") (by rfl) T.f_tuple PyProof.Rows.boot_tuple rfl) pa_nil)))))))) (pss_one (ps_ret pe_bl)) pss_nil)
      (pss_cons (ps_if (PW.pt (pw_and (pt_cmpR op_notN (pv 2) pe_non (nomark _)) (pw_and1 (pt_cmpR op_gt (pe_callB call_lenQ (by rfl) T.f_len PySem.boot_len (pa_cons (pv 4) pa_nil)) (pv 2) (nomark _))))) (pss_one (ps_ret pe_bl)) pss_nil)
      (pss_one (ps_ret (pe_callB (cr_all rfl) (by rfl) T.f_all (by decide +kernel) (pa_cons (pe_lc (own := [("one", 5)]) rfl sc_is_program.nd (pi_tup (pv 4)) (blkOk_by (own := [("one", 5)]) (N := ["value", "most", "most_items", "signs", "rows", "one"]) (sc := defScope (topS 54)) (by decide +kernel)) (fun _ _ _ _ _ => (pg_name (i := 5) sc_is_program.nd rfl (.inl rfl))) (fun _ _ _ _ _ => pts_nil) (fun _ _ _ _ _ => (pe_callD D_is_item_2 (hr.mono (by decide)) (pa_cons (pv 5) (pa_cons (pv 1) pa_nil))))) pa_nil)))))))), ?_⟩
    simp only [cxOf, tYes, eq_self, if_true, if_false, wipe, rLenQ, rIxTQ, rIxLQ, rIxSQ, rInt1Q, rTupQ, rAppQ, rPopQ, rPopAtQ, rRevQ, rListS, rReprP, tLenSetT, tChain, tRetN, tRet, tSeq, tAsg, gName, tVar, tC, tCons, tNil, tCB, tOp, rI0, rI, tAndV, tOrV, tNotV, tIf, tTest, tB, tNot, tAnd, tOr, tIfS, tNext, tCallR, rIsK, rEq, rNe, tDrop, L2.start, List.map_cons, List.map_nil, List.length_cons, List.length_nil, Nat.reduceAdd, Nat.reduceSub, Nat.sub_self, List.replicate_zero, List.replicate_succ, List.append_nil, List.cons_append, List.nil_append, List.getElem?_cons_zero, List.getElem?_cons_succ, List.set_cons_zero, List.set_cons_succ, Option.some.injEq, List.cons.injEq, and_true, true_and, exists_eq_left, exists_eq_left', exists_eq_right, V.ty.injEq, V.int.injEq, V.bl.injEq, V.str.injEq, V.ref.injEq, exists_and_left, exists_const, reduceIte, reduceCtorEq, false_and, and_false, exists_false, or_false, false_or, Bool.not_true, Bool.not_false, Bool.false_eq_true, String.reduceEq, true_or, or_true, rNotT, tNNew, tNNotIn, tNGet, sNPut, tLenSetN, tPar, tAug, ipI, tDNotIn, sDPut, tDGet, tTup, tLst, tBM, tBM0, tCallD, tCall, rKdIn, tTNew, tTIn, tTGet, sTPut, Sg.tMethR, tMeth, tMakeR, tMake, tDGet2, tSAddK, rSAddK, rSInK, rSet0K, rExtend, rExtendT, tFld, sFld, tRevT, tDIn, tSl, tPart, tNoPart, tDelFrom, StX.tStar, tUn, rU]
    have hT : SqT K H a [.str z, .ref b] := .inl (.inl ha)
    refine ⟨.tup hT, ifF rfl ⟨_, .inr hT, rfl, ifF rfl ⟨_, _, rfl, hT, rfl, _, _, rfl, _, _, rfl, rfl, ?_⟩⟩⟩
    simp only [cxOf, tYes, eq_self, if_true, if_false, wipe, rLenQ, rIxTQ, rIxLQ, rIxSQ, rInt1Q, rTupQ, rAppQ, rPopQ, rPopAtQ, rRevQ, rListS, rReprP, tLenSetT, tChain, tRetN, tRet, tSeq, tAsg, gName, tVar, tC, tCons, tNil, tCB, tOp, rI0, rI, tAndV, tOrV, tNotV, tIf, tTest, tB, tNot, tAnd, tOr, tIfS, tNext, tCallR, rIsK, rEq, rNe, tDrop, L2.start, List.map_cons, List.map_nil, List.length_cons, List.length_nil, Nat.reduceAdd, Nat.reduceSub, Nat.sub_self, List.replicate_zero, List.replicate_succ, List.append_nil, List.cons_append, List.nil_append, List.getElem?_cons_zero, List.getElem?_cons_succ, List.set_cons_zero, List.set_cons_succ, Option.some.injEq, List.cons.injEq, and_true, true_and, exists_eq_left, exists_eq_left', exists_eq_right, V.ty.injEq, V.int.injEq, V.bl.injEq, V.str.injEq, V.ref.injEq, exists_and_left, exists_const, reduceIte, reduceCtorEq, false_and, and_false, exists_false, or_false, false_or, Bool.not_true, Bool.not_false, Bool.false_eq_true, String.reduceEq, true_or, or_true, rNotT, tNNew, tNNotIn, tNGet, sNPut, tLenSetN, tPar, tAug, ipI, tDNotIn, sDPut, tDGet, tTup, tLst, tBM, tBM0, tCallD, tCall, rKdIn, tTNew, tTIn, tTGet, sTPut, Sg.tMethR, tMeth, tMakeR, tMake, tDGet2, tSAddK, rSAddK, rSInK, rSet0K, rExtend, rExtendT, tFld, sFld, tRevT, tDIn, tSl, tPart, tNoPart, tDelFrom, StX.tStar, tUn, rU]
    refine ⟨z, rfl, hz.qt, Nat.le_trans hz.top (by decide), fun H1 s1 => ⟨true, rfl, ?_⟩⟩
    have hrs : KeyVs H rs (bd.toList.map itemK) := by
      obtain ⟨b', rs', e1, e2, e3⟩ := tup_view hx2
      cases e1
      rw [hb] at e2
      cases e2
      exact e3
    have hB : ∀ H', Same H H' → SqT K H' b rs := fun H' s' => .inl (.inl (s' _ _ hb))
    have hrl : rs.length ≤ 1 := by
      rw [hrs.len, List.length_map]
      cases bd <;> simp
    refine ifF rfl ⟨.tup (hB _ s1), ifF rfl ?_⟩
    refine mi_ok hmi (hB _ s1) hrl ⟨_, rfl, b, rfl, ⟨_, hB _ s1⟩, fun D hD => ?_⟩
    refine lc_gen (n := rs.length) (fun i H' => Same H1 H' ∧ H' D = some (.lst (List.replicate i (V.bl true)))) ⟨same_upd hD, upd_same⟩ (fun i H' hi e => ⟨_, _, hB _ (Same.trans s1 e.1), List.getElem?_eq_getElem hi⟩) (fun H' e => ⟨_, hB _ (Same.trans s1 e.1), Nat.le_refl _⟩) ?_ ?_
    · rintro i x H2 H3 hi ⟨s2, h2⟩ ⟨rfl, hx2⟩
      have s3 := Same.trans s1 s2
      have hx2 := hx2 _ (hB _ s3)
      obtain ⟨k, hk, hkv⟩ := hrs.get hx2
      rw [List.getElem?_map] at hk
      obtain ⟨t, ht, rfl⟩ := Option.map_eq_some_iff.mp hk
      have ht2 : bd = some t := by simpa using List.mem_of_getElem? ht
      obtain ⟨ti, _⟩ := hz.bd t ht2
      refine ⟨rfl, ?_⟩
      simp only [cxOf, tYes, eq_self, if_true, if_false, wipe, rLenQ, rIxTQ, rIxLQ, rIxSQ, rInt1Q, rTupQ, rAppQ, rPopQ, rPopAtQ, rRevQ, rListS, rReprP, tLenSetT, tChain, tRetN, tRet, tSeq, tAsg, gName, tVar, tC, tCons, tNil, tCB, tOp, rI0, rI, tAndV, tOrV, tNotV, tIf, tTest, tB, tNot, tAnd, tOr, tIfS, tNext, tCallR, rIsK, rEq, rNe, tDrop, L2.start, List.map_cons, List.map_nil, List.length_cons, List.length_nil, Nat.reduceAdd, Nat.reduceSub, Nat.sub_self, List.replicate_zero, List.replicate_succ, List.append_nil, List.cons_append, List.nil_append, List.getElem?_cons_zero, List.getElem?_cons_succ, List.set_cons_zero, List.set_cons_succ, Option.some.injEq, List.cons.injEq, and_true, true_and, exists_eq_left, exists_eq_left', exists_eq_right, V.ty.injEq, V.int.injEq, V.bl.injEq, V.str.injEq, V.ref.injEq, exists_and_left, exists_const, reduceIte, reduceCtorEq, false_and, and_false, exists_false, or_false, false_or, Bool.not_true, Bool.not_false, Bool.false_eq_true, String.reduceEq, true_or, or_true, rNotT, tNNew, tNNotIn, tNGet, sNPut, tLenSetN, tPar, tAug, ipI, tDNotIn, sDPut, tDGet, tTup, tLst, tBM, tBM0, tCallD, tCall, rKdIn, tTNew, tTIn, tTGet, sTPut, Sg.tMethR, tMeth, tMakeR, tMake, tDGet2, tSAddK, rSAddK, rSInK, rSet0K, rExtend, rExtendT, tFld, sFld, tRevT, tDIn, tSl, tPart, tNoPart, tDelFrom, StX.tStar, tUn, rU]
      refine ⟨x, t, m, rfl, hm, hkv.tp (TP.of_same s3), ti.good, ti.deep, ti.nodes, fun H4 s4 => ⟨_, s4 _ _ h2, ?_, snoc_same hD (Same.trans s2 s4), ?_⟩⟩
      · rw [List.length_replicate]
        exact szlt (m := 2) (by omega)
      · rw [upd_same, ← List.replicate_succ, List.replicate_succ']
    · rintro H2 ⟨s2, h2⟩
      refine ⟨D, List.replicate rs.length true, rfl, .inl (.inl (by rw [h2, List.map_replicate])), ?_⟩
      have e : (List.replicate rs.length true).all id = true := List.all_eq_true.mpr fun x hx => by rw [(List.mem_replicate.mp hx).2]; rfl
      rw [e]
      exact q H2 (Same.trans s1 s2)
theorem ok_is_program_1 (T : Tx w K mg) : DkD P w K mg base 8 "is_program" ["value", "most", "most_items"] [.non, .non] spPr := by
  have D_is_item_2 := ok_is_item_2 (P := P) (w := w) (base := base) T
  have D_is_quotable := ok_is_quotable (P := P) (w := w) (base := base) T
  obtain ⟨fd, F⟩ := T.d_is_program
  obtain ⟨ds, hd, hb⟩ := bd_is_program_1 F
  refine ⟨⟨fd, ds, F.ok sc_is_program (fun vs H Q E h => ?_) (fun cdv A outer s H vs Q E hr h => ?_), hb, hd⟩, F.kp, T.g_is_program⟩
  · obtain ⟨v, z, bd, m, mi, rfl, _⟩ := h
    rfl
  · obtain ⟨v, z, bd, m, mi, rfl, hm, hmi, hv, hz, q⟩ := h
    obtain ⟨a, xs, rfl, ha, hx⟩ := tup_view hv
    obtain ⟨x, y, rfl, hx1, hx2⟩ := two_view hx
    obtain rfl := text_view hx1
    obtain ⟨b, rs, rfl, hb, hrs⟩ := tup_view hx2
    refine ⟨_, PSs.nox (pss_cons (ps_if (PW.pt (pw_or (pt_not (pt_val (pe_callB call_isK (by rfl) T.f_isinstance PyProof.Rows.boot_isinstance (pa_cons (pv 0) (pa_cons (pe_bltn (v := .ty "tuple") (by rfl) T.f_tuple PyProof.Rows.boot_tuple rfl) pa_nil))))) (pw_or1 (pt_cmpR op_ne (pe_callB call_lenQ (by rfl) T.f_len PySem.boot_len (pa_cons (pv 0) pa_nil)) pe_int (nomark _))))) (pss_one (ps_ret pe_bl)) pss_nil)
      (pss_cons (ps_asg (pv 0) (pg_tup (by rfl) (pgs_cons (pg_name (i := 3) sc_is_program.nd rfl (.inl rfl)) (pgs_cons (pg_name (i := 4) sc_is_program.nd rfl (.inl rfl)) pgs_nil))))
      (pss_cons (ps_if (PW.pt (pw_or (pt_not (pt_val (pe_callR D_is_quotable (hr.mono (by decide)) takes0 (pa_cons (pv 3) pa_nil)))) (pw_or1 (pt_not (pt_val (pe_callB call_isK (by rfl) T.f_isinstance PyProof.Rows.boot_isinstance (pa_cons (pv 4) (pa_cons (pe_bltn (v := .ty "tuple") (by rfl) T.f_tuple PyProof.Rows.boot_tuple rfl) pa_nil)))))))) (pss_one (ps_ret pe_bl)) pss_nil)
      (pss_cons (ps_if (PW.pt (pw_and (pt_cmpR op_notN (pv 2) pe_non (nomark _)) (pw_and1 (pt_cmpR op_gt (pe_callB call_lenQ (by rfl) T.f_len PySem.boot_len (pa_cons (pv 4) pa_nil)) (pv 2) (nomark _))))) (pss_one (ps_ret pe_bl)) pss_nil)
      (pss_one (ps_ret (pe_callB (cr_all rfl) (by rfl) T.f_all (by decide +kernel) (pa_cons (pe_lc (own := [("one", 5)]) rfl sc_is_program.nd (pi_tup (pv 4)) (blkOk_by (own := [("one", 5)]) (N := ["value", "most", "most_items", "signs", "rows", "one"]) (sc := defScope (topS 54)) (by decide +kernel)) (fun _ _ _ _ _ => (pg_name (i := 5) sc_is_program.nd rfl (.inl rfl))) (fun _ _ _ _ _ => pts_nil) (fun _ _ _ _ _ => (pe_callD D_is_item_2 (hr.mono (by decide)) (pa_cons (pv 5) (pa_cons (pv 1) pa_nil))))) pa_nil)))))))), ?_⟩
    simp only [cxOf, tYes, eq_self, if_true, if_false, wipe, rLenQ, rIxTQ, rIxLQ, rIxSQ, rInt1Q, rTupQ, rAppQ, rPopQ, rPopAtQ, rRevQ, rListS, rReprP, tLenSetT, tChain, tRetN, tRet, tSeq, tAsg, gName, tVar, tC, tCons, tNil, tCB, tOp, rI0, rI, tAndV, tOrV, tNotV, tIf, tTest, tB, tNot, tAnd, tOr, tIfS, tNext, tCallR, rIsK, rEq, rNe, tDrop, L2.start, List.map_cons, List.map_nil, List.length_cons, List.length_nil, Nat.reduceAdd, Nat.reduceSub, Nat.sub_self, List.replicate_zero, List.replicate_succ, List.append_nil, List.cons_append, List.nil_append, List.getElem?_cons_zero, List.getElem?_cons_succ, List.set_cons_zero, List.set_cons_succ, Option.some.injEq, List.cons.injEq, and_true, true_and, exists_eq_left, exists_eq_left', exists_eq_right, V.ty.injEq, V.int.injEq, V.bl.injEq, V.str.injEq, V.ref.injEq, exists_and_left, exists_const, reduceIte, reduceCtorEq, false_and, and_false, exists_false, or_false, false_or, Bool.not_true, Bool.not_false, Bool.false_eq_true, String.reduceEq, true_or, or_true, rNotT, tNNew, tNNotIn, tNGet, sNPut, tLenSetN, tPar, tAug, ipI, tDNotIn, sDPut, tDGet, tTup, tLst, tBM, tBM0, tCallD, tCall, rKdIn, tTNew, tTIn, tTGet, sTPut, Sg.tMethR, tMeth, tMakeR, tMake, tDGet2, tSAddK, rSAddK, rSInK, rSet0K, rExtend, rExtendT, tFld, sFld, tRevT, tDIn, tSl, tPart, tNoPart, tDelFrom, StX.tStar, tUn, rU]
    have hT : SqT K H a [.str z, .ref b] := .inl (.inl ha)
    refine ⟨.tup hT, ifF rfl ⟨_, .inr hT, rfl, ifF rfl ⟨_, _, rfl, hT, rfl, _, _, rfl, _, _, rfl, rfl, ?_⟩⟩⟩
    simp only [cxOf, tYes, eq_self, if_true, if_false, wipe, rLenQ, rIxTQ, rIxLQ, rIxSQ, rInt1Q, rTupQ, rAppQ, rPopQ, rPopAtQ, rRevQ, rListS, rReprP, tLenSetT, tChain, tRetN, tRet, tSeq, tAsg, gName, tVar, tC, tCons, tNil, tCB, tOp, rI0, rI, tAndV, tOrV, tNotV, tIf, tTest, tB, tNot, tAnd, tOr, tIfS, tNext, tCallR, rIsK, rEq, rNe, tDrop, L2.start, List.map_cons, List.map_nil, List.length_cons, List.length_nil, Nat.reduceAdd, Nat.reduceSub, Nat.sub_self, List.replicate_zero, List.replicate_succ, List.append_nil, List.cons_append, List.nil_append, List.getElem?_cons_zero, List.getElem?_cons_succ, List.set_cons_zero, List.set_cons_succ, Option.some.injEq, List.cons.injEq, and_true, true_and, exists_eq_left, exists_eq_left', exists_eq_right, V.ty.injEq, V.int.injEq, V.bl.injEq, V.str.injEq, V.ref.injEq, exists_and_left, exists_const, reduceIte, reduceCtorEq, false_and, and_false, exists_false, or_false, false_or, Bool.not_true, Bool.not_false, Bool.false_eq_true, String.reduceEq, true_or, or_true, rNotT, tNNew, tNNotIn, tNGet, sNPut, tLenSetN, tPar, tAug, ipI, tDNotIn, sDPut, tDGet, tTup, tLst, tBM, tBM0, tCallD, tCall, rKdIn, tTNew, tTIn, tTGet, sTPut, Sg.tMethR, tMeth, tMakeR, tMake, tDGet2, tSAddK, rSAddK, rSInK, rSet0K, rExtend, rExtendT, tFld, sFld, tRevT, tDIn, tSl, tPart, tNoPart, tDelFrom, StX.tStar, tUn, rU]
    refine ⟨z, rfl, hz.qt, Nat.le_trans hz.top (by decide), fun H1 s1 => ⟨true, rfl, ?_⟩⟩
    have hrs : KeyVs H rs (bd.toList.map itemK) := by
      obtain ⟨b', rs', e1, e2, e3⟩ := tup_view hx2
      cases e1
      rw [hb] at e2
      cases e2
      exact e3
    have hB : ∀ H', Same H H' → SqT K H' b rs := fun H' s' => .inl (.inl (s' _ _ hb))
    have hrl : rs.length ≤ 1 := by
      rw [hrs.len, List.length_map]
      cases bd <;> simp
    refine ifF rfl ⟨.tup (hB _ s1), ifF rfl ?_⟩
    refine mi_ok hmi (hB _ s1) hrl ⟨_, rfl, b, rfl, ⟨_, hB _ s1⟩, fun D hD => ?_⟩
    refine lc_gen (n := rs.length) (fun i H' => Same H1 H' ∧ H' D = some (.lst (List.replicate i (V.bl true)))) ⟨same_upd hD, upd_same⟩ (fun i H' hi e => ⟨_, _, hB _ (Same.trans s1 e.1), List.getElem?_eq_getElem hi⟩) (fun H' e => ⟨_, hB _ (Same.trans s1 e.1), Nat.le_refl _⟩) ?_ ?_
    · rintro i x H2 H3 hi ⟨s2, h2⟩ ⟨rfl, hx2⟩
      have s3 := Same.trans s1 s2
      have hx2 := hx2 _ (hB _ s3)
      obtain ⟨k, hk, hkv⟩ := hrs.get hx2
      rw [List.getElem?_map] at hk
      obtain ⟨t, ht, rfl⟩ := Option.map_eq_some_iff.mp hk
      have ht2 : bd = some t := by simpa using List.mem_of_getElem? ht
      obtain ⟨ti, _⟩ := hz.bd t ht2
      refine ⟨rfl, ?_⟩
      simp only [cxOf, tYes, eq_self, if_true, if_false, wipe, rLenQ, rIxTQ, rIxLQ, rIxSQ, rInt1Q, rTupQ, rAppQ, rPopQ, rPopAtQ, rRevQ, rListS, rReprP, tLenSetT, tChain, tRetN, tRet, tSeq, tAsg, gName, tVar, tC, tCons, tNil, tCB, tOp, rI0, rI, tAndV, tOrV, tNotV, tIf, tTest, tB, tNot, tAnd, tOr, tIfS, tNext, tCallR, rIsK, rEq, rNe, tDrop, L2.start, List.map_cons, List.map_nil, List.length_cons, List.length_nil, Nat.reduceAdd, Nat.reduceSub, Nat.sub_self, List.replicate_zero, List.replicate_succ, List.append_nil, List.cons_append, List.nil_append, List.getElem?_cons_zero, List.getElem?_cons_succ, List.set_cons_zero, List.set_cons_succ, Option.some.injEq, List.cons.injEq, and_true, true_and, exists_eq_left, exists_eq_left', exists_eq_right, V.ty.injEq, V.int.injEq, V.bl.injEq, V.str.injEq, V.ref.injEq, exists_and_left, exists_const, reduceIte, reduceCtorEq, false_and, and_false, exists_false, or_false, false_or, Bool.not_true, Bool.not_false, Bool.false_eq_true, String.reduceEq, true_or, or_true, rNotT, tNNew, tNNotIn, tNGet, sNPut, tLenSetN, tPar, tAug, ipI, tDNotIn, sDPut, tDGet, tTup, tLst, tBM, tBM0, tCallD, tCall, rKdIn, tTNew, tTIn, tTGet, sTPut, Sg.tMethR, tMeth, tMakeR, tMake, tDGet2, tSAddK, rSAddK, rSInK, rSet0K, rExtend, rExtendT, tFld, sFld, tRevT, tDIn, tSl, tPart, tNoPart, tDelFrom, StX.tStar, tUn, rU]
      refine ⟨x, t, m, rfl, hm, hkv.tp (TP.of_same s3), ti.good, ti.deep, ti.nodes, fun H4 s4 => ⟨_, s4 _ _ h2, ?_, snoc_same hD (Same.trans s2 s4), ?_⟩⟩
      · rw [List.length_replicate]
        exact szlt (m := 2) (by omega)
      · rw [upd_same, ← List.replicate_succ, List.replicate_succ']
    · rintro H2 ⟨s2, h2⟩
      refine ⟨D, List.replicate rs.length true, rfl, .inl (.inl (by rw [h2, List.map_replicate])), ?_⟩
      have e : (List.replicate rs.length true).all id = true := List.all_eq_true.mpr fun x hx => by rw [(List.mem_replicate.mp hx).2]; rfl
      rw [e]
      exact q H2 (Same.trans s1 s2)
theorem upd_id {H : Hp} {a : Addr} {o : HO} (h : H a = some o) : upd H a o = H := by
  funext b
  by_cases e : b = a
  · rw [e, upd_same, h]
  · rw [upd_ne e]
theorem sc_are_signs : FnScope ["signs"] ["signs"] (defScope (topS 59)) := ⟨rfl, rfl, rfl, by decide +kernel, rfl, by decide +kernel, by decide +kernel⟩
theorem bd_are_signs {K : PySem.W.Frag} {f : Addr} {fd : FuncData} (F : FnP K "are_signs" (topS 59) f fd) : Binds K fd ["signs"] [] := F.bindsN fun _ _ _ _ _ _ us hl => match us, hl with | [_], _ => rfl
def spSg : Sp := fun vs H Q _ => ∃ z, vs = [.str z] ∧ 1 ≤ z.length ∧ z.length ≤ 5 ∧ (once (signsOf z)).length = z.length ∧ Q (.bl true) H
theorem ok_are_signs (T : Tx w K mg) : Dk P w K mg base 1 "are_signs" ["signs"] spSg := by
  obtain ⟨fd, F⟩ := T.d_are_signs
  refine ⟨⟨fd, F.ok sc_are_signs (fun vs H Q E h => ?_) (fun cdv A outer s H vs Q E hr h => ?_), bd_are_signs F⟩, F.kp, T.g_are_signs⟩
  · obtain ⟨z, rfl, _⟩ := h
    rfl
  · obtain ⟨z, rfl, h1, h5, hn, q⟩ := h
    obtain ⟨_, c_MOST_SIGNS⟩ := T.c_MOST_SIGNS
    refine ⟨_, PSs.nox (pss_one (ps_ret (pe_and (pe_chain op_le op_le pe_int (pe_callB call_lenQ (by rfl) T.f_len PySem.boot_len (pa_cons (pv 0) pa_nil)) (pe_glob (v := .int 5) (by rfl) c_MOST_SIGNS ⟨_, rfl⟩)) (pe_one (pe_cmpR op_eq (pe_lenSetT (by rfl) T.f_len (by rfl) T.f_set (pv 0) rfl) (pe_callB call_lenQ (by rfl) T.f_len PySem.boot_len (pa_cons (pv 0) pa_nil)) (nomark _)))))), ?_⟩
    simp only [cxOf, tYes, eq_self, if_true, if_false, wipe, rLenQ, rIxTQ, rIxLQ, rIxSQ, rInt1Q, rTupQ, rAppQ, rPopQ, rPopAtQ, rRevQ, rListS, rReprP, tLenSetT, tChain, tRetN, tRet, tSeq, tAsg, gName, tVar, tC, tCons, tNil, tCB, tOp, rI0, rI, tAndV, tOrV, tNotV, tIf, tTest, tB, tNot, tAnd, tOr, tIfS, tNext, tCallR, rIsK, rEq, rNe, tDrop, L2.start, List.map_cons, List.map_nil, List.length_cons, List.length_nil, Nat.reduceAdd, Nat.reduceSub, Nat.sub_self, List.replicate_zero, List.replicate_succ, List.append_nil, List.cons_append, List.nil_append, List.getElem?_cons_zero, List.getElem?_cons_succ, List.set_cons_zero, List.set_cons_succ, Option.some.injEq, List.cons.injEq, and_true, true_and, exists_eq_left, exists_eq_left', exists_eq_right, V.ty.injEq, V.int.injEq, V.bl.injEq, V.str.injEq, V.ref.injEq, exists_and_left, exists_const, reduceIte, reduceCtorEq, false_and, and_false, exists_false, or_false, false_or, Bool.not_true, Bool.not_false, Bool.false_eq_true, String.reduceEq, true_or, or_true, rNotT, tNNew, tNNotIn, tNGet, sNPut, tLenSetN, tPar, tAug, ipI, tDNotIn, sDPut, tDGet, tTup, tLst, tBM, tBM0, tCallD, tCall, rKdIn, tTNew, tTIn, tTGet, sTPut, Sg.tMethR, tMeth, tMakeR, tMake, tDGet2, tSAddK, rSAddK, rSInK, rSet0K, rExtend, rExtendT, tFld, sFld, tRevT, tDIn, tSl, tPart, tNoPart, tDelFrom, StX.tStar, tUn, rU]
    refine ⟨szle (m := 5) h5, ifT (decide_eq_true (by omega)) (ifT (decide_eq_true (by omega)) ⟨by omega, szle (m := 5) h5, rfl, ?_⟩)⟩
    rw [hn, decide_eq_true rfl]
    exact q
theorem sc_text_mistakes : FnScope ["signs", "texts", "text"] ["signs", "texts"] (defScope (topS 61)) := ⟨rfl, rfl, rfl, by decide +kernel, rfl, by decide +kernel, by decide +kernel⟩
theorem bd_text_mistakes {K : PySem.W.Frag} {f : Addr} {fd : FuncData} (F : FnP K "text_mistakes" (topS 61) f fd) : Binds K fd ["signs", "texts"] [] := F.bindsN fun _ _ _ _ _ _ us hl => match us, hl with | [_, _], _ => rfl
def spTm : Sp := fun vs H Q _ => ∃ (z : Str) (a : Addr) (xs : List Str), vs = [.str z, .ref a] ∧ H a = some (.lst (xs.map V.str)) ∧ (∀ x ∈ xs, x.length ≤ 1000 ∧ txB z x = true) ∧ ∀ l H', H l = none → Same H H' → H' l = some (.lst []) → Q (.ref l) H'
theorem ok_text_mistakes (T : Tx w K mg) : Dk P w K mg base 2 "text_mistakes" ["signs", "texts"] spTm := by
  have D_is_text_of := ok_is_text_of (P := P) (w := w) (base := base) T
  obtain ⟨fd, F⟩ := T.d_text_mistakes
  refine ⟨⟨fd, F.ok sc_text_mistakes (fun vs H Q E h => ?_) (fun cdv A outer s H vs Q E hr h => ?_), bd_text_mistakes F⟩, F.kp, T.g_text_mistakes⟩
  · obtain ⟨z, a, xs, rfl, _⟩ := h
    rfl
  · obtain ⟨z, a, xs, rfl, ha, hx, q⟩ := h
    refine ⟨_, PSs.nox (pss_one (ps_ret (pe_lc (own := [("text", 2)]) rfl sc_text_mistakes.nd (pi_list (pv 1)) (blkOk_by (own := [("text", 2)]) (N := ["signs", "texts", "text"]) (sc := defScope (topS 61)) (by decide +kernel)) (fun _ _ _ _ _ => (pg_name (i := 2) sc_text_mistakes.nd rfl (.inl rfl))) (fun _ _ _ _ _ => (pts_one (pt_not (pt_val (pe_callR D_is_text_of (hr.mono (by decide)) takes0 (pa_cons (pv 0) (pa_cons (pv 2) pa_nil))))))) (fun _ _ _ _ _ => (pe_tup (pa_cons pe_str (pa_cons (pv 2) pa_nil))))))), ?_⟩
    simp only [cxOf, tYes, eq_self, if_true, if_false, wipe, rLenQ, rIxTQ, rIxLQ, rIxSQ, rInt1Q, rTupQ, rAppQ, rPopQ, rPopAtQ, rRevQ, rListS, rReprP, tLenSetT, tChain, tRetN, tRet, tSeq, tAsg, gName, tVar, tC, tCons, tNil, tCB, tOp, rI0, rI, tAndV, tOrV, tNotV, tIf, tTest, tB, tNot, tAnd, tOr, tIfS, tNext, tCallR, rIsK, rEq, rNe, tDrop, L2.start, List.map_cons, List.map_nil, List.length_cons, List.length_nil, Nat.reduceAdd, Nat.reduceSub, Nat.sub_self, List.replicate_zero, List.replicate_succ, List.append_nil, List.cons_append, List.nil_append, List.getElem?_cons_zero, List.getElem?_cons_succ, List.set_cons_zero, List.set_cons_succ, Option.some.injEq, List.cons.injEq, and_true, true_and, exists_eq_left, exists_eq_left', exists_eq_right, V.ty.injEq, V.int.injEq, V.bl.injEq, V.str.injEq, V.ref.injEq, exists_and_left, exists_const, reduceIte, reduceCtorEq, false_and, and_false, exists_false, or_false, false_or, Bool.not_true, Bool.not_false, Bool.false_eq_true, String.reduceEq, true_or, or_true, rNotT, tNNew, tNNotIn, tNGet, sNPut, tLenSetN, tPar, tAug, ipI, tDNotIn, sDPut, tDGet, tTup, tLst, tBM, tBM0, tCallD, tCall, rKdIn, tTNew, tTIn, tTGet, sTPut, Sg.tMethR, tMeth, tMakeR, tMake, tDGet2, tSAddK, rSAddK, rSInK, rSet0K, rExtend, rExtendT, tFld, sFld, tRevT, tDIn, tSl, tPart, tNoPart, tDelFrom, StX.tStar, tUn, rU]
    refine ⟨_, rfl, a, rfl, ⟨_, .inl (.inl ha)⟩, fun D hD => ?_⟩
    refine lc_gen (n := xs.length) (fun i H' => Same H H' ∧ H' D = some (.lst [])) ⟨same_upd hD, upd_same⟩ (fun i H' hi e => ⟨_, _, .inl (.inl (e.1 _ _ ha)), List.getElem?_eq_getElem (by rw [List.length_map]; exact hi)⟩) (fun H' e => ⟨_, .inl (.inl (e.1 _ _ ha)), by rw [List.length_map]; exact Nat.le_refl _⟩) ?_ ?_
    · rintro i x H2 H3 hi ⟨s2, h2⟩ ⟨rfl, hx2⟩
      have hx2 := hx2 _ (.inl (.inl (s2 _ _ ha)))
      rw [List.getElem?_map] at hx2
      obtain ⟨y, hy, rfl⟩ := Option.map_eq_some_iff.mp hx2
      obtain ⟨l1, l2⟩ := hx y (List.mem_of_getElem? hy)
      refine ⟨rfl, ?_⟩
      simp only [cxOf, tYes, eq_self, if_true, if_false, wipe, rLenQ, rIxTQ, rIxLQ, rIxSQ, rInt1Q, rTupQ, rAppQ, rPopQ, rPopAtQ, rRevQ, rListS, rReprP, tLenSetT, tChain, tRetN, tRet, tSeq, tAsg, gName, tVar, tC, tCons, tNil, tCB, tOp, rI0, rI, tAndV, tOrV, tNotV, tIf, tTest, tB, tNot, tAnd, tOr, tIfS, tNext, tCallR, rIsK, rEq, rNe, tDrop, L2.start, List.map_cons, List.map_nil, List.length_cons, List.length_nil, Nat.reduceAdd, Nat.reduceSub, Nat.sub_self, List.replicate_zero, List.replicate_succ, List.append_nil, List.cons_append, List.nil_append, List.getElem?_cons_zero, List.getElem?_cons_succ, List.set_cons_zero, List.set_cons_succ, Option.some.injEq, List.cons.injEq, and_true, true_and, exists_eq_left, exists_eq_left', exists_eq_right, V.ty.injEq, V.int.injEq, V.bl.injEq, V.str.injEq, V.ref.injEq, exists_and_left, exists_const, reduceIte, reduceCtorEq, false_and, and_false, exists_false, or_false, false_or, Bool.not_true, Bool.not_false, Bool.false_eq_true, String.reduceEq, true_or, or_true, rNotT, tNNew, tNNotIn, tNGet, sNPut, tLenSetN, tPar, tAug, ipI, tDNotIn, sDPut, tDGet, tTup, tLst, tBM, tBM0, tCallD, tCall, rKdIn, tTNew, tTIn, tTGet, sTPut, Sg.tMethR, tMeth, tMakeR, tMake, tDGet2, tSAddK, rSAddK, rSInK, rSet0K, rExtend, rExtendT, tFld, sFld, tRevT, tDIn, tSl, tPart, tNoPart, tDelFrom, StX.tStar, tUn, rU]
      refine ⟨z, .str y, rfl, .inl ⟨y, rfl, Nat.le_trans l1 (by decide), fun H4 s4 => ⟨_, rfl, ?_⟩⟩⟩
      rw [l2]
      exact ifF rfl ⟨Same.trans s2 s4, s4 _ _ h2⟩
    · rintro H2 ⟨s2, h2⟩
      exact q D H2 hD s2 h2
theorem sc_name_mistakes : FnScope ["known", "names", "name"] ["known", "names"] (defScope (topS 62)) := ⟨rfl, rfl, rfl, by decide +kernel, rfl, by decide +kernel, by decide +kernel⟩
theorem bd_name_mistakes {K : PySem.W.Frag} {f : Addr} {fd : FuncData} (F : FnP K "name_mistakes" (topS 62) f fd) : Binds K fd ["known", "names"] [] := F.bindsN fun _ _ _ _ _ _ us hl => match us, hl with | [_, _], _ => rfl
def spNm : Sp := fun vs H Q _ => ∃ (d a : Addr) (kvs : List (Key × V)) (xs : List Str), vs = [.ref d, .ref a] ∧ H d = some (.dK kvs) ∧ H a = some (.lst (xs.map V.str)) ∧ (∀ x ∈ xs, (valV kvs (.inr x)).isSome = true) ∧ ∀ l H', H l = none → Same H H' → H' l = some (.lst []) → Q (.ref l) H'
theorem ok_name_mistakes (T : Tx w K mg) : Dk P w K mg base 1 "name_mistakes" ["known", "names"] spNm := by
  obtain ⟨fd, F⟩ := T.d_name_mistakes
  refine ⟨⟨fd, F.ok sc_name_mistakes (fun vs H Q E h => ?_) (fun cdv A outer s H vs Q E hr h => ?_), bd_name_mistakes F⟩, F.kp, T.g_name_mistakes⟩
  · obtain ⟨d, a, kvs, xs, rfl, _⟩ := h
    rfl
  · obtain ⟨d, a, kvs, xs, rfl, hd, ha, hx, q⟩ := h
    refine ⟨_, PSs.nox (pss_one (ps_ret (pe_lc (own := [("name", 2)]) rfl sc_name_mistakes.nd (pi_list (pv 1)) (blkOk_by (own := [("name", 2)]) (N := ["known", "names", "name"]) (sc := defScope (topS 62)) (by decide +kernel)) (fun _ _ _ _ _ => (pg_name (i := 2) sc_name_mistakes.nd rfl (.inl rfl))) (fun _ _ _ _ _ => (pts_one (pt_cmp (pc_dnotin (hu_of hr) (pv 2) (pv 0))))) (fun _ _ _ _ _ => (pe_tup (pa_cons pe_str (pa_cons (pv 2) pa_nil))))))), ?_⟩
    simp only [cxOf, tYes, eq_self, if_true, if_false, wipe, rLenQ, rIxTQ, rIxLQ, rIxSQ, rInt1Q, rTupQ, rAppQ, rPopQ, rPopAtQ, rRevQ, rListS, rReprP, tLenSetT, tChain, tRetN, tRet, tSeq, tAsg, gName, tVar, tC, tCons, tNil, tCB, tOp, rI0, rI, tAndV, tOrV, tNotV, tIf, tTest, tB, tNot, tAnd, tOr, tIfS, tNext, tCallR, rIsK, rEq, rNe, tDrop, L2.start, List.map_cons, List.map_nil, List.length_cons, List.length_nil, Nat.reduceAdd, Nat.reduceSub, Nat.sub_self, List.replicate_zero, List.replicate_succ, List.append_nil, List.cons_append, List.nil_append, List.getElem?_cons_zero, List.getElem?_cons_succ, List.set_cons_zero, List.set_cons_succ, Option.some.injEq, List.cons.injEq, and_true, true_and, exists_eq_left, exists_eq_left', exists_eq_right, V.ty.injEq, V.int.injEq, V.bl.injEq, V.str.injEq, V.ref.injEq, exists_and_left, exists_const, reduceIte, reduceCtorEq, false_and, and_false, exists_false, or_false, false_or, Bool.not_true, Bool.not_false, Bool.false_eq_true, String.reduceEq, true_or, or_true, rNotT, tNNew, tNNotIn, tNGet, sNPut, tLenSetN, tPar, tAug, ipI, tDNotIn, sDPut, tDGet, tTup, tLst, tBM, tBM0, tCallD, tCall, rKdIn, tTNew, tTIn, tTGet, sTPut, Sg.tMethR, tMeth, tMakeR, tMake, tDGet2, tSAddK, rSAddK, rSInK, rSet0K, rExtend, rExtendT, tFld, sFld, tRevT, tDIn, tSl, tPart, tNoPart, tDelFrom, StX.tStar, tUn, rU]
    refine ⟨_, rfl, a, rfl, ⟨_, .inl (.inl ha)⟩, fun D hD => ?_⟩
    refine lc_gen (n := xs.length) (fun i H' => Same H H' ∧ H' D = some (.lst [])) ⟨same_upd hD, upd_same⟩ (fun i H' hi e => ⟨_, _, .inl (.inl (e.1 _ _ ha)), List.getElem?_eq_getElem (by rw [List.length_map]; exact hi)⟩) (fun H' e => ⟨_, .inl (.inl (e.1 _ _ ha)), by rw [List.length_map]; exact Nat.le_refl _⟩) ?_ ?_
    · rintro i x H2 H3 hi ⟨s2, h2⟩ ⟨rfl, hx2⟩
      have hx2 := hx2 _ (.inl (.inl (s2 _ _ ha)))
      rw [List.getElem?_map] at hx2
      obtain ⟨y, hy, rfl⟩ := Option.map_eq_some_iff.mp hx2
      have l1 := hx y (List.mem_of_getElem? hy)
      refine ⟨rfl, ?_⟩
      simp only [cxOf, tYes, eq_self, if_true, if_false, wipe, rLenQ, rIxTQ, rIxLQ, rIxSQ, rInt1Q, rTupQ, rAppQ, rPopQ, rPopAtQ, rRevQ, rListS, rReprP, tLenSetT, tChain, tRetN, tRet, tSeq, tAsg, gName, tVar, tC, tCons, tNil, tCB, tOp, rI0, rI, tAndV, tOrV, tNotV, tIf, tTest, tB, tNot, tAnd, tOr, tIfS, tNext, tCallR, rIsK, rEq, rNe, tDrop, L2.start, List.map_cons, List.map_nil, List.length_cons, List.length_nil, Nat.reduceAdd, Nat.reduceSub, Nat.sub_self, List.replicate_zero, List.replicate_succ, List.append_nil, List.cons_append, List.nil_append, List.getElem?_cons_zero, List.getElem?_cons_succ, List.set_cons_zero, List.set_cons_succ, Option.some.injEq, List.cons.injEq, and_true, true_and, exists_eq_left, exists_eq_left', exists_eq_right, V.ty.injEq, V.int.injEq, V.bl.injEq, V.str.injEq, V.ref.injEq, exists_and_left, exists_const, reduceIte, reduceCtorEq, false_and, and_false, exists_false, or_false, false_or, Bool.not_true, Bool.not_false, Bool.false_eq_true, String.reduceEq, true_or, or_true, rNotT, tNNew, tNNotIn, tNGet, sNPut, tLenSetN, tPar, tAug, ipI, tDNotIn, sDPut, tDGet, tTup, tLst, tBM, tBM0, tCallD, tCall, rKdIn, tTNew, tTIn, tTGet, sTPut, Sg.tMethR, tMeth, tMakeR, tMake, tDGet2, tSAddK, rSAddK, rSInK, rSet0K, rExtend, rExtendT, tFld, sFld, tRevT, tDIn, tSl, tPart, tNoPart, tDelFrom, StX.tStar, tUn, rU]
      refine ⟨_, DGet.k (k := Sum.inr y) (s2 _ _ hd), ?_⟩
      rw [l1]
      exact ifF rfl ⟨s2, h2⟩
    · rintro H2 ⟨s2, h2⟩
      exact q D H2 hD s2 h2
theorem sc_turn_mistakes : FnScope ["pairs", "found", "seen", "first", "_"] ["pairs"] (defScope (topS 63)) := ⟨rfl, rfl, rfl, by decide +kernel, rfl, by decide +kernel, by decide +kernel⟩
theorem bd_turn_mistakes {K : PySem.W.Frag} {f : Addr} {fd : FuncData} (F : FnP K "turn_mistakes" (topS 63) f fd) : Binds K fd ["pairs"] [] := F.bindsN fun _ _ _ _ _ _ us hl => match us, hl with | [_], _ => rfl
def spTn : Sp := fun vs H Q _ => ∃ (v : V) (ps : List (Str × Str)), vs = [v] ∧ KeyV H v (.tup (ps.map pairK)) ∧ (∀ p ∈ ps, p.1.length = 1) ∧ (ps.map (·.1)).Nodup ∧ ps.length ≤ 100 ∧ ∀ l H', H l = none → Same H H' → H' l = some (.lst []) → Q (.ref l) H'
theorem ok_turn_mistakes (T : Tx w K mg) : Dk P w K mg base 1 "turn_mistakes" ["pairs"] spTn := by
  obtain ⟨fd, F⟩ := T.d_turn_mistakes
  refine ⟨⟨fd, F.ok sc_turn_mistakes (fun vs H Q E h => ?_) (fun cdv A outer s H vs Q E hr h => ?_), bd_turn_mistakes F⟩, F.kp, T.g_turn_mistakes⟩
  · obtain ⟨v, ps, rfl, _⟩ := h
    rfl
  · obtain ⟨v, ps, rfl, hv, h1, hnd, hl, q⟩ := h
    obtain ⟨a, xs, rfl, ha, hx⟩ := tup_view hv
    refine ⟨_, PSs.nox (pss_cons (ps_set (i := 1) sc_turn_mistakes.nd rfl (.inl rfl) (pe_lst pa_nil))
      (pss_cons (ps_set (i := 2) sc_turn_mistakes.nd rfl (.inl rfl) (pe_callTy0 cr_set0K (by rfl) T.f_set (by decide +kernel)))
      (pss_cons (ps_for PassesOwn.never rfl (pi_tup (pv 0)) (pg_tup (by rfl) (pgs_cons (pg_name (i := 3) sc_turn_mistakes.nd rfl (.inl rfl)) (pgs_cons (pg_name (i := 4) sc_turn_mistakes.nd rfl (.inl rfl)) pgs_nil))) (pss_one (ps_if (pt_cmpR op_ne (pe_callB call_lenQ (by rfl) T.f_len PySem.boot_len (pa_cons (pv 3) pa_nil)) pe_int (nomark _)) (pss_one (ps_expr (pe_bm PySem.F.plainAttrs_list PySem.F.slot_list_append PySem.F.type_list_append mt_appQ (pv 1) (pa_cons (pe_tup (pa_cons pe_str (pa_cons (pv 3) pa_nil))) pa_nil)))) (pss_one (ps_if (pt_cmpR (show OpR _ _ (rSInK P w false) by exact or_sinK) (pv 3) (pv 2) rfl) (pss_one (ps_expr (pe_bm PySem.F.plainAttrs_list PySem.F.slot_list_append PySem.F.type_list_append mt_appQ (pv 1) (pa_cons (pe_tup (pa_cons pe_str (pa_cons (pv 3) pa_nil))) pa_nil)))) (pss_one (ps_expr (pe_saddK (pv 2) (pa_cons (pv 3) pa_nil)))))))))
      (pss_one (ps_ret (pv 1)))))), ?_⟩
    simp only [cxOf, tYes, eq_self, if_true, if_false, wipe, rLenQ, rIxTQ, rIxLQ, rIxSQ, rInt1Q, rTupQ, rAppQ, rPopQ, rPopAtQ, rRevQ, rListS, rReprP, tLenSetT, tChain, tRetN, tRet, tSeq, tAsg, gName, tVar, tC, tCons, tNil, tCB, tOp, rI0, rI, tAndV, tOrV, tNotV, tIf, tTest, tB, tNot, tAnd, tOr, tIfS, tNext, tCallR, rIsK, rEq, rNe, tDrop, L2.start, List.map_cons, List.map_nil, List.length_cons, List.length_nil, Nat.reduceAdd, Nat.reduceSub, Nat.sub_self, List.replicate_zero, List.replicate_succ, List.append_nil, List.cons_append, List.nil_append, List.getElem?_cons_zero, List.getElem?_cons_succ, List.set_cons_zero, List.set_cons_succ, Option.some.injEq, List.cons.injEq, and_true, true_and, exists_eq_left, exists_eq_left', exists_eq_right, V.ty.injEq, V.int.injEq, V.bl.injEq, V.str.injEq, V.ref.injEq, exists_and_left, exists_const, reduceIte, reduceCtorEq, false_and, and_false, exists_false, or_false, false_or, Bool.not_true, Bool.not_false, Bool.false_eq_true, String.reduceEq, true_or, or_true, rNotT, tNNew, tNNotIn, tNGet, sNPut, tLenSetN, tPar, tAug, ipI, tDNotIn, sDPut, tDGet, tTup, tLst, tBM, tBM0, tCallD, tCall, rKdIn, tTNew, tTIn, tTGet, sTPut, Sg.tMethR, tMeth, tMakeR, tMake, tDGet2, tSAddK, rSAddK, rSInK, rSet0K, rExtend, rExtendT, tFld, sFld, tRevT, tDIn, tSl, tPart, tNoPart, tDelFrom, StX.tStar, tUn, rU]
    refine ⟨Nat.zero_le _, fun p hp p1 hp1 => ⟨_, rfl, a, rfl, ?_⟩⟩
    have np : p ≠ p1 := ne_of_none upd_same hp1
    have hp1H : H p1 = none := by rwa [upd_ne (Ne.symm np)] at hp1
    have s0 := Same.trans (same_upd (o := HO.lst []) hp) (same_upd (o := SetK P w p1 (fun x => false) 0) hp1)
    have hxl : xs.length = ps.length := by rw [hx.len, List.length_map]
    refine ⟨⟨_, .inl (.inl (s0 _ _ ha))⟩, ?_⟩
    refine for_tup (K := K) (a := a) (xs := xs) (fun i σ H' => Same H H' ∧ H' p = some (.lst []) ∧ (∃ n, n ≤ i ∧ H' p1 = some (SetK P w p1 (fun j => (ps.take i).any fun q => decide (j = Sum.inr q.1)) n)) ∧ ∃ x3 x4, σ = [some (.ref a), some (.ref p), some (.ref p1), x3, x4]) ⟨s0, (upd_ne np).trans upd_same, ⟨0, Nat.le_refl _, upd_same⟩, _, _, rfl⟩ (fun i σ H' _ h => .inl (.inl (h.1 _ _ ha))) ?_ ?_
    · rintro i x σ H' hi ⟨s1, g1, ⟨n, hn, g2⟩, x3, x4, rfl⟩
      obtain ⟨k, hk, hkv⟩ := hx.get hi
      rw [List.getElem?_map] at hk
      obtain ⟨pq, hpq, rfl⟩ := Option.map_eq_some_iff.mp hk
      obtain ⟨c, cs, rfl, hc, hcs⟩ := tup_view (hkv.tp (TP.of_same s1))
      obtain ⟨y1, y2, rfl, hy1, hy2⟩ := two_view hcs
      obtain rfl := text_view hy1
      obtain rfl := text_view hy2
      have hil := (List.getElem?_eq_some_iff.mp hi).1
      refine ⟨c, _, rfl, .inl (.inl hc), rfl, _, _, rfl, _, _, rfl, rfl, ?_⟩
      simp only [cxOf, tYes, eq_self, if_true, if_false, wipe, rLenQ, rIxTQ, rIxLQ, rIxSQ, rInt1Q, rTupQ, rAppQ, rPopQ, rPopAtQ, rRevQ, rListS, rReprP, tLenSetT, tChain, tRetN, tRet, tSeq, tAsg, gName, tVar, tC, tCons, tNil, tCB, tOp, rI0, rI, tAndV, tOrV, tNotV, tIf, tTest, tB, tNot, tAnd, tOr, tIfS, tNext, tCallR, rIsK, rEq, rNe, tDrop, L2.start, List.map_cons, List.map_nil, List.length_cons, List.length_nil, Nat.reduceAdd, Nat.reduceSub, Nat.sub_self, List.replicate_zero, List.replicate_succ, List.append_nil, List.cons_append, List.nil_append, List.getElem?_cons_zero, List.getElem?_cons_succ, List.set_cons_zero, List.set_cons_succ, Option.some.injEq, List.cons.injEq, and_true, true_and, exists_eq_left, exists_eq_left', exists_eq_right, V.ty.injEq, V.int.injEq, V.bl.injEq, V.str.injEq, V.ref.injEq, exists_and_left, exists_const, reduceIte, reduceCtorEq, false_and, and_false, exists_false, or_false, false_or, Bool.not_true, Bool.not_false, Bool.false_eq_true, String.reduceEq, true_or, or_true, rNotT, tNNew, tNNotIn, tNGet, sNPut, tLenSetN, tPar, tAug, ipI, tDNotIn, sDPut, tDGet, tTup, tLst, tBM, tBM0, tCallD, tCall, rKdIn, tTNew, tTIn, tTGet, sTPut, Sg.tMethR, tMeth, tMakeR, tMake, tDGet2, tSAddK, rSAddK, rSInK, rSet0K, rExtend, rExtendT, tFld, sFld, tRevT, tDIn, tSl, tPart, tNoPart, tDelFrom, StX.tStar, tUn, rU]
      have l1 := h1 pq (List.mem_of_getElem? hpq)
      have fresh : ((ps.take i).any fun q => decide ((Sum.inr pq.1 : Key) = Sum.inr q.1)) = false := by
        cases e : (ps.take i).any fun q => decide ((Sum.inr pq.1 : Key) = Sum.inr q.1) with
        | false => rfl
        | true =>
          obtain ⟨q, hq, e2⟩ := List.any_eq_true.mp e
          have e3 : pq.1 = q.1 := Sum.inr.inj (of_decide_eq_true e2)
          obtain ⟨j, hj⟩ := List.mem_iff_getElem?.mp hq
          have hji : j < i := by
            have := (List.getElem?_eq_some_iff.mp hj).1
            rw [List.length_take] at this
            omega
          rw [List.getElem?_take, if_pos hji] at hj
          have a1 : (ps.map (·.1))[j]? = some q.1 := by rw [List.getElem?_map, hj]; rfl
          have a2 : (ps.map (·.1))[i]? = some q.1 := by rw [List.getElem?_map, hpq, ← e3]; rfl
          have := (List.getElem?_inj (i := j) (j := i) (by rw [List.length_map]; omega) hnd).mp (a1.trans a2.symm)
          omega
      refine ⟨szle (m := 1) (by omega), rfl, ifF (by rw [l1]; rfl) ⟨Sum.inr pq.1, rfl, _, _, g2, ifF fresh ⟨⟨_, _, g2⟩, Sum.inr pq.1, rfl, _, _, g2, Nat.lt_of_le_of_lt (show n + 1 ≤ 101 by omega) (by decide +kernel), fun b o hb => ?_, (upd_ne np).trans g1, ⟨n + 1, by omega, ?_⟩, _, rfl⟩⟩⟩
      · rw [upd_ne (ne_of_none hb hp1H)]
        exact s1 b o hb
      · rw [upd_same, if_neg (by rw [fresh]; exact Bool.false_ne_true)]
        congr 2
        funext j
        rw [List.take_add_one, hpq, List.any_append]
        simp
    · rintro σ H' ⟨s1, g1, _, x3, x4, rfl⟩
      exact ⟨_, rfl, q p H' hp s1 g1⟩
end
end K08

namespace K08
open PySem PySem.Spec PyProof.Rows L2 Sg
section
variable {P : Program} {w : World} {K : PySem.W.Frag} {mg : Str → Option Value} {base : Heap}
theorem sc_work_mistakes : FnScope ["signs", "known", "work", "name", "found", "pairs"] ["signs", "known", "work", "name"] (defScope (topS 65)) := ⟨rfl, rfl, rfl, by decide +kernel, rfl, by decide +kernel, by decide +kernel⟩
theorem bd_work_mistakes {K : PySem.W.Frag} {f : Addr} {fd : FuncData} (F : FnP K "work_mistakes" (topS 65) f fd) : Binds K fd ["signs", "known", "work", "name"] [] := F.bindsN fun _ _ _ _ _ _ us hl => match us, hl with | [_, _, _, _], _ => rfl
def spWm : Sp := fun vs H Q _ => ∃ (z : Str) (d : Addr) (v n : V) (t : Wk) (kvs : List (Key × V)), vs = [.str z, .ref d, v, n] ∧ H d = some (.dK kvs) ∧ KeyV H v t.key ∧ t.In z ∧ (∀ x ∈ t.fns, (valV kvs (.inr x)).isSome = true) ∧ ∀ l H', H l = none → Same H H' → H' l = some (.lst []) → Q (.ref l) H'
theorem ok_work_mistakes (T : Tx w K mg) : Dk P w K mg base 5 "work_mistakes" ["signs", "known", "work", "name"] spWm := by
  have D_text_mistakes := ok_text_mistakes (P := P) (w := w) (base := base) T
  have D_work_texts := ok_work_texts (P := P) (w := w) (base := base) T
  have D_name_mistakes := ok_name_mistakes (P := P) (w := w) (base := base) T
  have D_work_names := ok_work_names (P := P) (w := w) (base := base) T
  have D_work_funs := ok_work_funs (P := P) (w := w) (base := base) T
  have D_work_turns := ok_work_turns (P := P) (w := w) (base := base) T
  have D_turn_mistakes := ok_turn_mistakes (P := P) (w := w) (base := base) T
  have D_work_size := ok_work_size (P := P) (w := w) (base := base) T
  obtain ⟨fd, F⟩ := T.d_work_mistakes
  refine ⟨⟨fd, F.ok sc_work_mistakes (fun vs H Q E h => ?_) (fun cdv A outer s H vs Q E hr h => ?_), bd_work_mistakes F⟩, F.kp, T.g_work_mistakes⟩
  · obtain ⟨z, d, v, n, t, kvs, rfl, _⟩ := h
    rfl
  · obtain ⟨z, d, v, n, t, kvs, rfl, hd, hv, ht, hf, q⟩ := h
    obtain ⟨_, c_MOST_SIZE⟩ := T.c_MOST_SIZE
    refine ⟨_, PSs.nox (pss_cons (ps_set (i := 4) sc_work_mistakes.nd rfl (.inl rfl) (pe_callR D_text_mistakes (hr.mono (by decide)) takes0 (pa_cons (pv 0) (pa_cons (pe_callR D_work_texts (hr.mono (by decide)) takes0 (pa_cons (pv 2) pa_nil)) pa_nil))))
      (pss_cons (ps_expr (pe_bm PySem.F.plainAttrs_list PySem.F.slot_list_extend PySem.F.type_list_extend mt_extend (pv 4) (pa_cons (pe_callR D_name_mistakes (hr.mono (by decide)) takes0 (pa_cons (pv 1) (pa_cons (pe_callR D_work_names (hr.mono (by decide)) takes0 (pa_cons (pv 2) pa_nil)) pa_nil))) pa_nil)))
      (pss_cons (ps_expr (pe_bm PySem.F.plainAttrs_list PySem.F.slot_list_extend PySem.F.type_list_extend mt_extend (pv 4) (pa_cons (pe_callR D_name_mistakes (hr.mono (by decide)) takes0 (pa_cons (pv 1) (pa_cons (pe_callR D_work_funs (hr.mono (by decide)) takes0 (pa_cons (pv 2) pa_nil)) pa_nil))) pa_nil)))
      (pss_cons (ps_for PassesOwn.never rfl (pi_list (pe_callR D_work_turns (hr.mono (by decide)) takes0 (pa_cons (pv 2) pa_nil))) (pg_name (i := 5) sc_work_mistakes.nd rfl (.inl rfl)) (pss_one (ps_expr (pe_bm PySem.F.plainAttrs_list PySem.F.slot_list_extend PySem.F.type_list_extend mt_extend (pv 4) (pa_cons (pe_callR D_turn_mistakes (hr.mono (by decide)) takes0 (pa_cons (pv 5) pa_nil)) pa_nil)))))
      (pss_cons (ps_if (pt_cmpR op_gt (pe_callR D_work_size (hr.mono (by decide)) takes0 (pa_cons (pv 2) pa_nil)) (pe_glob (v := .int 60) (by rfl) c_MOST_SIZE ⟨_, rfl⟩) (nomark _)) (pss_one (ps_expr (pe_bm PySem.F.plainAttrs_list PySem.F.slot_list_append PySem.F.type_list_append mt_appQ (pv 4) (pa_cons (pe_tup (pa_cons pe_str (pa_cons (pv 3) pa_nil))) pa_nil)))) pss_nil)
      (pss_one (ps_ret (pv 4)))))))), ?_⟩
    simp only [cxOf, tYes, eq_self, if_true, if_false, wipe, rLenQ, rIxTQ, rIxLQ, rIxSQ, rInt1Q, rTupQ, rAppQ, rPopQ, rPopAtQ, rRevQ, rListS, rReprP, tLenSetT, tChain, tRetN, tRet, tSeq, tAsg, gName, tVar, tC, tCons, tNil, tCB, tOp, rI0, rI, tAndV, tOrV, tNotV, tIf, tTest, tB, tNot, tAnd, tOr, tIfS, tNext, tCallR, rIsK, rEq, rNe, tDrop, L2.start, List.map_cons, List.map_nil, List.length_cons, List.length_nil, Nat.reduceAdd, Nat.reduceSub, Nat.sub_self, List.replicate_zero, List.replicate_succ, List.append_nil, List.cons_append, List.nil_append, List.getElem?_cons_zero, List.getElem?_cons_succ, List.set_cons_zero, List.set_cons_succ, Option.some.injEq, List.cons.injEq, and_true, true_and, exists_eq_left, exists_eq_left', exists_eq_right, V.ty.injEq, V.int.injEq, V.bl.injEq, V.str.injEq, V.ref.injEq, exists_and_left, exists_const, reduceIte, reduceCtorEq, false_and, and_false, exists_false, or_false, false_or, Bool.not_true, Bool.not_false, Bool.false_eq_true, String.reduceEq, true_or, or_true, rNotT, tNNew, tNNotIn, tNGet, sNPut, tLenSetN, tPar, tAug, ipI, tDNotIn, sDPut, tDGet, tTup, tLst, tBM, tBM0, tCallD, tCall, rKdIn, tTNew, tTIn, tTGet, sTPut, Sg.tMethR, tMeth, tMakeR, tMake, tDGet2, tSAddK, rSAddK, rSInK, rSet0K, rExtend, rExtendT, tFld, sFld, tRevT, tDIn, tSl, tPart, tNoPart, tDelFrom, StX.tStar, tUn, rU]
    have hn : t.nodes ≤ 1000 := Nat.le_trans ht.nodes (by decide)
    refine ⟨v, t, rfl, hv, hn, ht.txl, fun l1 H1 s1 h1 => ⟨z, l1, t.txs, rfl, h1, ht.txs, fun l2 H2 n2 s2 h2 => ⟨lst_ty h2, ?_⟩⟩⟩
    have r2 := Same.trans s1 s2
    refine ⟨v, t, rfl, hv.tp (TP.of_same r2), hn, fun l3 H3 s3 h3 => ⟨d, l3, kvs, [], rfl, s3 _ _ (r2 _ _ hd), h3, by simp, fun l4 H4 n4 s4 h4 => ⟨l2, rfl, l4, rfl, [], s4 _ _ (s3 _ _ h2), [], h4, Nat.zero_le _, ?_⟩⟩⟩
    have r4 := Same.trans r2 (Same.trans s3 s4)
    have g4 : H4 l2 = some (.lst []) := s4 _ _ (s3 _ _ h2)
    have e4 : upd H4 l2 (.lst (([] : List V) ++ [])) = H4 := upd_id g4
    rw [e4]
    refine ⟨lst_ty g4, v, t, rfl, hv.tp (TP.of_same r4), hn, fun l5 H5 s5 h5 => ⟨d, l5, kvs, t.fns, rfl, s5 _ _ (r4 _ _ hd), h5, hf, fun l6 H6 n6 s6 h6 => ⟨l2, rfl, l6, rfl, [], s6 _ _ (s5 _ _ g4), [], h6, Nat.zero_le _, ?_⟩⟩⟩
    have r6 := Same.trans r4 (Same.trans s5 s6)
    have g6 : H6 l2 = some (.lst []) := s6 _ _ (s5 _ _ g4)
    have e6 : upd H6 l2 (.lst (([] : List V) ++ [])) = H6 := upd_id g6
    rw [e6]
    have n2H : H l2 = none := by
      cases e : H l2 with
      | none => rfl
      | some o => rw [s1 _ _ e] at n2; cases n2
    refine ⟨_, rfl, v, t, rfl, hv.tp (TP.of_same r6), hn, fun l7 xs H7 s7 h7 k7 => ⟨l7, rfl, ⟨xs, .inl (.inl h7)⟩, ?_⟩⟩
    have r7 := Same.trans r6 s7
    refine for_list (K := K) (a := l7) (xs := xs) (fun i σ H' => Same H7 H' ∧ ∃ x5, σ = [some (.str z), some (.ref d), some v, some n, some (.ref l2), x5]) ⟨fun _ _ z => z, _, rfl⟩ (fun i σ H' _ h => .inl (.inl (h.1 _ _ h7))) ?_ ?_
    · rintro i x σ H' hi ⟨s8, x5, rfl⟩
      obtain ⟨k, hk, hkv⟩ := k7.get hi
      rw [List.getElem?_map] at hk
      obtain ⟨ps, hps, rfl⟩ := Option.map_eq_some_iff.mp hk
      obtain ⟨c1, c2, c3⟩ := ht.turns ps (List.mem_of_getElem? hps)
      have g8 : H' l2 = some (.lst []) := s8 _ _ (s7 _ _ g6)
      simp only [cxOf, tYes, eq_self, if_true, if_false, wipe, rLenQ, rIxTQ, rIxLQ, rIxSQ, rInt1Q, rTupQ, rAppQ, rPopQ, rPopAtQ, rRevQ, rListS, rReprP, tLenSetT, tChain, tRetN, tRet, tSeq, tAsg, gName, tVar, tC, tCons, tNil, tCB, tOp, rI0, rI, tAndV, tOrV, tNotV, tIf, tTest, tB, tNot, tAnd, tOr, tIfS, tNext, tCallR, rIsK, rEq, rNe, tDrop, L2.start, List.map_cons, List.map_nil, List.length_cons, List.length_nil, Nat.reduceAdd, Nat.reduceSub, Nat.sub_self, List.replicate_zero, List.replicate_succ, List.append_nil, List.cons_append, List.nil_append, List.getElem?_cons_zero, List.getElem?_cons_succ, List.set_cons_zero, List.set_cons_succ, Option.some.injEq, List.cons.injEq, and_true, true_and, exists_eq_left, exists_eq_left', exists_eq_right, V.ty.injEq, V.int.injEq, V.bl.injEq, V.str.injEq, V.ref.injEq, exists_and_left, exists_const, reduceIte, reduceCtorEq, false_and, and_false, exists_false, or_false, false_or, Bool.not_true, Bool.not_false, Bool.false_eq_true, String.reduceEq, true_or, or_true, rNotT, tNNew, tNNotIn, tNGet, sNPut, tLenSetN, tPar, tAug, ipI, tDNotIn, sDPut, tDGet, tTup, tLst, tBM, tBM0, tCallD, tCall, rKdIn, tTNew, tTIn, tTGet, sTPut, Sg.tMethR, tMeth, tMakeR, tMake, tDGet2, tSAddK, rSAddK, rSInK, rSet0K, rExtend, rExtendT, tFld, sFld, tRevT, tDIn, tSl, tPart, tNoPart, tDelFrom, StX.tStar, tUn, rU]
      refine ⟨lst_ty g8, x, ps, rfl, hkv.tp (TP.of_same s8), c1, c2, c3, fun l9 H9 n9 s9 h9 => ⟨l9, rfl, [], s9 _ _ g8, [], h9, Nat.zero_le _, ?_⟩⟩
      have e9 : upd H9 l2 (.lst (([] : List V) ++ [])) = H9 := upd_id (s9 _ _ g8)
      rw [e9]
      exact ⟨Same.trans s8 s9, _, rfl⟩
    · rintro σ H' ⟨s8, x5, rfl⟩
      simp only [cxOf, tYes, eq_self, if_true, if_false, wipe, rLenQ, rIxTQ, rIxLQ, rIxSQ, rInt1Q, rTupQ, rAppQ, rPopQ, rPopAtQ, rRevQ, rListS, rReprP, tLenSetT, tChain, tRetN, tRet, tSeq, tAsg, gName, tVar, tC, tCons, tNil, tCB, tOp, rI0, rI, tAndV, tOrV, tNotV, tIf, tTest, tB, tNot, tAnd, tOr, tIfS, tNext, tCallR, rIsK, rEq, rNe, tDrop, L2.start, List.map_cons, List.map_nil, List.length_cons, List.length_nil, Nat.reduceAdd, Nat.reduceSub, Nat.sub_self, List.replicate_zero, List.replicate_succ, List.append_nil, List.cons_append, List.nil_append, List.getElem?_cons_zero, List.getElem?_cons_succ, List.set_cons_zero, List.set_cons_succ, Option.some.injEq, List.cons.injEq, and_true, true_and, exists_eq_left, exists_eq_left', exists_eq_right, V.ty.injEq, V.int.injEq, V.bl.injEq, V.str.injEq, V.ref.injEq, exists_and_left, exists_const, reduceIte, reduceCtorEq, false_and, and_false, exists_false, or_false, false_or, Bool.not_true, Bool.not_false, Bool.false_eq_true, String.reduceEq, true_or, or_true, rNotT, tNNew, tNNotIn, tNGet, sNPut, tLenSetN, tPar, tAug, ipI, tDNotIn, sDPut, tDGet, tTup, tLst, tBM, tBM0, tCallD, tCall, rKdIn, tTNew, tTIn, tTGet, sTPut, Sg.tMethR, tMeth, tMakeR, tMake, tDGet2, tSAddK, rSAddK, rSInK, rSet0K, rExtend, rExtendT, tFld, sFld, tRevT, tDIn, tSl, tPart, tNoPart, tDelFrom, StX.tStar, tUn, rU]
      have r8 := Same.trans r7 s8
      have hsz := ht.size
      refine ⟨v, t, rfl, hv.tp (TP.of_same r8), hn, fun H9 s9 => ?_⟩
      refine ⟨_, rfl, ifF (decide_eq_false (by omega)) (q l2 H9 n2H (Same.trans r8 s9) (s9 _ _ (s8 _ _ (s7 _ _ g6))))⟩
theorem sc_item_mistakes : FnScope ["signs", "known", "item", "found", "sets"] ["signs", "known", "item"] (defScope (topS 68)) := ⟨rfl, rfl, rfl, by decide +kernel, rfl, by decide +kernel, by decide +kernel⟩
theorem bd_item_mistakes {K : PySem.W.Frag} {f : Addr} {fd : FuncData} (F : FnP K "item_mistakes" (topS 68) f fd) : Binds K fd ["signs", "known", "item"] [] := F.bindsN fun _ _ _ _ _ _ us hl => match us, hl with | [_, _, _], _ => rfl
def spIm : Sp := fun vs H Q _ => ∃ (z : Str) (d : Addr) (v : V) (t : Wk) (kvs : List (Key × V)), vs = [.str z, .ref d, v] ∧ H d = some (.dK kvs) ∧ KeyV H v (itemK t) ∧ t.In z ∧ t.fns = [] ∧ ∀ l H', H l = none → Same H H' → H' l = some (.lst []) → Q (.ref l) H'
theorem ok_item_mistakes (T : Tx w K mg) : Dk P w K mg base 6 "item_mistakes" ["signs", "known", "item"] spIm := by
  have D_work_mistakes := ok_work_mistakes (P := P) (w := w) (base := base) T
  have D_name_mistakes := ok_name_mistakes (P := P) (w := w) (base := base) T
  obtain ⟨fd, F⟩ := T.d_item_mistakes
  refine ⟨⟨fd, F.ok sc_item_mistakes (fun vs H Q E h => ?_) (fun cdv A outer s H vs Q E hr h => ?_), bd_item_mistakes F⟩, F.kp, T.g_item_mistakes⟩
  · obtain ⟨z, d, v, t, kvs, rfl, _⟩ := h
    rfl
  · obtain ⟨z, d, v, t, kvs, rfl, hd, hv, ht, hf, q⟩ := h
    obtain ⟨a, xs, rfl, ha, hx⟩ := tup_view hv
    obtain ⟨x, ys, rfl, hx1, hx2⟩ := cons_view hx
    obtain ⟨y, y2, rfl, hx3, hx4⟩ := two_view hx2
    obtain rfl := text_view hx1
    obtain rfl := text_view hx3
    refine ⟨_, PSs.nox (pss_cons (ps_if (pt_cmpR op_eq (pe_ix ix_tupQ (pv 2) pe_int (fun _ _ => rfl)) pe_str (nomark _)) (pss_one (ps_ret pe_dead)) pss_nil)
      (pss_cons (ps_if (pt_cmpR op_eq (pe_ix ix_tupQ (pv 2) pe_int (fun _ _ => rfl)) pe_str (nomark _)) (pss_one (ps_ret (pe_callR D_work_mistakes (hr.mono (by decide)) takes0 (pa_cons (pv 0) (pa_cons (pv 1) (pa_cons (pe_ix ix_tupQ (pv 2) pe_int (fun _ _ => rfl)) (pa_cons (pe_ix ix_tupQ (pv 2) pe_int (fun _ _ => rfl)) pa_nil))))))) pss_nil)
      (pss_cons (ps_set (i := 3) sc_item_mistakes.nd rfl (.inl rfl) (pe_callR D_name_mistakes (hr.mono (by decide)) takes0 (pa_cons (pv 1) (pa_cons pe_dead pa_nil))))
      (pss_cons (ps_for PassesOwn.never rfl (pi_tup pe_dead) (pg_name (i := 4) sc_item_mistakes.nd rfl (.inl rfl)) (pss_one (ps_expr (pe_bm PySem.F.plainAttrs_list PySem.F.slot_list_extend PySem.F.type_list_extend mt_extendT (pv 3) (pa_cons pe_dead pa_nil)))))
      (pss_one (ps_ret (pv 3))))))), ?_⟩
    simp only [cxOf, tYes, eq_self, if_true, if_false, wipe, rLenQ, rIxTQ, rIxLQ, rIxSQ, rInt1Q, rTupQ, rAppQ, rPopQ, rPopAtQ, rRevQ, rListS, rReprP, tLenSetT, tChain, tRetN, tRet, tSeq, tAsg, gName, tVar, tC, tCons, tNil, tCB, tOp, rI0, rI, tAndV, tOrV, tNotV, tIf, tTest, tB, tNot, tAnd, tOr, tIfS, tNext, tCallR, rIsK, rEq, rNe, tDrop, L2.start, List.map_cons, List.map_nil, List.length_cons, List.length_nil, Nat.reduceAdd, Nat.reduceSub, Nat.sub_self, List.replicate_zero, List.replicate_succ, List.append_nil, List.cons_append, List.nil_append, List.getElem?_cons_zero, List.getElem?_cons_succ, List.set_cons_zero, List.set_cons_succ, Option.some.injEq, List.cons.injEq, and_true, true_and, exists_eq_left, exists_eq_left', exists_eq_right, V.ty.injEq, V.int.injEq, V.bl.injEq, V.str.injEq, V.ref.injEq, exists_and_left, exists_const, reduceIte, reduceCtorEq, false_and, and_false, exists_false, or_false, false_or, Bool.not_true, Bool.not_false, Bool.false_eq_true, String.reduceEq, true_or, or_true, rNotT, tNNew, tNNotIn, tNGet, sNPut, tLenSetN, tPar, tAug, ipI, tDNotIn, sDPut, tDGet, tTup, tLst, tBM, tBM0, tCallD, tCall, rKdIn, tTNew, tTIn, tTGet, sTPut, Sg.tMethR, tMeth, tMakeR, tMake, tDGet2, tSAddK, rSAddK, rSInK, rSet0K, rExtend, rExtendT, tFld, sFld, tRevT, tDIn, tSl, tPart, tNoPart, tDelFrom, StX.tStar, tUn, rU]
    have hT : SqT K H a [.str (Str.ofString "fun"), .str (Str.ofString "f"), y2] := .inl (.inl ha)
    exact word_no ha (by decide +kernel) (word_yes ha rfl ⟨_, hT, y2, rfl, _, hT, _, rfl, z, d, y2, _, t, kvs, rfl, hd, hx4, ht, by rw [hf]; simp, q⟩)
theorem sc_item_name : FnScope ["item"] ["item"] (defScope (topS 69)) := ⟨rfl, rfl, rfl, by decide +kernel, rfl, by decide +kernel, by decide +kernel⟩
theorem bd_item_name {K : PySem.W.Frag} {f : Addr} {fd : FuncData} (F : FnP K "item_name" (topS 69) f fd) : Binds K fd ["item"] [] := F.bindsN fun _ _ _ _ _ _ us hl => match us, hl with | [_], _ => rfl
def spIn : Sp := fun vs H Q _ => ∃ (v : V) (t : Wk), vs = [v] ∧ KeyV H v (itemK t) ∧ Q (.str (Str.ofString "f")) H
theorem ok_item_name (T : Tx w K mg) : Dk P w K mg base 1 "item_name" ["item"] spIn := by
  obtain ⟨fd, F⟩ := T.d_item_name
  refine ⟨⟨fd, F.ok sc_item_name (fun vs H Q E h => ?_) (fun cdv A outer s H vs Q E hr h => ?_), bd_item_name F⟩, F.kp, T.g_item_name⟩
  · obtain ⟨v, t, rfl, _⟩ := h
    rfl
  · obtain ⟨v, t, rfl, hv, q⟩ := h
    obtain ⟨a, xs, rfl, ha, hx⟩ := tup_view hv
    obtain ⟨x, ys, rfl, hx1, hx2⟩ := cons_view hx
    obtain ⟨y, y2, rfl, hx3, hx4⟩ := two_view hx2
    obtain rfl := text_view hx1
    obtain rfl := text_view hx3
    refine ⟨_, PSs.nox (pss_cons (ps_if (pt_cmpR op_eq (pe_ix ix_tupQ (pv 0) pe_int (fun _ _ => rfl)) pe_str (nomark _)) (pss_one (ps_ret (pe_ix ix_tupQ (pv 0) pe_int (fun _ _ => rfl)))) pss_nil)
      (pss_one (ps_ret (pe_ix ix_tupQ (pv 0) pe_int (fun _ _ => rfl))))), ?_⟩
    simp only [cxOf, tYes, eq_self, if_true, if_false, wipe, rLenQ, rIxTQ, rIxLQ, rIxSQ, rInt1Q, rTupQ, rAppQ, rPopQ, rPopAtQ, rRevQ, rListS, rReprP, tLenSetT, tChain, tRetN, tRet, tSeq, tAsg, gName, tVar, tC, tCons, tNil, tCB, tOp, rI0, rI, tAndV, tOrV, tNotV, tIf, tTest, tB, tNot, tAnd, tOr, tIfS, tNext, tCallR, rIsK, rEq, rNe, tDrop, L2.start, List.map_cons, List.map_nil, List.length_cons, List.length_nil, Nat.reduceAdd, Nat.reduceSub, Nat.sub_self, List.replicate_zero, List.replicate_succ, List.append_nil, List.cons_append, List.nil_append, List.getElem?_cons_zero, List.getElem?_cons_succ, List.set_cons_zero, List.set_cons_succ, Option.some.injEq, List.cons.injEq, and_true, true_and, exists_eq_left, exists_eq_left', exists_eq_right, V.ty.injEq, V.int.injEq, V.bl.injEq, V.str.injEq, V.ref.injEq, exists_and_left, exists_const, reduceIte, reduceCtorEq, false_and, and_false, exists_false, or_false, false_or, Bool.not_true, Bool.not_false, Bool.false_eq_true, String.reduceEq, true_or, or_true, rNotT, tNNew, tNNotIn, tNGet, sNPut, tLenSetN, tPar, tAug, ipI, tDNotIn, sDPut, tDGet, tTup, tLst, tBM, tBM0, tCallD, tCall, rKdIn, tTNew, tTIn, tTGet, sTPut, Sg.tMethR, tMeth, tMakeR, tMake, tDGet2, tSAddK, rSAddK, rSInK, rSet0K, rExtend, rExtendT, tFld, sFld, tRevT, tDIn, tSl, tPart, tNoPart, tDelFrom, StX.tStar, tUn, rU]
    have hT : SqT K H a [.str (Str.ofString "fun"), .str (Str.ofString "f"), y2] := .inl (.inl ha)
    exact word_no ha (by decide +kernel) ⟨_, hT, _, rfl, q⟩
theorem sc_mistakes : FnScope ["program", "signs", "rows", "found", "known", "at", "item", "name", "word", "what"] ["program"] (defScope (topS 70)) := ⟨rfl, rfl, rfl, by decide +kernel, rfl, by decide +kernel, by decide +kernel⟩
theorem bd_mistakes {K : PySem.W.Frag} {f : Addr} {fd : FuncData} (F : FnP K "mistakes" (topS 70) f fd) : Binds K fd ["program"] [] := F.bindsN fun _ _ _ _ _ _ us hl => match us, hl with | [_], _ => rfl
def spMi : Sp := fun vs H Q _ => ∃ (v : V) (z : Str) (bd : Option Wk), vs = [v] ∧ KeyV H v (progK z bd) ∧ PrOk z bd ∧ ∀ a H', Same H H' → H' a = some (.tup []) → Q (.ref a) H'
theorem ok_mistakes (T : Tx w K mg) : Dk P w K mg base 9 "mistakes" ["program"] spMi := by
  have D_is_program_1 := ok_is_program_1 (P := P) (w := w) (base := base) T
  have D_are_signs := ok_are_signs (P := P) (w := w) (base := base) T
  have D_item_name := ok_item_name (P := P) (w := w) (base := base) T
  have D_item_mistakes := ok_item_mistakes (P := P) (w := w) (base := base) T
  obtain ⟨fd, F⟩ := T.d_mistakes
  refine ⟨⟨fd, F.ok sc_mistakes (fun vs H Q E h => ?_) (fun cdv A outer s H vs Q E hr h => ?_), bd_mistakes F⟩, F.kp, T.g_mistakes⟩
  · obtain ⟨v, z, bd, rfl, _⟩ := h
    rfl
  · obtain ⟨v, z, bd, rfl, hv, hz, q⟩ := h
    obtain ⟨_, c_MOST_ITEMS⟩ := T.c_MOST_ITEMS
    obtain ⟨a, xs, rfl, ha, hx⟩ := tup_view hv
    obtain ⟨x, y, rfl, hx1, hx2⟩ := two_view hx
    obtain rfl := text_view hx1
    obtain ⟨b, rs, rfl, hb, hrs⟩ := tup_view hx2
    refine ⟨_, PSs.nox (pss_cons (ps_if (pt_not (pt_val (pe_callD D_is_program_1 (hr.mono (by decide)) (pa_cons (pv 0) pa_nil)))) (pss_one ps_dead) pss_nil)
      (pss_cons (ps_asg (pv 0) (pg_tup (by rfl) (pgs_cons (pg_name (i := 1) sc_mistakes.nd rfl (.inl rfl)) (pgs_cons (pg_name (i := 2) sc_mistakes.nd rfl (.inl rfl)) pgs_nil))))
      (pss_cons (ps_set (i := 3) sc_mistakes.nd rfl (.inl rfl) (pe_lst pa_nil))
      (pss_cons (ps_if (pt_not (pt_val (pe_callR D_are_signs (hr.mono (by decide)) takes0 (pa_cons (pv 1) pa_nil)))) (pss_one (ps_expr (pe_bm PySem.F.plainAttrs_list PySem.F.slot_list_append PySem.F.type_list_append mt_appQ (pv 3) (pa_cons (pe_tup (pa_cons (pe_un un_neg pe_int) (pa_cons pe_str (pa_cons (pv 1) pa_nil)))) pa_nil)))) pss_nil)
      (pss_cons (ps_set (i := 4) sc_mistakes.nd rfl (.inl rfl) pe_dnewK)
      (pss_cons (ps_for PassesOwn.never rfl (pi_enumT (by rfl) T.f_enumerate (pa_cons (pv 2) pa_nil)) (pg_tup (by rfl) (pgs_cons (pg_name (i := 5) sc_mistakes.nd rfl (.inl rfl)) (pgs_cons (pg_name (i := 6) sc_mistakes.nd rfl (.inl rfl)) pgs_nil))) (pss_cons (ps_set (i := 7) sc_mistakes.nd rfl (.inl rfl) (pe_callR D_item_name (hr.mono (by decide)) takes0 (pa_cons (pv 6) pa_nil)))
      (pss_cons (ps_if (PW.pt (pw_and (pt_cmpR op_ne (pe_ix ix_tupQ (pv 6) pe_int (fun _ _ => rfl)) pe_str (nomark _)) (pw_and1 (pt_cmp (pc_din (hu_of hr) (pv 7) (pv 4)))))) (pss_cons (ps_expr (pe_bm PySem.F.plainAttrs_list PySem.F.slot_list_append PySem.F.type_list_append mt_appQ (pv 3) (pa_cons (pe_tup (pa_cons (pv 5) (pa_cons pe_str (pa_cons (pv 7) pa_nil)))) pa_nil)))
      (pss_one ps_continue)) pss_nil)
      (pss_cons (ps_for PassesOwn.never rfl (pi_list (pe_callR D_item_mistakes (hr.mono (by decide)) takes0 (pa_cons (pv 1) (pa_cons (pv 4) (pa_cons (pv 6) pa_nil))))) (pg_tup (by rfl) (pgs_cons (pg_name (i := 8) sc_mistakes.nd rfl (.inl rfl)) (pgs_cons (pg_name (i := 9) sc_mistakes.nd rfl (.inl rfl)) pgs_nil))) (pss_one (ps_expr (pe_bm PySem.F.plainAttrs_list PySem.F.slot_list_append PySem.F.type_list_append mt_appQ (pv 3) (pa_cons (pe_tup (pa_cons (pv 5) (pa_cons (pv 8) (pa_cons (pv 9) pa_nil)))) pa_nil)))))
      (pss_cons (ps_if (pt_cmpR op_ge (pv 5) (pe_glob (v := .int 24) (by rfl) c_MOST_ITEMS ⟨_, rfl⟩) (nomark _)) (pss_one (ps_expr (pe_bm PySem.F.plainAttrs_list PySem.F.slot_list_append PySem.F.type_list_append mt_appQ (pv 3) (pa_cons (pe_tup (pa_cons (pv 5) (pa_cons pe_str (pa_cons (pv 7) pa_nil)))) pa_nil)))) pss_nil)
      (pss_one (ps_if (pt_cmpR op_ne (pe_ix ix_tupQ (pv 6) pe_int (fun _ _ => rfl)) pe_str (nomark _)) (pss_one (ps_dput (hu_of hr) (pv 4) (pv 7) pe_bl rfl)) pss_nil)))))))
      (pss_one (ps_ret (pe_callTy call_tupQ (by rfl) T.f_tuple PyProof.Rows.boot_tuple (pa_cons (pe_callB (cr_sortedT rfl) (by rfl) T.f_sorted (by decide +kernel) (pa_cons (pe_callTy (show CallR _ _ (rSetOfT K P w) by exact cr_setOfT rfl hr.units) (by rfl) T.f_set PyProof.Rows.boot_set (pa_cons (pv 3) pa_nil)) pa_nil)) pa_nil)))))))))), ?_⟩
    simp only [cxOf, tYes, eq_self, if_true, if_false, wipe, rLenQ, rIxTQ, rIxLQ, rIxSQ, rInt1Q, rTupQ, rAppQ, rPopQ, rPopAtQ, rRevQ, rListS, rReprP, tLenSetT, tChain, tRetN, tRet, tSeq, tAsg, gName, tVar, tC, tCons, tNil, tCB, tOp, rI0, rI, tAndV, tOrV, tNotV, tIf, tTest, tB, tNot, tAnd, tOr, tIfS, tNext, tCallR, rIsK, rEq, rNe, tDrop, L2.start, List.map_cons, List.map_nil, List.length_cons, List.length_nil, Nat.reduceAdd, Nat.reduceSub, Nat.sub_self, List.replicate_zero, List.replicate_succ, List.append_nil, List.cons_append, List.nil_append, List.getElem?_cons_zero, List.getElem?_cons_succ, List.set_cons_zero, List.set_cons_succ, Option.some.injEq, List.cons.injEq, and_true, true_and, exists_eq_left, exists_eq_left', exists_eq_right, V.ty.injEq, V.int.injEq, V.bl.injEq, V.str.injEq, V.ref.injEq, exists_and_left, exists_const, reduceIte, reduceCtorEq, false_and, and_false, exists_false, or_false, false_or, Bool.not_true, Bool.not_false, Bool.false_eq_true, String.reduceEq, true_or, or_true, rNotT, tNNew, tNNotIn, tNGet, sNPut, tLenSetN, tPar, tAug, ipI, tDNotIn, sDPut, tDGet, tTup, tLst, tBM, tBM0, tCallD, tCall, rKdIn, tTNew, tTIn, tTGet, sTPut, Sg.tMethR, tMeth, tMakeR, tMake, tDGet2, tSAddK, rSAddK, rSInK, rSet0K, rExtend, rExtendT, tFld, sFld, tRevT, tDIn, tSl, tPart, tNoPart, tDelFrom, StX.tStar, tUn, rU]
    have hT : ∀ H', Same H H' → SqT K H' a [.str z, .ref b] := fun H' s' => .inl (.inl (s' _ _ ha))
    have hrs : KeyVs H rs (bd.toList.map itemK) := by
      obtain ⟨b', rs', e1, e2, e3⟩ := tup_view hx2
      cases e1
      rw [hb] at e2
      cases e2
      exact e3
    have hrl : rs.length ≤ 1 := by
      rw [hrs.len, List.length_map]
      cases bd <;> simp
    refine ⟨_, z, bd, .non, .non, rfl, .inl rfl, .inl rfl, hv, hz, fun H1 s1 => ⟨true, rfl, ifF rfl ⟨_, _, rfl, hT _ s1, rfl, _, _, rfl, _, _, rfl, rfl, ?_⟩⟩⟩
    simp only [cxOf, tYes, eq_self, if_true, if_false, wipe, rLenQ, rIxTQ, rIxLQ, rIxSQ, rInt1Q, rTupQ, rAppQ, rPopQ, rPopAtQ, rRevQ, rListS, rReprP, tLenSetT, tChain, tRetN, tRet, tSeq, tAsg, gName, tVar, tC, tCons, tNil, tCB, tOp, rI0, rI, tAndV, tOrV, tNotV, tIf, tTest, tB, tNot, tAnd, tOr, tIfS, tNext, tCallR, rIsK, rEq, rNe, tDrop, L2.start, List.map_cons, List.map_nil, List.length_cons, List.length_nil, Nat.reduceAdd, Nat.reduceSub, Nat.sub_self, List.replicate_zero, List.replicate_succ, List.append_nil, List.cons_append, List.nil_append, List.getElem?_cons_zero, List.getElem?_cons_succ, List.set_cons_zero, List.set_cons_succ, Option.some.injEq, List.cons.injEq, and_true, true_and, exists_eq_left, exists_eq_left', exists_eq_right, V.ty.injEq, V.int.injEq, V.bl.injEq, V.str.injEq, V.ref.injEq, exists_and_left, exists_const, reduceIte, reduceCtorEq, false_and, and_false, exists_false, or_false, false_or, Bool.not_true, Bool.not_false, Bool.false_eq_true, String.reduceEq, true_or, or_true, rNotT, tNNew, tNNotIn, tNGet, sNPut, tLenSetN, tPar, tAug, ipI, tDNotIn, sDPut, tDGet, tTup, tLst, tBM, tBM0, tCallD, tCall, rKdIn, tTNew, tTIn, tTGet, sTPut, Sg.tMethR, tMeth, tMakeR, tMake, tDGet2, tSAddK, rSAddK, rSInK, rSet0K, rExtend, rExtendT, tFld, sFld, tRevT, tDIn, tSl, tPart, tNoPart, tDelFrom, StX.tStar, tUn, rU]
    refine ⟨Nat.zero_le _, fun p hp => ⟨z, rfl, hz.pos, hz.top, hz.nodup, true, rfl, ifF rfl fun d hd => ?_⟩⟩
    have np : p ≠ d := ne_of_none upd_same hd
    have s2 := Same.trans s1 (Same.trans (same_upd (o := HO.lst []) hp) (same_upd (o := HO.dK []) hd))
    have hpH : H p = none := by
      cases e : H p with
      | none => rfl
      | some o => rw [s1 _ _ e] at hp; cases hp
    have hdH : H d = none := by
      cases e : H d with
      | none => rfl
      | some o => rw [(Same.trans s1 (same_upd (o := HO.lst []) hp)) _ _ e] at hd; cases hd
    refine ⟨_, rfl, b, rs, rfl, .inl (.inl (s2 _ _ hb)), ?_⟩
    refine for_gen (J := IteT K b) (n := rs.length) (fun i σ H' => Same H H' ∧ H' p = some (.lst []) ∧ (∃ kvs, H' d = some (.dK kvs) ∧ (i = 0 → kvs = [])) ∧ ∃ x5 x6 x7 x8 x9, σ = [some (.ref a), some (.str z), some (.ref b), some (.ref p), some (.ref d), x5, x6, x7, x8, x9]) ⟨s2, (upd_ne np).trans upd_same, ⟨_, upd_same, fun _ => rfl⟩, _, _, _, _, _, rfl⟩ ?_ ?_ ?_ ?_
    · rintro i σ H' hi ⟨s3, _⟩
      exact ⟨_, _, .inl (.inl (s3 _ _ hb)), List.getElem?_eq_getElem hi⟩
    · rintro σ H' ⟨s3, _⟩
      exact ⟨_, .inl (.inl (s3 _ _ hb)), Nat.le_refl _⟩
    · rintro i x σ H' H'' hi ⟨s3, g1, ⟨kvs, g2, g3⟩, x5, x6, x7, x8, x9, rfl⟩ ⟨T1, y, rfl, hT1, rfl, hy⟩
      obtain rfl : i = 0 := by omega
      obtain rfl := g3 rfl
      have hy := hy _ (.inl (.inl (s3 _ _ hb)))
      obtain ⟨k, hk, hkv⟩ := hrs.get hy
      rw [List.getElem?_map] at hk
      obtain ⟨t, ht, rfl⟩ := Option.map_eq_some_iff.mp hk
      have ht2 : bd = some t := by simpa using List.mem_of_getElem? ht
      obtain ⟨ti, tf⟩ := hz.bd t ht2
      have s4 := Same.trans s3 (same_upd (o := HO.tup [.int (((0 : Nat) : Int)), y]) hT1)
      have t4 := same_upd (o := HO.tup [.int (((0 : Nat) : Int)), y]) hT1
      have gp := t4 _ _ g1
      have gd := t4 _ _ g2
      refine ⟨T1, _, rfl, .inl (.inl upd_same), rfl, _, _, rfl, _, _, rfl, rfl, ?_⟩
      generalize upd H' T1 (HO.tup [.int (((0 : Nat) : Int)), y]) = H5 at s4 gp gd
      obtain ⟨c, ys, rfl, hc, hys⟩ := tup_view (hkv.tp (TP.of_same s4))
      obtain ⟨k1, ks, rfl, hk1, hks⟩ := cons_view hys
      obtain rfl := text_view hk1
      simp only [cxOf, tYes, eq_self, if_true, if_false, wipe, rLenQ, rIxTQ, rIxLQ, rIxSQ, rInt1Q, rTupQ, rAppQ, rPopQ, rPopAtQ, rRevQ, rListS, rReprP, tLenSetT, tChain, tRetN, tRet, tSeq, tAsg, gName, tVar, tC, tCons, tNil, tCB, tOp, rI0, rI, tAndV, tOrV, tNotV, tIf, tTest, tB, tNot, tAnd, tOr, tIfS, tNext, tCallR, rIsK, rEq, rNe, tDrop, L2.start, List.map_cons, List.map_nil, List.length_cons, List.length_nil, Nat.reduceAdd, Nat.reduceSub, Nat.sub_self, List.replicate_zero, List.replicate_succ, List.append_nil, List.cons_append, List.nil_append, List.getElem?_cons_zero, List.getElem?_cons_succ, List.set_cons_zero, List.set_cons_succ, Option.some.injEq, List.cons.injEq, and_true, true_and, exists_eq_left, exists_eq_left', exists_eq_right, V.ty.injEq, V.int.injEq, V.bl.injEq, V.str.injEq, V.ref.injEq, exists_and_left, exists_const, reduceIte, reduceCtorEq, false_and, and_false, exists_false, or_false, false_or, Bool.not_true, Bool.not_false, Bool.false_eq_true, String.reduceEq, true_or, or_true, rNotT, tNNew, tNNotIn, tNGet, sNPut, tLenSetN, tPar, tAug, ipI, tDNotIn, sDPut, tDGet, tTup, tLst, tBM, tBM0, tCallD, tCall, rKdIn, tTNew, tTIn, tTGet, sTPut, Sg.tMethR, tMeth, tMakeR, tMake, tDGet2, tSAddK, rSAddK, rSInK, rSet0K, rExtend, rExtendT, tFld, sFld, tRevT, tDIn, tSl, tPart, tNoPart, tDelFrom, StX.tStar, tUn, rU]
      have hkv5 : KeyV H5 (.ref c) (itemK t) := hkv.tp (TP.of_same s4)
      refine ⟨_, t, rfl, hkv5, _, .inl (.inl hc), _, at_0 _ _, rfl, ifT (by decide +kernel) ⟨_, DGet.k (k := Sum.inr (Str.ofString "f")) gd, ifF rfl ?_⟩⟩
      refine ⟨_, rfl, _, rfl, _, rfl, z, d, _, t, [], rfl, gd, hkv5, ti, tf, fun l H6 n6 s6 h6 => ⟨l, rfl, ⟨[], .inl (.inl h6)⟩, for_none ⟨_, .inl (.inl h6), Nat.le_refl 0⟩ ?_⟩⟩
      simp only [cxOf, tYes, eq_self, if_true, if_false, wipe, rLenQ, rIxTQ, rIxLQ, rIxSQ, rInt1Q, rTupQ, rAppQ, rPopQ, rPopAtQ, rRevQ, rListS, rReprP, tLenSetT, tChain, tRetN, tRet, tSeq, tAsg, gName, tVar, tC, tCons, tNil, tCB, tOp, rI0, rI, tAndV, tOrV, tNotV, tIf, tTest, tB, tNot, tAnd, tOr, tIfS, tNext, tCallR, rIsK, rEq, rNe, tDrop, L2.start, List.map_cons, List.map_nil, List.length_cons, List.length_nil, Nat.reduceAdd, Nat.reduceSub, Nat.sub_self, List.replicate_zero, List.replicate_succ, List.append_nil, List.cons_append, List.nil_append, List.getElem?_cons_zero, List.getElem?_cons_succ, List.set_cons_zero, List.set_cons_succ, Option.some.injEq, List.cons.injEq, and_true, true_and, exists_eq_left, exists_eq_left', exists_eq_right, V.ty.injEq, V.int.injEq, V.bl.injEq, V.str.injEq, V.ref.injEq, exists_and_left, exists_const, reduceIte, reduceCtorEq, false_and, and_false, exists_false, or_false, false_or, Bool.not_true, Bool.not_false, Bool.false_eq_true, String.reduceEq, true_or, or_true, rNotT, tNNew, tNNotIn, tNGet, sNPut, tLenSetN, tPar, tAug, ipI, tDNotIn, sDPut, tDGet, tTup, tLst, tBM, tBM0, tCallD, tCall, rKdIn, tTNew, tTIn, tTGet, sTPut, Sg.tMethR, tMeth, tMakeR, tMake, tDGet2, tSAddK, rSAddK, rSInK, rSet0K, rExtend, rExtendT, tFld, sFld, tRevT, tDIn, tSl, tPart, tNoPart, tDelFrom, StX.tStar, tUn, rU]
      refine ifF (by decide +kernel) ⟨_, .inl (.inl (s6 _ _ hc)), _, at_0 _ _, rfl, ifT (by decide +kernel) ⟨_, DPut.k (k := Sum.inr (Str.ofString "f")) (s6 _ _ gd) (by rw [sizeLine_eq]; decide), fun x o hx => ?_, ?_, ⟨_, upd_same, fun e => e.elim⟩, _, rfl⟩⟩
      · rw [upd_ne (ne_of_none hx hdH)]
        exact s6 _ _ (s4 _ _ hx)
      · rw [upd_ne np]
        exact s6 _ _ gp
    · rintro σ H' ⟨s3, g1, _, x5, x6, x7, x8, x9, rfl⟩
      simp only [cxOf, tYes, eq_self, if_true, if_false, wipe, rLenQ, rIxTQ, rIxLQ, rIxSQ, rInt1Q, rTupQ, rAppQ, rPopQ, rPopAtQ, rRevQ, rListS, rReprP, tLenSetT, tChain, tRetN, tRet, tSeq, tAsg, gName, tVar, tC, tCons, tNil, tCB, tOp, rI0, rI, tAndV, tOrV, tNotV, tIf, tTest, tB, tNot, tAnd, tOr, tIfS, tNext, tCallR, rIsK, rEq, rNe, tDrop, L2.start, List.map_cons, List.map_nil, List.length_cons, List.length_nil, Nat.reduceAdd, Nat.reduceSub, Nat.sub_self, List.replicate_zero, List.replicate_succ, List.append_nil, List.cons_append, List.nil_append, List.getElem?_cons_zero, List.getElem?_cons_succ, List.set_cons_zero, List.set_cons_succ, Option.some.injEq, List.cons.injEq, and_true, true_and, exists_eq_left, exists_eq_left', exists_eq_right, V.ty.injEq, V.int.injEq, V.bl.injEq, V.str.injEq, V.ref.injEq, exists_and_left, exists_const, reduceIte, reduceCtorEq, false_and, and_false, exists_false, or_false, false_or, Bool.not_true, Bool.not_false, Bool.false_eq_true, String.reduceEq, true_or, or_true, rNotT, tNNew, tNNotIn, tNGet, sNPut, tLenSetN, tPar, tAug, ipI, tDNotIn, sDPut, tDGet, tTup, tLst, tBM, tBM0, tCallD, tCall, rKdIn, tTNew, tTIn, tTGet, sTPut, Sg.tMethR, tMeth, tMakeR, tMake, tDGet2, tSAddK, rSAddK, rSInK, rSet0K, rExtend, rExtendT, tFld, sFld, tRevT, tDIn, tSl, tPart, tNoPart, tDelFrom, StX.tStar, tUn, rU]
      refine ⟨p, [], rfl, .inl (.inl g1), (fun p hp => nomatch hp), by decide, fun b2 L hb2 hL _ => ?_⟩
      obtain rfl : L = [] := List.eq_nil_iff_forall_not_mem.mpr fun p hp => nomatch hL p hp
      refine ⟨b2, [], 1, 1, rfl, upd_same, (fun p hp => nomatch hp), by decide, (fun p hp => nomatch hp), fun L' p2 hL' _ _ _ hp2 => ?_⟩
      obtain rfl := List.Perm.eq_nil hL'
      refine ⟨[], .inl (.inl upd_same), fun l hl => q l _ (Same.trans s3 (Same.trans (same_upd hb2) (Same.trans (same_upd hp2) (same_upd hl)))) upd_same⟩
theorem sc_check_program : FnScope ["value"] ["value"] (defScope (topS 71)) := ⟨rfl, rfl, rfl, by decide +kernel, rfl, by decide +kernel, by decide +kernel⟩
theorem bd_check_program {K : PySem.W.Frag} {f : Addr} {fd : FuncData} (F : FnP K "check_program" (topS 71) f fd) : Binds K fd ["value"] [] := F.bindsN fun _ _ _ _ _ _ us hl => match us, hl with | [_], _ => rfl
def spCp : Sp := fun vs H Q _ => ∃ (v : V) (z : Str) (bd : Option Wk), vs = [v] ∧ KeyV H v (progK z bd) ∧ PrOk z bd ∧ ∀ H', Same H H' → Q .non H'
theorem ok_check_program (T : Tx w K mg) : Dk P w K mg base 10 "check_program" ["value"] spCp := by
  have D_is_program_3 := ok_is_program_3 (P := P) (w := w) (base := base) T
  have D_mistakes := ok_mistakes (P := P) (w := w) (base := base) T
  obtain ⟨fd, F⟩ := T.d_check_program
  refine ⟨⟨fd, F.ok sc_check_program (fun vs H Q E h => ?_) (fun cdv A outer s H vs Q E hr h => ?_), bd_check_program F⟩, F.kp, T.g_check_program⟩
  · obtain ⟨v, z, bd, rfl, _⟩ := h
    rfl
  · obtain ⟨v, z, bd, rfl, hv, hz, q⟩ := h
    obtain ⟨_, c_MOST_ITEMS⟩ := T.c_MOST_ITEMS
    obtain ⟨_, c_MOST_SIZE⟩ := T.c_MOST_SIZE
    refine ⟨_, PSs.nox (pss_cons (ps_if (pt_not (pt_val (pe_callD D_is_program_3 (hr.mono (by decide)) (pa_cons (pv 0) (pa_cons (pe_glob (v := .int 60) (by rfl) c_MOST_SIZE ⟨_, rfl⟩) (pa_cons (pe_glob (v := .int 24) (by rfl) c_MOST_ITEMS ⟨_, rfl⟩) pa_nil)))))) (pss_one ps_dead) pss_nil)
      (pss_one (ps_if (pt_cmpR (op_neD hr.units) (pe_callR D_mistakes (hr.mono (by decide)) takes0 (pa_cons (pv 0) pa_nil)) (pe_tup pa_nil) (nomark _)) (pss_one ps_dead) pss_nil))), ?_⟩
    simp only [cxOf, tYes, eq_self, if_true, if_false, wipe, rLenQ, rIxTQ, rIxLQ, rIxSQ, rInt1Q, rTupQ, rAppQ, rPopQ, rPopAtQ, rRevQ, rListS, rReprP, tLenSetT, tChain, tRetN, tRet, tSeq, tAsg, gName, tVar, tC, tCons, tNil, tCB, tOp, rI0, rI, tAndV, tOrV, tNotV, tIf, tTest, tB, tNot, tAnd, tOr, tIfS, tNext, tCallR, rIsK, rEq, rNe, tDrop, L2.start, List.map_cons, List.map_nil, List.length_cons, List.length_nil, Nat.reduceAdd, Nat.reduceSub, Nat.sub_self, List.replicate_zero, List.replicate_succ, List.append_nil, List.cons_append, List.nil_append, List.getElem?_cons_zero, List.getElem?_cons_succ, List.set_cons_zero, List.set_cons_succ, Option.some.injEq, List.cons.injEq, and_true, true_and, exists_eq_left, exists_eq_left', exists_eq_right, V.ty.injEq, V.int.injEq, V.bl.injEq, V.str.injEq, V.ref.injEq, exists_and_left, exists_const, reduceIte, reduceCtorEq, false_and, and_false, exists_false, or_false, false_or, Bool.not_true, Bool.not_false, Bool.false_eq_true, String.reduceEq, true_or, or_true, rNotT, tNNew, tNNotIn, tNGet, sNPut, tLenSetN, tPar, tAug, ipI, tDNotIn, sDPut, tDGet, tTup, tLst, tBM, tBM0, tCallD, tCall, rKdIn, tTNew, tTIn, tTGet, sTPut, Sg.tMethR, tMeth, tMakeR, tMake, tDGet2, tSAddK, rSAddK, rSInK, rSet0K, rExtend, rExtendT, tFld, sFld, tRevT, tDIn, tSl, tPart, tNoPart, tDelFrom, StX.tStar, tUn, rU]
    refine ⟨v, z, bd, _, _, rfl, .inr rfl, .inr rfl, hv, hz, fun H1 s1 => ⟨true, rfl, ifF rfl ⟨v, z, bd, rfl, hv.tp (TP.of_same s1), hz, fun a H2 s2 h2 => ⟨Nat.zero_le _, fun p hp => ?_⟩⟩⟩⟩
    have s3 := same_upd (o := HO.tup []) hp
    exact ⟨.tuple [], .tuple [], .tup (.inl (.inl (s3 _ _ h2))) .nil, .tup (.inl (.inl upd_same)) .nil, by decide +kernel, by decide +kernel, false, rfl, ifF rfl (q _ (Same.trans s1 (Same.trans s2 s3)))⟩
end
end K08

namespace K08
open PySem PySem.Spec PyProof.Rows L2 Sg
section
variable {P : Program} {w : World} {K : PySem.W.Frag} {mg : Str → Option Value} {base : Heap}
theorem prog_view {H : Hp} {v : V} {z : Str} {bd : Option Wk} (hv : KeyV H v (progK z bd)) : ∃ a b rs, v = .ref a ∧ H a = some (.tup [.str z, .ref b]) ∧ H b = some (.tup rs) ∧ KeyVs H rs (bd.toList.map itemK) := by
  obtain ⟨a, xs, rfl, ha, hx⟩ := tup_view hv
  obtain ⟨x, y, rfl, hx1, hx2⟩ := two_view hx
  obtain rfl := text_view hx1
  obtain ⟨b, rs, rfl, hb, hrs⟩ := tup_view hx2
  exact ⟨a, b, rs, rfl, ha, hb, hrs⟩
theorem item_view {H : Hp} {v : V} {t : Wk} (hv : KeyV H v (itemK t)) : ∃ a y, v = .ref a ∧ H a = some (.tup [.str (Str.ofString "fun"), .str (Str.ofString "f"), y]) ∧ KeyV H y t.key := by
  obtain ⟨a, xs, rfl, ha, hx⟩ := tup_view hv
  obtain ⟨x, ys, rfl, hx1, hx2⟩ := cons_view hx
  obtain ⟨y, y2, rfl, hx3, hx4⟩ := two_view hx2
  obtain rfl := text_view hx1
  obtain rfl := text_view hx3
  exact ⟨a, y2, rfl, ha, hx4⟩
theorem dc_gen {J : It} {n : Nat} {g : TG} {tt : TT} {tk tv : TE} {vs : List Nat} {σ : L2.St} {H1 : Hp} {D : Addr} {Qd : Hp → Prop} (Pv : Nat → Hp → Prop) (h0 : Pv 0 (upd H1 D (.dK []))) (hg : ∀ i H, i < n → Pv i H → J.go i H) (he : ∀ H, Pv n H → J.stop n H)
    (hs : ∀ i x H H', i < n → Pv i H → J.yld i H x H' → g x (wipe σ vs) H' fun σ2 H2 => wipe σ2 vs = wipe σ vs ∧ tt σ2 H2 fun b H3 =>
      if b = true then tk σ2 H3 fun y H4 => tv σ2 H4 fun z H5 => ∃ kvs k, y = kV k ∧ H5 D = some (.dK kvs) ∧ kvs.length < sizeLine ∧ Pv (i + 1) (upd H5 D (.dK (putK kvs k z))) else Pv (i + 1) H3) (hd : ∀ H, Pv n H → Qd H) :
    ∃ W : Nat → Nat → Hp → Prop, (∃ m, W 0 m (upd H1 D (.dK []))) ∧ ∀ i m H, W i m H →
      (J.stop i H ∧ Qd H) ∨ (J.go i H ∧ ∃ Nx : Hp → Prop, (∀ H', Nx H' → ∃ m', m' < m ∧ W (i + 1) m' H') ∧ ∀ x H', J.yld i H x H' → g x (wipe σ vs) H' fun σ2 H2 => wipe σ2 vs = wipe σ vs ∧ tt σ2 H2 fun b H3 =>
        if b = true then tk σ2 H3 fun y H4 => tv σ2 H4 fun z H5 => ∃ kvs k, y = kV k ∧ H5 D = some (.dK kvs) ∧ kvs.length < sizeLine ∧ Nx (upd H5 D (.dK (putK kvs k z))) else Nx H3) := by
  refine ⟨fun i m H => m + i = n ∧ Pv i H, ⟨n, rfl, h0⟩, fun i m H hW => ?_⟩
  obtain ⟨e, p⟩ := hW
  cases m with
  | zero =>
    have e2 : i = n := by omega
    subst e2
    exact .inl ⟨he H p, hd H p⟩
  | succ m =>
    have hlt : i < n := by omega
    exact .inr ⟨hg i H hlt p, Pv (i + 1), fun H' p' => ⟨m, Nat.lt_succ_self m, by omega, p'⟩, fun x H' y => hs i x H H' hlt p y⟩
theorem sc_known_names : FnScope ["program", "item"] ["program"] (defScope (topS 72)) := ⟨rfl, rfl, rfl, by decide +kernel, rfl, by decide +kernel, by decide +kernel⟩
theorem bd_known_names {K : PySem.W.Frag} {f : Addr} {fd : FuncData} (F : FnP K "known_names" (topS 72) f fd) : Binds K fd ["program"] [] := F.bindsN fun _ _ _ _ _ _ us hl => match us, hl with | [_], _ => rfl
def knL (bd : Option Wk) (x : V) : List (Key × V) := match bd with
  | some _ => [(Sum.inr (Str.ofString "f"), x)]
  | none => []
def spKn : Sp := fun vs H Q _ => ∃ (v : V) (z : Str) (bd : Option Wk), vs = [v] ∧ KeyV H v (progK z bd) ∧ ∀ d H', H d = none → Same H H' → H' d = some (.dK (knL bd (.bl true))) → Q (.ref d) H'
theorem ok_known_names (T : Tx w K mg) : Dk P w K mg base 1 "known_names" ["program"] spKn := by
  obtain ⟨fd, F⟩ := T.d_known_names
  refine ⟨⟨fd, F.ok sc_known_names (fun vs H Q E h => ?_) (fun cdv A outer s H vs Q E hr h => ?_), bd_known_names F⟩, F.kp, T.g_known_names⟩
  · obtain ⟨v, z, bd, rfl, _⟩ := h
    rfl
  · obtain ⟨v, z, bd, rfl, hv, q⟩ := h
    obtain ⟨a, b, rs, rfl, ha, hb, hrs⟩ := prog_view hv
    refine ⟨_, PSs.nox (pss_one (ps_ret (pe_dc (own := [("item", 1)]) rfl sc_known_names.nd (pi_tup (pe_ix ix_tupQ (pv 0) pe_int (fun _ _ => rfl))) (blkOk_by (own := [("item", 1)]) (N := ["program", "item"]) (sc := defScope (topS 72)) (by decide +kernel)) (fun _ _ _ _ _ => (pg_name (i := 1) sc_known_names.nd rfl (.inl rfl))) (fun _ _ _ _ _ => (pts_one (pt_cmpR op_ne (pe_ix (show IxR _ (rIxTQ K) by exact ix_tupQ) (pv 1) pe_int (fun _ _ => rfl)) pe_str (nomark _)))) (fun _ _ _ _ _ => (pe_ix (show IxR _ (rIxTQ K) by exact ix_tupQ) (pv 1) pe_int (fun _ _ => rfl))) (fun _ _ _ _ _ => pe_bl)))), ?_⟩
    simp only [cxOf, tYes, eq_self, if_true, if_false, wipe, rLenQ, rIxTQ, rIxLQ, rIxSQ, rInt1Q, rTupQ, rAppQ, rPopQ, rPopAtQ, rRevQ, rListS, rReprP, tLenSetT, tChain, tRetN, tRet, tSeq, tAsg, gName, tVar, tC, tCons, tNil, tCB, tOp, rI0, rI, tAndV, tOrV, tNotV, tIf, tTest, tB, tNot, tAnd, tOr, tIfS, tNext, tCallR, rIsK, rEq, rNe, tDrop, L2.start, List.map_cons, List.map_nil, List.length_cons, List.length_nil, Nat.reduceAdd, Nat.reduceSub, Nat.sub_self, List.replicate_zero, List.replicate_succ, List.append_nil, List.cons_append, List.nil_append, List.getElem?_cons_zero, List.getElem?_cons_succ, List.set_cons_zero, List.set_cons_succ, Option.some.injEq, List.cons.injEq, and_true, true_and, exists_eq_left, exists_eq_left', exists_eq_right, V.ty.injEq, V.int.injEq, V.bl.injEq, V.str.injEq, V.ref.injEq, exists_and_left, exists_const, reduceIte, reduceCtorEq, false_and, and_false, exists_false, or_false, false_or, Bool.not_true, Bool.not_false, Bool.false_eq_true, String.reduceEq, true_or, or_true, rNotT, tNNew, tNNotIn, tNGet, sNPut, tLenSetN, tPar, tAug, ipI, tDNotIn, sDPut, tDGet, tTup, tLst, tBM, tBM0, tCallD, tCall, rKdIn, tTNew, tTIn, tTGet, sTPut, Sg.tMethR, tMeth, tMakeR, tMake, tDGet2, tSAddK, rSAddK, rSInK, rSet0K, rExtend, rExtendT, tFld, sFld, tRevT, tDIn, tSl, tPart, tNoPart, tDelFrom, StX.tStar, tUn, rU]
    have hrl : rs.length = bd.toList.length := by rw [hrs.len, List.length_map]
    refine ⟨_, rfl, _, _, .inl (.inl ha), rfl, b, rfl, ⟨_, .inl (.inl hb)⟩, fun D hD => ?_⟩
    refine dc_gen (J := Itt K b) (n := rs.length) (fun i H' => Same H H' ∧ H' D = some (.dK (if i = 0 then [] else knL bd (.bl true)))) ⟨same_upd hD, upd_same⟩ (fun i H' hi e => ⟨_, _, .inl (.inl (e.1 _ _ hb)), List.getElem?_eq_getElem hi⟩) (fun H' e => ⟨_, .inl (.inl (e.1 _ _ hb)), Nat.le_refl _⟩) ?_ ?_
    · rintro i x H2 H3 hi ⟨s2, h2⟩ ⟨rfl, hx2⟩
      have hx2 := hx2 _ (.inl (.inl (s2 _ _ hb)))
      obtain ⟨k, hk, hkv⟩ := hrs.get hx2
      rw [List.getElem?_map] at hk
      obtain ⟨t, ht, rfl⟩ := Option.map_eq_some_iff.mp hk
      have ht2 : bd = some t := by simpa using List.mem_of_getElem? ht
      subst ht2
      obtain rfl : i = 0 := by
        have : (some t : Option Wk).toList.length = 1 := rfl
        omega
      obtain ⟨c, y, rfl, hc, hy⟩ := item_view (hkv.tp (TP.of_same s2))
      refine ⟨rfl, ?_⟩
      simp only [cxOf, tYes, eq_self, if_true, if_false, wipe, rLenQ, rIxTQ, rIxLQ, rIxSQ, rInt1Q, rTupQ, rAppQ, rPopQ, rPopAtQ, rRevQ, rListS, rReprP, tLenSetT, tChain, tRetN, tRet, tSeq, tAsg, gName, tVar, tC, tCons, tNil, tCB, tOp, rI0, rI, tAndV, tOrV, tNotV, tIf, tTest, tB, tNot, tAnd, tOr, tIfS, tNext, tCallR, rIsK, rEq, rNe, tDrop, L2.start, List.map_cons, List.map_nil, List.length_cons, List.length_nil, Nat.reduceAdd, Nat.reduceSub, Nat.sub_self, List.replicate_zero, List.replicate_succ, List.append_nil, List.cons_append, List.nil_append, List.getElem?_cons_zero, List.getElem?_cons_succ, List.set_cons_zero, List.set_cons_succ, Option.some.injEq, List.cons.injEq, and_true, true_and, exists_eq_left, exists_eq_left', exists_eq_right, V.ty.injEq, V.int.injEq, V.bl.injEq, V.str.injEq, V.ref.injEq, exists_and_left, exists_const, reduceIte, reduceCtorEq, false_and, and_false, exists_false, or_false, false_or, Bool.not_true, Bool.not_false, Bool.false_eq_true, String.reduceEq, true_or, or_true, rNotT, tNNew, tNNotIn, tNGet, sNPut, tLenSetN, tPar, tAug, ipI, tDNotIn, sDPut, tDGet, tTup, tLst, tBM, tBM0, tCallD, tCall, rKdIn, tTNew, tTIn, tTGet, sTPut, Sg.tMethR, tMeth, tMakeR, tMake, tDGet2, tSAddK, rSAddK, rSInK, rSet0K, rExtend, rExtendT, tFld, sFld, tRevT, tDIn, tSl, tPart, tNoPart, tDelFrom, StX.tStar, tUn, rU]
      refine ⟨_, .inl (.inl hc), _, at_0 _ _, rfl, ifT (by decide +kernel) ⟨_, .inl (.inl hc), _, at_1 _ _ _, [], Sum.inr (Str.ofString "f"), rfl, h2, by rw [sizeLine_eq]; decide, snoc_same hD s2, ?_⟩⟩
      rw [upd_same]
      rfl
    · rintro H2 ⟨s2, h2⟩
      refine q D H2 hD s2 ?_
      rw [h2, hrl]
      cases bd <;> rfl
theorem sc_fun_names : FnScope ["program", "item"] ["program"] (defScope (topS 73)) := ⟨rfl, rfl, rfl, by decide +kernel, rfl, by decide +kernel, by decide +kernel⟩
theorem bd_fun_names {K : PySem.W.Frag} {f : Addr} {fd : FuncData} (F : FnP K "fun_names" (topS 73) f fd) : Binds K fd ["program"] [] := F.bindsN fun _ _ _ _ _ _ us hl => match us, hl with | [_], _ => rfl
def spFns : Sp := fun vs H Q _ => ∃ (v : V) (z : Str) (bd : Option Wk), vs = [v] ∧ KeyV H v (progK z bd) ∧ ∀ l H', Same H H' → H' l = some (.tup (bd.toList.map fun _ => .str (Str.ofString "f"))) → Q (.ref l) H'
theorem ok_fun_names (T : Tx w K mg) : Dk P w K mg base 1 "fun_names" ["program"] spFns := by
  obtain ⟨fd, F⟩ := T.d_fun_names
  refine ⟨⟨fd, F.ok sc_fun_names (fun vs H Q E h => ?_) (fun cdv A outer s H vs Q E hr h => ?_), bd_fun_names F⟩, F.kp, T.g_fun_names⟩
  · obtain ⟨v, z, bd, rfl, _⟩ := h
    rfl
  · obtain ⟨v, z, bd, rfl, hv, q⟩ := h
    obtain ⟨a, b, rs, rfl, ha, hb, hrs⟩ := prog_view hv
    refine ⟨_, PSs.nox (pss_one (ps_ret (pe_callTy call_tupQ (by rfl) T.f_tuple PyProof.Rows.boot_tuple (pa_cons (pe_lc (own := [("item", 1)]) rfl sc_fun_names.nd (pi_tup (pe_ix ix_tupQ (pv 0) pe_int (fun _ _ => rfl))) (blkOk_by (own := [("item", 1)]) (N := ["program", "item"]) (sc := defScope (topS 73)) (by decide +kernel)) (fun _ _ _ _ _ => (pg_name (i := 1) sc_fun_names.nd rfl (.inl rfl))) (fun _ _ _ _ _ => (pts_one (pt_cmpR op_eq (pe_ix (show IxR _ (rIxTQ K) by exact ix_tupQ) (pv 1) pe_int (fun _ _ => rfl)) pe_str (nomark _)))) (fun _ _ _ _ _ => (pe_ix (show IxR _ (rIxTQ K) by exact ix_tupQ) (pv 1) pe_int (fun _ _ => rfl)))) pa_nil)))), ?_⟩
    simp only [cxOf, tYes, eq_self, if_true, if_false, wipe, rLenQ, rIxTQ, rIxLQ, rIxSQ, rInt1Q, rTupQ, rAppQ, rPopQ, rPopAtQ, rRevQ, rListS, rReprP, tLenSetT, tChain, tRetN, tRet, tSeq, tAsg, gName, tVar, tC, tCons, tNil, tCB, tOp, rI0, rI, tAndV, tOrV, tNotV, tIf, tTest, tB, tNot, tAnd, tOr, tIfS, tNext, tCallR, rIsK, rEq, rNe, tDrop, L2.start, List.map_cons, List.map_nil, List.length_cons, List.length_nil, Nat.reduceAdd, Nat.reduceSub, Nat.sub_self, List.replicate_zero, List.replicate_succ, List.append_nil, List.cons_append, List.nil_append, List.getElem?_cons_zero, List.getElem?_cons_succ, List.set_cons_zero, List.set_cons_succ, Option.some.injEq, List.cons.injEq, and_true, true_and, exists_eq_left, exists_eq_left', exists_eq_right, V.ty.injEq, V.int.injEq, V.bl.injEq, V.str.injEq, V.ref.injEq, exists_and_left, exists_const, reduceIte, reduceCtorEq, false_and, and_false, exists_false, or_false, false_or, Bool.not_true, Bool.not_false, Bool.false_eq_true, String.reduceEq, true_or, or_true, rNotT, tNNew, tNNotIn, tNGet, sNPut, tLenSetN, tPar, tAug, ipI, tDNotIn, sDPut, tDGet, tTup, tLst, tBM, tBM0, tCallD, tCall, rKdIn, tTNew, tTIn, tTGet, sTPut, Sg.tMethR, tMeth, tMakeR, tMake, tDGet2, tSAddK, rSAddK, rSInK, rSet0K, rExtend, rExtendT, tFld, sFld, tRevT, tDIn, tSl, tPart, tNoPart, tDelFrom, StX.tStar, tUn, rU]
    have hrl : rs.length = bd.toList.length := by rw [hrs.len, List.length_map]
    refine ⟨_, rfl, _, _, .inl (.inl ha), rfl, b, rfl, ⟨_, .inl (.inl hb)⟩, fun D hD => ?_⟩
    refine lc_gen (J := Itt K b) (n := rs.length) (fun i H' => Same H H' ∧ H' D = some (.lst (List.replicate i (.str (Str.ofString "f"))))) ⟨same_upd hD, upd_same⟩ (fun i H' hi e => ⟨_, _, .inl (.inl (e.1 _ _ hb)), List.getElem?_eq_getElem hi⟩) (fun H' e => ⟨_, .inl (.inl (e.1 _ _ hb)), Nat.le_refl _⟩) ?_ ?_
    · rintro i x H2 H3 hi ⟨s2, h2⟩ ⟨rfl, hx2⟩
      have hx2 := hx2 _ (.inl (.inl (s2 _ _ hb)))
      obtain ⟨k, hk, hkv⟩ := hrs.get hx2
      rw [List.getElem?_map] at hk
      obtain ⟨t, ht, rfl⟩ := Option.map_eq_some_iff.mp hk
      obtain ⟨c, y, rfl, hc, hy⟩ := item_view (hkv.tp (TP.of_same s2))
      refine ⟨rfl, ?_⟩
      simp only [cxOf, tYes, eq_self, if_true, if_false, wipe, rLenQ, rIxTQ, rIxLQ, rIxSQ, rInt1Q, rTupQ, rAppQ, rPopQ, rPopAtQ, rRevQ, rListS, rReprP, tLenSetT, tChain, tRetN, tRet, tSeq, tAsg, gName, tVar, tC, tCons, tNil, tCB, tOp, rI0, rI, tAndV, tOrV, tNotV, tIf, tTest, tB, tNot, tAnd, tOr, tIfS, tNext, tCallR, rIsK, rEq, rNe, tDrop, L2.start, List.map_cons, List.map_nil, List.length_cons, List.length_nil, Nat.reduceAdd, Nat.reduceSub, Nat.sub_self, List.replicate_zero, List.replicate_succ, List.append_nil, List.cons_append, List.nil_append, List.getElem?_cons_zero, List.getElem?_cons_succ, List.set_cons_zero, List.set_cons_succ, Option.some.injEq, List.cons.injEq, and_true, true_and, exists_eq_left, exists_eq_left', exists_eq_right, V.ty.injEq, V.int.injEq, V.bl.injEq, V.str.injEq, V.ref.injEq, exists_and_left, exists_const, reduceIte, reduceCtorEq, false_and, and_false, exists_false, or_false, false_or, Bool.not_true, Bool.not_false, Bool.false_eq_true, String.reduceEq, true_or, or_true, rNotT, tNNew, tNNotIn, tNGet, sNPut, tLenSetN, tPar, tAug, ipI, tDNotIn, sDPut, tDGet, tTup, tLst, tBM, tBM0, tCallD, tCall, rKdIn, tTNew, tTIn, tTGet, sTPut, Sg.tMethR, tMeth, tMakeR, tMake, tDGet2, tSAddK, rSAddK, rSInK, rSet0K, rExtend, rExtendT, tFld, sFld, tRevT, tDIn, tSl, tPart, tNoPart, tDelFrom, StX.tStar, tUn, rU]
      refine word_yes hc rfl ⟨_, .inl (.inl hc), _, at_1 _ _ _, _, h2, ?_, snoc_same hD s2, ?_⟩
      · rw [List.length_replicate]
        exact szlt (m := 10) (by have : bd.toList.length ≤ 1 := (by cases bd <;> simp); omega)
      · rw [upd_same, ← List.replicate_succ, List.replicate_succ']
    · rintro H2 ⟨s2, h2⟩
      refine ⟨_, .inl (.inl h2), fun l hl => q l _ (Same.trans s2 (same_upd hl)) ?_⟩
      rw [upd_same, hrl]
      cases bd <;> rfl
theorem sc_check_work : FnScope ["program", "value"] ["program", "value"] (defScope (topS 74)) := ⟨rfl, rfl, rfl, by decide +kernel, rfl, by decide +kernel, by decide +kernel⟩
theorem bd_check_work {K : PySem.W.Frag} {f : Addr} {fd : FuncData} (F : FnP K "check_work" (topS 74) f fd) : Binds K fd ["program", "value"] [] := F.bindsN fun _ _ _ _ _ _ us hl => match us, hl with | [_, _], _ => rfl
def spCw : Sp := fun vs H Q _ => ∃ (v x : V) (z : Str) (bd : Option Wk) (t : Wk), vs = [v, x] ∧ KeyV H v (progK z bd) ∧ KeyV H x t.key ∧ t.In z ∧ (t.fns = [] ∨ bd.isSome = true) ∧ ∀ H', Same H H' → Q .non H'
theorem ok_check_work (T : Tx w K mg) : Dk P w K mg base 7 "check_work" ["program", "value"] spCw := by
  have D_is_work_2 := ok_is_work_2 (P := P) (w := w) (base := base) T
  have D_work_mistakes := ok_work_mistakes (P := P) (w := w) (base := base) T
  have D_known_names := ok_known_names (P := P) (w := w) (base := base) T
  obtain ⟨fd, F⟩ := T.d_check_work
  refine ⟨⟨fd, F.ok sc_check_work (fun vs H Q E h => ?_) (fun cdv A outer s H vs Q E hr h => ?_), bd_check_work F⟩, F.kp, T.g_check_work⟩
  · obtain ⟨v, x, z, bd, t, rfl, _⟩ := h
    rfl
  · obtain ⟨v, x, z, bd, t, rfl, hv, hx, ht, hf, q⟩ := h
    obtain ⟨_, c_MOST_SIZE⟩ := T.c_MOST_SIZE
    obtain ⟨a, b, rs, rfl, ha, hb, hrs⟩ := prog_view hv
    refine ⟨_, PSs.nox (pss_cons (ps_if (pt_not (pt_val (pe_callD D_is_work_2 (hr.mono (by decide)) (pa_cons (pv 1) (pa_cons (pe_glob (v := .int 60) (by rfl) c_MOST_SIZE ⟨_, rfl⟩) pa_nil))))) (pss_one ps_dead) pss_nil)
      (pss_one (ps_if (pt_cmpR (op_neD hr.units) (pe_callR D_work_mistakes (hr.mono (by decide)) takes0 (pa_cons (pe_ix ix_tupQ (pv 0) pe_int (fun _ _ => rfl)) (pa_cons (pe_callR D_known_names (hr.mono (by decide)) takes0 (pa_cons (pv 0) pa_nil)) (pa_cons (pv 1) (pa_cons pe_str pa_nil))))) (pe_lst pa_nil) (nomark _)) (pss_one ps_dead) pss_nil))), ?_⟩
    simp only [cxOf, tYes, eq_self, if_true, if_false, wipe, rLenQ, rIxTQ, rIxLQ, rIxSQ, rInt1Q, rTupQ, rAppQ, rPopQ, rPopAtQ, rRevQ, rListS, rReprP, tLenSetT, tChain, tRetN, tRet, tSeq, tAsg, gName, tVar, tC, tCons, tNil, tCB, tOp, rI0, rI, tAndV, tOrV, tNotV, tIf, tTest, tB, tNot, tAnd, tOr, tIfS, tNext, tCallR, rIsK, rEq, rNe, tDrop, L2.start, List.map_cons, List.map_nil, List.length_cons, List.length_nil, Nat.reduceAdd, Nat.reduceSub, Nat.sub_self, List.replicate_zero, List.replicate_succ, List.append_nil, List.cons_append, List.nil_append, List.getElem?_cons_zero, List.getElem?_cons_succ, List.set_cons_zero, List.set_cons_succ, Option.some.injEq, List.cons.injEq, and_true, true_and, exists_eq_left, exists_eq_left', exists_eq_right, V.ty.injEq, V.int.injEq, V.bl.injEq, V.str.injEq, V.ref.injEq, exists_and_left, exists_const, reduceIte, reduceCtorEq, false_and, and_false, exists_false, or_false, false_or, Bool.not_true, Bool.not_false, Bool.false_eq_true, String.reduceEq, true_or, or_true, rNotT, tNNew, tNNotIn, tNGet, sNPut, tLenSetN, tPar, tAug, ipI, tDNotIn, sDPut, tDGet, tTup, tLst, tBM, tBM0, tCallD, tCall, rKdIn, tTNew, tTIn, tTGet, sTPut, Sg.tMethR, tMeth, tMakeR, tMake, tDGet2, tSAddK, rSAddK, rSInK, rSet0K, rExtend, rExtendT, tFld, sFld, tRevT, tDIn, tSl, tPart, tNoPart, tDelFrom, StX.tStar, tUn, rU]
    refine ⟨x, t, .int 60, rfl, .inr rfl, hx, ht.good, Nat.le_trans ht.deep (by decide), ht.nodes, fun H1 s1 => ⟨true, rfl, ifF rfl ⟨_, .inl (.inl (s1 _ _ ha)), _, at_0 _ _, _, z, bd, rfl, hv.tp (TP.of_same s1), fun d H2 n2 s2 h2 => ?_⟩⟩⟩
    have r2 := Same.trans s1 s2
    refine ⟨z, d, x, _, t, _, rfl, h2, hx.tp (TP.of_same r2), ht, ?_, fun l H3 n3 s3 h3 => ⟨Nat.zero_le _, fun p hp => ?_⟩⟩
    · intro y hy
      rcases hf with hf | hf
      · rw [hf] at hy; cases hy
      · have hyf : y = Str.ofString "f" := by
          obtain ⟨u, _, hu⟩ := List.mem_filterMap.mp hy
          cases u <;> simp [fnF] at hu
          exact hu.symm
        cases bd with
        | none => cases hf
        | some t0 =>
          rw [hyf]
          exact (by decide +kernel : (valV [((Sum.inr (Str.ofString "f") : Key), V.bl true)] (Sum.inr (Str.ofString "f"))).isSome = true)
    · have s4 := same_upd (o := HO.lst []) hp
      exact ⟨.list [], .list [], .lst (.inl (.inl (s4 _ _ h3))) .nil, .lst (.inl (.inl upd_same)) .nil, by decide +kernel, by decide +kernel, false, rfl, ifF rfl (q _ (Same.trans r2 (Same.trans s3 s4)))⟩
theorem sc_check_text : FnScope ["signs", "value"] ["signs", "value"] (defScope (topS 75)) := ⟨rfl, rfl, rfl, by decide +kernel, rfl, by decide +kernel, by decide +kernel⟩
theorem bd_check_text {K : PySem.W.Frag} {f : Addr} {fd : FuncData} (F : FnP K "check_text" (topS 75) f fd) : Binds K fd ["signs", "value"] [] := F.bindsN fun _ _ _ _ _ _ us hl => match us, hl with | [_, _], _ => rfl
def spCt : Sp := fun vs H Q _ => ∃ (z x : Str), vs = [.str z, .str x] ∧ txB z x = true ∧ x.length ≤ 100000 ∧ ∀ H', Same H H' → Q .non H'
theorem ok_check_text (T : Tx w K mg) : Dk P w K mg base 2 "check_text" ["signs", "value"] spCt := by
  have D_is_text_of := ok_is_text_of (P := P) (w := w) (base := base) T
  obtain ⟨fd, F⟩ := T.d_check_text
  refine ⟨⟨fd, F.ok sc_check_text (fun vs H Q E h => ?_) (fun cdv A outer s H vs Q E hr h => ?_), bd_check_text F⟩, F.kp, T.g_check_text⟩
  · obtain ⟨z, x, rfl, _⟩ := h
    rfl
  · obtain ⟨z, x, rfl, hx, hl, q⟩ := h
    refine ⟨_, PSs.nox (pss_one (ps_if (pt_not (pt_val (pe_callR D_is_text_of (hr.mono (by decide)) takes0 (pa_cons (pv 0) (pa_cons (pv 1) pa_nil))))) (pss_one ps_dead) pss_nil)), ?_⟩
    simp only [cxOf, tYes, eq_self, if_true, if_false, wipe, rLenQ, rIxTQ, rIxLQ, rIxSQ, rInt1Q, rTupQ, rAppQ, rPopQ, rPopAtQ, rRevQ, rListS, rReprP, tLenSetT, tChain, tRetN, tRet, tSeq, tAsg, gName, tVar, tC, tCons, tNil, tCB, tOp, rI0, rI, tAndV, tOrV, tNotV, tIf, tTest, tB, tNot, tAnd, tOr, tIfS, tNext, tCallR, rIsK, rEq, rNe, tDrop, L2.start, List.map_cons, List.map_nil, List.length_cons, List.length_nil, Nat.reduceAdd, Nat.reduceSub, Nat.sub_self, List.replicate_zero, List.replicate_succ, List.append_nil, List.cons_append, List.nil_append, List.getElem?_cons_zero, List.getElem?_cons_succ, List.set_cons_zero, List.set_cons_succ, Option.some.injEq, List.cons.injEq, and_true, true_and, exists_eq_left, exists_eq_left', exists_eq_right, V.ty.injEq, V.int.injEq, V.bl.injEq, V.str.injEq, V.ref.injEq, exists_and_left, exists_const, reduceIte, reduceCtorEq, false_and, and_false, exists_false, or_false, false_or, Bool.not_true, Bool.not_false, Bool.false_eq_true, String.reduceEq, true_or, or_true, rNotT, tNNew, tNNotIn, tNGet, sNPut, tLenSetN, tPar, tAug, ipI, tDNotIn, sDPut, tDGet, tTup, tLst, tBM, tBM0, tCallD, tCall, rKdIn, tTNew, tTIn, tTGet, sTPut, Sg.tMethR, tMeth, tMakeR, tMake, tDGet2, tSAddK, rSAddK, rSInK, rSet0K, rExtend, rExtendT, tFld, sFld, tRevT, tDIn, tSl, tPart, tNoPart, tDelFrom, StX.tStar, tUn, rU]
    exact ⟨z, .str x, rfl, .inl ⟨x, rfl, hl, fun H1 s1 => ⟨_, rfl, by rw [hx]; exact ifF rfl (q H1 s1)⟩⟩⟩
theorem sc_check_fun : FnScope ["program", "value"] ["program", "value"] (defScope (topS 76)) := ⟨rfl, rfl, rfl, by decide +kernel, rfl, by decide +kernel, by decide +kernel⟩
theorem bd_check_fun {K : PySem.W.Frag} {f : Addr} {fd : FuncData} (F : FnP K "check_fun" (topS 76) f fd) : Binds K fd ["program", "value"] [] := F.bindsN fun _ _ _ _ _ _ us hl => match us, hl with | [_, _], _ => rfl
def spCf : Sp := fun vs H Q _ => ∃ (v : V) (z : Str) (t : Wk), vs = [v, .str (Str.ofString "f")] ∧ KeyV H v (progK z (some t)) ∧ ∀ H', Same H H' → Q .non H'
theorem ok_check_fun (T : Tx w K mg) : Dk P w K mg base 2 "check_fun" ["program", "value"] spCf := by
  have D_fun_names := ok_fun_names (P := P) (w := w) (base := base) T
  obtain ⟨fd, F⟩ := T.d_check_fun
  refine ⟨⟨fd, F.ok sc_check_fun (fun vs H Q E h => ?_) (fun cdv A outer s H vs Q E hr h => ?_), bd_check_fun F⟩, F.kp, T.g_check_fun⟩
  · obtain ⟨v, z, t, rfl, _⟩ := h
    rfl
  · obtain ⟨v, z, t, rfl, hv, q⟩ := h
    refine ⟨_, PSs.nox (pss_one (ps_if (PW.pt (pw_or (pt_not (pt_val (pe_callB call_isK (by rfl) T.f_isinstance PyProof.Rows.boot_isinstance (pa_cons (pv 1) (pa_cons (pe_bltn (v := .ty "str") (by rfl) T.f_str PyProof.Rows.boot_str rfl) pa_nil))))) (pw_or1 (pt_cmpR (show OpR _ _ (rIn K true) by exact op_notIn_seq) (pv 1) (pe_callR D_fun_names (hr.mono (by decide)) takes0 (pa_cons (pv 0) pa_nil)) rfl)))) (pss_one ps_dead) pss_nil)), ?_⟩
    simp only [cxOf, tYes, eq_self, if_true, if_false, wipe, rLenQ, rIxTQ, rIxLQ, rIxSQ, rInt1Q, rTupQ, rAppQ, rPopQ, rPopAtQ, rRevQ, rListS, rReprP, tLenSetT, tChain, tRetN, tRet, tSeq, tAsg, gName, tVar, tC, tCons, tNil, tCB, tOp, rI0, rI, tAndV, tOrV, tNotV, tIf, tTest, tB, tNot, tAnd, tOr, tIfS, tNext, tCallR, rIsK, rEq, rNe, tDrop, L2.start, List.map_cons, List.map_nil, List.length_cons, List.length_nil, Nat.reduceAdd, Nat.reduceSub, Nat.sub_self, List.replicate_zero, List.replicate_succ, List.append_nil, List.cons_append, List.nil_append, List.getElem?_cons_zero, List.getElem?_cons_succ, List.set_cons_zero, List.set_cons_succ, Option.some.injEq, List.cons.injEq, and_true, true_and, exists_eq_left, exists_eq_left', exists_eq_right, V.ty.injEq, V.int.injEq, V.bl.injEq, V.str.injEq, V.ref.injEq, exists_and_left, exists_const, reduceIte, reduceCtorEq, false_and, and_false, exists_false, or_false, false_or, Bool.not_true, Bool.not_false, Bool.false_eq_true, String.reduceEq, true_or, or_true, rNotT, tNNew, tNNotIn, tNGet, sNPut, tLenSetN, tPar, tAug, ipI, tDNotIn, sDPut, tDGet, tTup, tLst, tBM, tBM0, tCallD, tCall, rKdIn, tTNew, tTIn, tTGet, sTPut, Sg.tMethR, tMeth, tMakeR, tMake, tDGet2, tSAddK, rSAddK, rSInK, rSet0K, rExtend, rExtendT, tFld, sFld, tRevT, tDIn, tSl, tPart, tNoPart, tDelFrom, StX.tStar, tUn, rU]
    refine ⟨.str _, ifF rfl ⟨v, z, some t, rfl, hv, fun l H1 s1 h1 => ⟨_, _, rfl, .inr (.inl (.inl h1)), rfl, flat_strs (l := [Str.ofString "f"]), ?_⟩⟩⟩
    refine ⟨false, ?_, ifF rfl (q H1 s1)⟩
    show V.bl (!inV (V.str (Str.ofString "f")) ([Str.ofString "f"].map V.str)) = V.bl false
    rw [in_strs]
    exact congrArg V.bl (by decide +kernel : (!([Str.ofString "f"].any fun y => decide (y = Str.ofString "f"))) = false)
end
end K08

namespace K08
open PySem PySem.Spec PyProof.Rows L2 Sg
theorem pl {f : Str} {y : V} {fs : List (Str × V)} {k : Nat} (h : fs.length ≤ k) : (putF f y fs).length ≤ k + 1 := Nat.le_trans (length_putF f y fs) (Nat.succ_le_succ h)
def rwF (rl pd : Addr) : List (Str × V) := putF "places" (.ref pd) (putF "rows" (.ref rl) [])
/-- a table of rows -/
structure Tb (P : Program) (w : World) (K : PySem.W.Frag) (H : Hp) (tb rl pd dx : Addr) (ks : List NestedKey) : Prop where
  ins : H tb = some (.ins (He.ga K "Rows") dx (rwF rl pd))
  rows : ∃ xs, H rl = some (.lst xs) ∧ KeyVs H xs ks
  places : ∃ kvs, H pd = some (dTu P w pd kvs) ∧ EntT H kvs ∧ kvs.length = ks.length ∧ (∀ (i : Nat) (k : NestedKey), ks[i]? = some k → valT kvs k = some (.int i)) ∧ ∀ (k : NestedKey) (v : V), valT kvs k = some v → ∃ i : Nat, v = .int i ∧ ks[i]? = some k
theorem Tb.mono {P : Program} {w : World} {K : PySem.W.Frag} {H H' : Hp} {tb rl pd dx : Addr} {ks : List NestedKey} (h : Tb P w K H tb rl pd dx ks) (tp : TP H H') (c1 : ∀ o, H tb = some o → H' tb = some o) (c2 : ∀ o, H rl = some o → H' rl = some o) (c3 : ∀ o, H pd = some o → H' pd = some o) : Tb P w K H' tb rl pd dx ks := by
  obtain ⟨h1, ⟨xs, h2, h3⟩, kvs, h4, h5, h6⟩ := h
  exact ⟨c1 _ h1, ⟨xs, c2 _ h2, h3.tp tp⟩, kvs, c3 _ h4, h5.mono tp, h6⟩
theorem Tb.same {P : Program} {w : World} {K : PySem.W.Frag} {H H' : Hp} {tb rl pd dx : Addr} {ks : List NestedKey} (h : Tb P w K H tb rl pd dx ks) (s : Same H H') : Tb P w K H' tb rl pd dx ks := h.mono (TP.of_same s) (fun o => s _ o) (fun o => s _ o) (fun o => s _ o)
theorem valT_old {kvs : List TE3} {k k' : NestedKey} {b : Addr} {u v : V} (h : valT kvs k' = some u) : valT (kvs ++ [(k, b, v)]) k' = some u := by
  unfold valT at *
  obtain ⟨e, he, h2⟩ := Option.map_eq_some_iff.mp h
  rw [List.find?_append, he]
  exact congrArg some h2
theorem valT_new {kvs : List TE3} {k k' : NestedKey} {b : Addr} {v : V} (h : valT kvs k' = none) : valT (kvs ++ [(k, b, v)]) k' = if k = k' then some v else none := by
  unfold valT at *
  have he : kvs.find? (fun e => decide (e.1 = k')) = none := Option.map_eq_none_iff.mp h
  rw [List.find?_append, he]
  by_cases c : k = k'
  · simp [c]
  · simp [c]
theorem key_nums {H : Hp} : ∀ ns : List Nat, KeyVs H (ns.map fun (n : Nat) => V.int (n : Int)) (ns.map fun (n : Nat) => NestedKey.num (n : Int))
  | [] => .nil
  | n :: ns => .cons (.int _) (key_nums ns)
section
variable {P : Program} {w : World} {K : PySem.W.Frag} {mg : Str → Option Value} {base : Heap}
theorem sc_Rows_m___init__ : FnScope ["self"] ["self"] (defScope (clsAt (topS 78) 0)) := ⟨rfl, rfl, rfl, by decide +kernel, rfl, by decide +kernel, by decide +kernel⟩
theorem bd_Rows_m___init__ {K : PySem.W.Frag} {fd : FuncData} (F : FnM K "Rows" "__init__" "Rows.__init__" (clsAt (topS 78) 0) [] fd) : Binds K fd ["self"] [] := F.bindsN fun _ _ _ _ _ _ us hl => match us, hl with | [_], _ => rfl
def spRi (P : Program) (w : World) (K : PySem.W.Frag) : Sp := fun vs H Q _ => ∃ x dx, vs = [.ref x] ∧ H x = some (.ins (He.ga K "Rows") dx []) ∧ ∀ rl pd H', H rl = none → H pd = none → Chg [x] H H' → Tb P w K H' x rl pd dx [] → Q .non H'
theorem ok_Rows_m___init__ (T : Tx w K mg) : DkM P w K mg base 1 "Rows" "__init__" ["self"] [] (spRi P w K) := by
  obtain ⟨fd, F⟩ := T.d_Rows_m___init__
  refine ⟨⟨fd, [], F.ok sc_Rows_m___init__ (fun vs H Q E h => ?_) (fun cdv A outer s H vs Q E hr h => ?_), bd_Rows_m___init__ F, .nil⟩⟩
  · obtain ⟨x, dx, rfl, _⟩ := h
    rfl
  · obtain ⟨x, dx, rfl, h1, q⟩ := h
    refine ⟨_, PSs.nox (pss_cons (ps_fld (pv 0) (pe_lst pa_nil) rfl)
      (pss_one (ps_fld (pv 0) pe_tnew rfl))), ?_⟩
    simp only [cxOf, tYes, eq_self, if_true, if_false, wipe, rLenQ, rIxTQ, rIxLQ, rIxSQ, rInt1Q, rTupQ, rAppQ, rPopQ, rPopAtQ, rRevQ, rListS, rReprP, tLenSetT, tChain, tRetN, tRet, tSeq, tAsg, gName, tVar, tC, tCons, tNil, tCB, tOp, rI0, rI, tAndV, tOrV, tNotV, tIf, tTest, tB, tNot, tAnd, tOr, tIfS, tNext, tCallR, rIsK, rEq, rNe, tDrop, L2.start, List.map_cons, List.map_nil, List.length_cons, List.length_nil, Nat.reduceAdd, Nat.reduceSub, Nat.sub_self, List.replicate_zero, List.replicate_succ, List.append_nil, List.cons_append, List.nil_append, List.getElem?_cons_zero, List.getElem?_cons_succ, List.set_cons_zero, List.set_cons_succ, Option.some.injEq, List.cons.injEq, and_true, true_and, exists_eq_left, exists_eq_left', exists_eq_right, V.ty.injEq, V.int.injEq, V.bl.injEq, V.str.injEq, V.ref.injEq, exists_and_left, exists_const, reduceIte, reduceCtorEq, false_and, and_false, exists_false, or_false, false_or, Bool.not_true, Bool.not_false, Bool.false_eq_true, String.reduceEq, true_or, or_true, rNotT, tNNew, tNNotIn, tNGet, sNPut, tLenSetN, tPar, tAug, ipI, tDNotIn, sDPut, tDGet, tTup, tLst, tBM, tBM0, tCallD, tCall, rKdIn, tTNew, tTIn, tTGet, sTPut, Sg.tMethR, tMeth, tMakeR, tMake, tDGet2, tSAddK, rSAddK, rSInK, rSet0K, rExtend, rExtendT, tFld, sFld, tRevT, tDIn, tSl, tPart, tNoPart, tDelFrom, StX.tStar, tUn, rU]
    refine ⟨Nat.zero_le _, fun lo hlo => ?_⟩
    have nlo : x ≠ lo := ne_of_none h1 hlo
    refine ⟨_, dx, _, (upd_ne nlo).trans h1, T.cl_Rows, T.na_Rows_rows, by decide, fun d hd => ?_⟩
    have e2 : (upd (upd H lo (.lst [])) x (.ins (He.ga K "Rows") dx (putF "rows" (.ref lo) []))) x = some (.ins (He.ga K "Rows") dx (putF "rows" (.ref lo) [])) := upd_same
    have nd : x ≠ d := ne_of_none e2 hd
    have e3 : (upd (upd H lo (.lst [])) x (.ins (He.ga K "Rows") dx (putF "rows" (.ref lo) []))) lo = some (.lst []) := (upd_ne (Ne.symm nlo)).trans upd_same
    have nld : lo ≠ d := ne_of_none e3 hd
    have hdH : H d = none := by
      rw [upd_ne (Ne.symm nd), upd_ne (Ne.symm nld)] at hd
      exact hd
    refine ⟨_, dx, _, (upd_ne nd).trans e2, T.cl_Rows, T.na_Rows_places, Nat.lt_of_le_of_lt (pl (Nat.zero_le 0)) (by decide), q lo d _ hlo hdH (fun b o hb ho => ?_) ⟨upd_same, ⟨[], ?_, .nil⟩, [], ?_, (fun e he => nomatch he), rfl, (fun i k hk => by simp at hk), fun k v hv => by cases hv⟩⟩
    · have hb : b ≠ x := by simpa using hb
      rw [upd_ne hb, upd_ne (ne_of_none (show (upd (upd H lo (.lst [])) x _) b = some o from (upd_ne hb).trans ((upd_ne (ne_of_none ho hlo)).trans ho)) hd), upd_ne hb, upd_ne (ne_of_none ho hlo)]
      exact ho
    · rw [upd_ne (Ne.symm nlo), upd_ne nld]
      exact e3
    · rw [upd_ne (Ne.symm nd)]
      exact upd_same
theorem sc_Rows_m_number : FnScope ["self", "row"] ["self", "row"] (defScope (clsAt (topS 78) 1)) := ⟨rfl, rfl, rfl, by decide +kernel, rfl, by decide +kernel, by decide +kernel⟩
theorem bd_Rows_m_number {K : PySem.W.Frag} {fd : FuncData} (F : FnM K "Rows" "number" "Rows.number" (clsAt (topS 78) 1) [] fd) : Binds K fd ["self", "row"] [] := F.bindsN fun _ _ _ _ _ _ us hl => match us, hl with | [_, _], _ => rfl
def spRn (P : Program) (w : World) (K : PySem.W.Frag) : Sp := fun vs H Q _ => ∃ tb b rl pd dx ks k, vs = [.ref tb, .ref b] ∧ Tb P w K H tb rl pd dx ks ∧ KeyAt H b k ∧ ks.length < 50000 ∧ ∀ (n : Nat) ks' H', (ks' = ks ∨ ks' = ks ++ [k]) → ks'[n]? = some k → Chg [rl, pd] H H' → TP H H' → Tb P w K H' tb rl pd dx ks' → Q (.int (n : Int)) H'
theorem ok_Rows_m_number (T : Tx w K mg) : DkM P w K mg base 1 "Rows" "number" ["self", "row"] [] (spRn P w K) := by
  obtain ⟨fd, F⟩ := T.d_Rows_m_number
  refine ⟨⟨fd, [], F.ok sc_Rows_m_number (fun vs H Q E h => ?_) (fun cdv A outer s H vs Q E hr h => ?_), bd_Rows_m_number F, .nil⟩⟩
  · obtain ⟨tb, b, rl, pd, dx, ks, k, rfl, _⟩ := h
    rfl
  · obtain ⟨tb, b, rl, pd, dx, ks, k, rfl, h1, hk, hl, q⟩ := h
    refine ⟨_, PSs.nox (pss_cons (ps_if (pt_cmp (pc_tnotin hr.units (pv 1) (pe_fld (pv 0) rfl))) (pss_cons (ps_tput hr.units (pe_fld (pv 0) rfl) (pv 1) (pe_callB call_lenQ (by rfl) T.f_len PySem.boot_len (pa_cons (pe_fld (pv 0) rfl) pa_nil)) rfl)
      (pss_one (ps_expr (pe_bm PySem.F.plainAttrs_list PySem.F.slot_list_append PySem.F.type_list_append mt_appQ (pe_fld (pv 0) rfl) (pa_cons (pv 1) pa_nil))))) pss_nil)
      (pss_one (ps_ret (pe_tget hr.units (pe_fld (pv 0) rfl) (pv 1) (fun _ _ => rfl))))), ?_⟩
    simp only [cxOf, tYes, eq_self, if_true, if_false, wipe, rLenQ, rIxTQ, rIxLQ, rIxSQ, rInt1Q, rTupQ, rAppQ, rPopQ, rPopAtQ, rRevQ, rListS, rReprP, tLenSetT, tChain, tRetN, tRet, tSeq, tAsg, gName, tVar, tC, tCons, tNil, tCB, tOp, rI0, rI, tAndV, tOrV, tNotV, tIf, tTest, tB, tNot, tAnd, tOr, tIfS, tNext, tCallR, rIsK, rEq, rNe, tDrop, L2.start, List.map_cons, List.map_nil, List.length_cons, List.length_nil, Nat.reduceAdd, Nat.reduceSub, Nat.sub_self, List.replicate_zero, List.replicate_succ, List.append_nil, List.cons_append, List.nil_append, List.getElem?_cons_zero, List.getElem?_cons_succ, List.set_cons_zero, List.set_cons_succ, Option.some.injEq, List.cons.injEq, and_true, true_and, exists_eq_left, exists_eq_left', exists_eq_right, V.ty.injEq, V.int.injEq, V.bl.injEq, V.str.injEq, V.ref.injEq, exists_and_left, exists_const, reduceIte, reduceCtorEq, false_and, and_false, exists_false, or_false, false_or, Bool.not_true, Bool.not_false, Bool.false_eq_true, String.reduceEq, true_or, or_true, rNotT, tNNew, tNNotIn, tNGet, sNPut, tLenSetN, tPar, tAug, ipI, tDNotIn, sDPut, tDGet, tTup, tLst, tBM, tBM0, tCallD, tCall, rKdIn, tTNew, tTIn, tTGet, sTPut, Sg.tMethR, tMeth, tMakeR, tMake, tDGet2, tSAddK, rSAddK, rSInK, rSet0K, rExtend, rExtendT, tFld, sFld, tRevT, tDIn, tSl, tPart, tNoPart, tDelFrom, StX.tStar, tUn, rU]
    obtain ⟨hi, ⟨xs, hr, hxs⟩, kvs, hp, hen, hlen, hA, hB⟩ := id h1
    refine ⟨_, dx, _, hi, T.cl_Rows, T.na_Rows_places, _, rfl, pd, rfl, kvs, hp, hen, k, hk, ?_⟩
    cases hv : valT kvs k with
    | some v =>
      obtain ⟨i, rfl, hik⟩ := hB _ _ hv
      exact ifF rfl ⟨_, _, _, hi, T.cl_Rows, T.na_Rows_places, _, rfl, pd, rfl, kvs, hp, hen, k, hk, _, hv, q i ks H (.inl rfl) hik (Chg.refl _ _) (TP.refl _) h1⟩
    | none =>
      refine ifT rfl ⟨_, _, _, hi, T.cl_Rows, T.na_Rows_rows, _, rfl, xs, .inl (.inl (.inl hr)), _, _, _, hi, T.cl_Rows, T.na_Rows_places, _, rfl, pd, rfl, kvs, hp, hen, k, hk, hv, ?_⟩
      have n1 : tb ≠ pd := fun e => by rw [e, hp] at hi; cases hi
      have n2 : tb ≠ rl := fun e => by rw [e, hr] at hi; cases hi
      have n3 : rl ≠ pd := fun e => by rw [e, hp] at hr; cases hr
      have hxl : xs.length = ks.length := hxs.len
      have t1 : TP H (upd H pd (dTu P w pd (kvs ++ [(k, b, .int (xs.length : Nat))]))) := tp_upd hp fun _ e => by cases e
      have g1 : (upd H pd (dTu P w pd (kvs ++ [(k, b, .int (xs.length : Nat))]))) rl = some (.lst xs) := (upd_ne n3).trans hr
      have t2 := t1.trans (tp_upd (o := HO.lst (xs ++ [V.ref b])) g1 fun _ e => by cases e)
      have g2 : (upd (upd H pd (dTu P w pd (kvs ++ [(k, b, .int (xs.length : Nat))]))) rl (.lst (xs ++ [V.ref b]))) tb = some (.ins (He.ga K "Rows") dx (rwF rl pd)) := (upd_ne n2).trans ((upd_ne n1).trans hi)
      have g3 : (upd (upd H pd (dTu P w pd (kvs ++ [(k, b, .int (xs.length : Nat))]))) rl (.lst (xs ++ [V.ref b]))) pd = some (dTu P w pd (kvs ++ [(k, b, .int (xs.length : Nat))])) := (upd_ne (Ne.symm n3)).trans upd_same
      have en2 : EntT (upd (upd H pd (dTu P w pd (kvs ++ [(k, b, .int (xs.length : Nat))]))) rl (.lst (xs ++ [V.ref b]))) (kvs ++ [(k, b, .int (xs.length : Nat))]) := fun e he => by
        rcases List.mem_append.mp he with h | h
        · exact (hen e h).mono t2
        · obtain rfl := List.mem_singleton.mp h
          exact hk.mono t2
      have hvn : valT (kvs ++ [(k, b, .int (xs.length : Nat))]) k = some (.int (xs.length : Nat)) := by rw [valT_new hv, if_pos rfl]
      refine ⟨by omega, _, _, _, (upd_ne n1).trans hi, T.cl_Rows, T.na_Rows_rows, _, rfl, lst_ty g1, xs, g1, szlt (m := 50000) (by omega), _, _, _, g2, T.cl_Rows, T.na_Rows_places, _, rfl, pd, rfl, _, g3, en2, k, hk.mono t2, _, hvn, q xs.length (ks ++ [k]) _ (.inr rfl) ?_ ?_ t2 ⟨g2, ⟨_, upd_same, ?_⟩, _, g3, en2, ?_, ?_, ?_⟩⟩
      · rw [hxl, List.getElem?_append_right (Nat.le_refl _), Nat.sub_self]
        rfl
      · exact (Chg.upd (by simp)).trans (Chg.upd (by simp))
      · exact (hxs.tp t2).app (.cons (hk.mono t2).1 .nil)
      · rw [List.length_append, List.length_append, hlen]
        rfl
      · intro i k' hk'
        by_cases hi2 : i < ks.length
        · rw [List.getElem?_append_left hi2] at hk'
          exact valT_old (hA i k' hk')
        · rw [List.getElem?_append_right (by omega)] at hk'
          have hi3 : i - ks.length < 1 := (List.getElem?_eq_some_iff.mp hk').1
          have hi4 : i = ks.length := by omega
          rw [hi4, Nat.sub_self] at hk'
          obtain rfl := Option.some.inj hk'
          rw [hvn, hxl, hi4]
      · intro k' v hv'
        cases hv2 : valT kvs k' with
        | some u =>
          rw [valT_old hv2] at hv'
          obtain rfl := Option.some.inj hv'
          obtain ⟨i, e, hi2⟩ := hB _ _ hv2
          exact ⟨i, e, by rw [List.getElem?_append_left (List.getElem?_eq_some_iff.mp hi2).1]; exact hi2⟩
        | none =>
          rw [valT_new hv2] at hv'
          by_cases c : k = k'
          · rw [if_pos c] at hv'
            obtain rfl := Option.some.inj hv'
            refine ⟨xs.length, rfl, ?_⟩
            rw [hxl, List.getElem?_append_right (Nat.le_refl _), Nat.sub_self, c]
            rfl
          · rw [if_neg c] at hv'
            cases hv'
theorem sc_Rows_m_row : FnScope ["self", "number"] ["self", "number"] (defScope (clsAt (topS 78) 2)) := ⟨rfl, rfl, rfl, by decide +kernel, rfl, by decide +kernel, by decide +kernel⟩
theorem bd_Rows_m_row {K : PySem.W.Frag} {fd : FuncData} (F : FnM K "Rows" "row" "Rows.row" (clsAt (topS 78) 2) [] fd) : Binds K fd ["self", "number"] [] := F.bindsN fun _ _ _ _ _ _ us hl => match us, hl with | [_, _], _ => rfl
def spRr (P : Program) (w : World) (K : PySem.W.Frag) : Sp := fun vs H Q _ => ∃ (tb : Addr) (n : Nat) (rl pd dx : Addr) (ks : List NestedKey) (k : NestedKey), vs = [.ref tb, .int n] ∧ Tb P w K H tb rl pd dx ks ∧ ks[n]? = some k ∧ ∀ x, KeyV H x k → Q x H
theorem ok_Rows_m_row (T : Tx w K mg) : DkM P w K mg base 1 "Rows" "row" ["self", "number"] [] (spRr P w K) := by
  obtain ⟨fd, F⟩ := T.d_Rows_m_row
  refine ⟨⟨fd, [], F.ok sc_Rows_m_row (fun vs H Q E h => ?_) (fun cdv A outer s H vs Q E hr h => ?_), bd_Rows_m_row F, .nil⟩⟩
  · obtain ⟨tb, n, rl, pd, dx, ks, k, rfl, _⟩ := h
    rfl
  · obtain ⟨tb, n, rl, pd, dx, ks, k, rfl, h1, hk, q⟩ := h
    refine ⟨_, PSs.nox (pss_one (ps_ret (pe_ix ix_listQ (pe_fld (pv 0) rfl) (pv 1) (fun _ _ => rfl)))), ?_⟩
    simp only [cxOf, tYes, eq_self, if_true, if_false, wipe, rLenQ, rIxTQ, rIxLQ, rIxSQ, rInt1Q, rTupQ, rAppQ, rPopQ, rPopAtQ, rRevQ, rListS, rReprP, tLenSetT, tChain, tRetN, tRet, tSeq, tAsg, gName, tVar, tC, tCons, tNil, tCB, tOp, rI0, rI, tAndV, tOrV, tNotV, tIf, tTest, tB, tNot, tAnd, tOr, tIfS, tNext, tCallR, rIsK, rEq, rNe, tDrop, L2.start, List.map_cons, List.map_nil, List.length_cons, List.length_nil, Nat.reduceAdd, Nat.reduceSub, Nat.sub_self, List.replicate_zero, List.replicate_succ, List.append_nil, List.cons_append, List.nil_append, List.getElem?_cons_zero, List.getElem?_cons_succ, List.set_cons_zero, List.set_cons_succ, Option.some.injEq, List.cons.injEq, and_true, true_and, exists_eq_left, exists_eq_left', exists_eq_right, V.ty.injEq, V.int.injEq, V.bl.injEq, V.str.injEq, V.ref.injEq, exists_and_left, exists_const, reduceIte, reduceCtorEq, false_and, and_false, exists_false, or_false, false_or, Bool.not_true, Bool.not_false, Bool.false_eq_true, String.reduceEq, true_or, or_true, rNotT, tNNew, tNNotIn, tNGet, sNPut, tLenSetN, tPar, tAug, ipI, tDNotIn, sDPut, tDGet, tTup, tLst, tBM, tBM0, tCallD, tCall, rKdIn, tTNew, tTIn, tTGet, sTPut, Sg.tMethR, tMeth, tMakeR, tMake, tDGet2, tSAddK, rSAddK, rSInK, rSet0K, rExtend, rExtendT, tFld, sFld, tRevT, tDIn, tSl, tPart, tNoPart, tDelFrom, StX.tStar, tUn, rU]
    obtain ⟨hi, ⟨xs, hr, hxs⟩, _⟩ := h1
    obtain ⟨x, hx⟩ : ∃ x, xs[n]? = some x := ⟨_, List.getElem?_eq_getElem (by rw [hxs.len]; exact (List.getElem?_eq_some_iff.mp hk).1)⟩
    obtain ⟨k', hk', hkv⟩ := hxs.get hx
    rw [hk] at hk'
    obtain rfl := Option.some.inj hk'
    exact ⟨_, _, _, hi, T.cl_Rows, T.na_Rows_rows, _, rfl, xs, .inl (.inl hr), x, atI_nat (j := n) hx, q x hkv⟩
theorem sc_taken : FnScope ["numbers", "many", "first", "kept"] ["numbers", "many"] (defScope (topS 83)) := ⟨rfl, rfl, rfl, by decide +kernel, rfl, by decide +kernel, by decide +kernel⟩
theorem bd_taken {K : PySem.W.Frag} {f : Addr} {fd : FuncData} (F : FnP K "taken" (topS 83) f fd) : Binds K fd ["numbers", "many"] [] := F.bindsN fun _ _ _ _ _ _ us hl => match us, hl with | [_, _], _ => rfl
def spTk : Sp := fun vs H Q _ => ∃ (a : Addr) (xs ys : List V), vs = [.ref a, .int (ys.length : Nat)] ∧ H a = some (.lst (xs ++ ys)) ∧ ∀ l H', H l = none → Chg [a] H H' → TP H H' → H' a = some (.lst xs) → H' l = some (.lst ys) → Q (.ref l) H'
theorem ok_taken (T : Tx w K mg) : Dk P w K mg base 1 "taken" ["numbers", "many"] spTk := by
  obtain ⟨fd, F⟩ := T.d_taken
  refine ⟨⟨fd, F.ok sc_taken (fun vs H Q E h => ?_) (fun cdv A outer s H vs Q E hr h => ?_), bd_taken F⟩, F.kp, T.g_taken⟩
  · obtain ⟨a, xs, ys, rfl, _⟩ := h
    rfl
  · obtain ⟨a, xs, ys, rfl, h1, q⟩ := h
    refine ⟨_, PSs.nox (pss_cons (ps_set (i := 2) sc_taken.nd rfl (.inl rfl) (pe_op op_sub (pe_callB call_lenQ (by rfl) T.f_len PySem.boot_len (pa_cons (pv 0) pa_nil)) (pv 1)))
      (pss_cons (ps_set (i := 3) sc_taken.nd rfl (.inl rfl) (pe_slice sl_list (pv 0) (po_some (pv 2)) po_none))
      (pss_cons (ps_delFrom (pv 0) (pv 2))
      (pss_one (ps_ret (pv 3)))))), ?_⟩
    simp only [cxOf, tYes, eq_self, if_true, if_false, wipe, rLenQ, rIxTQ, rIxLQ, rIxSQ, rInt1Q, rTupQ, rAppQ, rPopQ, rPopAtQ, rRevQ, rListS, rReprP, tLenSetT, tChain, tRetN, tRet, tSeq, tAsg, gName, tVar, tC, tCons, tNil, tCB, tOp, rI0, rI, tAndV, tOrV, tNotV, tIf, tTest, tB, tNot, tAnd, tOr, tIfS, tNext, tCallR, rIsK, rEq, rNe, tDrop, L2.start, List.map_cons, List.map_nil, List.length_cons, List.length_nil, Nat.reduceAdd, Nat.reduceSub, Nat.sub_self, List.replicate_zero, List.replicate_succ, List.append_nil, List.cons_append, List.nil_append, List.getElem?_cons_zero, List.getElem?_cons_succ, List.set_cons_zero, List.set_cons_succ, Option.some.injEq, List.cons.injEq, and_true, true_and, exists_eq_left, exists_eq_left', exists_eq_right, V.ty.injEq, V.int.injEq, V.bl.injEq, V.str.injEq, V.ref.injEq, exists_and_left, exists_const, reduceIte, reduceCtorEq, false_and, and_false, exists_false, or_false, false_or, Bool.not_true, Bool.not_false, Bool.false_eq_true, String.reduceEq, true_or, or_true, rNotT, tNNew, tNNotIn, tNGet, sNPut, tLenSetN, tPar, tAug, ipI, tDNotIn, sDPut, tDGet, tTup, tLst, tBM, tBM0, tCallD, tCall, rKdIn, tTNew, tTIn, tTGet, sTPut, Sg.tMethR, tMeth, tMakeR, tMake, tDGet2, tSAddK, rSAddK, rSInK, rSet0K, rExtend, rExtendT, tFld, sFld, tRevT, tDIn, tSl, tPart, tNoPart, tDelFrom, StX.tStar, tUn, rU]
    refine ⟨xs ++ ys, .inl (.inl (.inl h1)), ?_⟩
    have e0 : (((xs ++ ys).length : Nat) : Int) - (ys.length : Nat) = ((xs.length : Nat) : Int) := by
      rw [List.length_append]
      omega
    rw [e0]
    refine ⟨a, _, rfl, .inl (.inl h1), fun p hp => ?_⟩
    have np : a ≠ p := ne_of_none h1 hp
    have e1 : cutV (xs ++ ys) (some ((xs.length : Nat) : Int)) none = ys := by
      unfold cutV
      rw [HT.sIx_nat, show HT.sIx (xs ++ ys).length (xs ++ ys).length none = (xs ++ ys).length from rfl, Nat.min_eq_left (by simp), List.drop_left, List.length_append]
      exact List.take_of_length_le (by omega)
    rw [e1]
    refine ⟨xs ++ ys, xs.length, rfl, (upd_ne np).trans h1, by simp, ?_⟩
    rw [List.take_left]
    refine q p _ hp (fun b o hb ho => ?_) ?_ upd_same ((upd_ne (Ne.symm np)).trans upd_same)
    · have hb : b ≠ a := by simpa using hb
      rw [upd_ne hb, upd_ne (ne_of_none ho hp)]
      exact ho
    · exact (TP.of_same (same_upd hp)).trans (tp_upd (q := .lst (xs ++ ys)) ((upd_ne np).trans h1) fun _ e => by cases e)
theorem sc_work_row_plan : FnScope ["work", "asked", "parts"] ["work", "asked", "parts"] (defScope (topS 81)) := ⟨rfl, rfl, rfl, by decide +kernel, rfl, by decide +kernel, by decide +kernel⟩
theorem bd_work_row_plan {K : PySem.W.Frag} {f : Addr} {fd : FuncData} (F : FnP K "work_row" (topS 81) f fd) : Binds K fd ["work", "asked", "parts"] [] := F.bindsN fun _ _ _ _ _ _ us hl => match us, hl with | [_, _, _], _ => rfl
/-- the key of the row of a work whose parts have these numbers -/
def rowK (t : Wk) (ns : List Nat) : NestedKey := match t with
  | .th _ _ => .tup (.text (Str.ofString "then") :: ns.map fun (n : Nat) => NestedKey.num (n : Int))
  | t => t.key
def spWr : Sp := fun vs H Q _ => ∃ (v : V) (t : Wk) (a l : Addr) (ns : List Nat), vs = [v, .ref a, .ref l] ∧ KeyV H v (Wk.key t) ∧ t ≠ .fn ∧ H a = some (.lst []) ∧ H l = some (.lst (ns.map fun (n : Nat) => V.int (n : Int))) ∧ ns.length ≤ 10 ∧ ∀ b H', Same H H' → KeyV H' (.ref b) (rowK t ns) → Q (.ref b) H'
theorem ok_work_row_plan (T : Tx w K mg) : Dk P w K mg base 1 "work_row_plan" ["work", "asked", "parts"] spWr := by
  obtain ⟨fd, F⟩ := T.d_work_row_plan
  refine ⟨⟨fd, F.ok sc_work_row_plan (fun vs H Q E h => ?_) (fun cdv A outer s H vs Q E hr h => ?_), bd_work_row_plan F⟩, F.kp, T.g_work_row_plan⟩
  · obtain ⟨v, t, a, l, ns, rfl, _⟩ := h
    rfl
  · obtain ⟨v, t, a, l, ns, rfl, hv, hne, ha, hl, hn, q⟩ := h
    obtain ⟨c, xs, rfl, hc, hx⟩ := wk_view hv
    refine ⟨_, PSs.nox (pss_cons (ps_if (pt_cmpR op_eq (pe_ix ix_tupQ (pv 0) pe_int (fun _ _ => rfl)) pe_str (nomark _)) (pss_one (ps_ret (pe_tup (pa_cons pe_str (pa_cons (pe_ix ix_listQ (pv 1) pe_int (fun _ _ => rfl)) (pa_cons (pe_ix ix_tupQ (pv 0) pe_int (fun _ _ => rfl)) (pa_cons (pe_ix ix_listQ (pv 2) pe_int (fun _ _ => rfl)) pa_nil))))))) pss_nil)
      (pss_cons (ps_if (pt_cmpR (show OpR _ _ (rIn K false) by exact op_in_seq) (pe_ix ix_tupQ (pv 0) pe_int (fun _ _ => rfl)) (pe_tup (pa_cons pe_str (pa_cons pe_str (pa_cons pe_str pa_nil)))) rfl) (pss_one (ps_ret (pe_tup (pa_cons (pe_ix ix_tupQ (pv 0) pe_int (fun _ _ => rfl)) (StX.pa_star (pv 1) (StX.pa_star (pv 2) pa_nil)))))) pss_nil)
      (pss_one (ps_ret (pv 0))))), ?_⟩
    simp only [cxOf, tYes, eq_self, if_true, if_false, wipe, rLenQ, rIxTQ, rIxLQ, rIxSQ, rInt1Q, rTupQ, rAppQ, rPopQ, rPopAtQ, rRevQ, rListS, rReprP, tLenSetT, tChain, tRetN, tRet, tSeq, tAsg, gName, tVar, tC, tCons, tNil, tCB, tOp, rI0, rI, tAndV, tOrV, tNotV, tIf, tTest, tB, tNot, tAnd, tOr, tIfS, tNext, tCallR, rIsK, rEq, rNe, tDrop, L2.start, List.map_cons, List.map_nil, List.length_cons, List.length_nil, Nat.reduceAdd, Nat.reduceSub, Nat.sub_self, List.replicate_zero, List.replicate_succ, List.append_nil, List.cons_append, List.nil_append, List.getElem?_cons_zero, List.getElem?_cons_succ, List.set_cons_zero, List.set_cons_succ, Option.some.injEq, List.cons.injEq, and_true, true_and, exists_eq_left, exists_eq_left', exists_eq_right, V.ty.injEq, V.int.injEq, V.bl.injEq, V.str.injEq, V.ref.injEq, exists_and_left, exists_const, reduceIte, reduceCtorEq, false_and, and_false, exists_false, or_false, false_or, Bool.not_true, Bool.not_false, Bool.false_eq_true, String.reduceEq, true_or, or_true, rNotT, tNNew, tNNotIn, tNGet, sNPut, tLenSetN, tPar, tAug, ipI, tDNotIn, sDPut, tDGet, tTup, tLst, tBM, tBM0, tCallD, tCall, rKdIn, tTNew, tTIn, tTGet, sTPut, Sg.tMethR, tMeth, tMakeR, tMake, tDGet2, tSAddK, rSAddK, rSInK, rSet0K, rExtend, rExtendT, tFld, sFld, tRevT, tDIn, tSl, tPart, tNoPart, tDelFrom, StX.tStar, tUn, rU]
    have hS : SqT K H c (.str t.word :: xs) := .inl (.inl hc)
    cases t with
    | fn => exact absurd rfl hne
    | th b1 c1 =>
      refine word_no hc (by decide +kernel : Str.ofString "then" ≠ _) ⟨_, hS, _, at_0 _ _, in3 (by decide +kernel : ([Str.ofString "only", Str.ofString "if", Str.ofString "then"].any fun y => decide (y = Str.ofString "then")) = true) fun p hp => ⟨true, rfl, ifT rfl ?_⟩⟩
      have s1 := same_upd (o := HO.tup [.str (Str.ofString "only"), .str (Str.ofString "if"), .str (Str.ofString "then")]) hp
      refine ⟨_, .inl (.inl (s1 _ _ hc)), _, at_0 _ _, ?_⟩
      refine ⟨[], .inr (.inl (.inl (s1 _ _ ha))), _, .inr (.inl (.inl (s1 _ _ hl))), ?_, fun p1 hp1 => q p1 _ (Same.trans s1 (same_upd hp1)) (.tup upd_same (.cons (.str _) ?_))⟩
      · rw [List.nil_append, List.length_map]
        exact szle (m := 11) (by omega)
      · rw [List.nil_append]
        exact key_nums ns
    | st s =>
      refine word_no hc (st_ne (by decide +kernel)) ⟨_, hS, _, at_0 _ _, in3 (st_any (by decide +kernel)) fun p hp => ⟨false, rfl, ifF rfl (q c _ (same_upd hp) (hv.tp (TP.of_same (same_upd hp))))⟩⟩
end
end K08

namespace K08
open PySem PySem.Spec PyProof.Rows L2 Sg
structure PAd where
  x : Addr
  dx : Addr
  tb : Addr
  rl : Addr
  pd : Addr
  dt : Addr
  nw : Addr
  wp : Addr
def plF (A : PAd) (z ns st sp : V) : List (Str × V) :=
  putF "work_places" (.ref A.wp) (putF "set_places" sp (putF "work_table" (.ref A.tb) (putF "set_table" st (putF "named_works" (.ref A.nw) (putF "named_sets" ns (putF "signs" z []))))))
def wpL (pl : Option Nat) : List (Key × V) := match pl with
  | some n => [(Sum.inr (Str.ofString "f"), .int (n : Int))]
  | none => []
/-- a plan: its rows, the program's work, the number of it -/
structure Pn (P : Program) (w : World) (K : PySem.W.Frag) (A : PAd) (H : Hp) (ks : List NestedKey) (bd : Option Wk) (pl : Option Nat) : Prop where
  ins : ∃ z ns st sp, H A.x = some (.ins (He.ga K "Plan") A.dx (plF A z ns st sp))
  tab : Tb P w K H A.tb A.rl A.pd A.dt ks
  nwk : ∃ v, H A.nw = some (.dK (knL bd v)) ∧ ∀ t, bd = some t → KeyV H v t.key
  wpl : H A.wp = some (.dK (wpL pl))
  nwp : A.nw ≠ A.wp
theorem Pn.mono {P : Program} {w : World} {K : PySem.W.Frag} {A : PAd} {H H' : Hp} {ks : List NestedKey} {bd : Option Wk} {pl : Option Nat} (h : Pn P w K A H ks bd pl) (tp : TP H H') (c : ∀ b ∈ [A.x, A.tb, A.rl, A.pd, A.nw, A.wp], ∀ o, H b = some o → H' b = some o) : Pn P w K A H' ks bd pl := by
  obtain ⟨⟨z, ns, st, sp, h1⟩, h2, ⟨v, h3, h4⟩, h5, h6⟩ := h
  exact ⟨⟨z, ns, st, sp, c _ (by simp) _ h1⟩, h2.mono tp (c _ (by simp)) (c _ (by simp)) (c _ (by simp)), ⟨v, c _ (by simp) _ h3, fun t e => (h4 t e).tp tp⟩, c _ (by simp) _ h5, h6⟩
theorem Pn.same {P : Program} {w : World} {K : PySem.W.Frag} {A : PAd} {H H' : Hp} {ks : List NestedKey} {bd : Option Wk} {pl : Option Nat} (h : Pn P w K A H ks bd pl) (s : Same H H') : Pn P w K A H' ks bd pl := h.mono (TP.of_same s) fun b _ o => s b o
theorem chg_tp {S : List Addr} {H H' : Hp} (c : Chg S H H') (h : ∀ a ∈ S, ∀ xs, H a ≠ some (.tup xs)) : TP H H' := fun b xs hb => c b _ (fun z => h b z xs hb) hb
theorem fresh_back {x a : Addr} {H H' : Hp} {o : HO} (c : Chg [x] H H') (hx : H' x = some o) (ha : H' a = none) : H a = none := by
  cases e : H a with
  | none => rfl
  | some o' =>
    by_cases ax : a = x
    · rw [ax, hx] at ha
      cases ha
    · rw [c a o' (by simpa using ax) e] at ha
      cases ha
theorem mk_same {H H' : Hp} {a d : Addr} {o q : HO} (ha : H a = none) (hd : H d = none) (c : Chg [a] (upd (upd H d o) a q) H') : Same H H' := fun b p hb => by
  have n1 := ne_of_none hb ha
  have n2 := ne_of_none hb hd
  refine c b p (by simpa using n1) ?_
  rw [upd_ne n1, upd_ne n2]
  exact hb
theorem mk_back {H : Hp} {a d b : Addr} {o q : HO} (h : (upd (upd H d o) a q) b = none) : H b = none := by
  by_cases e1 : b = a
  · rw [e1, upd_same] at h; cases h
  · rw [upd_ne e1] at h
    by_cases e2 : b = d
    · rw [e2, upd_same] at h; cases h
    · rwa [upd_ne e2] at h
section
variable {P : Program} {w : World} {K : PySem.W.Frag} {mg : Str → Option Value} {base : Heap}
theorem sc_Plan_m___init__ : FnScope ["self", "program", "set_table", "work_table", "item"] ["self", "program", "set_table", "work_table"] (defScope (clsAt (topS 84) 0)) := ⟨rfl, rfl, rfl, by decide +kernel, rfl, by decide +kernel, by decide +kernel⟩
def spPi (P : Program) (w : World) (K : PySem.W.Frag) : Sp := fun vs H Q _ => ∃ (x dx : Addr) (v : V) (z : Str) (bd : Option Wk), vs = [.ref x, v, .non, .non] ∧ H x = some (.ins (He.ga K "Plan") dx []) ∧ KeyV H v (progK z bd) ∧ ∀ (A : PAd) H', A.x = x → A.dx = dx → H A.rl = none → H A.pd = none → H A.wp = none → Chg [x] H H' → Pn P w K A H' [] bd none → Q .non H'
theorem ok_Plan_m___init__ (T : Tx w K mg) : DkM P w K mg base 3 "Plan" "__init__" ["self", "program", "set_table", "work_table"] [.non, .non] (spPi P w K) := by
  have D_Rows_m___init__ := ok_Rows_m___init__ (P := P) (w := w) (base := base) T
  obtain ⟨fd, F⟩ := T.d_Plan_m___init__
  have B : ∃ ds, Vals [V.non, V.non] ds ∧ Binds K fd ["self", "program", "set_table", "work_table"] ds := F.binds1 (n := 2) (j := 0) (by decide) (by rfl) fun T kV doc pm an cdv ct us its hu hi => match us, its, hu, hi with | [_, _], [_, _], _, _ => ⟨_, rfl, rfl⟩
  obtain ⟨ds, hd, hb⟩ := B
  refine ⟨⟨fd, ds, F.ok sc_Plan_m___init__ (fun vs H Q E h => ?_) (fun cdv A outer s H vs Q E hr h => ?_), hb, hd⟩⟩
  · obtain ⟨x, dx, v, z, bd, rfl, _⟩ := h
    rfl
  · obtain ⟨x, dx, v, z, bd, rfl, h1, hv, q⟩ := h
    obtain ⟨a, b, rs, rfl, ha, hb, hrs⟩ := prog_view hv
    refine ⟨_, PSs.nox (pss_cons (ps_fld (pv 0) (pe_ix ix_tupQ (pv 1) pe_int (fun _ _ => rfl)) rfl)
      (pss_cons (ps_fld (pv 0) (pe_dc (own := [("item", 4)]) rfl sc_Plan_m___init__.nd (pi_tup (pe_ix ix_tupQ (pv 1) pe_int (fun _ _ => rfl))) (blkOk_by (own := [("item", 4)]) (N := ["self", "program", "set_table", "work_table", "item"]) (sc := defScope (clsAt (topS 84) 0)) (by decide +kernel)) (fun _ _ _ _ _ => (pg_name (i := 4) sc_Plan_m___init__.nd rfl (.inl rfl))) (fun _ _ _ _ _ => (pts_one (pt_cmpR op_eq (pe_ix (show IxR _ (rIxTQ K) by exact ix_tupQ) (pv 4) pe_int (fun _ _ => rfl)) pe_str (nomark _)))) (fun _ _ _ _ _ => (pe_ix (show IxR _ (rIxTQ K) by exact ix_tupQ) (pv 4) pe_int (fun _ _ => rfl))) (fun _ _ _ _ _ => (pe_ix (show IxR _ (rIxTQ K) by exact ix_tupQ) (pv 4) pe_int (fun _ _ => rfl)))) rfl)
      (pss_cons (ps_fld (pv 0) (pe_dc (own := [("item", 4)]) rfl sc_Plan_m___init__.nd (pi_tup (pe_ix ix_tupQ (pv 1) pe_int (fun _ _ => rfl))) (blkOk_by (own := [("item", 4)]) (N := ["self", "program", "set_table", "work_table", "item"]) (sc := defScope (clsAt (topS 84) 0)) (by decide +kernel)) (fun _ _ _ _ _ => (pg_name (i := 4) sc_Plan_m___init__.nd rfl (.inl rfl))) (fun _ _ _ _ _ => (pts_one (pt_cmpR op_eq (pe_ix (show IxR _ (rIxTQ K) by exact ix_tupQ) (pv 4) pe_int (fun _ _ => rfl)) pe_str (nomark _)))) (fun _ _ _ _ _ => (pe_ix (show IxR _ (rIxTQ K) by exact ix_tupQ) (pv 4) pe_int (fun _ _ => rfl))) (fun _ _ _ _ _ => (pe_ix (show IxR _ (rIxTQ K) by exact ix_tupQ) (pv 4) pe_int (fun _ _ => rfl)))) rfl)
      (pss_cons (ps_fld (pv 0) (pe_ifExp (pt_cmpR op_isN (pv 2) pe_non (nomark _)) (pe_makeR0 T.mk_Rows T.g_Rows D_Rows_m___init__ (hr.mono (by decide))) (pv 2)) rfl)
      (pss_cons (ps_fld (pv 0) (pe_ifExp (pt_cmpR op_isN (pv 3) pe_non (nomark _)) (pe_makeR0 T.mk_Rows T.g_Rows D_Rows_m___init__ (hr.mono (by decide))) (pv 3)) rfl)
      (pss_cons (ps_fld (pv 0) pe_dnewK rfl)
      (pss_one (ps_fld (pv 0) pe_dnewK rfl)))))))), ?_⟩
    simp only [cxOf, tYes, eq_self, if_true, if_false, wipe, rLenQ, rIxTQ, rIxLQ, rIxSQ, rInt1Q, rTupQ, rAppQ, rPopQ, rPopAtQ, rRevQ, rListS, rReprP, tLenSetT, tChain, tRetN, tRet, tSeq, tAsg, gName, tVar, tC, tCons, tNil, tCB, tOp, rI0, rI, tAndV, tOrV, tNotV, tIf, tTest, tB, tNot, tAnd, tOr, tIfS, tNext, tCallR, rIsK, rEq, rNe, tDrop, L2.start, List.map_cons, List.map_nil, List.length_cons, List.length_nil, Nat.reduceAdd, Nat.reduceSub, Nat.sub_self, List.replicate_zero, List.replicate_succ, List.append_nil, List.cons_append, List.nil_append, List.getElem?_cons_zero, List.getElem?_cons_succ, List.set_cons_zero, List.set_cons_succ, Option.some.injEq, List.cons.injEq, and_true, true_and, exists_eq_left, exists_eq_left', exists_eq_right, V.ty.injEq, V.int.injEq, V.bl.injEq, V.str.injEq, V.ref.injEq, exists_and_left, exists_const, reduceIte, reduceCtorEq, false_and, and_false, exists_false, or_false, false_or, Bool.not_true, Bool.not_false, Bool.false_eq_true, String.reduceEq, true_or, or_true, rNotT, tNNew, tNNotIn, tNGet, sNPut, tLenSetN, tPar, tAug, ipI, tDNotIn, sDPut, tDGet, tTup, tLst, tBM, tBM0, tCallD, tCall, rKdIn, tTNew, tTIn, tTGet, sTPut, Sg.tMethR, tMeth, tMakeR, tMake, tDGet2, tSAddK, rSAddK, rSInK, rSet0K, rExtend, rExtendT, tFld, sFld, tRevT, tDIn, tSl, tPart, tNoPart, tDelFrom, StX.tStar, tUn, rU]
    have hrl : rs.length = bd.toList.length := by rw [hrs.len, List.length_map]
    have it : ∀ {H' : Hp} {i : Nat} {y : V}, TP H H' → rs[i]? = some y → ∃ t c u, bd = some t ∧ i = 0 ∧ y = .ref c ∧ H' c = some (.tup [.str (Str.ofString "fun"), .str (Str.ofString "f"), u]) ∧ KeyV H' u t.key := fun {H' i y} tp hy => by
      obtain ⟨k, hk, hkv⟩ := hrs.get hy
      rw [List.getElem?_map] at hk
      obtain ⟨t, ht, rfl⟩ := Option.map_eq_some_iff.mp hk
      have ht2 : bd = some t := by simpa using List.mem_of_getElem? ht
      obtain ⟨c, u, e1, e2, e3⟩ := item_view (hkv.tp tp)
      refine ⟨t, c, u, ht2, ?_, e1, e2, e3⟩
      have := (List.getElem?_eq_some_iff.mp ht).1
      rw [ht2] at this
      have e5 : (some t : Option Wk).toList.length = 1 := rfl
      omega
    refine ⟨_, .inl (.inl ha), _, rfl, _, dx, _, h1, T.cl_Plan, T.na_Plan_signs, by decide, ?_⟩
    have c1 : Chg [x] H (upd H x (.ins (He.ga K "Plan") dx (putF "signs" (.str z) []))) := Chg.upd (by simp)
    have t1 : TP H (upd H x (.ins (He.ga K "Plan") dx (putF "signs" (.str z) []))) := tp_upd h1 fun _ e => by cases e
    have x1 : (upd H x (.ins (He.ga K "Plan") dx (putF "signs" (.str z) []))) x = some (.ins (He.ga K "Plan") dx (putF "signs" (.str z) [])) := upd_same
    generalize upd H x (.ins (He.ga K "Plan") dx (putF "signs" (.str z) [])) = H1 at c1 t1 x1
    refine ⟨_, rfl, _, _, .inl (.inl (t1 _ _ ha)), rfl, b, rfl, ⟨_, .inl (.inl (t1 _ _ hb))⟩, fun D1 hD1 => ?_⟩
    refine dc_gen (J := Itt K b) (n := rs.length) (fun i H' => Same H1 H' ∧ H' D1 = some (.dK [])) ⟨same_upd hD1, upd_same⟩ (fun i H' hi e => ⟨_, _, .inl (.inl (e.1 _ _ (t1 _ _ hb))), List.getElem?_eq_getElem hi⟩) (fun H' e => ⟨_, .inl (.inl (e.1 _ _ (t1 _ _ hb))), Nat.le_refl _⟩) ?_ ?_
    · rintro i y H2 H3 hi ⟨s2, h2⟩ ⟨rfl, hx2⟩
      have hx2 := hx2 _ (.inl (.inl (s2 _ _ (t1 _ _ hb))))
      obtain ⟨t, c, u, _, _, rfl, hc, _⟩ := it (t1.trans (TP.of_same s2)) hx2
      refine ⟨rfl, ?_⟩
      simp only [cxOf, tYes, eq_self, if_true, if_false, wipe, rLenQ, rIxTQ, rIxLQ, rIxSQ, rInt1Q, rTupQ, rAppQ, rPopQ, rPopAtQ, rRevQ, rListS, rReprP, tLenSetT, tChain, tRetN, tRet, tSeq, tAsg, gName, tVar, tC, tCons, tNil, tCB, tOp, rI0, rI, tAndV, tOrV, tNotV, tIf, tTest, tB, tNot, tAnd, tOr, tIfS, tNext, tCallR, rIsK, rEq, rNe, tDrop, L2.start, List.map_cons, List.map_nil, List.length_cons, List.length_nil, Nat.reduceAdd, Nat.reduceSub, Nat.sub_self, List.replicate_zero, List.replicate_succ, List.append_nil, List.cons_append, List.nil_append, List.getElem?_cons_zero, List.getElem?_cons_succ, List.set_cons_zero, List.set_cons_succ, Option.some.injEq, List.cons.injEq, and_true, true_and, exists_eq_left, exists_eq_left', exists_eq_right, V.ty.injEq, V.int.injEq, V.bl.injEq, V.str.injEq, V.ref.injEq, exists_and_left, exists_const, reduceIte, reduceCtorEq, false_and, and_false, exists_false, or_false, false_or, Bool.not_true, Bool.not_false, Bool.false_eq_true, String.reduceEq, true_or, or_true, rNotT, tNNew, tNNotIn, tNGet, sNPut, tLenSetN, tPar, tAug, ipI, tDNotIn, sDPut, tDGet, tTup, tLst, tBM, tBM0, tCallD, tCall, rKdIn, tTNew, tTIn, tTGet, sTPut, Sg.tMethR, tMeth, tMakeR, tMake, tDGet2, tSAddK, rSAddK, rSInK, rSet0K, rExtend, rExtendT, tFld, sFld, tRevT, tDIn, tSl, tPart, tNoPart, tDelFrom, StX.tStar, tUn, rU]
      exact word_no hc (by decide +kernel : Str.ofString "fun" ≠ _) ⟨s2, h2⟩
    rintro H2 ⟨s2, g2⟩
    refine ⟨_, dx, _, s2 _ _ x1, T.cl_Plan, T.na_Plan_named_sets, Nat.lt_of_le_of_lt (pl (Nat.zero_le 0)) (by decide), ?_⟩
    have c3 := (c1.trans (Chg.of_same s2)).trans (Chg.upd (p := x) (o := .ins (He.ga K "Plan") dx (putF "named_sets" (.ref D1) (putF "signs" (.str z) []))) (by simp))
    have x3 : (upd H2 x (.ins (He.ga K "Plan") dx (putF "named_sets" (.ref D1) (putF "signs" (.str z) [])))) x = _ := upd_same
    generalize upd H2 x (.ins (He.ga K "Plan") dx (putF "named_sets" (.ref D1) (putF "signs" (.str z) []))) = H3 at c3 x3
    have t3 : TP H H3 := chg_tp c3 fun a ha xs e => by (obtain rfl := List.mem_singleton.mp ha; rw [h1] at e; cases e)
    refine ⟨_, rfl, _, _, .inl (.inl (t3 _ _ ha)), rfl, b, rfl, ⟨_, .inl (.inl (t3 _ _ hb))⟩, fun D2 hD2 => ?_⟩
    refine dc_gen (J := Itt K b) (n := rs.length) (fun i H' => Same H3 H' ∧ ∃ v, H' D2 = some (.dK (if i = 0 then [] else knL bd v)) ∧ (i ≠ 0 → ∀ t, bd = some t → KeyV H' v t.key)) ⟨same_upd hD2, .non, upd_same, fun e => absurd rfl e⟩ (fun i H' hi e => ⟨_, _, .inl (.inl (e.1 _ _ (t3 _ _ hb))), List.getElem?_eq_getElem hi⟩) (fun H' e => ⟨_, .inl (.inl (e.1 _ _ (t3 _ _ hb))), Nat.le_refl _⟩) ?_ ?_
    · rintro i y H4 H5 hi ⟨s4, v, h4, _⟩ ⟨rfl, hx2⟩
      have hx2 := hx2 _ (.inl (.inl (s4 _ _ (t3 _ _ hb))))
      obtain ⟨t, c, u, rfl, rfl, rfl, hc, hu⟩ := it (t3.trans (TP.of_same s4)) hx2
      refine ⟨rfl, ?_⟩
      simp only [cxOf, tYes, eq_self, if_true, if_false, wipe, rLenQ, rIxTQ, rIxLQ, rIxSQ, rInt1Q, rTupQ, rAppQ, rPopQ, rPopAtQ, rRevQ, rListS, rReprP, tLenSetT, tChain, tRetN, tRet, tSeq, tAsg, gName, tVar, tC, tCons, tNil, tCB, tOp, rI0, rI, tAndV, tOrV, tNotV, tIf, tTest, tB, tNot, tAnd, tOr, tIfS, tNext, tCallR, rIsK, rEq, rNe, tDrop, L2.start, List.map_cons, List.map_nil, List.length_cons, List.length_nil, Nat.reduceAdd, Nat.reduceSub, Nat.sub_self, List.replicate_zero, List.replicate_succ, List.append_nil, List.cons_append, List.nil_append, List.getElem?_cons_zero, List.getElem?_cons_succ, List.set_cons_zero, List.set_cons_succ, Option.some.injEq, List.cons.injEq, and_true, true_and, exists_eq_left, exists_eq_left', exists_eq_right, V.ty.injEq, V.int.injEq, V.bl.injEq, V.str.injEq, V.ref.injEq, exists_and_left, exists_const, reduceIte, reduceCtorEq, false_and, and_false, exists_false, or_false, false_or, Bool.not_true, Bool.not_false, Bool.false_eq_true, String.reduceEq, true_or, or_true, rNotT, tNNew, tNNotIn, tNGet, sNPut, tLenSetN, tPar, tAug, ipI, tDNotIn, sDPut, tDGet, tTup, tLst, tBM, tBM0, tCallD, tCall, rKdIn, tTNew, tTIn, tTGet, sTPut, Sg.tMethR, tMeth, tMakeR, tMake, tDGet2, tSAddK, rSAddK, rSInK, rSet0K, rExtend, rExtendT, tFld, sFld, tRevT, tDIn, tSl, tPart, tNoPart, tDelFrom, StX.tStar, tUn, rU]
      have h4 : H5 D2 = some (.dK []) := h4
      refine word_yes hc rfl ⟨_, .inl (.inl hc), _, at_1 _ _ _, _, .inl (.inl hc), u, rfl, [], Sum.inr (Str.ofString "f"), rfl, h4, by rw [sizeLine_eq]; decide, snoc_same hD2 s4, u, upd_same, fun _ t' e => ?_⟩
      subst e
      exact hu.tp (tp_upd h4 fun _ e => by cases e)
    rintro H4 ⟨s4, v, g4, k4⟩
    refine ⟨_, dx, _, s4 _ _ x3, T.cl_Plan, T.na_Plan_named_works, Nat.lt_of_le_of_lt (pl (pl (Nat.zero_le 0))) (by decide), ?_⟩
    have c4 := c3.trans (Chg.of_same s4)
    have g4 : H4 D2 = some (.dK (knL bd v)) := by
      rw [g4, hrl]
      cases bd <;> rfl
    have k4 : ∀ t, bd = some t → KeyV H4 v t.key := fun t e => k4 (by rw [hrl, e]; exact Nat.one_ne_zero) t e
    refine ifT (by decide) fun st dst hst hdst nst => ?_
    have x5 : (upd H4 x (.ins (He.ga K "Plan") dx (putF "named_works" (.ref D2) (putF "named_sets" (.ref D1) (putF "signs" (.str z) []))))) x = _ := upd_same
    have c5 : Chg [x] H4 (upd H4 x (.ins (He.ga K "Plan") dx (putF "named_works" (.ref D2) (putF "named_sets" (.ref D1) (putF "signs" (.str z) []))))) := Chg.upd (by simp)
    generalize upd H4 x (.ins (He.ga K "Plan") dx (putF "named_works" (.ref D2) (putF "named_sets" (.ref D1) (putF "signs" (.str z) [])))) = H5 at hst hdst x5 c5
    refine ⟨st, dst, rfl, upd_same, fun rl0 pd0 H6 _ _ c6 _ => ⟨rfl, ?_⟩⟩
    have s6 : Same H5 H6 := mk_same hst hdst c6
    clear c6
    refine ⟨_, dx, _, s6 _ _ x5, T.cl_Plan, T.na_Plan_set_table, Nat.lt_of_le_of_lt (pl (pl (pl (Nat.zero_le 0)))) (by decide), ?_⟩
    have c7 := (c5.trans (Chg.of_same s6)).trans (Chg.upd (p := x) (o := .ins (He.ga K "Plan") dx (putF "set_table" (.ref st) (putF "named_works" (.ref D2) (putF "named_sets" (.ref D1) (putF "signs" (.str z) []))))) (by simp))
    have x7 : (upd H6 x (.ins (He.ga K "Plan") dx (putF "set_table" (.ref st) (putF "named_works" (.ref D2) (putF "named_sets" (.ref D1) (putF "signs" (.str z) [])))))) x = _ := upd_same
    refine ifT (by decide) fun wt dwt hwt hdwt nwt => ?_
    generalize upd H6 x (.ins (He.ga K "Plan") dx (putF "set_table" (.ref st) (putF "named_works" (.ref D2) (putF "named_sets" (.ref D1) (putF "signs" (.str z) []))))) = H7 at hwt hdwt x7 c7
    refine ⟨wt, dwt, rfl, upd_same, fun rl pd H8 nrl npd c8 tb8 => ⟨rfl, ?_⟩⟩
    have s8 : Same H7 H8 := mk_same hwt hdwt c8
    clear c8
    have nrl := mk_back nrl
    have npd := mk_back npd
    refine ⟨_, dx, _, s8 _ _ x7, T.cl_Plan, T.na_Plan_work_table, Nat.lt_of_le_of_lt (pl (pl (pl (pl (Nat.zero_le 0))))) (by decide), fun sp hsp => ?_⟩
    have c9 : Chg [x] H8 (upd H8 x (.ins (He.ga K "Plan") dx (putF "work_table" (.ref wt) (putF "set_table" (.ref st) (putF "named_works" (.ref D2) (putF "named_sets" (.ref D1) (putF "signs" (.str z) []))))))) := Chg.upd (by simp)
    have x9 : (upd H8 x (.ins (He.ga K "Plan") dx (putF "work_table" (.ref wt) (putF "set_table" (.ref st) (putF "named_works" (.ref D2) (putF "named_sets" (.ref D1) (putF "signs" (.str z) []))))))) x = _ := upd_same
    generalize upd H8 x (.ins (He.ga K "Plan") dx (putF "work_table" (.ref wt) (putF "set_table" (.ref st) (putF "named_works" (.ref D2) (putF "named_sets" (.ref D1) (putF "signs" (.str z) [])))))) = H9 at hsp x9 c9
    have s10 : Same H9 (upd H9 sp (.dK [])) := same_upd hsp
    generalize upd H9 sp (.dK []) = H10 at s10
    refine ⟨_, dx, _, s10 _ _ x9, T.cl_Plan, T.na_Plan_set_places, Nat.lt_of_le_of_lt (pl (pl (pl (pl (pl (Nat.zero_le 0)))))) (by decide), fun wp hwp => ?_⟩
    have c11 := (c9.trans (Chg.of_same s10)).trans (Chg.upd (p := x) (o := .ins (He.ga K "Plan") dx (putF "set_places" (.ref sp) (putF "work_table" (.ref wt) (putF "set_table" (.ref st) (putF "named_works" (.ref D2) (putF "named_sets" (.ref D1) (putF "signs" (.str z) []))))))) (by simp))
    have x11 : (upd H10 x (.ins (He.ga K "Plan") dx (putF "set_places" (.ref sp) (putF "work_table" (.ref wt) (putF "set_table" (.ref st) (putF "named_works" (.ref D2) (putF "named_sets" (.ref D1) (putF "signs" (.str z) [])))))))) x = _ := upd_same
    generalize upd H10 x (.ins (He.ga K "Plan") dx (putF "set_places" (.ref sp) (putF "work_table" (.ref wt) (putF "set_table" (.ref st) (putF "named_works" (.ref D2) (putF "named_sets" (.ref D1) (putF "signs" (.str z) []))))))) = H11 at hwp x11 c11
    have s12 : Same H11 (upd H11 wp (.dK [])) := same_upd hwp
    have g12 : (upd H11 wp (.dK [])) wp = some (.dK []) := upd_same
    have nwp : x ≠ wp := ne_of_none x11 hwp
    generalize upd H11 wp (.dK []) = H12 at s12 g12
    have c13 : Chg [x] H12 (upd H12 x (.ins (He.ga K "Plan") dx (putF "work_places" (.ref wp) (putF "set_places" (.ref sp) (putF "work_table" (.ref wt) (putF "set_table" (.ref st) (putF "named_works" (.ref D2) (putF "named_sets" (.ref D1) (putF "signs" (.str z) []))))))))) := Chg.upd (by simp)
    refine ⟨_, dx, _, s12 _ _ x11, T.cl_Plan, T.na_Plan_work_places, Nat.lt_of_le_of_lt (pl (pl (pl (pl (pl (pl (Nat.zero_le 0))))))) (by decide), ?_⟩
    have c8t : Chg [x] H8 (upd H12 x (.ins (He.ga K "Plan") dx (putF "work_places" (.ref wp) (putF "set_places" (.ref sp) (putF "work_table" (.ref wt) (putF "set_table" (.ref st) (putF "named_works" (.ref D2) (putF "named_sets" (.ref D1) (putF "signs" (.str z) []))))))))) := (c11.trans (Chg.of_same s12)).trans c13
    have c4t := (c7.trans (Chg.of_same s8)).trans c8t
    have nx : ∀ {a : Addr} {Hk : Hp} {o o' : HO}, Hk x = some o → Hk a = some o' → o ≠ o' → a ∉ [x] := fun {a Hk o o'} e1 e2 n h => by
      obtain rfl := List.mem_singleton.mp h
      rw [e1] at e2
      exact n (Option.some.inj e2)
    have x8 := s8 _ _ x7
    have nD2 : D2 ∉ [x] := nx (s4 _ _ x3) g4 (fun e => by cases e)
    have ntb : wt ∉ [x] := fun h => by
      obtain rfl := List.mem_singleton.mp h
      rw [hwt] at x7
      cases x7
    have ⟨xs8, r8, _⟩ := tb8.rows
    have ⟨kv8, p8, _⟩ := tb8.places
    have nrl2 : rl ∉ [x] := nx x8 r8 (fun e => by cases e)
    have npd2 : pd ∉ [x] := nx x8 p8 (fun e => by cases e)
    have tpf : ∀ {Hk : Hp} {o : HO}, Hk x = some o → (∀ xs, o ≠ .tup xs) → ∀ a ∈ [x], ∀ xs, Hk a ≠ some (.tup xs) := fun {Hk o} e n a ha xs h => by
      obtain rfl := List.mem_singleton.mp ha
      rw [e] at h
      exact n xs (Option.some.inj h)
    refine q ⟨x, dx, wt, rl, pd, dwt, D2, wp⟩ _ rfl rfl (fresh_back (c4.trans c7) x7 nrl) (fresh_back (c4.trans c7) x7 npd) (fresh_back ((c4.trans (c7.trans (Chg.of_same s8))).trans c11) x11 hwp) (c4.trans c4t) ⟨⟨.str z, .ref D1, .ref st, .ref sp, upd_same⟩, tb8.mono (chg_tp c8t (tpf x8 fun _ e => by cases e)) (fun o => c8t _ o ntb) (fun o => c8t _ o nrl2) (fun o => c8t _ o npd2), ⟨v, c4t _ _ nD2 g4, fun t e => (k4 t e).tp (chg_tp c4t (tpf (s4 _ _ x3) fun _ e => by cases e))⟩, ?_, ne_of_none (((c7.trans (Chg.of_same s8)).trans c11) _ _ nD2 g4) hwp⟩
    exact c13 _ _ (by simpa using Ne.symm nwp) g12
theorem sc_Plan_m_work_row : FnScope ["self", "number"] ["self", "number"] (defScope (clsAt (topS 84) 2)) := ⟨rfl, rfl, rfl, by decide +kernel, rfl, by decide +kernel, by decide +kernel⟩
theorem bd_Plan_m_work_row {K : PySem.W.Frag} {fd : FuncData} (F : FnM K "Plan" "work_row" "Plan.work_row" (clsAt (topS 84) 2) [] fd) : Binds K fd ["self", "number"] [] := F.bindsN fun _ _ _ _ _ _ us hl => match us, hl with | [_, _], _ => rfl
def spPw (P : Program) (w : World) (K : PySem.W.Frag) : Sp := fun vs H Q _ => ∃ (A : PAd) (n : Nat) (ks : List NestedKey) (k : NestedKey) (bd : Option Wk) (pl : Option Nat), vs = [.ref A.x, .int n] ∧ Pn P w K A H ks bd pl ∧ ks[n]? = some k ∧ ∀ x, KeyV H x k → Q x H
theorem ok_Plan_m_work_row (T : Tx w K mg) : DkM P w K mg base 2 "Plan" "work_row" ["self", "number"] [] (spPw P w K) := by
  have D_Rows_m_row := ok_Rows_m_row (P := P) (w := w) (base := base) T
  obtain ⟨fd, F⟩ := T.d_Plan_m_work_row
  refine ⟨⟨fd, [], F.ok sc_Plan_m_work_row (fun vs H Q E h => ?_) (fun cdv A outer s H vs Q E hr h => ?_), bd_Plan_m_work_row F, .nil⟩⟩
  · obtain ⟨A, n, ks, k, bd, pl, rfl, _⟩ := h
    rfl
  · obtain ⟨A, n, ks, k, bd, pl, rfl, hA, hk, q⟩ := h
    refine ⟨_, PSs.nox (pss_one (ps_ret (pe_methR (pe_fld (pv 0) rfl) T.cl_Rows T.m_Rows_row D_Rows_m_row (hr.mono (by decide)) (pa_cons (pv 1) pa_nil)))), ?_⟩
    simp only [cxOf, tYes, eq_self, if_true, if_false, wipe, rLenQ, rIxTQ, rIxLQ, rIxSQ, rInt1Q, rTupQ, rAppQ, rPopQ, rPopAtQ, rRevQ, rListS, rReprP, tLenSetT, tChain, tRetN, tRet, tSeq, tAsg, gName, tVar, tC, tCons, tNil, tCB, tOp, rI0, rI, tAndV, tOrV, tNotV, tIf, tTest, tB, tNot, tAnd, tOr, tIfS, tNext, tCallR, rIsK, rEq, rNe, tDrop, L2.start, List.map_cons, List.map_nil, List.length_cons, List.length_nil, Nat.reduceAdd, Nat.reduceSub, Nat.sub_self, List.replicate_zero, List.replicate_succ, List.append_nil, List.cons_append, List.nil_append, List.getElem?_cons_zero, List.getElem?_cons_succ, List.set_cons_zero, List.set_cons_succ, Option.some.injEq, List.cons.injEq, and_true, true_and, exists_eq_left, exists_eq_left', exists_eq_right, V.ty.injEq, V.int.injEq, V.bl.injEq, V.str.injEq, V.ref.injEq, exists_and_left, exists_const, reduceIte, reduceCtorEq, false_and, and_false, exists_false, or_false, false_or, Bool.not_true, Bool.not_false, Bool.false_eq_true, String.reduceEq, true_or, or_true, rNotT, tNNew, tNNotIn, tNGet, sNPut, tLenSetN, tPar, tAug, ipI, tDNotIn, sDPut, tDGet, tTup, tLst, tBM, tBM0, tCallD, tCall, rKdIn, tTNew, tTIn, tTGet, sTPut, Sg.tMethR, tMeth, tMakeR, tMake, tDGet2, tSAddK, rSAddK, rSInK, rSet0K, rExtend, rExtendT, tFld, sFld, tRevT, tDIn, tSl, tPart, tNoPart, tDelFrom, StX.tStar, tUn, rU]
    obtain ⟨⟨z, ns, st, sp, h1⟩, h2, _, _, _⟩ := hA
    exact ⟨_, _, _, h1, T.cl_Plan, T.na_Plan_work_table, _, rfl, A.tb, rfl, _, _, h2.ins, rfl, A.tb, n, A.rl, A.pd, A.dt, ks, k, rfl, h2, hk, q⟩
end
end K08

namespace K08
open PySem PySem.Spec PyProof.Rows L2 Sg
/-- what stands on the stack of number_work -/
inductive Fr where
  | see (t : Wk)
  | mk (t : Wk)
  | nm
def Fr.key : Fr → NestedKey
  | .see t => .tup [.text (Str.ofString "see"), t.key]
  | .mk t => .tup [.text (Str.ofString "make"), t.key]
  | .nm => .tup [.text (Str.ofString "name"), .text (Str.ofString "f")]
/-- what see_work puts on the stack -/
def pushW (bd : Option Wk) (pl : Option Nat) (t : Wk) : List Fr := match t with
  | .fn => match pl with
    | some _ => []
    | none => [.nm, .see (bd.getD .fn)]
  | t => .mk t :: (t.parts.reverse.map Fr.see)
def madeW (pl : Option Nat) (t : Wk) : List Nat := match t with
  | .fn => pl.toList
  | _ => []
theorem word_fun {t : Wk} (h : t ≠ .fn) : t.word ≠ Str.ofString "fun" := by
  cases t with
  | th b c => exact (by decide +kernel : Str.ofString "then" ≠ Str.ofString "fun")
  | st s => exact st_ne (by decide +kernel)
  | fn => exact absurd rfl h
theorem val_wp (n : Nat) : valV (wpL (some n)) (Sum.inr (Str.ofString "f")) = some (.int (n : Int)) := by simp [valV, wpL]
theorem val_kn (t : Wk) (v : V) : valV (knL (some t) v) (Sum.inr (Str.ofString "f")) = some v := by simp [valV, knL]
section
variable {P : Program} {w : World} {K : PySem.W.Frag} {mg : Str → Option Value} {base : Heap}
theorem sc_Plan_m_see_work : FnScope ["self", "work", "made", "left", "part"] ["self", "work", "made", "left"] (defScope (clsAt (topS 84) 6)) := ⟨rfl, rfl, rfl, by decide +kernel, rfl, by decide +kernel, by decide +kernel⟩
theorem bd_Plan_m_see_work {K : PySem.W.Frag} {fd : FuncData} (F : FnM K "Plan" "see_work" "Plan.see_work" (clsAt (topS 84) 6) [] fd) : Binds K fd ["self", "work", "made", "left"] [] := F.bindsN fun _ _ _ _ _ _ us hl => match us, hl with | [_, _, _, _], _ => rfl
def spPs (P : Program) (w : World) (K : PySem.W.Frag) : Sp := fun vs H Q _ => ∃ (A : PAd) (v : V) (t : Wk) (m l : Addr) (ms ls : List V) (fs : List Fr) (ks : List NestedKey) (bd : Option Wk) (pl : Option Nat), vs = [.ref A.x, v, .ref m, .ref l] ∧ Pn P w K A H ks bd pl ∧ KeyV H v t.key ∧ (t = .fn → bd.isSome = true) ∧ H m = some (.lst ms) ∧ H l = some (.lst ls) ∧ m ≠ l ∧ KeyVs H ls (fs.map Fr.key) ∧ ms.length ≤ 50000 ∧ ls.length ≤ 50000 ∧
  ∀ ls' H', Chg [m, l] H H' → TP H H' → H' m = some (.lst (ms ++ (madeW pl t).map fun (n : Nat) => V.int (n : Int))) → H' l = some (.lst ls') → KeyVs H' ls' ((fs ++ pushW bd pl t).map Fr.key) → Q .non H'
theorem ok_Plan_m_see_work (T : Tx w K mg) : DkM P w K mg base 2 "Plan" "see_work" ["self", "work", "made", "left"] [] (spPs P w K) := by
  have D_work_parts := ok_work_parts (P := P) (w := w) (base := base) T
  obtain ⟨fd, F⟩ := T.d_Plan_m_see_work
  refine ⟨⟨fd, [], F.ok sc_Plan_m_see_work (fun vs H Q E h => ?_) (fun cdv A outer s H vs Q E hr h => ?_), bd_Plan_m_see_work F, .nil⟩⟩
  · obtain ⟨A, v, t, m, l, ms, ls, fs, ks, bd, pl, rfl, _⟩ := h
    rfl
  · obtain ⟨A, v, t, m, l, ms, ls, fs, ks, bd, pl, rfl, hA, hv, hbd, hm, hl, nml, kl, hml, hll, q⟩ := h
    obtain ⟨a, xs, rfl, ha, hx⟩ := wk_view hv
    refine ⟨_, PSs.nox (pss_one (ps_if (pt_cmpR op_ne (pe_ix ix_tupQ (pv 1) pe_int (fun _ _ => rfl)) pe_str (nomark _)) (pss_cons (ps_expr (pe_bm PySem.F.plainAttrs_list PySem.F.slot_list_append PySem.F.type_list_append mt_appQ (pv 3) (pa_cons (pe_tup (pa_cons pe_str (pa_cons (pv 1) pa_nil))) pa_nil)))
      (pss_one (ps_for PassesOwn.never rfl (pi_tup (pe_revT (pe_callR D_work_parts (hr.mono (by decide)) takes0 (pa_cons (pv 1) pa_nil)))) (pg_name (i := 4) sc_Plan_m_see_work.nd rfl (.inl rfl)) (pss_one (ps_expr (pe_bm PySem.F.plainAttrs_list PySem.F.slot_list_append PySem.F.type_list_append mt_appQ (pv 3) (pa_cons (pe_tup (pa_cons pe_str (pa_cons (pv 4) pa_nil))) pa_nil))))))) (pss_one (ps_if (pt_cmp (pc_din (hu_of hr) (pe_ix ix_tupQ (pv 1) pe_int (fun _ _ => rfl)) (pe_fld (pv 0) rfl))) (pss_one (ps_expr (pe_bm PySem.F.plainAttrs_list PySem.F.slot_list_append PySem.F.type_list_append mt_appQ (pv 2) (pa_cons (pe_dget (hu_of hr) (pe_fld (pv 0) rfl) (pe_ix ix_tupQ (pv 1) pe_int (fun _ _ => rfl)) (fun _ _ => rfl)) pa_nil)))) (pss_cons (ps_expr (pe_bm PySem.F.plainAttrs_list PySem.F.slot_list_append PySem.F.type_list_append mt_appQ (pv 3) (pa_cons (pe_tup (pa_cons pe_str (pa_cons (pe_ix ix_tupQ (pv 1) pe_int (fun _ _ => rfl)) pa_nil))) pa_nil)))
      (pss_one (ps_expr (pe_bm PySem.F.plainAttrs_list PySem.F.slot_list_append PySem.F.type_list_append mt_appQ (pv 3) (pa_cons (pe_tup (pa_cons pe_str (pa_cons (pe_dget (hu_of hr) (pe_fld (pv 0) rfl) (pe_ix ix_tupQ (pv 1) pe_int (fun _ _ => rfl)) (fun _ _ => rfl)) pa_nil))) pa_nil))))))))), ?_⟩
    simp only [cxOf, tYes, eq_self, if_true, if_false, wipe, rLenQ, rIxTQ, rIxLQ, rIxSQ, rInt1Q, rTupQ, rAppQ, rPopQ, rPopAtQ, rRevQ, rListS, rReprP, tLenSetT, tChain, tRetN, tRet, tSeq, tAsg, gName, tVar, tC, tCons, tNil, tCB, tOp, rI0, rI, tAndV, tOrV, tNotV, tIf, tTest, tB, tNot, tAnd, tOr, tIfS, tNext, tCallR, rIsK, rEq, rNe, tDrop, L2.start, List.map_cons, List.map_nil, List.length_cons, List.length_nil, Nat.reduceAdd, Nat.reduceSub, Nat.sub_self, List.replicate_zero, List.replicate_succ, List.append_nil, List.cons_append, List.nil_append, List.getElem?_cons_zero, List.getElem?_cons_succ, List.set_cons_zero, List.set_cons_succ, Option.some.injEq, List.cons.injEq, and_true, true_and, exists_eq_left, exists_eq_left', exists_eq_right, V.ty.injEq, V.int.injEq, V.bl.injEq, V.str.injEq, V.ref.injEq, exists_and_left, exists_const, reduceIte, reduceCtorEq, false_and, and_false, exists_false, or_false, false_or, Bool.not_true, Bool.not_false, Bool.false_eq_true, String.reduceEq, true_or, or_true, rNotT, tNNew, tNNotIn, tNGet, sNPut, tLenSetN, tPar, tAug, ipI, tDNotIn, sDPut, tDGet, tTup, tLst, tBM, tBM0, tCallD, tCall, rKdIn, tTNew, tTIn, tTGet, sTPut, Sg.tMethR, tMeth, tMakeR, tMake, tDGet2, tSAddK, rSAddK, rSInK, rSet0K, rExtend, rExtendT, tFld, sFld, tRevT, tDIn, tSl, tPart, tNoPart, tDelFrom, StX.tStar, tUn, rU]
    have hS : ∀ {H'}, TP H H' → SqT K H' a (.str t.word :: xs) := fun tp => .inl (.inl (tp _ _ ha))
    obtain ⟨z0, ns0, st0, sp0, hins⟩ := hA.ins
    by_cases hne : t = .fn
    case neg =>
      have hw := word_fun hne
      refine ⟨_, hS (TP.refl _), _, at_0 _ _, rfl, ifT (by rw [decide_eq_false fun e => hw (V.str.inj e)]; rfl) ⟨lst_ty hl, by rw [sizeLine_eq]; decide, fun p hp => ?_⟩⟩
      have s1 := same_upd (o := HO.tup [.str (Str.ofString "make"), .ref a]) hp
      have gp : (upd H p (HO.tup [.str (Str.ofString "make"), .ref a])) p = some (.tup [.str (Str.ofString "make"), .ref a]) := upd_same
      generalize upd H p (HO.tup [.str (Str.ofString "make"), .ref a]) = H1 at s1 gp
      refine ⟨ls, s1 _ _ hl, szlt (m := 50000) (by omega), ?_⟩
      have t2 : TP H1 (upd H1 l (.lst (ls ++ [.ref p]))) := tp_upd (s1 _ _ hl) fun _ e => by cases e
      have c2 : Chg [l] H1 (upd H1 l (.lst (ls ++ [.ref p]))) := Chg.upd (by simp)
      have g2 : (upd H1 l (.lst (ls ++ [.ref p]))) l = some (.lst (ls ++ [.ref p])) := upd_same
      generalize upd H1 l (.lst (ls ++ [.ref p])) = H2 at t2 c2 g2
      have t02 := (TP.of_same s1).trans t2
      have k2 : KeyVs H2 (ls ++ [.ref p]) ((fs ++ [Fr.mk t]).map Fr.key) := by
        rw [List.map_append]
        exact (kl.tp t02).app (.cons (.tup (t2 _ _ gp) (.cons (.str _) (.cons (hv.tp t02) .nil))) .nil)
      refine ⟨_, rfl, .ref a, t, rfl, hv.tp t02, fun b ys H3 s3 hb kys => ⟨b, ys, rfl, .inl (.inl hb), fun p2 hp2 => ⟨p2, rfl, ⟨ys.reverse, .inl (.inl upd_same)⟩, ?_⟩⟩⟩
      have s4 := same_upd (o := HO.tup ys.reverse) hp2
      have g4 : (upd H3 p2 (.tup ys.reverse)) p2 = some (.tup ys.reverse) := upd_same
      have k4 := kys.rev.tp (TP.of_same s4)
      generalize upd H3 p2 (.tup ys.reverse) = H4 at s4 g4 k4
      have s24 := Same.trans s3 s4
      refine for_tup (K := K) (a := p2) (xs := ys.reverse) (fun i σ H' => Chg [l] H4 H' ∧ TP H4 H' ∧ (∃ ls', H' l = some (.lst ls') ∧ KeyVs H' ls' ((fs ++ Fr.mk t :: (t.parts.reverse.take i).map Fr.see).map Fr.key) ∧ ls'.length = ls.length + 1 + i) ∧ ∃ x4, σ = [some (.ref A.x), some (.ref a), some (.ref m), some (.ref l), x4]) ⟨Chg.refl _ _, TP.refl _, ⟨_, s24 _ _ g2, by simpa using k2.tp (TP.of_same s24), by simp⟩, _, rfl⟩ (fun i σ H' _ h => .inl (.inl (h.2.1 _ _ g4))) ?_ ?_
      · rintro i x σ H' hi ⟨c5, t5, ⟨ls', h5, k5, l5⟩, x4, rfl⟩
        obtain ⟨k, hk, hkv⟩ := k4.get hi
        rw [← List.map_reverse, List.getElem?_map] at hk
        obtain ⟨pt, hpt, rfl⟩ := Option.map_eq_some_iff.mp hk
        simp only [cxOf, tYes, eq_self, if_true, if_false, wipe, rLenQ, rIxTQ, rIxLQ, rIxSQ, rInt1Q, rTupQ, rAppQ, rPopQ, rPopAtQ, rRevQ, rListS, rReprP, tLenSetT, tChain, tRetN, tRet, tSeq, tAsg, gName, tVar, tC, tCons, tNil, tCB, tOp, rI0, rI, tAndV, tOrV, tNotV, tIf, tTest, tB, tNot, tAnd, tOr, tIfS, tNext, tCallR, rIsK, rEq, rNe, tDrop, L2.start, List.map_cons, List.map_nil, List.length_cons, List.length_nil, Nat.reduceAdd, Nat.reduceSub, Nat.sub_self, List.replicate_zero, List.replicate_succ, List.append_nil, List.cons_append, List.nil_append, List.getElem?_cons_zero, List.getElem?_cons_succ, List.set_cons_zero, List.set_cons_succ, Option.some.injEq, List.cons.injEq, and_true, true_and, exists_eq_left, exists_eq_left', exists_eq_right, V.ty.injEq, V.int.injEq, V.bl.injEq, V.str.injEq, V.ref.injEq, exists_and_left, exists_const, reduceIte, reduceCtorEq, false_and, and_false, exists_false, or_false, false_or, Bool.not_true, Bool.not_false, Bool.false_eq_true, String.reduceEq, true_or, or_true, rNotT, tNNew, tNNotIn, tNGet, sNPut, tLenSetN, tPar, tAug, ipI, tDNotIn, sDPut, tDGet, tTup, tLst, tBM, tBM0, tCallD, tCall, rKdIn, tTNew, tTIn, tTGet, sTPut, Sg.tMethR, tMeth, tMakeR, tMake, tDGet2, tSAddK, rSAddK, rSInK, rSet0K, rExtend, rExtendT, tFld, sFld, tRevT, tDIn, tSl, tPart, tNoPart, tDelFrom, StX.tStar, tUn, rU]
        refine ⟨lst_ty h5, by rw [sizeLine_eq]; decide, fun p3 hp3 => ?_⟩
        have s6 := same_upd (o := HO.tup [.str (Str.ofString "see"), x]) hp3
        have g6 : (upd H' p3 (.tup [.str (Str.ofString "see"), x])) p3 = some (.tup [.str (Str.ofString "see"), x]) := upd_same
        generalize upd H' p3 (.tup [.str (Str.ofString "see"), x]) = H6 at s6 g6
        have hil := (List.getElem?_eq_some_iff.mp hi).1
        have hpl : t.parts.length ≤ 2 := by cases t <;> simp [Wk.parts]
        have hyl : ys.reverse.length ≤ 2 := by
          rw [List.length_reverse, kys.len, List.length_map]
          exact hpl
        have t7 : TP H6 (upd H6 l (.lst (ls' ++ [.ref p3]))) := tp_upd (s6 _ _ h5) fun _ e => by cases e
        have t57 := (TP.of_same s6).trans t7
        refine ⟨ls', s6 _ _ h5, szlt (m := 60000) (by omega), (c5.trans (Chg.of_same s6)).trans (Chg.upd (by simp)), t5.trans t57, ⟨_, upd_same, ?_, by rw [List.length_append, l5]; rfl⟩, _, rfl⟩
        rw [List.take_add_one, hpt]
        have e9 : (fs ++ Fr.mk t :: List.map Fr.see (t.parts.reverse.take i ++ (some pt).toList)).map Fr.key = (fs ++ Fr.mk t :: (t.parts.reverse.take i).map Fr.see).map Fr.key ++ [Fr.key (.see pt)] := by simp
        rw [e9]
        exact (k5.tp t57).app (.cons (.tup (t7 _ _ g6) (.cons (.str _) (.cons (hkv.tp (t5.trans t57)) .nil))) .nil)
      · rintro σ H' ⟨c5, t5, ⟨ls', h5, k5, l5⟩, x4, rfl⟩
        have hyl : ys.reverse.length = t.parts.reverse.length := by rw [List.length_reverse, kys.len, List.length_map, List.length_reverse]
        rw [hyl, List.take_length] at k5
        have cc : Chg [m, l] H H' := ((Chg.of_same s1).trans ((c2.trans (Chg.of_same s24)).trans c5)).mono (by simp)
        refine q ls' H' cc (t02.trans ((TP.of_same s24).trans t5)) ?_ h5 ?_
        · have hmt : madeW pl t = [] := by cases t <;> first | rfl | exact absurd rfl hne
          rw [hmt, List.map_nil, List.append_nil]
          exact c5 _ _ (by simpa using nml) (s24 _ _ (c2 _ _ (by simpa using nml) (s1 _ _ hm)))
        · have hpt : pushW bd pl t = .mk t :: (t.parts.reverse.map Fr.see) := by cases t <;> first | rfl | exact absurd rfl hne
          rw [hpt]
          exact k5
    case pos =>
      subst hne
      obtain ⟨y, rfl, hy⟩ := one_view hx
      obtain rfl := text_view hy
      have hbd := hbd rfl
      refine ⟨_, hS (TP.refl _), _, at_0 _ _, rfl, ifF (by decide +kernel) ⟨_, hS (TP.refl _), _, at_1 _ _ _, _, _, _, hins, T.cl_Plan, T.na_Plan_work_places, _, rfl, A.wp, rfl, _, DGet.k (k := Sum.inr (Str.ofString "f")) hA.wpl, ?_⟩⟩
      cases pl with
      | some n =>
        have dg : DGet H A.wp (.str (Str.ofString "f")) (some (.int (n : Int))) := by
          have := DGet.k (k := Sum.inr (Str.ofString "f")) hA.wpl
          rwa [val_wp] at this
        refine ifT (by rw [val_wp]; rfl) ⟨lst_ty hm, _, _, _, hins, T.cl_Plan, T.na_Plan_work_places, _, rfl, _, hS (TP.refl _), _, at_1 _ _ _, ?_⟩
        refine ⟨A.wp, rfl, _, dg, ms, hm, szlt (m := 50000) (by omega), q ls _ (Chg.upd (by simp)) (tp_upd hm fun _ e => by cases e) upd_same ((upd_ne (Ne.symm nml)).trans hl) ?_⟩
        have e9 : fs ++ pushW bd (some n) .fn = fs := List.append_nil _
        rw [e9]
        exact kl.tp (tp_upd hm fun _ e => by cases e)
      | none =>
        refine ifF (by decide +kernel) ⟨lst_ty hl, _, hS (TP.refl _), _, at_1 _ _ _, by rw [sizeLine_eq]; decide, fun p hp => ?_⟩
        have s1 := same_upd (o := HO.tup [.str (Str.ofString "name"), .str (Str.ofString "f")]) hp
        have gp : (upd H p (HO.tup [.str (Str.ofString "name"), .str (Str.ofString "f")])) p = some (.tup [.str (Str.ofString "name"), .str (Str.ofString "f")]) := upd_same
        generalize upd H p (HO.tup [.str (Str.ofString "name"), .str (Str.ofString "f")]) = H1 at s1 gp
        refine ⟨ls, s1 _ _ hl, szlt (m := 50000) (by omega), ?_⟩
        have t2 : TP H1 (upd H1 l (.lst (ls ++ [.ref p]))) := tp_upd (s1 _ _ hl) fun _ e => by cases e
        have c2 : Chg [l] H1 (upd H1 l (.lst (ls ++ [.ref p]))) := Chg.upd (by simp)
        have g2 : (upd H1 l (.lst (ls ++ [.ref p]))) l = some (.lst (ls ++ [.ref p])) := upd_same
        generalize upd H1 l (.lst (ls ++ [.ref p])) = H2 at t2 c2 g2
        have t02 := (TP.of_same s1).trans t2
        have k2 : KeyVs H2 (ls ++ [.ref p]) ((fs ++ [Fr.nm]).map Fr.key) := by
          rw [List.map_append]
          exact (kl.tp t02).app (.cons (.tup (t2 _ _ gp) (.cons (.str _) (.cons (.str _) .nil))) .nil)
        have hxl : A.x ∉ [l] := fun e => by
          rw [List.mem_singleton.mp e, hl] at hins
          cases hins
        obtain ⟨t0, rfl⟩ := Option.isSome_iff_exists.mp hbd
        obtain ⟨u, hnw, hu⟩ := hA.nwk
        have hnl : A.nw ∉ [l] := fun e => by
          rw [List.mem_singleton.mp e, hl] at hnw
          cases hnw
        have hins2 := c2 _ _ hxl (s1 _ _ hins)
        have hnw2 := c2 _ _ hnl (s1 _ _ hnw)
        have dg : DGet H2 A.nw (.str (Str.ofString "f")) (some u) := by
          have := DGet.k (k := Sum.inr (Str.ofString "f")) hnw2
          rwa [val_kn] at this
        refine ⟨lst_ty g2, _, _, _, hins2, T.cl_Plan, T.na_Plan_named_works, _, rfl, _, hS t02, _, at_1 _ _ _, A.nw, rfl, u, dg, by rw [sizeLine_eq]; decide, fun p3 hp3 => ?_⟩
        have s6 := same_upd (o := HO.tup [.str (Str.ofString "see"), u]) hp3
        have g6 : (upd H2 p3 (.tup [.str (Str.ofString "see"), u])) p3 = some (.tup [.str (Str.ofString "see"), u]) := upd_same
        generalize upd H2 p3 (.tup [.str (Str.ofString "see"), u]) = H6 at s6 g6
        have t7 : TP H6 (upd H6 l (.lst ((ls ++ [.ref p]) ++ [.ref p3]))) := tp_upd (s6 _ _ g2) fun _ e => by cases e
        have t57 := (TP.of_same s6).trans t7
        refine ⟨_, s6 _ _ g2, szlt (m := 60000) (by rw [List.length_append, List.length_singleton]; omega), q _ _ (((Chg.of_same s1).trans ((c2.mono (by simp)).trans (Chg.of_same s6))).trans (Chg.upd (by simp))) (t02.trans t57) ?_ upd_same ?_⟩
        · rw [upd_ne nml]
          have e9 : (madeW none .fn).map (fun (n : Nat) => V.int (n : Int)) = [] := rfl
          rw [e9, List.append_nil]
          exact s6 _ _ (c2 _ _ (by simpa using nml) (s1 _ _ hm))
        · have e9 : (fs ++ pushW (some t0) none .fn).map Fr.key = (fs ++ [Fr.nm]).map Fr.key ++ [Fr.key (.see t0)] := by simp [pushW]
          rw [e9]
          exact (k2.tp t57).app (.cons (.tup (t7 _ _ g6) (.cons (.str _) (.cons ((hu t0 rfl).tp (t02.trans t57)) .nil))) .nil)
end
end K08

namespace K08
open PySem PySem.Spec PyProof.Rows L2 Sg
/-- the works put in for the name -/
def sub (bd : Option Wk) : Wk → Wk
  | .st s => .st s
  | .th a b => .th (sub bd a) (sub bd b)
  | .fn => bd.getD .fn
def Wk.ff : Wk → Bool
  | .st _ => true
  | .th a b => a.ff && b.ff
  | .fn => false
theorem sub_ff (bd : Option Wk) : ∀ {t : Wk}, t.ff = true → sub bd t = t
  | .st s, _ => rfl
  | .th a b, h => by
    have h2 : (a.ff && b.ff) = true := h
    rw [Bool.and_eq_true] at h2
    show Wk.th (sub bd a) (sub bd b) = _
    rw [sub_ff bd h2.1, sub_ff bd h2.2]
  | .fn, h => by cases h
/-- the row of this number tells this work -/
inductive Dn (ks : List NestedKey) : Nat → Wk → Prop
  | st {n : Nat} {s : Stp} : ks[n]? = some s.key → Dn ks n (.st s)
  | th {n i j : Nat} {a b : Wk} : ks[n]? = some (.tup [.text (Str.ofString "then"), .num (i : Int), .num (j : Int)]) → Dn ks i a → Dn ks j b → Dn ks n (.th a b)
theorem get_app {α : Type} {l m : List α} {n : Nat} {x : α} (h : l[n]? = some x) : (l ++ m)[n]? = some x := by
  rw [List.getElem?_append_left (List.getElem?_eq_some_iff.mp h).1]
  exact h
theorem Dn.mono {ks m : List NestedKey} {n : Nat} {t : Wk} (h : Dn ks n t) : Dn (ks ++ m) n t := by
  induction h with
  | st h => exact .st (get_app h)
  | th h _ _ ia ib => exact .th (get_app h) ia ib
def Wk.c0 : Wk → Nat
  | .st _ => 2
  | .th a b => 2 + a.c0 + b.c0
  | .fn => 0
def Wk.c (b0 : Wk) : Wk → Nat
  | .st _ => 2
  | .th a b => 2 + Wk.c b0 a + Wk.c b0 b
  | .fn => 3 + b0.c0
theorem c_ff {b0 : Wk} : ∀ {t : Wk}, t.ff = true → Wk.c b0 t = t.c0
  | .st s, _ => rfl
  | .th a b, h => by
    have h2 : (a.ff && b.ff) = true := h
    rw [Bool.and_eq_true] at h2
    show 2 + Wk.c b0 a + Wk.c b0 b = 2 + a.c0 + b.c0
    rw [c_ff h2.1, c_ff h2.2]
  | .fn, h => by cases h
def Fr.c (b0 : Wk) : Fr → Nat
  | .see t => Wk.c b0 t
  | .mk _ => 1
  | .nm => 1
def Cl (bd : Option Wk) (t : Wk) : Prop := t.ff = true ∨ bd.isSome = true
def FrOk (bd : Option Wk) : Fr → Prop
  | .see t => Cl bd t
  | .mk t => Cl bd t
  | .nm => bd.isSome = true
def Gd (bd : Option Wk) (g : Wk) : List Fr → List Wk → Prop
  | [], ds => ds = [g]
  | .see t :: fs, ds => Gd bd g fs (ds ++ [sub bd t])
  | .mk t :: fs, ds => match t with
    | .st s => Gd bd g fs (ds ++ [.st s])
    | .th a b => ∃ ds', ds = ds' ++ [sub bd a, sub bd b] ∧ Gd bd g fs (ds' ++ [.th (sub bd a) (sub bd b)])
    | .fn => False
  | .nm :: fs, ds => (∃ ds', ds = ds' ++ [bd.getD .fn]) ∧ Gd bd g fs ds
section
variable {P : Program} {w : World} {K : PySem.W.Frag} {mg : Str → Option Value} {base : Heap}
theorem c_pos (b0 t : Wk) : 1 ≤ Wk.c b0 t := by
  cases t with
  | st s => exact Nat.le_succ 1
  | th a b => show 1 ≤ 2 + Wk.c b0 a + Wk.c b0 b; omega
  | fn => show 1 ≤ 3 + b0.c0; omega
theorem frc_pos (b0 : Wk) (f : Fr) : 1 ≤ f.c b0 := by
  cases f with
  | see t => exact c_pos b0 t
  | _ => exact Nat.le_refl 1
theorem frc_len (b0 : Wk) : ∀ fs : List Fr, fs.length ≤ (fs.map (Fr.c b0)).sum
  | [] => Nat.zero_le _
  | f :: fs => by
    rw [List.length_cons, List.map_cons, List.sum_cons]
    have := frc_pos b0 f
    have := frc_len b0 fs
    omega
theorem pn_in {P : Program} {w : World} {K : PySem.W.Frag} {A : PAd} {H : Hp} {ks : List NestedKey} {bd : Option Wk} {pl : Option Nat} (h : Pn P w K A H ks bd pl) : ∀ b ∈ [A.x, A.tb, A.rl, A.pd, A.nw, A.wp], ∃ o, H b = some o := by
  obtain ⟨⟨z, ns, st, sp, h1⟩, ⟨h2, ⟨xs, h6, _⟩, kvs, h7, _⟩, ⟨v, h3, h4⟩, h5, _⟩ := h
  intro b hb
  simp only [List.mem_cons, List.not_mem_nil, or_false] at hb
  rcases hb with rfl | rfl | rfl | rfl | rfl | rfl
  · exact ⟨_, h1⟩
  · exact ⟨_, h2⟩
  · exact ⟨_, h6⟩
  · exact ⟨_, h7⟩
  · exact ⟨_, h3⟩
  · exact ⟨_, h5⟩
theorem chg_new {S S' : List Addr} {H H1 H2 : Hp} (c1 : Chg S H H1) (c2 : Chg S' H1 H2) (h : ∀ a ∈ S', a ∈ S ∨ H a = none) : Chg S H H2 := fun b o hb ho => c2 b o (fun z => by
  rcases h b z with h | h
  · exact hb h
  · rw [h] at ho; cases ho) (c1 b o hb ho)
theorem w_none {J : It} {H0 : Hp} {Qd : Hp → Prop} {R : (Nat → Nat → Hp → Prop) → Nat → Nat → Hp → Prop} (hs : J.stop 0 H0) (q : Qd H0) : ∃ W : Nat → Nat → Hp → Prop, (∃ m, W 0 m H0) ∧ ∀ (i m : Nat) (H : Hp), W i m H → (J.stop i H ∧ Qd H) ∨ R W i m H :=
  ⟨fun i _ H => i = 0 ∧ H = H0, ⟨0, rfl, rfl⟩, fun _ _ _ e => by obtain ⟨rfl, rfl⟩ := e; exact .inl ⟨hs, q⟩⟩
theorem at_last {xs : List V} {x : V} : atI (xs ++ [x]) (-1) = some x := by
  unfold atI ixN
  rw [if_neg (by omega), if_pos (by rw [List.length_append, List.length_singleton]; omega), List.length_append, List.length_singleton]
  have e : (-1 + ((xs.length + 1 : Nat) : Int)).toNat = xs.length := by omega
  show (xs ++ [x])[_]? = some x
  rw [e]
  simp
theorem pr_split {α β : Type} {R : α → β → Prop} : ∀ {es : List β} {fs : List β} {ms : List α}, Paired R ms (es ++ fs) → ∃ m1 m2, ms = m1 ++ m2 ∧ Paired R m1 es ∧ Paired R m2 fs
  | [], _, _, h => ⟨[], _, rfl, .nil, h⟩
  | e :: es, fs, _, h => by
    cases h with
    | cons r h =>
      obtain ⟨m1, m2, rfl, h1, h2⟩ := pr_split h
      exact ⟨_ :: m1, m2, rfl, .cons r h1, h2⟩
theorem pr_app {α β : Type} {R : α → β → Prop} {ms ns : List α} {es fs : List β} (h : Paired R ms es) (k : Paired R ns fs) : Paired R (ms ++ ns) (es ++ fs) := by
  induction h with
  | nil => exact k
  | cons r _ ih => exact .cons r ih
theorem dn_mono {ks m : List NestedKey} {ms : List Nat} {ds : List Wk} (h : Paired (Dn ks) ms ds) : Paired (Dn (ks ++ m)) ms ds := pr_mono h fun _ _ r => r.mono
theorem gd_mk {bd : Option Wk} {g t : Wk} {fs : List Fr} {ds : List Wk} (h : Gd bd g (.mk t :: fs) ds) : t ≠ .fn ∧ ∃ ds', ds = ds' ++ t.parts.map (sub bd) ∧ Gd bd g fs (ds' ++ [sub bd t]) := by
  cases t with
  | st s => exact ⟨by simp, ds, (List.append_nil _).symm, h⟩
  | th a b =>
    obtain ⟨ds', e, h⟩ := h
    exact ⟨by simp, ds', e, h⟩
  | fn => cases h
theorem row_dn {bd : Option Wk} {ks : List NestedKey} {t : Wk} {ns : List Nat} {n : Nat} (h : Paired (Dn ks) ns (t.parts.map (sub bd))) (hne : t ≠ .fn) (hk : ks[n]? = some (rowK t ns)) : Dn ks n (sub bd t) := by
  cases t with
  | st s => exact .st hk
  | fn => exact absurd rfl hne
  | th a b =>
    cases h with
    | cons h1 h =>
      cases h with
      | cons h2 h =>
        cases h
        exact .th hk h1 h2
theorem row_deep {t : Wk} {ns : List Nat} (hne : t ≠ .fn) (hl : ns.length = t.parts.length) : (rowK t ns).depth ≤ 8 := by
  cases t with
  | fn => exact absurd rfl hne
  | th a b =>
    match ns, hl with
    | [i, j], _ => show max 0 (max 0 (max 0 0)) + 1 ≤ 8; omega
  | st s =>
    cases s with
    | turn ps =>
      show max 0 (max (NestedKey.depthAll (ps.map pairK) + 1) 0) + 1 ≤ 8
      have := depth_pairs ps
      omega
    | same => show max 0 0 + 1 ≤ 8; omega
    | _ => show max 0 (max 0 0) + 1 ≤ 8; omega
/-- what the look at a work does to the stack -/
theorem gd_see {bd : Option Wk} {pl : Option Nat} {g t : Wk} {fs : List Fr} {ds : List Wk} (hb : ∀ b, bd = some b → b.ff = true) (hc : Cl bd t) (h : Gd bd g (.see t :: fs) ds) : Gd bd g ((pushW bd pl t).reverse ++ fs) (ds ++ (madeW pl t).map fun _ => bd.getD .fn) := by
  cases t with
  | st s =>
    have h : Gd bd g fs (ds ++ [.st s]) := h
    show Gd bd g (.mk (.st s) :: fs) (ds ++ [])
    rw [List.append_nil]
    exact h
  | th a b =>
    have h : Gd bd g fs (ds ++ [.th (sub bd a) (sub bd b)]) := h
    show Gd bd g (.see a :: .see b :: .mk (.th a b) :: fs) (ds ++ [])
    rw [List.append_nil]
    refine ⟨ds, ?_, h⟩
    rw [List.append_assoc]
    rfl
  | fn =>
    have h : Gd bd g fs (ds ++ [bd.getD .fn]) := h
    cases pl with
    | some n => exact h
    | none =>
      show Gd bd g (.see (bd.getD .fn) :: .nm :: fs) (ds ++ [])
      rw [List.append_nil]
      have e : sub bd (bd.getD .fn) = bd.getD .fn := by
        cases bd with
        | none => rfl
        | some b => exact sub_ff _ (hb b rfl)
      refine ⟨⟨ds, ?_⟩, ?_⟩
      · rw [e]
      · rw [e]
        exact h
theorem push_cost {bd : Option Wk} {pl : Option Nat} {t : Wk} (hb : ∀ b, bd = some b → b.ff = true) (hc : Cl bd t) : (((pushW bd pl t).reverse).map (Fr.c (bd.getD .fn))).sum + (madeW pl t).length + 1 ≤ Wk.c (bd.getD .fn) t := by
  cases t with
  | st s => show 1 + 0 + 0 + 1 ≤ 2; omega
  | th a b =>
    show Wk.c _ a + (Wk.c _ b + (1 + 0)) + 0 + 1 ≤ 2 + Wk.c _ a + Wk.c _ b
    omega
  | fn =>
    cases pl with
    | some n => show 0 + 1 + 1 ≤ 3 + _; omega
    | none =>
      cases bd with
      | none =>
        rcases hc with h | h <;> cases h
      | some b =>
        show Wk.c b b + (1 + 0) + 0 + 1 ≤ 3 + b.c0
        rw [c_ff (hb b rfl)]
        omega
theorem push_ok {bd : Option Wk} {pl : Option Nat} {t : Wk} (hc : Cl bd t) : ∀ f ∈ pushW bd pl t, FrOk bd f := by
  cases t with
  | st s =>
    intro f hf
    obtain rfl := List.mem_singleton.mp hf
    exact hc
  | th a b =>
    have ha : Cl bd a ∧ Cl bd b := by
      rcases hc with h | h
      · have h2 : (a.ff && b.ff) = true := h
        rw [Bool.and_eq_true] at h2
        exact ⟨.inl h2.1, .inl h2.2⟩
      · exact ⟨.inr h, .inr h⟩
    intro f hf
    have hf : f ∈ [Fr.mk (.th a b), .see b, .see a] := hf
    simp only [List.mem_cons, List.not_mem_nil, or_false] at hf
    rcases hf with rfl | rfl | rfl
    · exact hc
    · exact ha.2
    · exact ha.1
  | fn =>
    have hs : bd.isSome = true := by
      rcases hc with h | h
      · cases h
      · exact h
    cases pl with
    | some n => intro f hf; cases hf
    | none =>
      intro f hf
      have hf : f ∈ [Fr.nm, .see (bd.getD .fn)] := hf
      simp only [List.mem_cons, List.not_mem_nil, or_false] at hf
      rcases hf with rfl | rfl
      · exact hs
      · exact .inr hs
def NwI (P : Program) (w : World) (K : PySem.W.Frag) (H : Hp) (A : PAd) (v : V) (t : Wk) (bd : Option Wk) (m l : Addr) (μ : Nat) (σ : L2.St) (H' : Hp) : Prop :=
  ∃ (fs : List Fr) (ms : List Nat) (ds : List Wk) (ls : List V) (ks : List NestedKey) (pl : Option Nat) (x4 x5 x6 x7 x8 : Option V), Chg [A.rl, A.pd, A.wp] H H' ∧ TP H H' ∧ H' m = some (.lst (ms.map fun (n : Nat) => V.int (n : Int))) ∧ H' l = some (.lst ls) ∧ KeyVs H' ls (fs.reverse.map Fr.key) ∧ Pn P w K A H' ks bd pl ∧ Paired (Dn ks) ms ds ∧ (∀ n, pl = some n → Dn ks n (bd.getD .fn)) ∧ Gd bd (sub bd t) fs ds ∧ (∀ f ∈ fs, FrOk bd f) ∧
    ks.length + (fs.map (Fr.c (bd.getD .fn))).sum ≤ 40000 ∧ ms.length + (fs.map (Fr.c (bd.getD .fn))).sum ≤ 40000 ∧ μ = (fs.map (Fr.c (bd.getD .fn))).sum ∧ σ = [some (.ref A.x), some v, some (.ref m), some (.ref l), x4, x5, x6, x7, x8]
theorem sc_Plan_m_number_work : FnScope ["self", "work", "made", "left", "deed", "one", "asked", "parts", "sets"] ["self", "work"] (defScope (clsAt (topS 84) 5)) := ⟨rfl, rfl, rfl, by decide +kernel, rfl, by decide +kernel, by decide +kernel⟩
theorem bd_Plan_m_number_work {K : PySem.W.Frag} {fd : FuncData} (F : FnM K "Plan" "number_work" "Plan.number_work" (clsAt (topS 84) 5) [] fd) : Binds K fd ["self", "work"] [] := F.bindsN fun _ _ _ _ _ _ us hl => match us, hl with | [_, _], _ => rfl
def spPk (P : Program) (w : World) (K : PySem.W.Frag) : Sp := fun vs H Q _ => ∃ (A : PAd) (v : V) (t : Wk) (bd : Option Wk), vs = [.ref A.x, v] ∧ Pn P w K A H [] bd none ∧ KeyV H v t.key ∧ Cl bd t ∧ (∀ b, bd = some b → b.ff = true) ∧ Wk.c (bd.getD .fn) t ≤ 40000 ∧ ∀ (n : Nat) ks pl H', Chg [A.rl, A.pd, A.wp] H H' → TP H H' → Pn P w K A H' ks bd pl → Dn ks n (sub bd t) → Q (.int (n : Int)) H'
theorem ok_Plan_m_number_work (T : Tx w K mg) : DkM P w K mg base 3 "Plan" "number_work" ["self", "work"] [] (spPk P w K) := by
  have D_Plan_m_see_work := ok_Plan_m_see_work (P := P) (w := w) (base := base) T
  have D_Rows_m_number := ok_Rows_m_number (P := P) (w := w) (base := base) T
  have D_taken := ok_taken (P := P) (w := w) (base := base) T
  have D_work_parts := ok_work_parts (P := P) (w := w) (base := base) T
  have D_sets_asked := ok_sets_asked (P := P) (w := w) (base := base) T
  have D_work_row_plan := ok_work_row_plan (P := P) (w := w) (base := base) T
  obtain ⟨fd, F⟩ := T.d_Plan_m_number_work
  refine ⟨⟨fd, [], F.ok sc_Plan_m_number_work (fun vs H Q E h => ?_) (fun cdv A outer s H vs Q E hr h => ?_), bd_Plan_m_number_work F, .nil⟩⟩
  · obtain ⟨A, v, t, bd, rfl, _⟩ := h
    rfl
  · obtain ⟨A, v, t, bd, rfl, hA, hv, hcl, hbf, hc, q⟩ := h
    refine ⟨_, PSs.nox (pss_cons (ps_set (i := 2) sc_Plan_m_number_work.nd rfl (.inl rfl) (pe_lst pa_nil))
      (pss_cons (ps_set (i := 3) sc_Plan_m_number_work.nd rfl (.inl rfl) (pe_lst (pa_cons (pe_tup (pa_cons pe_str (pa_cons (pv 1) pa_nil))) pa_nil)))
      (pss_cons (ps_while PassesOwn.never (pt_truth (pv 3) (by intro _; rfl)) (pss_cons (ps_asg (pe_bm0 PySem.F.plainAttrs_list PySem.F.slot_list_pop PySem.F.type_list_pop mt_popQ (pv 3)) (pg_tup (by rfl) (pgs_cons (pg_name (i := 4) sc_Plan_m_number_work.nd rfl (.inl rfl)) (pgs_cons (pg_name (i := 5) sc_Plan_m_number_work.nd rfl (.inl rfl)) pgs_nil))))
      (pss_one (ps_if (pt_cmpR op_eq (pv 4) pe_str (nomark _)) (pss_one (ps_expr (pe_methR (pv 0) T.cl_Plan T.m_Plan_see_work D_Plan_m_see_work (hr.mono (by decide)) (pa_cons (pv 5) (pa_cons (pv 2) (pa_cons (pv 3) pa_nil)))))) (pss_one (ps_if (pt_cmpR op_eq (pv 4) pe_str (nomark _)) (pss_one (ps_dput (hu_of hr) (pe_fld (pv 0) rfl) (pv 5) (pe_ix ix_listQ (pv 2) (pe_un un_neg pe_int) (fun _ _ => rfl)) rfl)) (pss_cons (ps_setLc (i := 6) (own := [("sets", 8)]) rfl sc_Plan_m_number_work.nd rfl rfl (sw_true rfl rfl rfl (by decide +kernel)) (pi_tup (pe_callR D_sets_asked (hr.mono (by decide)) takes0 (pa_cons (pv 5) pa_nil))) (blkOk_by (own := [("sets", 8)]) (N := ["self", "work", "made", "left", "deed", "one", "asked", "parts", "sets"]) (sc := defScope (clsAt (topS 84) 5)) (by decide +kernel)) (fun _ _ _ _ _ => (pg_name (i := 8) sc_Plan_m_number_work.nd rfl (.inl rfl))) (fun _ _ _ _ _ => pts_nil) (fun _ _ _ _ _ => pe_dead))
      (pss_cons (ps_set (i := 7) sc_Plan_m_number_work.nd rfl (.inl rfl) (pe_callR D_taken (hr.mono (by decide)) takes0 (pa_cons (pv 2) (pa_cons (pe_callB call_lenQ (by rfl) T.f_len PySem.boot_len (pa_cons (pe_callR D_work_parts (hr.mono (by decide)) takes0 (pa_cons (pv 5) pa_nil)) pa_nil)) pa_nil))))
      (pss_one (ps_expr (pe_bm PySem.F.plainAttrs_list PySem.F.slot_list_append PySem.F.type_list_append mt_appQ (pv 2) (pa_cons (pe_methR (pe_fld (pv 0) rfl) T.cl_Rows T.m_Rows_number D_Rows_m_number (hr.mono (by decide)) (pa_cons (pe_callR D_work_row_plan (hr.mono (by decide)) takes0 (pa_cons (pv 5) (pa_cons (pv 6) (pa_cons (pv 7) pa_nil)))) pa_nil)) pa_nil))))))))))))
      (pss_one (ps_ret (pe_ix ix_listQ (pv 2) (pe_un un_neg pe_int) (fun _ _ => rfl))))))), ?_⟩
    simp only [cxOf, tYes, eq_self, if_true, if_false, wipe, rLenQ, rIxTQ, rIxLQ, rIxSQ, rInt1Q, rTupQ, rAppQ, rPopQ, rPopAtQ, rRevQ, rListS, rReprP, tLenSetT, tChain, tRetN, tRet, tSeq, tAsg, gName, tVar, tC, tCons, tNil, tCB, tOp, rI0, rI, tAndV, tOrV, tNotV, tIf, tTest, tB, tNot, tAnd, tOr, tIfS, tNext, tCallR, rIsK, rEq, rNe, tDrop, L2.start, List.map_cons, List.map_nil, List.length_cons, List.length_nil, Nat.reduceAdd, Nat.reduceSub, Nat.sub_self, List.replicate_zero, List.replicate_succ, List.append_nil, List.cons_append, List.nil_append, List.getElem?_cons_zero, List.getElem?_cons_succ, List.set_cons_zero, List.set_cons_succ, Option.some.injEq, List.cons.injEq, and_true, true_and, exists_eq_left, exists_eq_left', exists_eq_right, V.ty.injEq, V.int.injEq, V.bl.injEq, V.str.injEq, V.ref.injEq, exists_and_left, exists_const, reduceIte, reduceCtorEq, false_and, and_false, exists_false, or_false, false_or, Bool.not_true, Bool.not_false, Bool.false_eq_true, String.reduceEq, true_or, or_true, rNotT, tNNew, tNNotIn, tNGet, sNPut, tLenSetN, tPar, tAug, ipI, tDNotIn, sDPut, tDGet, tTup, tLst, tBM, tBM0, tCallD, tCall, rKdIn, tTNew, tTIn, tTGet, sTPut, Sg.tMethR, tMeth, tMakeR, tMake, tDGet2, tSAddK, rSAddK, rSInK, rSet0K, rExtend, rExtendT, tFld, sFld, tRevT, tDIn, tSl, tPart, tNoPart, tDelFrom, StX.tStar, tUn, rU]
    refine ⟨Nat.zero_le _, fun m hm0 => ⟨by rw [sizeLine_eq]; decide, fun p1 hp1 => ⟨by rw [sizeLine_eq]; decide, fun l hl0 => ?_⟩⟩⟩
    have s01 := same_upd (o := HO.lst []) hm0
    have s12 := same_upd (o := HO.tup [.str (Str.ofString "see"), v]) hp1
    have s23 := same_upd (o := HO.lst [.ref p1]) hl0
    have gm : (upd (upd (upd H m (.lst [])) p1 (.tup [.str (Str.ofString "see"), v])) l (.lst [.ref p1])) m = some (.lst []) := s23 _ _ (s12 _ _ upd_same)
    have gp : (upd (upd (upd H m (.lst [])) p1 (.tup [.str (Str.ofString "see"), v])) l (.lst [.ref p1])) p1 = some (.tup [.str (Str.ofString "see"), v]) := s23 _ _ upd_same
    have gl : (upd (upd (upd H m (.lst [])) p1 (.tup [.str (Str.ofString "see"), v])) l (.lst [.ref p1])) l = some (.lst [.ref p1]) := upd_same
    have nml : m ≠ l := ne_of_none (s12 _ _ upd_same) hl0
    have hlH : H l = none := by
      cases e : H l with
      | none => rfl
      | some o => rw [s12 _ _ (s01 _ _ e)] at hl0; cases hl0
    have s0 := Same.trans s01 (Same.trans s12 s23)
    generalize upd (upd (upd H m (.lst [])) p1 (.tup [.str (Str.ofString "see"), v])) l (.lst [.ref p1]) = H0 at gm gp gl s0
    refine ⟨NwI P w K H A v t bd m l, ⟨_, [.see t], [], [], [.ref p1], [], none, none, none, none, none, none, Chg.of_same s0, TP.of_same s0, gm, gl, .cons (.tup gp (.cons (.str _) (.cons (hv.tp (TP.of_same s0)) .nil))) .nil, hA.same s0, .nil, (fun n e => by cases e), rfl, (fun f hf => by obtain rfl := List.mem_singleton.mp hf; exact hcl), ?_, ?_, rfl, rfl⟩, ?_⟩
    · show 0 + (Wk.c _ t + 0) ≤ 40000
      omega
    · show 0 + (Wk.c _ t + 0) ≤ 40000
      omega
    clear s01 s12 s23 hp1 hl0 gm gp gl s0
    have nlA : l ∉ [A.x, A.tb, A.rl, A.pd, A.nw, A.wp] := fun h => by
      obtain ⟨o, ho⟩ := pn_in hA l h
      rw [hlH] at ho
      cases ho
    have nmA : m ∉ [A.x, A.tb, A.rl, A.pd, A.nw, A.wp] := fun h => by
      obtain ⟨o, ho⟩ := pn_in hA m h
      rw [hm0] at ho
      cases ho
    rintro μ σ H' ⟨fs, ms, ds, ls, ks, pl, x4, x5, x6, x7, x8, c1, t1, hm, hl, kl, pn, dn, hpl, gd, ok, b1, b2, rfl, rfl⟩
    simp only [cxOf, tYes, eq_self, if_true, if_false, wipe, rLenQ, rIxTQ, rIxLQ, rIxSQ, rInt1Q, rTupQ, rAppQ, rPopQ, rPopAtQ, rRevQ, rListS, rReprP, tLenSetT, tChain, tRetN, tRet, tSeq, tAsg, gName, tVar, tC, tCons, tNil, tCB, tOp, rI0, rI, tAndV, tOrV, tNotV, tIf, tTest, tB, tNot, tAnd, tOr, tIfS, tNext, tCallR, rIsK, rEq, rNe, tDrop, L2.start, List.map_cons, List.map_nil, List.length_cons, List.length_nil, Nat.reduceAdd, Nat.reduceSub, Nat.sub_self, List.replicate_zero, List.replicate_succ, List.append_nil, List.cons_append, List.nil_append, List.getElem?_cons_zero, List.getElem?_cons_succ, List.set_cons_zero, List.set_cons_succ, Option.some.injEq, List.cons.injEq, and_true, true_and, exists_eq_left, exists_eq_left', exists_eq_right, V.ty.injEq, V.int.injEq, V.bl.injEq, V.str.injEq, V.ref.injEq, exists_and_left, exists_const, reduceIte, reduceCtorEq, false_and, and_false, exists_false, or_false, false_or, Bool.not_true, Bool.not_false, Bool.false_eq_true, String.reduceEq, true_or, or_true, rNotT, tNNew, tNNotIn, tNGet, sNPut, tLenSetN, tPar, tAug, ipI, tDNotIn, sDPut, tDGet, tTup, tLst, tBM, tBM0, tCallD, tCall, rKdIn, tTNew, tTIn, tTGet, sTPut, Sg.tMethR, tMeth, tMakeR, tMake, tDGet2, tSAddK, rSAddK, rSInK, rSet0K, rExtend, rExtendT, tFld, sFld, tRevT, tDIn, tSl, tPart, tNoPart, tDelFrom, StX.tStar, tUn, rU]
    cases fs with
    | nil =>
      obtain rfl := nil_view kl
      refine ⟨false, .inl ⟨_, .inl (.inl hl), rfl⟩, ifF rfl ?_⟩
      have gd : ds = [sub bd t] := gd
      subst gd
      cases dn with
      | @cons n _ ms _ hd tl =>
        cases tl
        exact ⟨_, .inl (.inl hm), _, at_last (xs := []), q n ks pl H' c1 t1 pn hd⟩
    | cons f fs =>
      rw [List.reverse_cons, List.map_append] at kl
      obtain ⟨ls, x, rfl, kl, kx⟩ := snoc_view kl
      have hsum : ((f :: fs).map (Fr.c (bd.getD .fn))).sum = f.c (bd.getD .fn) + (fs.map (Fr.c (bd.getD .fn))).sum := rfl
      rw [hsum] at b1 b2
      have hfl := frc_len (bd.getD .fn) fs
      have hll : ls.length = fs.length := by rw [kl.len, List.length_map, List.length_reverse]
      refine ⟨true, .inl ⟨_, .inl (.inl hl), by simp⟩, ifT rfl ?_⟩
      refine ⟨fun σ H'' => ∃ m', m' < ((f :: fs).map (Fr.c (bd.getD .fn))).sum ∧ NwI P w K H A v t bd m l m' σ H'', fun _ _ z => z, lst_ty hl, ls, x, hl, ?_⟩
      have t2 : TP H' (upd H' l (.lst ls)) := tp_upd hl fun _ e => by cases e
      have g2 : (upd H' l (.lst ls)) l = some (.lst ls) := upd_same
      have m2 : (upd H' l (.lst ls)) m = _ := (upd_ne nml).trans hm
      have c2 : Chg [l] H' (upd H' l (.lst ls)) := Chg.upd (by simp)
      have pn2 : Pn P w K A (upd H' l (.lst ls)) ks bd pl := pn.mono t2 fun b hb o ho => c2 _ _ (fun e => by
        rw [List.mem_singleton.mp e] at hb ho
        exact nlA hb) ho
      have kx2 := kx.tp t2
      have kl2 := kl.tp t2
      generalize upd H' l (.lst ls) = H2 at t2 g2 m2 c2 pn2 kx2 kl2
      cases f with
      | see t0 =>
        obtain ⟨c, cs, rfl, hc, hcs⟩ := tup_view kx2
        obtain ⟨y1, y, rfl, hy1, hy⟩ := two_view hcs
        obtain rfl := text_view hy1
        refine ⟨c, _, rfl, .inl (.inl hc), rfl, _, _, rfl, _, _, rfl, rfl, ?_⟩
        simp only [cxOf, tYes, eq_self, if_true, if_false, wipe, rLenQ, rIxTQ, rIxLQ, rIxSQ, rInt1Q, rTupQ, rAppQ, rPopQ, rPopAtQ, rRevQ, rListS, rReprP, tLenSetT, tChain, tRetN, tRet, tSeq, tAsg, gName, tVar, tC, tCons, tNil, tCB, tOp, rI0, rI, tAndV, tOrV, tNotV, tIf, tTest, tB, tNot, tAnd, tOr, tIfS, tNext, tCallR, rIsK, rEq, rNe, tDrop, L2.start, List.map_cons, List.map_nil, List.length_cons, List.length_nil, Nat.reduceAdd, Nat.reduceSub, Nat.sub_self, List.replicate_zero, List.replicate_succ, List.append_nil, List.cons_append, List.nil_append, List.getElem?_cons_zero, List.getElem?_cons_succ, List.set_cons_zero, List.set_cons_succ, Option.some.injEq, List.cons.injEq, and_true, true_and, exists_eq_left, exists_eq_left', exists_eq_right, V.ty.injEq, V.int.injEq, V.bl.injEq, V.str.injEq, V.ref.injEq, exists_and_left, exists_const, reduceIte, reduceCtorEq, false_and, and_false, exists_false, or_false, false_or, Bool.not_true, Bool.not_false, Bool.false_eq_true, String.reduceEq, true_or, or_true, rNotT, tNNew, tNNotIn, tNGet, sNPut, tLenSetN, tPar, tAug, ipI, tDNotIn, sDPut, tDGet, tTup, tLst, tBM, tBM0, tCallD, tCall, rKdIn, tTNew, tTIn, tTGet, sTPut, Sg.tMethR, tMeth, tMakeR, tMake, tDGet2, tSAddK, rSAddK, rSInK, rSet0K, rExtend, rExtendT, tFld, sFld, tRevT, tDIn, tSl, tPart, tNoPart, tDelFrom, StX.tStar, tUn, rU]
        obtain ⟨z0, ns0, st0, sp0, hins⟩ := pn2.ins
        have hcl0 : Cl bd t0 := ok (.see t0) (by simp)
        refine ⟨rfl, ifT (by decide) ⟨_, _, hins, rfl, A, y, t0, m, l, ms.map (fun (n : Nat) => V.int (n : Int)), ls, fs.reverse, ks, bd, pl, rfl, pn2, hy, ?_, m2, g2, nml, kl2, by rw [List.length_map]; omega, by omega, fun ls' H3 c3 t3 hm3 hl3 kl3 => ?_⟩⟩
        · rintro rfl
          rcases hcl0 with h | h
          · cases h
          · exact h
        have hpc := push_cost (pl := pl) hbf hcl0
        have e7 : Fr.c (bd.getD .fn) (.see t0) = Wk.c (bd.getD .fn) t0 := rfl
        have c13 : Chg [A.rl, A.pd, A.wp] H H3 := chg_new (chg_new c1 c2 (by simp [hlH])) c3 (by simp [hlH, hm0])
        have pn3 := pn2.mono t3 fun b hb o ho => c3 b o (fun e => by
          simp only [List.mem_cons, List.not_mem_nil, or_false] at e
          rcases e with rfl | rfl
          · exact nmA hb
          · exact nlA hb) ho
        have hsum3 : (((pushW bd pl t0).reverse ++ fs).map (Fr.c (bd.getD .fn))).sum = ((pushW bd pl t0).reverse.map (Fr.c (bd.getD .fn))).sum + (fs.map (Fr.c (bd.getD .fn))).sum := by
          rw [List.map_append, List.sum_append]
        refine ⟨_, ?_, (pushW bd pl t0).reverse ++ fs, ms ++ madeW pl t0, ds ++ (madeW pl t0).map (fun _ => bd.getD .fn), ls', ks, pl, _, _, _, _, _, c13, (t1.trans t2).trans t3, ?_, hl3, ?_, pn3, ?_, hpl, gd_see hbf hcl0 gd, ?_, ?_, ?_, rfl, rfl⟩
        · show _ < Fr.c (bd.getD .fn) (.see t0) + (fs.map (Fr.c (bd.getD .fn))).sum
          rw [hsum3]
          omega
        · rw [hm3, List.map_append]
        · rw [List.reverse_append, List.reverse_reverse]
          exact kl3
        · refine pr_app dn ?_
          cases t0 with
          | fn =>
            cases pl with
            | some n => exact .cons (hpl n rfl) .nil
            | none => exact .nil
          | _ => exact .nil
        · intro f hf
          rcases List.mem_append.mp hf with h | h
          · exact push_ok hcl0 f (List.mem_reverse.mp h)
          · exact ok f (List.mem_cons_of_mem _ h)
        · rw [hsum3]
          omega
        · rw [hsum3, List.length_append]
          omega
      | mk t0 =>
        obtain ⟨c, cs, rfl, hc, hcs⟩ := tup_view kx2
        obtain ⟨y1, y, rfl, hy1, hy⟩ := two_view hcs
        obtain rfl := text_view hy1
        refine ⟨c, _, rfl, .inl (.inl hc), rfl, _, _, rfl, _, _, rfl, rfl, ?_⟩
        simp only [cxOf, tYes, eq_self, if_true, if_false, wipe, rLenQ, rIxTQ, rIxLQ, rIxSQ, rInt1Q, rTupQ, rAppQ, rPopQ, rPopAtQ, rRevQ, rListS, rReprP, tLenSetT, tChain, tRetN, tRet, tSeq, tAsg, gName, tVar, tC, tCons, tNil, tCB, tOp, rI0, rI, tAndV, tOrV, tNotV, tIf, tTest, tB, tNot, tAnd, tOr, tIfS, tNext, tCallR, rIsK, rEq, rNe, tDrop, L2.start, List.map_cons, List.map_nil, List.length_cons, List.length_nil, Nat.reduceAdd, Nat.reduceSub, Nat.sub_self, List.replicate_zero, List.replicate_succ, List.append_nil, List.cons_append, List.nil_append, List.getElem?_cons_zero, List.getElem?_cons_succ, List.set_cons_zero, List.set_cons_succ, Option.some.injEq, List.cons.injEq, and_true, true_and, exists_eq_left, exists_eq_left', exists_eq_right, V.ty.injEq, V.int.injEq, V.bl.injEq, V.str.injEq, V.ref.injEq, exists_and_left, exists_const, reduceIte, reduceCtorEq, false_and, and_false, exists_false, or_false, false_or, Bool.not_true, Bool.not_false, Bool.false_eq_true, String.reduceEq, true_or, or_true, rNotT, tNNew, tNNotIn, tNGet, sNPut, tLenSetN, tPar, tAug, ipI, tDNotIn, sDPut, tDGet, tTup, tLst, tBM, tBM0, tCallD, tCall, rKdIn, tTNew, tTIn, tTGet, sTPut, Sg.tMethR, tMeth, tMakeR, tMake, tDGet2, tSAddK, rSAddK, rSInK, rSet0K, rExtend, rExtendT, tFld, sFld, tRevT, tDIn, tSl, tPart, tNoPart, tDelFrom, StX.tStar, tUn, rU]
        obtain ⟨hne, ds', rfl, gd'⟩ := gd_mk gd
        obtain ⟨ms', ns, rfl, dn1, dn2⟩ := pr_split dn
        have hnl : ns.length = t0.parts.length := by rw [pr_len dn2, List.length_map]
        have hp2 : t0.parts.length ≤ 2 := by cases t0 <;> simp [Wk.parts]
        obtain ⟨z0, ns0, st0, sp0, hins⟩ := pn2.ins
        refine ⟨rfl, ifF (by decide +kernel) ⟨rfl, ifF (by decide +kernel) ?_⟩⟩
        refine ⟨_, rfl, y, t0, rfl, hy, fun a3 H3 s3 h3 => ⟨a3, rfl, ⟨_, .inl (.inl h3)⟩, fun D hD => ?_⟩⟩
        refine w_none (J := Itt K a3) ⟨_, .inl (.inl (same_upd hD _ _ h3)), Nat.le_refl 0⟩ ?_
        have s4 := Same.trans s3 (same_upd (o := HO.lst []) hD)
        have g4 : (upd H3 D (.lst [])) D = some (.lst []) := upd_same
        generalize upd H3 D (.lst []) = H4 at s4 g4
        refine ⟨y, t0, rfl, hy.tp (TP.of_same s4), fun a5 ys5 H5 s5 h5 k5 => ⟨ys5, .inr (.inl (.inl h5)), ?_⟩⟩
        have s25 := Same.trans s4 s5
        have e5 : ((ys5.length : Nat) : Int) = (((ns.map fun (n : Nat) => V.int (n : Int)).length : Nat) : Int) := by rw [k5.len, List.length_map, List.length_map, hnl]
        rw [e5]
        have c25 : Chg [A.rl, A.pd, A.wp] H2 H5 := Chg.of_same s25
        have m5 : H5 m = some (.lst ((ms'.map fun (n : Nat) => V.int (n : Int)) ++ (ns.map fun (n : Nat) => V.int (n : Int)))) := by
          rw [← List.map_append]
          exact s25 _ _ m2
        have g5 := s5 _ _ g4
        have l5 := s25 _ _ g2
        have mA : ∀ {Ha Hb : Hp}, Chg [m] Ha Hb → ∀ b ∈ [A.x, A.tb, A.rl, A.pd, A.nw, A.wp], ∀ o, Ha b = some o → Hb b = some o := fun c b hb o ho => c b o (fun e => nmA (by rw [List.mem_singleton.mp e] at hb; exact hb)) ho
        refine ⟨m, _, _, rfl, m5, fun l6 H6 n6 c6 t6 hm6 hl6 => ?_⟩
        have pn6 := (pn2.same s25).mono t6 (mA c6)
        obtain ⟨z1, ns1, st1, sp1, hins6⟩ := pn6.ins
        have nDm : D ≠ m := fun e => by
          rw [e] at hD
          have := s3 _ _ m2
          rw [this] at hD
          cases hD
        refine ⟨lst_ty hm6, _, _, _, hins6, T.cl_Plan, T.na_Plan_work_table, _, rfl, A.tb, rfl, _, _, pn6.tab.ins, rfl, y, t0, D, l6, ns, rfl, (hy.tp (TP.of_same s25)).tp t6, hne, c6 _ _ (by simpa using nDm) g5, hl6, by omega, fun b7 H7 s7 k7 => ?_⟩
        have pn7 := pn6.same s7
        refine ⟨A.tb, b7, A.rl, A.pd, A.dt, ks, rowK t0 ns, rfl, pn7.tab, ⟨k7, row_deep hne hnl⟩, by omega, fun n ks' H8 hks hn8 c8 t8 tb8 => ?_⟩
        have nmrp : m ∉ [A.rl, A.pd] := fun e => nmA (by
          simp only [List.mem_cons, List.not_mem_nil, or_false] at e ⊢
          rcases e with e | e <;> simp [e])
        have nlrp : l ∉ [A.rl, A.pd] := fun e => nlA (by
          simp only [List.mem_cons, List.not_mem_nil, or_false] at e ⊢
          rcases e with e | e <;> simp [e])
        have hm8 := c8 _ _ nmrp (s7 _ _ hm6)
        have hl8 := c8 _ _ nlrp (s7 _ _ (c6 _ _ (by simpa using Ne.symm nml) l5))
        have t9 : TP H8 (upd H8 m (.lst ((ms'.map fun (n : Nat) => V.int (n : Int)) ++ [V.int (n : Int)]))) := tp_upd hm8 fun _ e => by cases e
        have t29 := ((TP.of_same s25).trans (t6.trans ((TP.of_same s7).trans t8))).trans t9
        have hks' : ∃ mm, ks' = ks ++ mm ∧ mm.length ≤ 1 := by
          rcases hks with rfl | rfl
          · exact ⟨[], (List.append_nil _).symm, Nat.zero_le 1⟩
          · exact ⟨[_], rfl, Nat.le_refl 1⟩
        obtain ⟨mm, rfl, hmm⟩ := hks'
        have hlen2 : (ms' ++ ns).length = ms'.length + ns.length := List.length_append
        have pn8 : Pn P w K A H8 (ks ++ mm) bd pl := by
          obtain ⟨⟨z, ns, st, sp, q1⟩, q2, ⟨v, q3, q4⟩, q5, q6⟩ := pn7
          have ⟨xr, hr, _⟩ := q2.rows
          have ⟨kv, hpd, _⟩ := q2.places
          have out : ∀ {b : Addr} {o : HO}, H7 b = some o → (∀ x, o ≠ .lst x) → (∀ kvs, o ≠ dTu P w A.pd kvs) → b ∉ [A.rl, A.pd] := fun {b o} ho n1 n2 e => by
            simp only [List.mem_cons, List.not_mem_nil, or_false] at e
            rcases e with rfl | rfl
            · rw [hr] at ho
              exact n1 _ (Option.some.inj ho).symm
            · rw [hpd] at ho
              exact n2 _ (Option.some.inj ho).symm
          exact ⟨⟨z, ns, st, sp, c8 _ _ (out q1 (fun _ e => by cases e) fun _ e => by cases e) q1⟩, tb8, ⟨v, c8 _ _ (out q3 (fun _ e => by cases e) fun _ e => by cases e) q3, fun t e => (q4 t e).tp t8⟩, c8 _ _ (out q5 (fun _ e => by cases e) fun _ e => by cases e) q5, q6⟩
        have pn9 := pn8.mono t9 (mA (Chg.upd (by simp)))
        have e8 : Fr.c (bd.getD .fn) (.mk t0) = 1 := rfl
        refine ⟨_, hm8, szlt (m := 50000) (by rw [List.length_map]; omega), (fs.map (Fr.c (bd.getD .fn))).sum, by show _ < 1 + (fs.map (Fr.c (bd.getD .fn))).sum; omega, fs, ms' ++ [n], ds' ++ [sub bd t0], ls, ks ++ mm, pl, _, _, _, _, _, ?_, (t1.trans t2).trans t29, ?_, (upd_ne (Ne.symm nml)).trans hl8, kl2.tp t29, pn9, ?_, fun n e => (hpl n e).mono, gd', fun f hf => ok f (List.mem_cons_of_mem _ hf), ?_, ?_, rfl, rfl⟩
        · exact chg_new (S' := [A.rl, A.pd, m]) (chg_new (chg_new c1 c2 (by simp [hlH])) ((Chg.of_same s25).trans (c6.trans (Chg.of_same s7))) (by simp [hm0])) ((c8.mono (by simp)).trans (Chg.upd (by simp))) (by simp [hm0])
        · rw [upd_same, List.map_append]
          rfl
        · exact pr_app (dn_mono dn1) (.cons (row_dn (dn_mono dn2) hne hn8) .nil)
        · rw [List.length_append]
          omega
        · rw [List.length_append, List.length_singleton]
          omega
      | nm =>
        obtain ⟨c, cs, rfl, hc, hcs⟩ := tup_view kx2
        obtain ⟨y1, y, rfl, hy1, hy⟩ := two_view hcs
        obtain rfl := text_view hy1
        obtain rfl := text_view hy
        refine ⟨c, _, rfl, .inl (.inl hc), rfl, _, _, rfl, _, _, rfl, rfl, ?_⟩
        simp only [cxOf, tYes, eq_self, if_true, if_false, wipe, rLenQ, rIxTQ, rIxLQ, rIxSQ, rInt1Q, rTupQ, rAppQ, rPopQ, rPopAtQ, rRevQ, rListS, rReprP, tLenSetT, tChain, tRetN, tRet, tSeq, tAsg, gName, tVar, tC, tCons, tNil, tCB, tOp, rI0, rI, tAndV, tOrV, tNotV, tIf, tTest, tB, tNot, tAnd, tOr, tIfS, tNext, tCallR, rIsK, rEq, rNe, tDrop, L2.start, List.map_cons, List.map_nil, List.length_cons, List.length_nil, Nat.reduceAdd, Nat.reduceSub, Nat.sub_self, List.replicate_zero, List.replicate_succ, List.append_nil, List.cons_append, List.nil_append, List.getElem?_cons_zero, List.getElem?_cons_succ, List.set_cons_zero, List.set_cons_succ, Option.some.injEq, List.cons.injEq, and_true, true_and, exists_eq_left, exists_eq_left', exists_eq_right, V.ty.injEq, V.int.injEq, V.bl.injEq, V.str.injEq, V.ref.injEq, exists_and_left, exists_const, reduceIte, reduceCtorEq, false_and, and_false, exists_false, or_false, false_or, Bool.not_true, Bool.not_false, Bool.false_eq_true, String.reduceEq, true_or, or_true, rNotT, tNNew, tNNotIn, tNGet, sNPut, tLenSetN, tPar, tAug, ipI, tDNotIn, sDPut, tDGet, tTup, tLst, tBM, tBM0, tCallD, tCall, rKdIn, tTNew, tTIn, tTGet, sTPut, Sg.tMethR, tMeth, tMakeR, tMake, tDGet2, tSAddK, rSAddK, rSInK, rSet0K, rExtend, rExtendT, tFld, sFld, tRevT, tDIn, tSl, tPart, tNoPart, tDelFrom, StX.tStar, tUn, rU]
        obtain ⟨⟨ds', rfl⟩, gd'⟩ := gd
        obtain ⟨ms', m1, rfl, dn1, dn2⟩ := pr_split dn
        obtain ⟨n, rfl, hn⟩ : ∃ n, m1 = [n] ∧ Dn ks n (bd.getD .fn) := by
          cases dn2 with
          | cons r h =>
            cases h
            exact ⟨_, rfl, r⟩
        obtain ⟨z0, ns0, st0, sp0, hins⟩ := pn2.ins
        have e6 : ((ms' ++ [n]).map fun (n : Nat) => V.int (n : Int)) = (ms'.map fun (n : Nat) => V.int (n : Int)) ++ [V.int (n : Int)] := by simp
        refine ⟨rfl, ifF (by decide +kernel) ⟨rfl, ifT (by decide) ⟨_, .inl (.inl m2), .int (n : Int), by rw [e6]; exact at_last, _, _, _, hins, T.cl_Plan, T.na_Plan_work_places, _, rfl, A.wp, rfl, _, DPut.k (k := Sum.inr (Str.ofString "f")) pn2.wpl (by cases pl <;> exact szlt (m := 10) (by simp [wpL])), ?_⟩⟩⟩
        have ewp : putK (wpL pl) (Sum.inr (Str.ofString "f")) (.int (n : Int)) = wpL (some n) := by
          cases pl <;> simp [putK, wpL]
        rw [ewp]
        have t3 : TP H2 (upd H2 A.wp (.dK (wpL (some n)))) := tp_upd pn2.wpl fun _ e => by cases e
        have nmw : m ≠ A.wp := fun e => nmA (by simp [e])
        have nlw : l ≠ A.wp := fun e => nlA (by simp [e])
        have pn3 : Pn P w K A (upd H2 A.wp (.dK (wpL (some n)))) ks bd (some n) := by
          obtain ⟨⟨z, ns, st, sp, q1⟩, q2, ⟨v, q3, q4⟩, q5, q6⟩ := pn2
          have ⟨xr, hr, _⟩ := q2.rows
          have ⟨kv, hpd, _⟩ := q2.places
          have out : ∀ {b : Addr} {o : HO}, H2 b = some o → (∀ x, o ≠ .dK x) → b ≠ A.wp := fun {b o} ho n1 e => by
            rw [e, q5] at ho
            exact n1 _ (Option.some.inj ho).symm
          exact ⟨⟨z, ns, st, sp, (upd_ne (out q1 fun _ e => by cases e)).trans q1⟩, q2.mono t3 (fun o ho => (upd_ne (out q2.ins fun _ e => by cases e)).trans ho) (fun o ho => (upd_ne (out hr fun _ e => by cases e)).trans ho) (fun o ho => (upd_ne (out hpd fun _ e => by cases e)).trans ho), ⟨v, (upd_ne q6).trans q3, fun t e => (q4 t e).tp t3⟩, upd_same, q6⟩
        have e8 : Fr.c (bd.getD .fn) .nm = 1 := rfl
        refine ⟨(fs.map (Fr.c (bd.getD .fn))).sum, by show _ < 1 + (fs.map (Fr.c (bd.getD .fn))).sum; omega, fs, ms' ++ [n], ds' ++ [bd.getD .fn], ls, ks, some n, _, _, _, _, _, ?_, (t1.trans t2).trans t3, (upd_ne nmw).trans m2, (upd_ne nlw).trans g2, kl2.tp t3, pn3, dn, (fun n' e => by cases e; exact hn), gd', fun f hf => ok f (List.mem_cons_of_mem _ hf), by omega, by omega, rfl, rfl⟩
        exact chg_new (S' := [A.wp]) (chg_new c1 c2 (by simp [hlH])) (Chg.upd (by simp)) (by simp)
end
end K08

namespace K08
open PySem PySem.Spec PyProof.Rows L2 Sg
def mkS (l : List Nat) : Str := ⟨l.toArray⟩
theorem mkS_l (l : List Nat) : (mkS l).cps.toList = l := rfl
theorem mkS_self (x : Str) : mkS x.cps.toList = x := str_ext rfl
theorem str_len (x : Str) : x.cps.toList.length = x.length := Array.length_toList
theorem mkS_len (l : List Nat) : (mkS l).length = l.length := by rw [← str_len]; rfl
/-- what a sign is turned to -/
def trn (ps : List (Str × Str)) (c : Nat) : Str := ((ps.find? fun p => decide (p.1 = sgn c)).map (·.2)).getD (sgn c)
def ans : Stp → Str → Str
  | .same, t => t
  | .put x, _ => x
  | .ahead x, t => x ++ t
  | .behind x, t => t ++ x
  | .head n, t => mkS (t.cps.toList.take n)
  | .skip n, t => mkS (t.cps.toList.drop n)
  | .less n, t => mkS (t.cps.toList.take (t.length - n))
  | .turn ps, t => mkS (t.cps.toList.flatMap fun c => (trn ps c).cps.toList)
theorem cut_head (t : Str) (n : Nat) : cutS t none (some (n : Int)) = mkS (t.cps.toList.take n) := by
  refine str_ext ?_
  unfold cutS
  rw [HT.sIx_nat, show HT.sIx t.length 0 none = 0 from rfl, mkS_l]
  show List.take (min n t.length - 0) (List.drop 0 t.cps.toList) = _
  rw [List.drop_zero, Nat.sub_zero, ← str_len, ← List.take_take, List.take_length]
theorem cut_skip (t : Str) (n : Nat) : cutS t (some (n : Int)) none = mkS (t.cps.toList.drop n) := by
  refine str_ext ?_
  unfold cutS
  rw [HT.sIx_nat, show HT.sIx t.length t.length none = t.length from rfl, mkS_l]
  show List.take (t.length - min n t.length) (List.drop (min n t.length) t.cps.toList) = _
  have hl := str_len t
  by_cases h : n ≤ t.length
  · rw [Nat.min_eq_left h]
    exact List.take_of_length_le (by rw [List.length_drop]; omega)
  · rw [Nat.min_eq_right (by omega), List.drop_eq_nil_of_le (by omega), List.drop_eq_nil_of_le (by omega)]
    simp
theorem glue_flat : ∀ (ys : List Str) (acc : Array Nat), (ys.foldl (fun acc p => acc ++ (Str.ofString "").cps ++ p.cps) acc).toList = acc.toList ++ ys.flatMap fun y => y.cps.toList
  | [], acc => by simp
  | y :: ys, acc => by
    rw [List.foldl_cons, glue_flat ys, show (Str.ofString "").cps = #[] from rfl]
    simp
theorem join_flat (ys : List Str) : Txt.join (Str.ofString "") ys = mkS (ys.flatMap fun y => y.cps.toList) := by
  refine str_ext ?_
  cases ys with
  | nil => rfl
  | cons y ys =>
    show ((ys.foldl (fun acc p => acc ++ (Str.ofString "").cps ++ p.cps) y.cps).toList) = _
    rw [glue_flat, mkS_l]
    rfl
theorem val_trn (ps : List (Str × Str)) (c : Nat) : (valV (ps.map fun p => ((Sum.inr p.1 : Key), V.str p.2)) (Sum.inr (sgn c))).getD (.str (sgn c)) = .str (trn ps c) := by
  unfold valV trn
  rw [List.find?_map]
  have e : ((fun kv : Key × V => decide (kv.1 = Sum.inr (sgn c))) ∘ fun p : Str × Str => ((Sum.inr p.1 : Key), V.str p.2)) = fun p => decide (p.1 = sgn c) := by
    funext p
    exact decide_eq_decide.mpr ⟨fun h => Sum.inr.inj h, fun h => congrArg Sum.inr h⟩
  rw [e]
  cases ps.find? fun p => decide (p.1 = sgn c) <;> rfl
theorem trn_len {ps : List (Str × Str)} (h : ∀ x ∈ ps.flatMap (fun p => [p.1, p.2]), x.length ≤ 1000) (c : Nat) : (trn ps c).length ≤ 1000 := by
  unfold trn
  cases e : ps.find? fun p => decide (p.1 = sgn c) with
  | none => show (sgn c).length ≤ 1000; exact (by decide : 1 ≤ 1000)
  | some p => exact h _ (List.mem_flatMap.mpr ⟨p, List.mem_of_find?_eq_some e, by simp⟩)
theorem sum_le {α : Type} {f : α → Nat} {B : Nat} : ∀ {l : List α}, (∀ x ∈ l, f x ≤ B) → (l.map f).sum ≤ l.length * B
  | [], _ => Nat.zero_le _
  | x :: l, h => by
    rw [List.map_cons, List.sum_cons, List.length_cons, Nat.succ_mul]
    have := h x (by simp)
    have := sum_le (l := l) fun y hy => h y (List.mem_cons_of_mem _ hy)
    omega
section
variable {P : Program} {w : World} {K : PySem.W.Frag} {mg : Str → Option Value} {base : Heap}
theorem sc_bounded : FnScope ["answer"] ["answer"] (defScope (topS 99)) := ⟨rfl, rfl, rfl, by decide +kernel, rfl, by decide +kernel, by decide +kernel⟩
theorem bd_bounded {K : PySem.W.Frag} {f : Addr} {fd : FuncData} (F : FnP K "bounded" (topS 99) f fd) : Binds K fd ["answer"] [] := F.bindsN fun _ _ _ _ _ _ us hl => match us, hl with | [_], _ => rfl
def spBo : Sp := fun vs H Q _ => ∃ t : Str, vs = [.str t] ∧ t.length ≤ 10000 ∧ Q (.str t) H
theorem ok_bounded (T : Tx w K mg) : Dk P w K mg base 1 "bounded" ["answer"] spBo := by
  obtain ⟨fd, F⟩ := T.d_bounded
  refine ⟨⟨fd, F.ok sc_bounded (fun vs H Q E h => ?_) (fun cdv A outer s H vs Q E hr h => ?_), bd_bounded F⟩, F.kp, T.g_bounded⟩
  · obtain ⟨t, rfl, _⟩ := h
    rfl
  · obtain ⟨t, rfl, ht, q⟩ := h
    obtain ⟨_, c_MOST_ANSWER⟩ := T.c_MOST_ANSWER
    refine ⟨_, PSs.nox (pss_cons (ps_if (PW.pt (pw_and (pt_cmpR op_notN (pv 0) pe_non (nomark _)) (pw_and1 (pt_cmpR op_gt (pe_callB call_lenQ (by rfl) T.f_len PySem.boot_len (pa_cons (pv 0) pa_nil)) (pe_glob (v := .int 10000) (by rfl) c_MOST_ANSWER ⟨_, rfl⟩) (nomark _))))) (pss_one ps_dead) pss_nil)
      (pss_one (ps_ret (pv 0)))), ?_⟩
    simp only [cxOf, tYes, eq_self, if_true, if_false, wipe, rLenQ, rIxTQ, rIxLQ, rIxSQ, rInt1Q, rTupQ, rAppQ, rPopQ, rPopAtQ, rRevQ, rListS, rReprP, tLenSetT, tChain, tRetN, tRet, tSeq, tAsg, gName, tVar, tC, tCons, tNil, tCB, tOp, rI0, rI, tAndV, tOrV, tNotV, tIf, tTest, tB, tNot, tAnd, tOr, tIfS, tNext, tCallR, rIsK, rEq, rNe, tDrop, L2.start, List.map_cons, List.map_nil, List.length_cons, List.length_nil, Nat.reduceAdd, Nat.reduceSub, Nat.sub_self, List.replicate_zero, List.replicate_succ, List.append_nil, List.cons_append, List.nil_append, List.getElem?_cons_zero, List.getElem?_cons_succ, List.set_cons_zero, List.set_cons_succ, Option.some.injEq, List.cons.injEq, and_true, true_and, exists_eq_left, exists_eq_left', exists_eq_right, V.ty.injEq, V.int.injEq, V.bl.injEq, V.str.injEq, V.ref.injEq, exists_and_left, exists_const, reduceIte, reduceCtorEq, false_and, and_false, exists_false, or_false, false_or, Bool.not_true, Bool.not_false, Bool.false_eq_true, String.reduceEq, true_or, or_true, rNotT, tNNew, tNNotIn, tNGet, sNPut, tLenSetN, tPar, tAug, ipI, tDNotIn, sDPut, tDGet, tTup, tLst, tBM, tBM0, tCallD, tCall, rKdIn, tTNew, tTIn, tTGet, sTPut, Sg.tMethR, tMeth, tMakeR, tMake, tDGet2, tSAddK, rSAddK, rSInK, rSet0K, rExtend, rExtendT, tFld, sFld, tRevT, tDIn, tSl, tPart, tNoPart, tDelFrom, StX.tStar, tUn, rU]
    exact ifT (by decide) ⟨szle (m := 10000) ht, ifF (decide_eq_false (by omega)) q⟩
theorem sc_without_last : FnScope ["text", "many"] ["text", "many"] (defScope (topS 100)) := ⟨rfl, rfl, rfl, by decide +kernel, rfl, by decide +kernel, by decide +kernel⟩
theorem bd_without_last {K : PySem.W.Frag} {f : Addr} {fd : FuncData} (F : FnP K "without_last" (topS 100) f fd) : Binds K fd ["text", "many"] [] := F.bindsN fun _ _ _ _ _ _ us hl => match us, hl with | [_, _], _ => rfl
def spWl : Sp := fun vs H Q _ => ∃ (t : Str) (n : Nat), vs = [.str t, .int n] ∧ t.length ≤ 100000 ∧ Q (.str (mkS (t.cps.toList.take (t.length - n)))) H
theorem ok_without_last (T : Tx w K mg) : Dk P w K mg base 1 "without_last" ["text", "many"] spWl := by
  obtain ⟨fd, F⟩ := T.d_without_last
  refine ⟨⟨fd, F.ok sc_without_last (fun vs H Q E h => ?_) (fun cdv A outer s H vs Q E hr h => ?_), bd_without_last F⟩, F.kp, T.g_without_last⟩
  · obtain ⟨t, n, rfl, _⟩ := h
    rfl
  · obtain ⟨t, n, rfl, ht, q⟩ := h
    refine ⟨_, PSs.nox (pss_cons (ps_if (pt_cmpR op_ge (pv 1) (pe_callB call_lenQ (by rfl) T.f_len PySem.boot_len (pa_cons (pv 0) pa_nil)) (nomark _)) (pss_one (ps_ret pe_str)) pss_nil)
      (pss_one (ps_ret (pe_slice sl_str (pv 0) po_none (po_some (pe_op op_sub (pe_callB call_lenQ (by rfl) T.f_len PySem.boot_len (pa_cons (pv 0) pa_nil)) (pv 1))))))), ?_⟩
    simp only [cxOf, tYes, eq_self, if_true, if_false, wipe, rLenQ, rIxTQ, rIxLQ, rIxSQ, rInt1Q, rTupQ, rAppQ, rPopQ, rPopAtQ, rRevQ, rListS, rReprP, tLenSetT, tChain, tRetN, tRet, tSeq, tAsg, gName, tVar, tC, tCons, tNil, tCB, tOp, rI0, rI, tAndV, tOrV, tNotV, tIf, tTest, tB, tNot, tAnd, tOr, tIfS, tNext, tCallR, rIsK, rEq, rNe, tDrop, L2.start, List.map_cons, List.map_nil, List.length_cons, List.length_nil, Nat.reduceAdd, Nat.reduceSub, Nat.sub_self, List.replicate_zero, List.replicate_succ, List.append_nil, List.cons_append, List.nil_append, List.getElem?_cons_zero, List.getElem?_cons_succ, List.set_cons_zero, List.set_cons_succ, Option.some.injEq, List.cons.injEq, and_true, true_and, exists_eq_left, exists_eq_left', exists_eq_right, V.ty.injEq, V.int.injEq, V.bl.injEq, V.str.injEq, V.ref.injEq, exists_and_left, exists_const, reduceIte, reduceCtorEq, false_and, and_false, exists_false, or_false, false_or, Bool.not_true, Bool.not_false, Bool.false_eq_true, String.reduceEq, true_or, or_true, rNotT, tNNew, tNNotIn, tNGet, sNPut, tLenSetN, tPar, tAug, ipI, tDNotIn, sDPut, tDGet, tTup, tLst, tBM, tBM0, tCallD, tCall, rKdIn, tTNew, tTIn, tTGet, sTPut, Sg.tMethR, tMeth, tMakeR, tMake, tDGet2, tSAddK, rSAddK, rSInK, rSet0K, rExtend, rExtendT, tFld, sFld, tRevT, tDIn, tSl, tPart, tNoPart, tDelFrom, StX.tStar, tUn, rU]
    refine ⟨szle (m := 100000) ht, ?_⟩
    by_cases h : t.length ≤ n
    · refine ifT (decide_eq_true (by omega)) ?_
      have e : mkS (t.cps.toList.take (t.length - n)) = Str.ofString "" := str_ext (by rw [mkS_l, show t.length - n = 0 by omega]; rfl)
      rw [e] at q
      exact q
    · refine ifF (decide_eq_false (by omega)) ⟨szle (m := 100000) ht, t, rfl, szle (m := 100000) ht, ?_⟩
      have e : ((t.length : Nat) : Int) - (n : Int) = ((t.length - n : Nat) : Int) := by omega
      rw [e, cut_head]
      exact q
theorem sc_turned_by : FnScope ["pairs", "text", "table", "first", "second", "char"] ["pairs", "text"] (defScope (topS 101)) := ⟨rfl, rfl, rfl, by decide +kernel, rfl, by decide +kernel, by decide +kernel⟩
theorem bd_turned_by {K : PySem.W.Frag} {f : Addr} {fd : FuncData} (F : FnP K "turned_by" (topS 101) f fd) : Binds K fd ["pairs", "text"] [] := F.bindsN fun _ _ _ _ _ _ us hl => match us, hl with | [_, _], _ => rfl
def spTb : Sp := fun vs H Q _ => ∃ (v : V) (ps : List (Str × Str)) (t : Str), vs = [v, .str t] ∧ KeyV H v (.tup (ps.map pairK)) ∧ (ps.map (·.1)).Nodup ∧ ps.length ≤ 100 ∧ (∀ x ∈ ps.flatMap (fun p => [p.1, p.2]), x.length ≤ 1000) ∧ t.length ≤ 10000 ∧ ∀ H', Same H H' → Q (.str (mkS (t.cps.toList.flatMap fun c => (trn ps c).cps.toList))) H'
theorem ok_turned_by (T : Tx w K mg) : Dk P w K mg base 1 "turned_by" ["pairs", "text"] spTb := by
  obtain ⟨fd, F⟩ := T.d_turned_by
  refine ⟨⟨fd, F.ok sc_turned_by (fun vs H Q E h => ?_) (fun cdv A outer s H vs Q E hr h => ?_), bd_turned_by F⟩, F.kp, T.g_turned_by⟩
  · obtain ⟨v, ps, t, rfl, _⟩ := h
    rfl
  · obtain ⟨v, ps, t, rfl, hv, hnd, hl, hx, ht, q⟩ := h
    obtain ⟨a, xs, rfl, ha, hxs⟩ := tup_view hv
    refine ⟨_, PSs.nox (pss_cons (ps_set (i := 2) sc_turned_by.nd rfl (.inr rfl) (pe_dc (own := [("first", 3), ("second", 4)]) rfl sc_turned_by.nd (pi_tup (pv 0)) (blkOk_by (own := [("first", 3), ("second", 4)]) (N := ["pairs", "text", "table", "first", "second", "char"]) (sc := defScope (topS 101)) (by decide +kernel)) (fun _ _ _ _ _ => (show PG _ _ (gTup K 2 _) by exact pg_tup (by rfl) (pgs_cons (pg_name (i := 3) sc_turned_by.nd rfl (.inl rfl)) (pgs_cons (pg_name (i := 4) sc_turned_by.nd rfl (.inl rfl)) pgs_nil)))) (fun _ _ _ _ _ => pts_nil) (fun _ _ _ _ _ => (pv 3)) (fun _ _ _ _ _ => (pv 4))))
      (pss_one (ps_ret (pe_join pe_str (pe_lc (own := [("char", 5)]) rfl sc_turned_by.nd (pi_str (pv 1)) (blkOk_by (own := [("char", 5)]) (N := ["pairs", "text", "table", "first", "second", "char"]) (sc := defScope (topS 101)) (by decide +kernel)) (fun _ _ _ _ _ => (pg_name (i := 5) sc_turned_by.nd rfl (.inl rfl))) (fun _ _ _ _ _ => pts_nil) (fun _ _ _ _ _ => (pe_dget2 (hu_of hr) (pv 2) (pv 5) (pv 5) ⟨by rfl, by rfl, by rfl, by rfl⟩))))))), ?_⟩
    simp only [cxOf, tYes, eq_self, if_true, if_false, wipe, rLenQ, rIxTQ, rIxLQ, rIxSQ, rInt1Q, rTupQ, rAppQ, rPopQ, rPopAtQ, rRevQ, rListS, rReprP, tLenSetT, tChain, tRetN, tRet, tSeq, tAsg, gName, tVar, tC, tCons, tNil, tCB, tOp, rI0, rI, tAndV, tOrV, tNotV, tIf, tTest, tB, tNot, tAnd, tOr, tIfS, tNext, tCallR, rIsK, rEq, rNe, tDrop, L2.start, List.map_cons, List.map_nil, List.length_cons, List.length_nil, Nat.reduceAdd, Nat.reduceSub, Nat.sub_self, List.replicate_zero, List.replicate_succ, List.append_nil, List.cons_append, List.nil_append, List.getElem?_cons_zero, List.getElem?_cons_succ, List.set_cons_zero, List.set_cons_succ, Option.some.injEq, List.cons.injEq, and_true, true_and, exists_eq_left, exists_eq_left', exists_eq_right, V.ty.injEq, V.int.injEq, V.bl.injEq, V.str.injEq, V.ref.injEq, exists_and_left, exists_const, reduceIte, reduceCtorEq, false_and, and_false, exists_false, or_false, false_or, Bool.not_true, Bool.not_false, Bool.false_eq_true, String.reduceEq, true_or, or_true, rNotT, tNNew, tNNotIn, tNGet, sNPut, tLenSetN, tPar, tAug, ipI, tDNotIn, sDPut, tDGet, tTup, tLst, tBM, tBM0, tCallD, tCall, rKdIn, tTNew, tTIn, tTGet, sTPut, Sg.tMethR, tMeth, tMakeR, tMake, tDGet2, tSAddK, rSAddK, rSInK, rSet0K, rExtend, rExtendT, tFld, sFld, tRevT, tDIn, tSl, tPart, tNoPart, tDelFrom, StX.tStar, tUn, rU]
    refine ⟨_, rfl, a, rfl, ⟨_, .inl (.inl ha)⟩, fun D hD => ?_⟩
    have hxl : xs.length = ps.length := by rw [hxs.len, List.length_map]
    refine dc_gen (J := Itt K a) (n := xs.length) (fun i H' => Same H H' ∧ H' D = some (.dK ((ps.take i).map fun p => ((Sum.inr p.1 : Key), V.str p.2)))) ⟨same_upd hD, upd_same⟩ (fun i H' hi e => ⟨_, _, .inl (.inl (e.1 _ _ ha)), List.getElem?_eq_getElem hi⟩) (fun H' e => ⟨_, .inl (.inl (e.1 _ _ ha)), Nat.le_refl _⟩) ?_ ?_
    · rintro i x H2 H3 hi ⟨s2, h2⟩ ⟨rfl, hx2⟩
      have hx2 := hx2 _ (.inl (.inl (s2 _ _ ha)))
      obtain ⟨k, hk, hkv⟩ := hxs.get hx2
      rw [List.getElem?_map] at hk
      obtain ⟨pq, hpq, rfl⟩ := Option.map_eq_some_iff.mp hk
      obtain ⟨c, cs, rfl, hc, hcs⟩ := tup_view (hkv.tp (TP.of_same s2))
      obtain ⟨y1, y2, rfl, hy1, hy2⟩ := two_view hcs
      obtain rfl := text_view hy1
      obtain rfl := text_view hy2
      have hput : putK ((ps.take i).map fun p => ((Sum.inr p.1 : Key), V.str p.2)) (Sum.inr pq.1) (.str pq.2) = (ps.take (i + 1)).map fun p => ((Sum.inr p.1 : Key), V.str p.2) := by
        unfold putK
        rw [if_neg, List.take_add_one, hpq, List.map_append]
        · rfl
        · intro e
          obtain ⟨kv, hkv, e2⟩ := List.any_eq_true.mp e
          obtain ⟨p, hp, rfl⟩ := List.mem_map.mp hkv
          have e3 : p.1 = pq.1 := Sum.inr.inj (of_decide_eq_true e2)
          obtain ⟨j, hj⟩ := List.mem_iff_getElem?.mp hp
          have hji : j < i := by
            have := (List.getElem?_eq_some_iff.mp hj).1
            rw [List.length_take] at this
            omega
          rw [List.getElem?_take, if_pos hji] at hj
          have a1 : (ps.map (·.1))[j]? = some pq.1 := by rw [List.getElem?_map, hj, ← e3]; rfl
          have a2 : (ps.map (·.1))[i]? = some pq.1 := by rw [List.getElem?_map, hpq]; rfl
          have := (List.getElem?_inj (i := j) (j := i) (by rw [List.length_map]; omega) hnd).mp (a1.trans a2.symm)
          omega
      refine ⟨c, _, rfl, .inl (.inl hc), rfl, _, _, rfl, _, _, rfl, rfl, rfl, ?_⟩
      simp only [cxOf, tYes, eq_self, if_true, if_false, wipe, rLenQ, rIxTQ, rIxLQ, rIxSQ, rInt1Q, rTupQ, rAppQ, rPopQ, rPopAtQ, rRevQ, rListS, rReprP, tLenSetT, tChain, tRetN, tRet, tSeq, tAsg, gName, tVar, tC, tCons, tNil, tCB, tOp, rI0, rI, tAndV, tOrV, tNotV, tIf, tTest, tB, tNot, tAnd, tOr, tIfS, tNext, tCallR, rIsK, rEq, rNe, tDrop, L2.start, List.map_cons, List.map_nil, List.length_cons, List.length_nil, Nat.reduceAdd, Nat.reduceSub, Nat.sub_self, List.replicate_zero, List.replicate_succ, List.append_nil, List.cons_append, List.nil_append, List.getElem?_cons_zero, List.getElem?_cons_succ, List.set_cons_zero, List.set_cons_succ, Option.some.injEq, List.cons.injEq, and_true, true_and, exists_eq_left, exists_eq_left', exists_eq_right, V.ty.injEq, V.int.injEq, V.bl.injEq, V.str.injEq, V.ref.injEq, exists_and_left, exists_const, reduceIte, reduceCtorEq, false_and, and_false, exists_false, or_false, false_or, Bool.not_true, Bool.not_false, Bool.false_eq_true, String.reduceEq, true_or, or_true, rNotT, tNNew, tNNotIn, tNGet, sNPut, tLenSetN, tPar, tAug, ipI, tDNotIn, sDPut, tDGet, tTup, tLst, tBM, tBM0, tCallD, tCall, rKdIn, tTNew, tTIn, tTGet, sTPut, Sg.tMethR, tMeth, tMakeR, tMake, tDGet2, tSAddK, rSAddK, rSInK, rSet0K, rExtend, rExtendT, tFld, sFld, tRevT, tDIn, tSl, tPart, tNoPart, tDelFrom, StX.tStar, tUn, rU]
      refine ⟨_, Sum.inr pq.1, rfl, h2, ?_, snoc_same hD s2, ?_⟩
      · rw [List.length_map, List.length_take]
        exact szlt (m := 100) (by omega)
      · rw [upd_same, hput]
    rintro H1 ⟨s1, g1⟩
    rw [hxl, List.take_length] at g1
    refine ⟨⟨_, rfl⟩, _, rfl, t, rfl, fun D2 hD2 => ?_⟩
    have hsz : t.cps.size = t.length := rfl
    refine lc_gen (n := t.cps.size) (fun i H' => Same H1 H' ∧ H' D2 = some (.lst ((t.cps.toList.take i).map fun c => V.str (trn ps c)))) ⟨same_upd hD2, upd_same⟩ (fun i H' hi _ => hi) (fun H' _ => Nat.le_refl _) ?_ ?_
    · rintro i x H2 H3 hi ⟨s2, h2⟩ ⟨rfl, c, hc, rfl⟩
      have hc2 : t.cps.toList[i]? = some c := by rw [Array.getElem?_toList]; exact hc
      refine ⟨rfl, ?_⟩
      simp only [cxOf, tYes, eq_self, if_true, if_false, wipe, rLenQ, rIxTQ, rIxLQ, rIxSQ, rInt1Q, rTupQ, rAppQ, rPopQ, rPopAtQ, rRevQ, rListS, rReprP, tLenSetT, tChain, tRetN, tRet, tSeq, tAsg, gName, tVar, tC, tCons, tNil, tCB, tOp, rI0, rI, tAndV, tOrV, tNotV, tIf, tTest, tB, tNot, tAnd, tOr, tIfS, tNext, tCallR, rIsK, rEq, rNe, tDrop, L2.start, List.map_cons, List.map_nil, List.length_cons, List.length_nil, Nat.reduceAdd, Nat.reduceSub, Nat.sub_self, List.replicate_zero, List.replicate_succ, List.append_nil, List.cons_append, List.nil_append, List.getElem?_cons_zero, List.getElem?_cons_succ, List.set_cons_zero, List.set_cons_succ, Option.some.injEq, List.cons.injEq, and_true, true_and, exists_eq_left, exists_eq_left', exists_eq_right, V.ty.injEq, V.int.injEq, V.bl.injEq, V.str.injEq, V.ref.injEq, exists_and_left, exists_const, reduceIte, reduceCtorEq, false_and, and_false, exists_false, or_false, false_or, Bool.not_true, Bool.not_false, Bool.false_eq_true, String.reduceEq, true_or, or_true, rNotT, tNNew, tNNotIn, tNGet, sNPut, tLenSetN, tPar, tAug, ipI, tDNotIn, sDPut, tDGet, tTup, tLst, tBM, tBM0, tCallD, tCall, rKdIn, tTNew, tTIn, tTGet, sTPut, Sg.tMethR, tMeth, tMakeR, tMake, tDGet2, tSAddK, rSAddK, rSInK, rSet0K, rExtend, rExtendT, tFld, sFld, tRevT, tDIn, tSl, tPart, tNoPart, tDelFrom, StX.tStar, tUn, rU]
      refine ⟨.inl ⟨_, .inl (s2 _ _ g1)⟩, _, DGet.k (k := Sum.inr (sgn c)) (s2 _ _ g1), _, h2, ?_, snoc_same hD2 s2, ?_⟩
      · rw [List.length_map, List.length_take]
        exact szlt (m := 10000) (by omega)
      · have e := val_trn ps c
        rw [upd_same, List.take_add_one, hc2, List.map_append]
        exact congrArg (fun z => some (HO.lst (_ ++ [z]))) e
    · rintro H2 ⟨s2, h2⟩
      have ee : t.cps.toList.take t.cps.size = t.cps.toList := List.take_of_length_le (by simp)
      rw [ee] at h2
      refine ⟨_, rfl, D2, rfl, t.cps.toList.map (trn ps), .inl (.inl (.inl (by rw [h2, List.map_map]; rfl))), ?_, ?_⟩
      · rw [List.map_map, List.length_map]
        have h3 := sum_le (l := t.cps.toList) (f := (fun x : Str => x.length) ∘ trn ps) (B := 1000) fun c _ => trn_len hx c
        have h4 := str_len t
        have h5 : (Str.ofString "").length = 0 := rfl
        rw [h5]
        omega
      · rw [join_flat, List.flatMap_map]
        exact q H2 (Same.trans s1 s2)
end
end K08

namespace K08
open PySem PySem.Spec PyProof.Rows L2 Sg
def Stp.Fine (s : Stp) : Prop := s.Good ∧ match s with
  | .turn ps => (ps.map (·.1)).Nodup
  | _ => True
def Wk.Fine : Wk → Prop
  | .st s => s.Fine
  | .th a b => a.Fine ∧ b.Fine
  | .fn => True
def ev : Wk → Str → Str
  | .st s, t => ans s t
  | .th a b, t => ev b (ev a t)
  | .fn, t => t
/-- no answer on the way is too long -/
def Bd : Wk → Str → Prop
  | .st s, t => (ans s t).length ≤ 10000
  | .th a b, t => Bd a t ∧ Bd b (ev a t)
  | .fn, t => t.length ≤ 10000
def Wk.cw : Wk → Nat
  | .st _ => 1
  | .th a b => 2 + a.cw + b.cw
  | .fn => 1
theorem Bd.len : ∀ {w : Wk} {t : Str}, Bd w t → (ev w t).length ≤ 10000
  | .st s, t, h => h
  | .th a b, t, h => Bd.len (w := b) (t := ev a t) h.2
  | .fn, t, h => h
theorem st_ix {i j : Nat} {x : Str} (hi : stWords[i]? = some x) (hj : stWords[j]? = some x) : i = j := by
  have nd : stWords.Nodup := by decide +kernel
  exact (List.getElem?_inj (List.getElem?_eq_some_iff.mp hi).1 nd).mp (hi.trans hj.symm)
def Stp.ix : Stp → Nat
  | .same => 0
  | .put _ => 1
  | .ahead _ => 2
  | .behind _ => 3
  | .head _ => 4
  | .skip _ => 5
  | .less _ => 6
  | .turn _ => 7
theorem Stp.ix_w (s : Stp) : stWords[s.ix]? = some s.word := by cases s <;> rfl
theorem pairK_inj : ∀ {ps qs : List (Str × Str)}, ps.map pairK = qs.map pairK → ps = qs
  | [], [], _ => rfl
  | [], _ :: _, h => by cases h
  | _ :: _, [], h => by cases h
  | p :: ps, q :: qs, h => by
    rw [List.map_cons, List.map_cons] at h
    have h1 := (List.cons.inj h).1
    have h2 := pairK_inj (List.cons.inj h).2
    have h3 := List.cons.inj (NestedKey.tup.inj h1)
    have h4 := NestedKey.text.inj h3.1
    have h5 := NestedKey.text.inj (List.cons.inj h3.2).1
    obtain ⟨p1, p2⟩ := p
    obtain ⟨q1, q2⟩ := q
    subst h2
    have h4 : p1 = q1 := h4
    have h5 : p2 = q2 := h5
    rw [h4, h5]
theorem Stp.key_inj {s s' : Stp} (h : s.key = s'.key) : s = s' := by
  have h1 := List.cons.inj (NestedKey.tup.inj h)
  have hw : s.word = s'.word := NestedKey.text.inj h1.1
  have hi : s.ix = s'.ix := st_ix s.ix_w (hw ▸ s'.ix_w)
  have ha : s.args = s'.args := h1.2
  cases s <;> cases s' <;> first
    | rfl
    | (simp [Stp.ix] at hi; done)
    | (have h2 := NestedKey.text.inj (List.cons.inj ha).1; rw [h2])
    | (have h2 := Int.ofNat.inj (NestedKey.num.inj (List.cons.inj ha).1); rw [h2])
    | (have h2 := pairK_inj (NestedKey.tup.inj (List.cons.inj ha).1); rw [h2])
theorem Dn.det {ks : List NestedKey} {n : Nat} {a b : Wk} (h : Dn ks n a) (k : Dn ks n b) : a = b := by
  induction h generalizing b with
  | @st n s h =>
    cases k with
    | st h2 => rw [Stp.key_inj (Option.some.inj (h.symm.trans h2))]
    | th h2 _ _ =>
      have e := Option.some.inj (h.symm.trans h2)
      have e2 := NestedKey.text.inj (List.cons.inj (NestedKey.tup.inj e)).1
      exact absurd e2 (st_ne (by decide +kernel))
  | @th n i j a b h ha hb ia ib =>
    cases k with
    | st h2 =>
      have e := Option.some.inj (h2.symm.trans h)
      have e2 := NestedKey.text.inj (List.cons.inj (NestedKey.tup.inj e)).1
      exact absurd e2 (st_ne (by decide +kernel))
    | th h2 k1 k2 =>
      have e := Option.some.inj (h.symm.trans h2)
      have e2 := List.cons.inj (List.cons.inj (NestedKey.tup.inj e)).2
      have e3 := Int.ofNat.inj (NestedKey.num.inj e2.1)
      have e4 := Int.ofNat.inj (NestedKey.num.inj (List.cons.inj e2.2).1)
      subst e3 e4
      rw [ia k1, ib k2]
def ktK (n : Nat) (t : Str) : NestedKey := .tup [.num (n : Int), .text t]
def wkF (A : PAd) (sp : V) (kp : Addr) : List (Str × V) := putF "kept" (.ref kp) (putF "spans" sp (putF "plan" (.ref A.x) []))
/-- what is kept is right -/
structure Kp (P : Program) (w : World) (H : Hp) (kp : Addr) (ks : List NestedKey) (kvs : List TE3) : Prop where
  at_ : H kp = some (dTu P w kp kvs)
  ent : EntT H kvs
  ok : ∀ k v, valT kvs k = some v → ∃ n t u, k = ktK n t ∧ Dn ks n u ∧ v = .str (ev u t)
structure Wo (P : Program) (w : World) (K : PySem.W.Frag) (A : PAd) (x dx kp : Addr) (H : Hp) (ks : List NestedKey) (bd : Option Wk) (pl : Option Nat) (kvs : List TE3) : Prop where
  ins : ∃ sp, H x = some (.ins (He.ga K "Worker") dx (wkF A sp kp))
  plan : Pn P w K A H ks bd pl
  kept : Kp P w H kp ks kvs
  nk : kp ∉ [x, A.x, A.tb, A.rl, A.pd, A.nw, A.wp]
theorem Wo.mono {P : Program} {w : World} {K : PySem.W.Frag} {A : PAd} {x dx kp : Addr} {H H' : Hp} {ks : List NestedKey} {bd : Option Wk} {pl : Option Nat} {kvs : List TE3} (h : Wo P w K A x dx kp H ks bd pl kvs) (tp : TP H H') (c : ∀ b ∈ [x, kp, A.x, A.tb, A.rl, A.pd, A.nw, A.wp], ∀ o, H b = some o → H' b = some o) : Wo P w K A x dx kp H' ks bd pl kvs := by
  obtain ⟨⟨sp, h1⟩, h2, ⟨h3, h4, h5⟩, h6⟩ := h
  exact ⟨⟨sp, c _ (by simp) _ h1⟩, h2.mono tp (fun b hb => c b (List.mem_cons_of_mem _ (List.mem_cons_of_mem _ hb))), ⟨c _ (by simp) _ h3, h4.mono tp, h5⟩, h6⟩
theorem Wo.same {P : Program} {w : World} {K : PySem.W.Frag} {A : PAd} {x dx kp : Addr} {H H' : Hp} {ks : List NestedKey} {bd : Option Wk} {pl : Option Nat} {kvs : List TE3} (h : Wo P w K A x dx kp H ks bd pl kvs) (s : Same H H') : Wo P w K A x dx kp H' ks bd pl kvs := h.mono (TP.of_same s) fun b _ o => s b o
section
variable {P : Program} {w : World} {K : PySem.W.Frag} {mg : Str → Option Value} {base : Heap}
theorem sc_Worker_m_plain_answer : FnScope ["self", "row", "text", "word"] ["self", "row", "text"] (defScope (clsAt (topS 103) 4)) := ⟨rfl, rfl, rfl, by decide +kernel, rfl, by decide +kernel, by decide +kernel⟩
theorem bd_Worker_m_plain_answer {K : PySem.W.Frag} {fd : FuncData} (F : FnM K "Worker" "plain_answer" "Worker.plain_answer" (clsAt (topS 103) 4) [] fd) : Binds K fd ["self", "row", "text"] [] := F.bindsN fun _ _ _ _ _ _ us hl => match us, hl with | [_, _, _], _ => rfl
def spPa : Sp := fun vs H Q _ => ∃ (x : Addr) (v : V) (s : Stp) (t : Str), vs = [.ref x, v, .str t] ∧ KeyV H v s.key ∧ s.Fine ∧ t.length ≤ 10000 ∧ ∀ H', Same H H' → Q (.str (ans s t)) H'
theorem ok_Worker_m_plain_answer (T : Tx w K mg) : DkM P w K mg base 2 "Worker" "plain_answer" ["self", "row", "text"] [] spPa := by
  have D_without_last := ok_without_last (P := P) (w := w) (base := base) T
  have D_turned_by := ok_turned_by (P := P) (w := w) (base := base) T
  obtain ⟨fd, F⟩ := T.d_Worker_m_plain_answer
  refine ⟨⟨fd, [], F.ok sc_Worker_m_plain_answer (fun vs H Q E h => ?_) (fun cdv A outer s H vs Q E hr h => ?_), bd_Worker_m_plain_answer F, .nil⟩⟩
  · obtain ⟨x, v, s, t, rfl, _⟩ := h
    rfl
  · obtain ⟨x, v, s, t, rfl, hv, hf, ht, q⟩ := h
    obtain ⟨a, xs, rfl, ha, hx⟩ := wk_view (w := .st s) hv
    refine ⟨_, PSs.nox (pss_cons (ps_set (i := 3) sc_Worker_m_plain_answer.nd rfl (.inl rfl) (pe_ix ix_tupQ (pv 1) pe_int (fun _ _ => rfl)))
      (pss_cons (ps_if (pt_cmpR op_eq (pv 3) pe_str (nomark _)) (pss_one (ps_ret (pv 2))) pss_nil)
      (pss_cons (ps_if (pt_cmpR op_eq (pv 3) pe_str (nomark _)) (pss_one (ps_ret (pe_ix ix_tupQ (pv 1) pe_int (fun _ _ => rfl)))) pss_nil)
      (pss_cons (ps_if (pt_cmpR op_eq (pv 3) pe_str (nomark _)) (pss_one (ps_ret (pe_op op_add_str (pe_ix ix_tupQ (pv 1) pe_int (fun _ _ => rfl)) (pv 2)))) pss_nil)
      (pss_cons (ps_if (pt_cmpR op_eq (pv 3) pe_str (nomark _)) (pss_one (ps_ret (pe_op op_add_str (pv 2) (pe_ix ix_tupQ (pv 1) pe_int (fun _ _ => rfl))))) pss_nil)
      (pss_cons (ps_if (pt_cmpR op_eq (pv 3) pe_str (nomark _)) (pss_one (ps_ret (pe_slice sl_str (pv 2) po_none (po_some (pe_ix ix_tupQ (pv 1) pe_int (fun _ _ => rfl)))))) pss_nil)
      (pss_cons (ps_if (pt_cmpR op_eq (pv 3) pe_str (nomark _)) (pss_one (ps_ret (pe_slice sl_str (pv 2) (po_some (pe_ix ix_tupQ (pv 1) pe_int (fun _ _ => rfl))) po_none))) pss_nil)
      (pss_cons (ps_if (pt_cmpR op_eq (pv 3) pe_str (nomark _)) (pss_one (ps_ret (pe_callR D_without_last (hr.mono (by decide)) takes0 (pa_cons (pv 2) (pa_cons (pe_ix ix_tupQ (pv 1) pe_int (fun _ _ => rfl)) pa_nil))))) pss_nil)
      (pss_cons (ps_if (pt_cmpR op_eq (pv 3) pe_str (nomark _)) (pss_one (ps_ret (pe_callR D_turned_by (hr.mono (by decide)) takes0 (pa_cons (pe_ix ix_tupQ (pv 1) pe_int (fun _ _ => rfl)) (pa_cons (pv 2) pa_nil))))) pss_nil)
      (pss_one (ps_ret (pe_ifExp (pt_val pe_dead) (pv 2) pe_non)))))))))))), ?_⟩
    simp only [cxOf, tYes, eq_self, if_true, if_false, wipe, rLenQ, rIxTQ, rIxLQ, rIxSQ, rInt1Q, rTupQ, rAppQ, rPopQ, rPopAtQ, rRevQ, rListS, rReprP, tLenSetT, tChain, tRetN, tRet, tSeq, tAsg, gName, tVar, tC, tCons, tNil, tCB, tOp, rI0, rI, tAndV, tOrV, tNotV, tIf, tTest, tB, tNot, tAnd, tOr, tIfS, tNext, tCallR, rIsK, rEq, rNe, tDrop, L2.start, List.map_cons, List.map_nil, List.length_cons, List.length_nil, Nat.reduceAdd, Nat.reduceSub, Nat.sub_self, List.replicate_zero, List.replicate_succ, List.append_nil, List.cons_append, List.nil_append, List.getElem?_cons_zero, List.getElem?_cons_succ, List.set_cons_zero, List.set_cons_succ, Option.some.injEq, List.cons.injEq, and_true, true_and, exists_eq_left, exists_eq_left', exists_eq_right, V.ty.injEq, V.int.injEq, V.bl.injEq, V.str.injEq, V.ref.injEq, exists_and_left, exists_const, reduceIte, reduceCtorEq, false_and, and_false, exists_false, or_false, false_or, Bool.not_true, Bool.not_false, Bool.false_eq_true, String.reduceEq, true_or, or_true, rNotT, tNNew, tNNotIn, tNGet, sNPut, tLenSetN, tPar, tAug, ipI, tDNotIn, sDPut, tDGet, tTup, tLst, tBM, tBM0, tCallD, tCall, rKdIn, tTNew, tTIn, tTGet, sTPut, Sg.tMethR, tMeth, tMakeR, tMake, tDGet2, tSAddK, rSAddK, rSInK, rSet0K, rExtend, rExtendT, tFld, sFld, tRevT, tDIn, tSl, tPart, tNoPart, tDelFrom, StX.tStar, tUn, rU]
    have hS : SqT K H a (.str s.word :: xs) := .inl (.inl ha)
    refine ⟨_, hS, _, at_0 _ _, ?_⟩
    cases s with
    | same =>
      exact weq_yes rfl (q H fun _ _ z => z)
    | put y =>
      obtain ⟨z, rfl, hz⟩ := one_view hx
      obtain rfl := text_view hz
      have hyl := (hf.1.1 y (by simp [Stp.texts])).2
      exact weq_no (by decide +kernel : Str.ofString "put" ≠ Str.ofString "same") (weq_yes rfl (⟨_, hS, _, at_1 _ _ _, q H fun _ _ z => z⟩))
    | ahead y =>
      obtain ⟨z, rfl, hz⟩ := one_view hx
      obtain rfl := text_view hz
      have hyl := (hf.1.1 y (by simp [Stp.texts])).2
      exact weq_no (by decide +kernel : Str.ofString "ahead" ≠ Str.ofString "same") (weq_no (by decide +kernel : Str.ofString "ahead" ≠ Str.ofString "put") (weq_yes rfl (⟨_, hS, _, at_1 _ _ _, y, rfl, szle (m := 20000) (by omega), q H fun _ _ z => z⟩)))
    | behind y =>
      obtain ⟨z, rfl, hz⟩ := one_view hx
      obtain rfl := text_view hz
      have hyl := (hf.1.1 y (by simp [Stp.texts])).2
      exact weq_no (by decide +kernel : Str.ofString "behind" ≠ Str.ofString "same") (weq_no (by decide +kernel : Str.ofString "behind" ≠ Str.ofString "put") (weq_no (by decide +kernel : Str.ofString "behind" ≠ Str.ofString "ahead") (weq_yes rfl (⟨_, hS, _, at_1 _ _ _, y, rfl, szle (m := 20000) (by omega), q H fun _ _ z => z⟩))))
    | head n =>
      obtain ⟨z, rfl, hz⟩ := one_view hx
      obtain rfl := num_view hz
      exact weq_no (by decide +kernel : Str.ofString "head" ≠ Str.ofString "same") (weq_no (by decide +kernel : Str.ofString "head" ≠ Str.ofString "put") (weq_no (by decide +kernel : Str.ofString "head" ≠ Str.ofString "ahead") (weq_no (by decide +kernel : Str.ofString "head" ≠ Str.ofString "behind") (weq_yes rfl (⟨_, hS, _, at_1 _ _ _, _, rfl, t, rfl, szle (m := 20000) (by omega), by rw [cut_head]; exact q H fun _ _ z => z⟩)))))
    | skip n =>
      obtain ⟨z, rfl, hz⟩ := one_view hx
      obtain rfl := num_view hz
      exact weq_no (by decide +kernel : Str.ofString "skip" ≠ Str.ofString "same") (weq_no (by decide +kernel : Str.ofString "skip" ≠ Str.ofString "put") (weq_no (by decide +kernel : Str.ofString "skip" ≠ Str.ofString "ahead") (weq_no (by decide +kernel : Str.ofString "skip" ≠ Str.ofString "behind") (weq_no (by decide +kernel : Str.ofString "skip" ≠ Str.ofString "head") (weq_yes rfl (⟨_, hS, _, at_1 _ _ _, _, rfl, t, rfl, szle (m := 20000) (by omega), by rw [cut_skip]; exact q H fun _ _ z => z⟩))))))
    | less n =>
      obtain ⟨z, rfl, hz⟩ := one_view hx
      obtain rfl := num_view hz
      exact weq_no (by decide +kernel : Str.ofString "less" ≠ Str.ofString "same") (weq_no (by decide +kernel : Str.ofString "less" ≠ Str.ofString "put") (weq_no (by decide +kernel : Str.ofString "less" ≠ Str.ofString "ahead") (weq_no (by decide +kernel : Str.ofString "less" ≠ Str.ofString "behind") (weq_no (by decide +kernel : Str.ofString "less" ≠ Str.ofString "head") (weq_no (by decide +kernel : Str.ofString "less" ≠ Str.ofString "skip") (weq_yes rfl (⟨_, hS, _, at_1 _ _ _, t, n, rfl, Nat.le_trans ht (by decide), q H fun _ _ z => z⟩)))))))
    | turn ps =>
      obtain ⟨y, rfl, hy⟩ := one_view hx
      exact weq_no (by decide +kernel : Str.ofString "turn" ≠ Str.ofString "same") (weq_no (by decide +kernel : Str.ofString "turn" ≠ Str.ofString "put") (weq_no (by decide +kernel : Str.ofString "turn" ≠ Str.ofString "ahead") (weq_no (by decide +kernel : Str.ofString "turn" ≠ Str.ofString "behind") (weq_no (by decide +kernel : Str.ofString "turn" ≠ Str.ofString "head") (weq_no (by decide +kernel : Str.ofString "turn" ≠ Str.ofString "skip") (weq_no (by decide +kernel : Str.ofString "turn" ≠ Str.ofString "less") (weq_yes rfl (⟨_, hS, _, at_1 _ _ _, y, ps, t, rfl, hy, hf.2, hf.1.2.2, fun x hx => (hf.1.1 x hx).2, ht, fun H' s' => q H' s'⟩))))))))
theorem sc_Worker_m___init__ : FnScope ["self", "plan"] ["self", "plan"] (defScope (clsAt (topS 103) 0)) := ⟨rfl, rfl, rfl, by decide +kernel, rfl, by decide +kernel, by decide +kernel⟩
theorem bd_Worker_m___init__ {K : PySem.W.Frag} {fd : FuncData} (F : FnM K "Worker" "__init__" "Worker.__init__" (clsAt (topS 103) 0) [] fd) : Binds K fd ["self", "plan"] [] := F.bindsN fun _ _ _ _ _ _ us hl => match us, hl with | [_, _], _ => rfl
def spWi (P : Program) (w : World) (K : PySem.W.Frag) : Sp := fun vs H Q _ => ∃ (x dx : Addr) (A : PAd), vs = [.ref x, .ref A.x] ∧ H x = some (.ins (He.ga K "Worker") dx []) ∧ ∀ sp kp H', H kp = none → Chg [x] H H' → H' x = some (.ins (He.ga K "Worker") dx (wkF A sp kp)) → H' kp = some (dTu P w kp []) → Q .non H'
theorem ok_Worker_m___init__ (T : Tx w K mg) : DkM P w K mg base 1 "Worker" "__init__" ["self", "plan"] [] (spWi P w K) := by
  obtain ⟨fd, F⟩ := T.d_Worker_m___init__
  refine ⟨⟨fd, [], F.ok sc_Worker_m___init__ (fun vs H Q E h => ?_) (fun cdv A outer s H vs Q E hr h => ?_), bd_Worker_m___init__ F, .nil⟩⟩
  · obtain ⟨x, dx, A, rfl, _⟩ := h
    rfl
  · obtain ⟨x, dx, A, rfl, h1, q⟩ := h
    refine ⟨_, PSs.nox (pss_cons (ps_fld (pv 0) (pv 1) rfl)
      (pss_cons (ps_fld (pv 0) pe_dnewK rfl)
      (pss_one (ps_fld (pv 0) pe_tnew rfl)))), ?_⟩
    simp only [cxOf, tYes, eq_self, if_true, if_false, wipe, rLenQ, rIxTQ, rIxLQ, rIxSQ, rInt1Q, rTupQ, rAppQ, rPopQ, rPopAtQ, rRevQ, rListS, rReprP, tLenSetT, tChain, tRetN, tRet, tSeq, tAsg, gName, tVar, tC, tCons, tNil, tCB, tOp, rI0, rI, tAndV, tOrV, tNotV, tIf, tTest, tB, tNot, tAnd, tOr, tIfS, tNext, tCallR, rIsK, rEq, rNe, tDrop, L2.start, List.map_cons, List.map_nil, List.length_cons, List.length_nil, Nat.reduceAdd, Nat.reduceSub, Nat.sub_self, List.replicate_zero, List.replicate_succ, List.append_nil, List.cons_append, List.nil_append, List.getElem?_cons_zero, List.getElem?_cons_succ, List.set_cons_zero, List.set_cons_succ, Option.some.injEq, List.cons.injEq, and_true, true_and, exists_eq_left, exists_eq_left', exists_eq_right, V.ty.injEq, V.int.injEq, V.bl.injEq, V.str.injEq, V.ref.injEq, exists_and_left, exists_const, reduceIte, reduceCtorEq, false_and, and_false, exists_false, or_false, false_or, Bool.not_true, Bool.not_false, Bool.false_eq_true, String.reduceEq, true_or, or_true, rNotT, tNNew, tNNotIn, tNGet, sNPut, tLenSetN, tPar, tAug, ipI, tDNotIn, sDPut, tDGet, tTup, tLst, tBM, tBM0, tCallD, tCall, rKdIn, tTNew, tTIn, tTGet, sTPut, Sg.tMethR, tMeth, tMakeR, tMake, tDGet2, tSAddK, rSAddK, rSInK, rSet0K, rExtend, rExtendT, tFld, sFld, tRevT, tDIn, tSl, tPart, tNoPart, tDelFrom, StX.tStar, tUn, rU]
    refine ⟨_, dx, _, h1, T.cl_Worker, T.na_Worker_plan, by decide, fun sp hsp => ?_⟩
    have c1 : Chg [x] H (upd H x (.ins (He.ga K "Worker") dx (putF "plan" (.ref A.x) []))) := Chg.upd (by simp)
    have x1 : (upd H x (.ins (He.ga K "Worker") dx (putF "plan" (.ref A.x) []))) x = _ := upd_same
    generalize upd H x (.ins (He.ga K "Worker") dx (putF "plan" (.ref A.x) [])) = H1 at hsp c1 x1
    have s2 : Same H1 (upd H1 sp (.dK [])) := same_upd hsp
    generalize upd H1 sp (.dK []) = H2 at s2
    refine ⟨_, dx, _, s2 _ _ x1, T.cl_Worker, T.na_Worker_spans, Nat.lt_of_le_of_lt (pl (Nat.zero_le 0)) (by decide), fun kp hkp => ?_⟩
    have c3 := (c1.trans (Chg.of_same s2)).trans (Chg.upd (p := x) (o := .ins (He.ga K "Worker") dx (putF "spans" (.ref sp) (putF "plan" (.ref A.x) []))) (by simp))
    have x3 : (upd H2 x (.ins (He.ga K "Worker") dx (putF "spans" (.ref sp) (putF "plan" (.ref A.x) [])))) x = _ := upd_same
    generalize upd H2 x (.ins (He.ga K "Worker") dx (putF "spans" (.ref sp) (putF "plan" (.ref A.x) []))) = H3 at hkp c3 x3
    have s4 : Same H3 (upd H3 kp (dTu P w kp [])) := same_upd hkp
    have g4 : (upd H3 kp (dTu P w kp [])) kp = some (dTu P w kp []) := upd_same
    have nk : x ≠ kp := ne_of_none x3 hkp
    generalize upd H3 kp (dTu P w kp []) = H4 at s4 g4
    exact ⟨_, dx, _, s4 _ _ x3, T.cl_Worker, T.na_Worker_kept, Nat.lt_of_le_of_lt (pl (pl (Nat.zero_le 0))) (by decide), q (.ref sp) kp _ (fresh_back c3 x3 hkp) ((c3.trans (Chg.of_same s4)).trans (Chg.upd (by simp))) upd_same ((upd_ne (Ne.symm nk)).trans g4)⟩
/-- what stands on the stack of answer -/
inductive Ar where
  | ask (n : Nat) (u : Wk)
  | keep (n : Nat) (t : Str) (u : Wk)
def Ar.key : Ar → NestedKey
  | .ask n _ => .tup [.text (Str.ofString "ask"), .num (n : Int), .none]
  | .keep n t _ => .tup [.text (Str.ofString "keep"), .num (n : Int), .text t]
theorem in3n {K : PySem.W.Frag} {H : Hp} {Q : VK} {x a b c : Str} {r : Bool} (hb : ([a, b, c].any fun y => decide (y = x)) = r) (q : ∀ p, H p = none → Q (.bl (!r)) (upd H p (.tup [.str a, .str b, .str c]))) :
    3 ≤ sizeLine ∧ ∀ p, H p = none → rIn K true (.str x) (.ref p) (upd H p (.tup [.str a, .str b, .str c])) Q :=
  ⟨by rw [sizeLine_eq]; decide, fun p hp => ⟨_, _, rfl, .inr (.inl (.inl upd_same)), rfl, flat_strs (l := [a, b, c]), by
    have e : inV (V.str x) ([a, b, c].map V.str) = r := by rw [in_strs, hb]
    show Q (.bl (!inV (V.str x) ([a, b, c].map V.str))) _
    rw [e]
    exact q p hp⟩⟩
/-- one thing more at the end of a list -/
theorem push1 {H : Hp} {p l : Addr} {xs ls : List V} {ks zs : List NestedKey} (hp : H p = none) (hl : H l = some (.lst ls)) (kl : KeyVs H ls ks) (kx : KeyVs H xs zs) :
    upd H p (.tup xs) l = some (.lst ls) ∧ TP H (upd (upd H p (.tup xs)) l (.lst (ls ++ [.ref p]))) ∧ Chg [l] H (upd (upd H p (.tup xs)) l (.lst (ls ++ [.ref p]))) ∧ (upd (upd H p (.tup xs)) l (.lst (ls ++ [.ref p]))) l = some (.lst (ls ++ [.ref p])) ∧
      KeyVs (upd (upd H p (.tup xs)) l (.lst (ls ++ [.ref p]))) (ls ++ [.ref p]) (ks ++ [.tup zs]) := by
  have s1 := same_upd (o := HO.tup xs) hp
  have t2 : TP (upd H p (.tup xs)) (upd (upd H p (.tup xs)) l (.lst (ls ++ [.ref p]))) := tp_upd (s1 _ _ hl) fun _ e => by cases e
  have t := (TP.of_same s1).trans t2
  exact ⟨s1 _ _ hl, t, (Chg.of_same s1).trans (Chg.upd (by simp)), upd_same, (kl.tp t).app (.cons (.tup (t2 _ _ upd_same) (kx.tp t)) .nil)⟩
theorem sc_Worker_m_ask : FnScope ["self", "number", "text", "left", "row", "way"] ["self", "number", "text", "left"] (defScope (clsAt (topS 103) 6)) := ⟨rfl, rfl, rfl, by decide +kernel, rfl, by decide +kernel, by decide +kernel⟩
theorem bd_Worker_m_ask {K : PySem.W.Frag} {fd : FuncData} (F : FnM K "Worker" "ask" "Worker.ask" (clsAt (topS 103) 6) [] fd) : Binds K fd ["self", "number", "text", "left"] [] := F.bindsN fun _ _ _ _ _ _ us hl => match us, hl with | [_, _, _, _], _ => rfl
def spAk (P : Program) (w : World) (K : PySem.W.Frag) : Sp := fun vs H Q _ => ∃ (A : PAd) (x dx kp l : Addr) (n : Nat) (t : Str) (u : Wk) (ls : List V) (fs : List Ar) (ks : List NestedKey) (bd : Option Wk) (pl : Option Nat) (kvs : List TE3), vs = [.ref x, .int n, .str t, .ref l] ∧ Wo P w K A x dx kp H ks bd pl kvs ∧ Dn ks n u ∧ u.Fine ∧ Bd u t ∧ t.length ≤ 10000 ∧ H l = some (.lst ls) ∧ KeyVs H ls (fs.map Ar.key) ∧ ls.length ≤ 100000 ∧ u ≠ .fn ∧
  (∀ H', Same H H' → Q (.str (ev u t)) H') ∧
  ∀ a b i j ls' H', u = .th a b → Dn ks i a → Dn ks j b → valT kvs (ktK n t) = none → Chg [l] H H' → TP H H' → H' l = some (.lst ls') → KeyVs H' ls' ((fs ++ [Ar.keep n t u, Ar.ask j b, Ar.ask i a]).map Ar.key) → Q (.str t) H'
theorem ok_Worker_m_ask (T : Tx w K mg) : DkM P w K mg base 3 "Worker" "ask" ["self", "number", "text", "left"] [] (spAk P w K) := by
  have D_Plan_m_work_row := ok_Plan_m_work_row (P := P) (w := w) (base := base) T
  have D_Worker_m_plain_answer := ok_Worker_m_plain_answer (P := P) (w := w) (base := base) T
  have D_bounded := ok_bounded (P := P) (w := w) (base := base) T
  obtain ⟨fd, F⟩ := T.d_Worker_m_ask
  refine ⟨⟨fd, [], F.ok sc_Worker_m_ask (fun vs H Q E h => ?_) (fun cdv A outer s H vs Q E hr h => ?_), bd_Worker_m_ask F, .nil⟩⟩
  · obtain ⟨A, x, dx, kp, l, n, t, u, ls, fs, ks, bd, pl, kvs, rfl, _⟩ := h
    rfl
  · obtain ⟨A, x, dx, kp, l, n, t, u, ls, fs, ks, bd, pl, kvs, rfl, hW, hd, hf, hb, ht, hl, kl, hll, hne, q1, q2⟩ := h
    obtain ⟨_, c_KEEP⟩ := T.c_KEEP
    obtain ⟨_, c_ASK⟩ := T.c_ASK
    refine ⟨_, PSs.nox (pss_cons (ps_if (pt_cmp (pc_tin hr.units (pe_tup (pa_cons (pv 1) (pa_cons (pv 2) pa_nil))) (pe_fld (pv 0) rfl))) (pss_one (ps_ret (pe_tget hr.units (pe_fld (pv 0) rfl) (pe_tup (pa_cons (pv 1) (pa_cons (pv 2) pa_nil))) (fun _ _ => rfl)))) pss_nil)
      (pss_cons (ps_set (i := 4) sc_Worker_m_ask.nd rfl (.inl rfl) (pe_methR (pe_fld (pv 0) rfl) T.cl_Plan T.m_Plan_work_row D_Plan_m_work_row (hr.mono (by decide)) (pa_cons (pv 1) pa_nil)))
      (pss_cons (ps_if (pt_cmpR (show OpR _ _ (rIn K true) by exact op_notIn_seq) (pe_ix ix_tupQ (pv 4) pe_int (fun _ _ => rfl)) (pe_tup (pa_cons pe_str (pa_cons pe_str (pa_cons pe_str pa_nil)))) rfl) (pss_one (ps_ret (pe_callR D_bounded (hr.mono (by decide)) takes0 (pa_cons (pe_methR (pv 0) T.cl_Worker T.m_Worker_plain_answer D_Worker_m_plain_answer (hr.mono (by decide)) (pa_cons (pv 4) (pa_cons (pv 2) pa_nil))) pa_nil)))) pss_nil)
      (pss_cons (ps_expr (pe_bm PySem.F.plainAttrs_list PySem.F.slot_list_append PySem.F.type_list_append mt_appQ (pv 3) (pa_cons (pe_tup (pa_cons (pe_glob (v := .str "keep") (by rfl) c_KEEP ⟨_, rfl⟩) (pa_cons (pv 1) (pa_cons (pv 2) pa_nil)))) pa_nil)))
      (pss_cons (ps_if (pt_cmpR op_eq (pe_ix ix_tupQ (pv 4) pe_int (fun _ _ => rfl)) pe_str (nomark _)) (pss_cons (ps_expr (pe_bm PySem.F.plainAttrs_list PySem.F.slot_list_append PySem.F.type_list_append mt_appQ (pv 3) (pa_cons (pe_tup (pa_cons (pe_glob (v := .str "ask") (by rfl) c_ASK ⟨_, rfl⟩) (pa_cons (pe_ix ix_tupQ (pv 4) pe_int (fun _ _ => rfl)) (pa_cons pe_non pa_nil)))) pa_nil)))
      (pss_cons (ps_expr (pe_bm PySem.F.plainAttrs_list PySem.F.slot_list_append PySem.F.type_list_append mt_appQ (pv 3) (pa_cons (pe_tup (pa_cons (pe_glob (v := .str "ask") (by rfl) c_ASK ⟨_, rfl⟩) (pa_cons (pe_ix ix_tupQ (pv 4) pe_int (fun _ _ => rfl)) (pa_cons pe_non pa_nil)))) pa_nil)))
      (pss_one (ps_ret (pv 2))))) pss_nil)
      (pss_cons (ps_if (pt_cmpR op_eq (pe_ix ix_tupQ (pv 4) pe_int (fun _ _ => rfl)) pe_str (nomark _)) (pss_cons (ps_set (i := 5) sc_Worker_m_ask.nd rfl (.inl rfl) (pe_ifExp (pt_val pe_dead) (pe_ix ix_tupQ (pv 4) pe_int (fun _ _ => rfl)) (pe_ix ix_tupQ (pv 4) pe_int (fun _ _ => rfl))))
      (pss_cons (ps_expr (pe_bm PySem.F.plainAttrs_list PySem.F.slot_list_append PySem.F.type_list_append mt_appQ (pv 3) (pa_cons (pe_tup (pa_cons (pe_glob (v := .str "ask") (by rfl) c_ASK ⟨_, rfl⟩) (pa_cons (pv 5) (pa_cons pe_non pa_nil)))) pa_nil)))
      (pss_one (ps_ret (pv 2))))) pss_nil)
      (pss_one (ps_ret pe_dead)))))))), ?_⟩
    simp only [cxOf, tYes, eq_self, if_true, if_false, wipe, rLenQ, rIxTQ, rIxLQ, rIxSQ, rInt1Q, rTupQ, rAppQ, rPopQ, rPopAtQ, rRevQ, rListS, rReprP, tLenSetT, tChain, tRetN, tRet, tSeq, tAsg, gName, tVar, tC, tCons, tNil, tCB, tOp, rI0, rI, tAndV, tOrV, tNotV, tIf, tTest, tB, tNot, tAnd, tOr, tIfS, tNext, tCallR, rIsK, rEq, rNe, tDrop, L2.start, List.map_cons, List.map_nil, List.length_cons, List.length_nil, Nat.reduceAdd, Nat.reduceSub, Nat.sub_self, List.replicate_zero, List.replicate_succ, List.append_nil, List.cons_append, List.nil_append, List.getElem?_cons_zero, List.getElem?_cons_succ, List.set_cons_zero, List.set_cons_succ, Option.some.injEq, List.cons.injEq, and_true, true_and, exists_eq_left, exists_eq_left', exists_eq_right, V.ty.injEq, V.int.injEq, V.bl.injEq, V.str.injEq, V.ref.injEq, exists_and_left, exists_const, reduceIte, reduceCtorEq, false_and, and_false, exists_false, or_false, false_or, Bool.not_true, Bool.not_false, Bool.false_eq_true, String.reduceEq, true_or, or_true, rNotT, tNNew, tNNotIn, tNGet, sNPut, tLenSetN, tPar, tAug, ipI, tDNotIn, sDPut, tDGet, tTup, tLst, tBM, tBM0, tCallD, tCall, rKdIn, tTNew, tTIn, tTGet, sTPut, Sg.tMethR, tMeth, tMakeR, tMake, tDGet2, tSAddK, rSAddK, rSInK, rSet0K, rExtend, rExtendT, tFld, sFld, tRevT, tDIn, tSl, tPart, tNoPart, tDelFrom, StX.tStar, tUn, rU]
    obtain ⟨⟨sp, hins⟩, hP, hK, _⟩ := id hW
    have kat : ∀ {p : Addr} {H' : Hp}, H' p = some (.tup [.int (n : Int), .str t]) → KeyAt H' p (ktK n t) := fun h => ⟨.tup h (.cons (.int _) (.cons (.str _) .nil)), by show max 0 (max 0 0) + 1 ≤ 8; omega⟩
    refine ⟨by rw [sizeLine_eq]; decide, fun p hp => ?_⟩
    have s1 := same_upd (o := HO.tup [.int (n : Int), .str t]) hp
    have gp : (upd H p (.tup [.int (n : Int), .str t])) p = some (.tup [.int (n : Int), .str t]) := upd_same
    generalize upd H p (.tup [.int (n : Int), .str t]) = H1 at s1 gp
    have hK1 := hK.ent.mono (TP.of_same s1)
    refine ⟨_, _, _, s1 _ _ hins, T.cl_Worker, T.na_Worker_kept, _, rfl, kp, rfl, kvs, s1 _ _ hK.at_, hK1, ktK n t, kat gp, ?_⟩
    cases hv : valT kvs (ktK n t) with
    | some v =>
      obtain ⟨n', t', u', e, d', rfl⟩ := hK.ok _ _ hv
      have e2 := List.cons.inj (NestedKey.tup.inj e)
      have e3 := Int.ofNat.inj (NestedKey.num.inj e2.1)
      have e4 := NestedKey.text.inj (List.cons.inj e2.2).1
      subst e3 e4
      obtain rfl := hd.det d'
      refine ifT rfl ⟨_, _, _, s1 _ _ hins, T.cl_Worker, T.na_Worker_kept, _, rfl, by rw [sizeLine_eq]; decide, fun p1 hp1 => ?_⟩
      have s2 := same_upd (o := HO.tup [.int (n : Int), .str t]) hp1
      exact ⟨kp, rfl, kvs, s2 _ _ (s1 _ _ hK.at_), hK1.mono (TP.of_same s2), ktK n t, kat upd_same, _, hv, q1 _ (Same.trans s1 s2)⟩
    | none =>
      obtain ⟨z0, ns0, st0, sp0, hpi⟩ := hP.ins
      refine ifF rfl ⟨_, _, _, s1 _ _ hins, T.cl_Worker, T.na_Worker_plan, _, rfl, A.x, rfl, _, _, s1 _ _ hpi, rfl, ?_⟩
      cases hd with
      | @st _ s hk =>
        refine ⟨A, n, ks, _, bd, pl, rfl, hP.same s1, hk, fun y hy => ?_⟩
        obtain ⟨a, ys, rfl, ha, hys⟩ := wk_view (w := .st s) hy
        refine ⟨_, .inl (.inl ha), _, at_0 _ _, ?_⟩
        refine in3n (st_any (by decide +kernel)) fun p2 hp2 => ?_
        have s2 := same_upd (o := HO.tup [.str (Str.ofString "then"), .str (Str.ofString "if"), .str (Str.ofString "each")]) hp2
        have s12 := Same.trans s1 s2
        refine ⟨true, rfl, ifT rfl ⟨_, _, s12 _ _ hins, rfl, x, .ref a, s, t, rfl, hy.tp (TP.of_same s2), hf, ht, fun H3 s3 => ⟨ans s t, rfl, hb, q1 H3 (Same.trans s12 s3)⟩⟩⟩
      | @th _ i j ua ub hk da db =>
        refine ⟨A, n, ks, _, bd, pl, rfl, hP.same s1, hk, fun y hy => ?_⟩
        obtain ⟨a, ys, rfl, ha, hys⟩ := tup_view hy
        obtain ⟨y0, ys, rfl, hy0, hys⟩ := cons_view hys
        obtain ⟨y1, y2, rfl, hy1, hy2⟩ := two_view hys
        obtain rfl := text_view hy0
        obtain rfl := num_view hy1
        obtain rfl := num_view hy2
        refine ⟨_, .inl (.inl ha), _, at_0 _ _, ?_⟩
        refine in3n (r := true) (by decide +kernel) fun p2 hp2 => ?_
        have s2 := same_upd (o := HO.tup [.str (Str.ofString "then"), .str (Str.ofString "if"), .str (Str.ofString "each")]) hp2
        have s12 := Same.trans s1 s2
        have ha2 := s2 _ _ ha
        generalize upd H1 p2 (HO.tup [.str (Str.ofString "then"), .str (Str.ofString "if"), .str (Str.ofString "each")]) = H2 at s2 s12 ha2
        refine ⟨false, rfl, ifF rfl ⟨lst_ty (s12 _ _ hl), by rw [sizeLine_eq]; decide, fun p3 hp3 => ?_⟩⟩
        obtain ⟨u1, t3, c3, g3, k3⟩ := push1 (zs := [.text (Str.ofString "keep"), .num (n : Int), .text t]) (xs := [.str (Str.ofString "keep"), .int (n : Int), .str t]) hp3 (s12 _ _ hl) (kl.tp (TP.of_same s12)) (.cons (.str _) (.cons (.int _) (.cons (.str _) .nil)))
        refine ⟨ls, u1, szlt (m := 100000) (by omega), ?_⟩
        generalize upd (upd H2 p3 (HO.tup [.str (Str.ofString "keep"), .int (n : Int), .str t])) l (HO.lst (ls ++ [.ref p3])) = H3 at t3 c3 g3 k3
        refine word_yes (t3 _ _ ha2) rfl ⟨lst_ty g3, _, .inl (.inl (t3 _ _ ha2)), .int (j : Int), rfl, by rw [sizeLine_eq]; decide, fun p4 hp4 => ?_⟩
        obtain ⟨u2, t4, c4, g4, k4⟩ := push1 (zs := [.text (Str.ofString "ask"), .num (j : Int), .none]) (xs := [.str (Str.ofString "ask"), .int (j : Int), .non]) hp4 g3 k3 (.cons (.str _) (.cons (.int _) (.cons .non .nil)))
        refine ⟨_, u2, szlt (m := 100001) (by rw [List.length_append, List.length_singleton]; omega), lst_ty g4, ?_⟩
        generalize upd (upd H3 p4 (HO.tup [.str (Str.ofString "ask"), .int (j : Int), .non])) l (HO.lst ((ls ++ [.ref p3]) ++ [.ref p4])) = H4 at t4 c4 g4 k4
        refine ⟨_, .inl (.inl (t4 _ _ (t3 _ _ ha2))), .int (i : Int), rfl, by rw [sizeLine_eq]; decide, fun p5 hp5 => ?_⟩
        obtain ⟨u3, t5, c5, g5, k5⟩ := push1 (zs := [.text (Str.ofString "ask"), .num (i : Int), .none]) (xs := [.str (Str.ofString "ask"), .int (i : Int), .non]) hp5 g4 k4 (.cons (.str _) (.cons (.int _) (.cons .non .nil)))
        refine ⟨_, u3, szlt (m := 100002) (by rw [List.length_append, List.length_append, List.length_singleton, List.length_singleton]; omega), q2 ua ub i j _ _ rfl da db hv ((Chg.of_same s12).trans ((c3.trans c4).trans c5)) ((TP.of_same s12).trans ((t3.trans t4).trans t5)) g5 ?_⟩
        have e9 : (fs ++ [Ar.keep n t (ua.th ub), Ar.ask j ub, Ar.ask i ua]).map Ar.key = ((fs.map Ar.key ++ [.tup [.text (Str.ofString "keep"), .num (n : Int), .text t]]) ++ [.tup [.text (Str.ofString "ask"), .num (j : Int), .none]]) ++ [.tup [.text (Str.ofString "ask"), .num (i : Int), .none]] := by simp [Ar.key]
        rw [e9]
        exact k5
end
end K08

namespace K08
open PySem PySem.Spec PyProof.Rows L2 Sg
theorem Dn.ne {ks : List NestedKey} {n : Nat} {u : Wk} (h : Dn ks n u) : u ≠ .fn := by cases h <;> simp
def Ar.tree : Ar → Wk
  | .ask _ u => u
  | .keep _ _ u => u
def Ar.ac : Ar → Nat
  | .ask _ u => u.cw
  | .keep _ _ _ => 1
def ArR (f g : Ar) : Prop := match g with
  | .keep _ _ u => f.tree.nodes < u.nodes
  | .ask _ _ => True
def Ga (ks : List NestedKey) (g : Str) : List Ar → Str → Prop
  | [], now => now = g
  | .ask n u :: fs, now => Dn ks n u ∧ u.Fine ∧ Bd u now ∧ Ga ks g fs (ev u now)
  | .keep n t u :: fs, now => Dn ks n u ∧ now = ev u t ∧ Ga ks g fs now
theorem cw_pos (u : Wk) : 1 ≤ u.cw := by
  cases u with
  | th a b => show 1 ≤ 2 + a.cw + b.cw; omega
  | _ => exact Nat.le_refl 1
theorem ac_len : ∀ fs : List Ar, fs.length ≤ (fs.map Ar.ac).sum
  | [] => Nat.zero_le _
  | f :: fs => by
    rw [List.length_cons, List.map_cons, List.sum_cons]
    have := ac_len fs
    have : 1 ≤ f.ac := by
      cases f with
      | ask n u => exact cw_pos u
      | keep n t u => exact Nat.le_refl 1
    omega
theorem kt_inj {n n' : Nat} {t t' : Str} (e : ktK n t = ktK n' t') : n = n' ∧ t = t' := by
  have e2 := List.cons.inj (NestedKey.tup.inj e)
  exact ⟨Int.ofNat.inj (NestedKey.num.inj e2.1), NestedKey.text.inj (List.cons.inj e2.2).1⟩
theorem ga_mem {ks : List NestedKey} {g : Str} {n : Nat} {t : Str} {u : Wk} : ∀ {fs : List Ar} {now : Str}, Ga ks g fs now → Ar.keep n t u ∈ fs → Dn ks n u
  | .ask _ _ :: fs, _, h, hm => by
    rcases List.mem_cons.mp hm with e | hm
    · cases e
    · exact ga_mem h.2.2.2 hm
  | .keep _ _ _ :: fs, _, h, hm => by
    rcases List.mem_cons.mp hm with e | hm
    · cases e
      exact h.1
    · exact ga_mem h.2.2 hm
theorem wo_in {P : Program} {w : World} {K : PySem.W.Frag} {A : PAd} {x dx kp : Addr} {H : Hp} {ks : List NestedKey} {bd : Option Wk} {pl : Option Nat} {kvs : List TE3} (h : Wo P w K A x dx kp H ks bd pl kvs) : ∀ b ∈ [x, kp, A.x, A.tb, A.rl, A.pd, A.nw, A.wp], ∃ o, H b = some o := by
  obtain ⟨⟨sp, h1⟩, h2, ⟨h3, _, _⟩, _⟩ := h
  intro b hb
  rcases List.mem_cons.mp hb with rfl | hb
  · exact ⟨_, h1⟩
  rcases List.mem_cons.mp hb with rfl | hb
  · exact ⟨_, h3⟩
  exact pn_in h2 b hb
section
variable {P : Program} {w : World} {K : PySem.W.Frag} {mg : Str → Option Value} {base : Heap}
def AnI (P : Program) (w : World) (K : PySem.W.Frag) (H : Hp) (A : PAd) (x dx kp l : Addr) (n0 : Nat) (t0 g : Str) (ks : List NestedKey) (bd : Option Wk) (pl : Option Nat) (μ : Nat) (σ : L2.St) (H' : Hp) : Prop :=
  ∃ (fs : List Ar) (now : Str) (ls : List V) (kvs : List TE3) (x5 x6 x7 : Option V), Chg [kp] H H' ∧ TP H H' ∧ H' l = some (.lst ls) ∧ KeyVs H' ls (fs.reverse.map Ar.key) ∧ Wo P w K A x dx kp H' ks bd pl kvs ∧ Ga ks g fs now ∧ fs.Pairwise ArR ∧ (∀ n t u, Ar.keep n t u ∈ fs → valT kvs (ktK n t) = none) ∧ kvs.length + (fs.map Ar.ac).sum ≤ 90000 ∧ now.length ≤ 10000 ∧ μ = (fs.map Ar.ac).sum ∧
    σ = [some (.ref x), some (.int (n0 : Int)), some (.str t0), some (.str now), some (.ref l), x5, x6, x7]
theorem sc_Worker_m_answer : FnScope ["self", "number", "text", "now", "left", "deed", "one", "thing"] ["self", "number", "text"] (defScope (clsAt (topS 103) 5)) := ⟨rfl, rfl, rfl, by decide +kernel, rfl, by decide +kernel, by decide +kernel⟩
theorem bd_Worker_m_answer {K : PySem.W.Frag} {fd : FuncData} (F : FnM K "Worker" "answer" "Worker.answer" (clsAt (topS 103) 5) [] fd) : Binds K fd ["self", "number", "text"] [] := F.bindsN fun _ _ _ _ _ _ us hl => match us, hl with | [_, _, _], _ => rfl
def spAn (P : Program) (w : World) (K : PySem.W.Frag) : Sp := fun vs H Q _ => ∃ (A : PAd) (x dx kp : Addr) (n : Nat) (t : Str) (u : Wk) (ks : List NestedKey) (bd : Option Wk) (pl : Option Nat), vs = [.ref x, .int n, .str t] ∧ Wo P w K A x dx kp H ks bd pl [] ∧ Dn ks n u ∧ u.Fine ∧ Bd u t ∧ t.length ≤ 10000 ∧ u.cw ≤ 80000 ∧ ∀ H', Chg [kp] H H' → TP H H' → Q (.str (ev u t)) H'
theorem ok_Worker_m_answer (T : Tx w K mg) : DkM P w K mg base 4 "Worker" "answer" ["self", "number", "text"] [] (spAn P w K) := by
  have D_Worker_m_ask := ok_Worker_m_ask (P := P) (w := w) (base := base) T
  obtain ⟨fd, F⟩ := T.d_Worker_m_answer
  refine ⟨⟨fd, [], F.ok sc_Worker_m_answer (fun vs H Q E h => ?_) (fun cdv A outer s H vs Q E hr h => ?_), bd_Worker_m_answer F, .nil⟩⟩
  · obtain ⟨A, x, dx, kp, n, t, u, ks, bd, pl, rfl, _⟩ := h
    rfl
  · obtain ⟨A, x, dx, kp, n, t, u, ks, bd, pl, rfl, hW, hd, hf, hb, ht, hc, q⟩ := h
    obtain ⟨_, c_KEEP⟩ := T.c_KEEP
    obtain ⟨_, c_ASK⟩ := T.c_ASK
    refine ⟨_, PSs.nox (pss_cons (ps_set (i := 3) sc_Worker_m_answer.nd rfl (.inl rfl) (pv 2))
      (pss_cons (ps_set (i := 4) sc_Worker_m_answer.nd rfl (.inl rfl) (pe_lst (pa_cons (pe_tup (pa_cons (pe_glob (v := .str "ask") (by rfl) c_ASK ⟨_, rfl⟩) (pa_cons (pv 1) (pa_cons pe_non pa_nil)))) pa_nil)))
      (pss_cons (ps_while PassesOwn.never (pt_truth (pv 4) (by intro _; rfl)) (pss_cons (ps_asg (pe_bm0 PySem.F.plainAttrs_list PySem.F.slot_list_pop PySem.F.type_list_pop mt_popQ (pv 4)) (pg_tup (by rfl) (pgs_cons (pg_name (i := 5) sc_Worker_m_answer.nd rfl (.inl rfl)) (pgs_cons (pg_name (i := 6) sc_Worker_m_answer.nd rfl (.inl rfl)) (pgs_cons (pg_name (i := 7) sc_Worker_m_answer.nd rfl (.inl rfl)) pgs_nil)))))
      (pss_cons (ps_if (pt_cmpR op_eq (pv 5) (pe_glob (v := .str "ask") (by rfl) c_ASK ⟨_, rfl⟩) (nomark _)) (pss_one (ps_set (i := 3) sc_Worker_m_answer.nd rfl (.inl rfl) (pe_methR (pv 0) T.cl_Worker T.m_Worker_ask D_Worker_m_ask (hr.mono (by decide)) (pa_cons (pv 6) (pa_cons (pv 3) (pa_cons (pv 4) pa_nil)))))) (pss_one (ps_if (pt_cmpR op_eq (pv 5) (pe_glob (v := .str "keep") (by rfl) c_KEEP ⟨_, rfl⟩) (nomark _)) (pss_one (ps_tput hr.units (pe_fld (pv 0) rfl) (pe_tup (pa_cons (pv 6) (pa_cons (pv 7) pa_nil))) (pv 3) rfl)) (pss_cons (ps_expr (pe_bm PySem.F.plainAttrs_list PySem.F.slot_list_append PySem.F.type_list_append mt_appQ (pe_fld (pv 7) rfl) (pa_cons (pv 3) pa_nil)))
      (pss_one (ps_set (i := 3) sc_Worker_m_answer.nd rfl (.inl rfl) pe_dead))))))
      (pss_one (ps_if (pt_cmpR op_isN (pv 3) pe_non (nomark _)) (pss_one (ps_ret pe_non)) pss_nil)))))
      (pss_one (ps_ret (pv 3)))))), ?_⟩
    simp only [cxOf, tYes, eq_self, if_true, if_false, wipe, rLenQ, rIxTQ, rIxLQ, rIxSQ, rInt1Q, rTupQ, rAppQ, rPopQ, rPopAtQ, rRevQ, rListS, rReprP, tLenSetT, tChain, tRetN, tRet, tSeq, tAsg, gName, tVar, tC, tCons, tNil, tCB, tOp, rI0, rI, tAndV, tOrV, tNotV, tIf, tTest, tB, tNot, tAnd, tOr, tIfS, tNext, tCallR, rIsK, rEq, rNe, tDrop, L2.start, List.map_cons, List.map_nil, List.length_cons, List.length_nil, Nat.reduceAdd, Nat.reduceSub, Nat.sub_self, List.replicate_zero, List.replicate_succ, List.append_nil, List.cons_append, List.nil_append, List.getElem?_cons_zero, List.getElem?_cons_succ, List.set_cons_zero, List.set_cons_succ, Option.some.injEq, List.cons.injEq, and_true, true_and, exists_eq_left, exists_eq_left', exists_eq_right, V.ty.injEq, V.int.injEq, V.bl.injEq, V.str.injEq, V.ref.injEq, exists_and_left, exists_const, reduceIte, reduceCtorEq, false_and, and_false, exists_false, or_false, false_or, Bool.not_true, Bool.not_false, Bool.false_eq_true, String.reduceEq, true_or, or_true, rNotT, tNNew, tNNotIn, tNGet, sNPut, tLenSetN, tPar, tAug, ipI, tDNotIn, sDPut, tDGet, tTup, tLst, tBM, tBM0, tCallD, tCall, rKdIn, tTNew, tTIn, tTGet, sTPut, Sg.tMethR, tMeth, tMakeR, tMake, tDGet2, tSAddK, rSAddK, rSInK, rSet0K, rExtend, rExtendT, tFld, sFld, tRevT, tDIn, tSl, tPart, tNoPart, tDelFrom, StX.tStar, tUn, rU]
    refine ⟨by rw [sizeLine_eq]; decide, fun p hp => ⟨by rw [sizeLine_eq]; decide, fun l hl0 => ?_⟩⟩
    have s1 := same_upd (o := HO.tup [.str (Str.ofString "ask"), .int (n : Int), .non]) hp
    have s2 := same_upd (o := HO.lst [.ref p]) hl0
    have s0 := Same.trans s1 s2
    have gp : (upd (upd H p (.tup [.str (Str.ofString "ask"), .int (n : Int), .non])) l (.lst [.ref p])) p = some (.tup [.str (Str.ofString "ask"), .int (n : Int), .non]) := s2 _ _ upd_same
    have gl : (upd (upd H p (.tup [.str (Str.ofString "ask"), .int (n : Int), .non])) l (.lst [.ref p])) l = some (.lst [.ref p]) := upd_same
    have hlH : H l = none := by
      cases e : H l with
      | none => rfl
      | some o => rw [s1 _ _ e] at hl0; cases hl0
    generalize upd (upd H p (.tup [.str (Str.ofString "ask"), .int (n : Int), .non])) l (.lst [.ref p]) = H0 at s0 gp gl
    have nlA : l ∉ [x, kp, A.x, A.tb, A.rl, A.pd, A.nw, A.wp] := fun h => by
      obtain ⟨o, ho⟩ := wo_in hW l h
      rw [hlH] at ho
      cases ho
    refine ⟨AnI P w K H A x dx kp l n t (ev u t) ks bd pl, ⟨_, [.ask n u], t, [.ref p], [], none, none, none, Chg.of_same s0, TP.of_same s0, gl, .cons (.tup gp (.cons (.str _) (.cons (.int _) (.cons .non .nil)))) .nil, hW.same s0, ⟨hd, hf, hb, rfl⟩, List.pairwise_singleton _ _, (fun n t u h => by cases List.mem_singleton.mp h), ?_, ht, rfl, rfl⟩, ?_⟩
    · show 0 + (u.cw + 0) ≤ 90000
      omega
    clear s1 s2 s0 gp gl hp hl0
    rintro μ σ H' ⟨fs, now, ls, kvs, x5, x6, x7, c1, t1, hl, kl, wo, ga, pw, fr, b1, hnow, rfl, rfl⟩
    simp only [cxOf, tYes, eq_self, if_true, if_false, wipe, rLenQ, rIxTQ, rIxLQ, rIxSQ, rInt1Q, rTupQ, rAppQ, rPopQ, rPopAtQ, rRevQ, rListS, rReprP, tLenSetT, tChain, tRetN, tRet, tSeq, tAsg, gName, tVar, tC, tCons, tNil, tCB, tOp, rI0, rI, tAndV, tOrV, tNotV, tIf, tTest, tB, tNot, tAnd, tOr, tIfS, tNext, tCallR, rIsK, rEq, rNe, tDrop, L2.start, List.map_cons, List.map_nil, List.length_cons, List.length_nil, Nat.reduceAdd, Nat.reduceSub, Nat.sub_self, List.replicate_zero, List.replicate_succ, List.append_nil, List.cons_append, List.nil_append, List.getElem?_cons_zero, List.getElem?_cons_succ, List.set_cons_zero, List.set_cons_succ, Option.some.injEq, List.cons.injEq, and_true, true_and, exists_eq_left, exists_eq_left', exists_eq_right, V.ty.injEq, V.int.injEq, V.bl.injEq, V.str.injEq, V.ref.injEq, exists_and_left, exists_const, reduceIte, reduceCtorEq, false_and, and_false, exists_false, or_false, false_or, Bool.not_true, Bool.not_false, Bool.false_eq_true, String.reduceEq, true_or, or_true, rNotT, tNNew, tNNotIn, tNGet, sNPut, tLenSetN, tPar, tAug, ipI, tDNotIn, sDPut, tDGet, tTup, tLst, tBM, tBM0, tCallD, tCall, rKdIn, tTNew, tTIn, tTGet, sTPut, Sg.tMethR, tMeth, tMakeR, tMake, tDGet2, tSAddK, rSAddK, rSInK, rSet0K, rExtend, rExtendT, tFld, sFld, tRevT, tDIn, tSl, tPart, tNoPart, tDelFrom, StX.tStar, tUn, rU]
    cases fs with
    | nil =>
      obtain rfl := nil_view kl
      have ga : now = ev u t := ga
      subst ga
      exact ⟨false, .inl ⟨_, .inl (.inl hl), rfl⟩, ifF rfl (q H' c1 t1)⟩
    | cons f fs =>
      rw [List.reverse_cons, List.map_append] at kl
      obtain ⟨ls, y, rfl, kl, ky⟩ := snoc_view kl
      have hsum : ((f :: fs).map Ar.ac).sum = f.ac + (fs.map Ar.ac).sum := rfl
      rw [hsum] at b1
      have hfl := ac_len fs
      have hll : ls.length = fs.length := by rw [kl.len, List.length_map, List.length_reverse]
      obtain ⟨pw1, pw2⟩ := List.pairwise_cons.mp pw
      refine ⟨true, .inl ⟨_, .inl (.inl hl), by simp⟩, ifT rfl ?_⟩
      refine ⟨fun σ H'' => ∃ m', m' < ((f :: fs).map Ar.ac).sum ∧ AnI P w K H A x dx kp l n t (ev u t) ks bd pl m' σ H'', fun _ _ z => z, lst_ty hl, ls, y, hl, ?_⟩
      have t2 : TP H' (upd H' l (.lst ls)) := tp_upd hl fun _ e => by cases e
      have g2 : (upd H' l (.lst ls)) l = some (.lst ls) := upd_same
      have c2 : Chg [l] H' (upd H' l (.lst ls)) := Chg.upd (by simp)
      have wo2 : Wo P w K A x dx kp (upd H' l (.lst ls)) ks bd pl kvs := wo.mono t2 fun b hb o ho => c2 _ _ (fun e => by
        rw [List.mem_singleton.mp e] at hb
        exact nlA hb) ho
      have ky2 := ky.tp t2
      have kl2 := kl.tp t2
      generalize upd H' l (.lst ls) = H2 at t2 g2 c2 wo2 ky2 kl2
      have c12 : Chg [kp] H H2 := chg_new c1 c2 (by simp [hlH])
      obtain ⟨sp, hins⟩ := wo2.ins
      cases f with
      | ask m v =>
        obtain ⟨c, cs, rfl, hc1, hcs⟩ := tup_view ky2
        obtain ⟨y1, cs, rfl, hy1, hcs⟩ := cons_view hcs
        obtain ⟨y2, y3, rfl, hy2, hy3⟩ := two_view hcs
        obtain rfl := text_view hy1
        obtain rfl := num_view hy2
        cases hy3
        obtain ⟨gd, gf, gb, ga⟩ := ga
        refine ⟨c, _, rfl, .inl (.inl hc1), rfl, _, _, rfl, _, _, rfl, _, _, rfl, rfl, ?_⟩
        simp only [cxOf, tYes, eq_self, if_true, if_false, wipe, rLenQ, rIxTQ, rIxLQ, rIxSQ, rInt1Q, rTupQ, rAppQ, rPopQ, rPopAtQ, rRevQ, rListS, rReprP, tLenSetT, tChain, tRetN, tRet, tSeq, tAsg, gName, tVar, tC, tCons, tNil, tCB, tOp, rI0, rI, tAndV, tOrV, tNotV, tIf, tTest, tB, tNot, tAnd, tOr, tIfS, tNext, tCallR, rIsK, rEq, rNe, tDrop, L2.start, List.map_cons, List.map_nil, List.length_cons, List.length_nil, Nat.reduceAdd, Nat.reduceSub, Nat.sub_self, List.replicate_zero, List.replicate_succ, List.append_nil, List.cons_append, List.nil_append, List.getElem?_cons_zero, List.getElem?_cons_succ, List.set_cons_zero, List.set_cons_succ, Option.some.injEq, List.cons.injEq, and_true, true_and, exists_eq_left, exists_eq_left', exists_eq_right, V.ty.injEq, V.int.injEq, V.bl.injEq, V.str.injEq, V.ref.injEq, exists_and_left, exists_const, reduceIte, reduceCtorEq, false_and, and_false, exists_false, or_false, false_or, Bool.not_true, Bool.not_false, Bool.false_eq_true, String.reduceEq, true_or, or_true, rNotT, tNNew, tNNotIn, tNGet, sNPut, tLenSetN, tPar, tAug, ipI, tDNotIn, sDPut, tDGet, tTup, tLst, tBM, tBM0, tCallD, tCall, rKdIn, tTNew, tTIn, tTGet, sTPut, Sg.tMethR, tMeth, tMakeR, tMake, tDGet2, tSAddK, rSAddK, rSInK, rSet0K, rExtend, rExtendT, tFld, sFld, tRevT, tDIn, tSl, tPart, tNoPart, tDelFrom, StX.tStar, tUn, rU]
        refine ⟨rfl, ifT (by decide) ⟨_, _, hins, rfl, A, x, dx, kp, l, m, now, v, ls, fs.reverse, ks, bd, pl, kvs, rfl, wo2, gd, gf, gb, hnow, g2, kl2, by omega, gd.ne, fun H3 s3 => ?_, ?_⟩⟩
        · refine ifF (decide_eq_false (by intro e; cases e)) ⟨(fs.map Ar.ac).sum, ?_, fs, ev v now, ls, kvs, _, _, _, c12.trans (Chg.of_same s3), (t1.trans t2).trans (TP.of_same s3), s3 _ _ g2, kl2.tp (TP.of_same s3), wo2.same s3, ga, pw2, fun n t u h => fr n t u (List.mem_cons_of_mem _ h), by omega, gb.len, rfl, rfl⟩
          show _ < v.cw + (fs.map Ar.ac).sum
          have := cw_pos v
          omega
        · rintro a b i j ls' H3 rfl di dj hv c3 t3 h3 k3
          have wo3 := wo2.mono t3 fun b hb o ho => c3 b o (fun e => by
            rw [List.mem_singleton.mp e] at hb
            exact nlA hb) ho
          have e7 : (Ar.ask m (a.th b)).ac = 2 + a.cw + b.cw := rfl
          have na : a.nodes < (a.th b).nodes := by show a.nodes < 1 + a.nodes + b.nodes; omega
          have nb : b.nodes < (a.th b).nodes := by show b.nodes < 1 + a.nodes + b.nodes; omega
          have below : ∀ (f : Ar), f.tree.nodes ≤ (a.th b).nodes → ∀ g ∈ fs, ArR f g := fun f hf g hg => by
            have := pw1 g hg
            cases g with
            | ask _ _ => exact True.intro
            | keep _ _ u' => exact Nat.lt_of_le_of_lt hf this
          have pwk : (Ar.keep m now (a.th b) :: fs).Pairwise ArR := List.pairwise_cons.mpr ⟨below _ (Nat.le_refl _), pw2⟩
          have pwb : (Ar.ask j b :: Ar.keep m now (a.th b) :: fs).Pairwise ArR := List.pairwise_cons.mpr ⟨fun g hg => by
            rcases List.mem_cons.mp hg with rfl | hg
            · exact nb
            · exact below (.ask j b) (Nat.le_of_lt nb) g hg, pwk⟩
          have pwa : (Ar.ask i a :: Ar.ask j b :: Ar.keep m now (a.th b) :: fs).Pairwise ArR := List.pairwise_cons.mpr ⟨fun g hg => by
            rcases List.mem_cons.mp hg with rfl | hg
            · exact True.intro
            rcases List.mem_cons.mp hg with rfl | hg
            · exact na
            · exact below (.ask i a) (Nat.le_of_lt na) g hg, pwb⟩
          have es : ((Ar.ask i a :: Ar.ask j b :: Ar.keep m now (a.th b) :: fs).map Ar.ac).sum = a.cw + (b.cw + (1 + (fs.map Ar.ac).sum)) := rfl
          refine ifF (decide_eq_false (by intro e; cases e)) ⟨_, ?_, Ar.ask i a :: Ar.ask j b :: Ar.keep m now (a.th b) :: fs, now, ls', kvs, _, _, _, chg_new c12 c3 (by simp [hlH]), (t1.trans t2).trans t3, h3, ?_, wo3, ⟨di, gf.1, gb.1, dj, gf.2, gb.2, gd, rfl, ga⟩, pwa, ?_, ?_, hnow, rfl, rfl⟩
          · show _ < (Ar.ask m (a.th b)).ac + (fs.map Ar.ac).sum
            rw [es]
            omega
          · have e9 : (Ar.ask i a :: Ar.ask j b :: Ar.keep m now (a.th b) :: fs).reverse = fs.reverse ++ [Ar.keep m now (a.th b), Ar.ask j b, Ar.ask i a] := by simp
            rw [e9]
            exact k3
          · intro n' t' u' h
            rcases List.mem_cons.mp h with h | h
            · cases h
            rcases List.mem_cons.mp h with h | h
            · cases h
            rcases List.mem_cons.mp h with h | h
            · cases h
              exact hv
            · exact fr n' t' u' (List.mem_cons_of_mem _ h)
          · rw [es]
            omega
      | keep m s v =>
        obtain ⟨c, cs, rfl, hc1, hcs⟩ := tup_view ky2
        obtain ⟨y1, cs, rfl, hy1, hcs⟩ := cons_view hcs
        obtain ⟨y2, y3, rfl, hy2, hy3⟩ := two_view hcs
        obtain rfl := text_view hy1
        obtain rfl := num_view hy2
        obtain rfl := text_view hy3
        obtain ⟨gd, rfl, ga⟩ := ga
        refine ⟨c, _, rfl, .inl (.inl hc1), rfl, _, _, rfl, _, _, rfl, _, _, rfl, rfl, ?_⟩
        simp only [cxOf, tYes, eq_self, if_true, if_false, wipe, rLenQ, rIxTQ, rIxLQ, rIxSQ, rInt1Q, rTupQ, rAppQ, rPopQ, rPopAtQ, rRevQ, rListS, rReprP, tLenSetT, tChain, tRetN, tRet, tSeq, tAsg, gName, tVar, tC, tCons, tNil, tCB, tOp, rI0, rI, tAndV, tOrV, tNotV, tIf, tTest, tB, tNot, tAnd, tOr, tIfS, tNext, tCallR, rIsK, rEq, rNe, tDrop, L2.start, List.map_cons, List.map_nil, List.length_cons, List.length_nil, Nat.reduceAdd, Nat.reduceSub, Nat.sub_self, List.replicate_zero, List.replicate_succ, List.append_nil, List.cons_append, List.nil_append, List.getElem?_cons_zero, List.getElem?_cons_succ, List.set_cons_zero, List.set_cons_succ, Option.some.injEq, List.cons.injEq, and_true, true_and, exists_eq_left, exists_eq_left', exists_eq_right, V.ty.injEq, V.int.injEq, V.bl.injEq, V.str.injEq, V.ref.injEq, exists_and_left, exists_const, reduceIte, reduceCtorEq, false_and, and_false, exists_false, or_false, false_or, Bool.not_true, Bool.not_false, Bool.false_eq_true, String.reduceEq, true_or, or_true, rNotT, tNNew, tNNotIn, tNGet, sNPut, tLenSetN, tPar, tAug, ipI, tDNotIn, sDPut, tDGet, tTup, tLst, tBM, tBM0, tCallD, tCall, rKdIn, tTNew, tTIn, tTGet, sTPut, Sg.tMethR, tMeth, tMakeR, tMake, tDGet2, tSAddK, rSAddK, rSInK, rSet0K, rExtend, rExtendT, tFld, sFld, tRevT, tDIn, tSl, tPart, tNoPart, tDelFrom, StX.tStar, tUn, rU]
        obtain ⟨_, hP, hK, hnk⟩ := id wo2
        refine ⟨rfl, ifF (by decide +kernel) ⟨rfl, ifT (by decide) ⟨_, _, _, hins, T.cl_Worker, T.na_Worker_kept, _, rfl, by rw [sizeLine_eq]; decide, fun p3 hp3 => ?_⟩⟩⟩
        have s3 := same_upd (o := HO.tup [.int (m : Int), .str s]) hp3
        have gp : (upd H2 p3 (.tup [.int (m : Int), .str s])) p3 = some (.tup [.int (m : Int), .str s]) := upd_same
        generalize upd H2 p3 (.tup [.int (m : Int), .str s]) = H3 at s3 gp
        have hvn := fr m s v (by simp)
        have e7 : (Ar.keep m s v).ac = 1 := rfl
        have kat : KeyAt H3 p3 (ktK m s) := ⟨.tup gp (.cons (.int _) (.cons (.str _) .nil)), by show max 0 (max 0 0) + 1 ≤ 8; omega⟩
        have g3 := s3 _ _ hK.at_
        have en3 := hK.ent.mono (TP.of_same s3)
        refine ⟨kp, rfl, kvs, g3, en3, ktK m s, kat, hvn, by omega, ifF (by decide) ?_⟩
        have t4 : TP H3 (upd H3 kp (dTu P w kp (kvs ++ [(ktK m s, p3, .str (ev v s))]))) := tp_upd g3 fun _ e => by cases e
        have wo4 : Wo P w K A x dx kp (upd H3 kp (dTu P w kp (kvs ++ [(ktK m s, p3, .str (ev v s))]))) ks bd pl (kvs ++ [(ktK m s, p3, .str (ev v s))]) := by
          refine ⟨⟨sp, ?_⟩, (hP.same s3).mono t4 fun b hb o ho => ?_, ⟨upd_same, fun e he => ?_, fun k' v' hv' => ?_⟩, hnk⟩
          · rw [upd_ne fun e => hnk (by rw [e]; simp)]
            exact s3 _ _ hins
          · rw [upd_ne fun e => hnk (by rw [← e]; exact List.mem_cons_of_mem _ hb)]
            exact ho
          · rcases List.mem_append.mp he with h | h
            · exact (en3 e h).mono t4
            · obtain rfl := List.mem_singleton.mp h
              exact kat.mono t4
          · cases hv2 : valT kvs k' with
            | some u2 =>
              rw [valT_old hv2] at hv'
              obtain rfl := Option.some.inj hv'
              exact hK.ok _ _ hv2
            | none =>
              rw [valT_new hv2] at hv'
              by_cases c : ktK m s = k'
              · rw [if_pos c] at hv'
                obtain rfl := Option.some.inj hv'
                exact ⟨m, s, v, c.symm, gd, rfl⟩
              · rw [if_neg c] at hv'
                cases hv'
        have nlk : l ≠ kp := fun e => nlA (by rw [e]; simp)
        refine ⟨(fs.map Ar.ac).sum, by show _ < 1 + (fs.map Ar.ac).sum; omega, fs, ev v s, ls, _, _, _, _, (c12.trans (Chg.of_same s3)).trans (Chg.upd (by simp)), ((t1.trans t2).trans (TP.of_same s3)).trans t4, (upd_ne nlk).trans (s3 _ _ g2), kl2.tp ((TP.of_same s3).trans t4), wo4, ga, pw2, fun n' t' u' h => ?_, ?_, hnow, rfl, rfl⟩
        · rw [valT_new (fr n' t' u' (List.mem_cons_of_mem _ h)), if_neg]
          intro e
          obtain ⟨rfl, rfl⟩ := kt_inj e
          have h1 := pw1 _ h
          have h2 : v.nodes < u'.nodes := h1
          have h3 : Dn ks m u' := ga_mem ga h
          rw [gd.det h3] at h2
          exact absurd h2 (Nat.lt_irrefl _)
        · rw [List.length_append, List.length_singleton]
          omega
end
end K08

namespace K08
open PySem PySem.Spec PyProof.Rows L2 Sg
/-- a work that can be asked, with this text -/
structure Askd (bd : Option Wk) (t : Wk) (s : Str) : Prop where
  cl : Cl bd t
  ff : ∀ b, bd = some b → b.ff = true
  c : Wk.c (bd.getD .fn) t ≤ 40000
  fine : (sub bd t).Fine
  short : Bd (sub bd t) s
  len : s.length ≤ 10000
  cw : (sub bd t).cw ≤ 80000
section
variable {P : Program} {w : World} {K : PySem.W.Frag} {mg : Str → Option Value} {base : Heap}
theorem sc_answer_unchecked : FnScope ["program", "work", "text", "plan", "number"] ["program", "work", "text"] (defScope (topS 105)) := ⟨rfl, rfl, rfl, by decide +kernel, rfl, by decide +kernel, by decide +kernel⟩
theorem bd_answer_unchecked {K : PySem.W.Frag} {f : Addr} {fd : FuncData} (F : FnP K "answer_unchecked" (topS 105) f fd) : Binds K fd ["program", "work", "text"] [] := F.bindsN fun _ _ _ _ _ _ us hl => match us, hl with | [_, _, _], _ => rfl
def spAu : Sp := fun vs H Q _ => ∃ (v x : V) (z s : Str) (bd : Option Wk) (t : Wk), vs = [v, x, .str s] ∧ KeyV H v (progK z bd) ∧ KeyV H x t.key ∧ Askd bd t s ∧ ∀ H', Same H H' → Q (.str (ev (sub bd t) s)) H'
theorem ok_answer_unchecked (T : Tx w K mg) : Dk P w K mg base 5 "answer_unchecked" ["program", "work", "text"] spAu := by
  have D_Plan_m___init__ := ok_Plan_m___init__ (P := P) (w := w) (base := base) T
  have D_Plan_m_number_work := ok_Plan_m_number_work (P := P) (w := w) (base := base) T
  have D_Worker_m___init__ := ok_Worker_m___init__ (P := P) (w := w) (base := base) T
  have D_Worker_m_answer := ok_Worker_m_answer (P := P) (w := w) (base := base) T
  obtain ⟨fd, F⟩ := T.d_answer_unchecked
  refine ⟨⟨fd, F.ok sc_answer_unchecked (fun vs H Q E h => ?_) (fun cdv A outer s H vs Q E hr h => ?_), bd_answer_unchecked F⟩, F.kp, T.g_answer_unchecked⟩
  · obtain ⟨v, x, z, s, bd, t, rfl, _⟩ := h
    rfl
  · obtain ⟨v, x, z, s, bd, t, rfl, hv, hx, ha, q⟩ := h
    refine ⟨_, PSs.nox (pss_cons (ps_set (i := 3) sc_answer_unchecked.nd rfl (.inl rfl) (pe_makeR T.mk_Plan T.g_Plan D_Plan_m___init__ (hr.mono (by decide)) (pa_cons (pv 0) pa_nil)))
      (pss_cons (ps_set (i := 4) sc_answer_unchecked.nd rfl (.inl rfl) (pe_methR (pv 3) T.cl_Plan T.m_Plan_number_work D_Plan_m_number_work (hr.mono (by decide)) (pa_cons (pv 1) pa_nil)))
      (pss_one (ps_ret (pe_methR (pe_makeR T.mk_Worker T.g_Worker D_Worker_m___init__ (hr.mono (by decide)) (pa_cons (pv 3) pa_nil)) T.cl_Worker T.m_Worker_answer D_Worker_m_answer (hr.mono (by decide)) (pa_cons (pv 4) (pa_cons (pv 2) pa_nil))))))), ?_⟩
    simp only [cxOf, tYes, eq_self, if_true, if_false, wipe, rLenQ, rIxTQ, rIxLQ, rIxSQ, rInt1Q, rTupQ, rAppQ, rPopQ, rPopAtQ, rRevQ, rListS, rReprP, tLenSetT, tChain, tRetN, tRet, tSeq, tAsg, gName, tVar, tC, tCons, tNil, tCB, tOp, rI0, rI, tAndV, tOrV, tNotV, tIf, tTest, tB, tNot, tAnd, tOr, tIfS, tNext, tCallR, rIsK, rEq, rNe, tDrop, L2.start, List.map_cons, List.map_nil, List.length_cons, List.length_nil, Nat.reduceAdd, Nat.reduceSub, Nat.sub_self, List.replicate_zero, List.replicate_succ, List.append_nil, List.cons_append, List.nil_append, List.getElem?_cons_zero, List.getElem?_cons_succ, List.set_cons_zero, List.set_cons_succ, Option.some.injEq, List.cons.injEq, and_true, true_and, exists_eq_left, exists_eq_left', exists_eq_right, V.ty.injEq, V.int.injEq, V.bl.injEq, V.str.injEq, V.ref.injEq, exists_and_left, exists_const, reduceIte, reduceCtorEq, false_and, and_false, exists_false, or_false, false_or, Bool.not_true, Bool.not_false, Bool.false_eq_true, String.reduceEq, true_or, or_true, rNotT, tNNew, tNNotIn, tNGet, sNPut, tLenSetN, tPar, tAug, ipI, tDNotIn, sDPut, tDGet, tTup, tLst, tBM, tBM0, tCallD, tCall, rKdIn, tTNew, tTIn, tTGet, sTPut, Sg.tMethR, tMeth, tMakeR, tMake, tDGet2, tSAddK, rSAddK, rSInK, rSet0K, rExtend, rExtendT, tFld, sFld, tRevT, tDIn, tSl, tPart, tNoPart, tDelFrom, StX.tStar, tUn, rU]
    intro px pdx hpx hpdx npd
    have hmk : Same H (upd (upd H pdx (HO.own px)) px (HO.ins (He.ga K "Plan") pdx [])) := mk_same hpx hpdx (Chg.refl [px] _)
    refine ⟨px, pdx, v, z, bd, rfl, upd_same, hv.tp (TP.of_same hmk), fun A H1 e1 e2 nrl npd' nwp c1 pn1 => ⟨rfl, ?_⟩⟩
    have s1 : Same H H1 := mk_same hpx hpdx c1
    have nrl2 := mk_back nrl
    have npd2 := mk_back npd'
    have nwp2 := mk_back nwp
    clear nrl npd' nwp
    clear c1 hmk
    subst e1
    subst e2
    obtain ⟨z0, ns0, st0, sp0, hins⟩ := pn1.ins
    refine ⟨_, _, hins, rfl, A, x, t, bd, rfl, pn1, hx.tp (TP.of_same s1), ha.cl, ha.ff, ha.c, fun n ks pl H2 c2 t2 pn2 dn => ?_⟩
    have s2 : Same H H2 := Same.chg s1 [A.rl, A.pd, A.wp] (by simp [nrl2, npd2, nwp2]) c2
    intro wx wdx hwx hwdx nwd
    refine ⟨wx, wdx, A, rfl, upd_same, fun sp kp H3 nkp c3 hw3 hk3 => ⟨rfl, ?_⟩⟩
    have s23 : Same H2 H3 := mk_same hwx hwdx c3
    have nkp := mk_back nkp
    have nkH : H kp = none := by
      cases e : H kp with
      | none => rfl
      | some o => rw [s2 _ _ e] at nkp; cases nkp
    have wo3 : Wo P w K A wx wdx kp H3 ks bd pl [] := by
      refine ⟨⟨sp, hw3⟩, pn2.same s23, ⟨hk3, (fun e he => nomatch he), fun k v hv => by cases hv⟩, fun h => ?_⟩
      rcases List.mem_cons.mp h with h | h
      · rw [h, hw3] at hk3
        cases hk3
      · obtain ⟨o, ho⟩ := pn_in pn2 kp h
        rw [nkp] at ho
        cases ho
    exact ⟨_, _, hw3, rfl, A, wx, wdx, kp, n, s, sub bd t, ks, bd, pl, rfl, wo3, dn, ha.fine, ha.short, ha.len, ha.cw, fun H4 c4 t4 => q H4 (Same.chg (Same.trans s2 s23) [kp] (by simp [nkH]) c4)⟩
theorem sc_apply : FnScope ["program", "name", "text"] ["program", "name", "text"] (defScope (topS 106)) := ⟨rfl, rfl, rfl, by decide +kernel, rfl, by decide +kernel, by decide +kernel⟩
theorem bd_apply {K : PySem.W.Frag} {f : Addr} {fd : FuncData} (F : FnP K "apply" (topS 106) f fd) : Binds K fd ["program", "name", "text"] [] := F.bindsN fun _ _ _ _ _ _ us hl => match us, hl with | [_, _, _], _ => rfl
def spAp : Sp := fun vs H Q _ => ∃ (v : V) (z s : Str) (b : Wk), vs = [v, .str (Str.ofString "f"), .str s] ∧ KeyV H v (progK z (some b)) ∧ PrOk z (some b) ∧ txB z s = true ∧ Askd (some b) .fn s ∧ ∀ H', Same H H' → Q (.str (ev b s)) H'
theorem ok_apply (T : Tx w K mg) : Dk P w K mg base 11 "apply" ["program", "name", "text"] spAp := by
  have D_check_program := ok_check_program (P := P) (w := w) (base := base) T
  have D_check_fun := ok_check_fun (P := P) (w := w) (base := base) T
  have D_check_text := ok_check_text (P := P) (w := w) (base := base) T
  have D_answer_unchecked := ok_answer_unchecked (P := P) (w := w) (base := base) T
  obtain ⟨fd, F⟩ := T.d_apply
  refine ⟨⟨fd, F.ok sc_apply (fun vs H Q E h => ?_) (fun cdv A outer s H vs Q E hr h => ?_), bd_apply F⟩, F.kp, T.g_apply⟩
  · obtain ⟨v, z, s, b, rfl, _⟩ := h
    rfl
  · obtain ⟨v, z, s, b, rfl, hv, hz, hs, ha, q⟩ := h
    obtain ⟨a, b1, rs, rfl, hpa, hpb, hrs⟩ := prog_view hv
    refine ⟨_, PSs.nox (pss_cons (ps_expr (pe_callR D_check_program (hr.mono (by decide)) takes0 (pa_cons (pv 0) pa_nil)))
      (pss_cons (ps_expr (pe_callR D_check_fun (hr.mono (by decide)) takes0 (pa_cons (pv 0) (pa_cons (pv 1) pa_nil))))
      (pss_cons (ps_expr (pe_callR D_check_text (hr.mono (by decide)) takes0 (pa_cons (pe_ix ix_tupQ (pv 0) pe_int (fun _ _ => rfl)) (pa_cons (pv 2) pa_nil))))
      (pss_one (ps_ret (pe_callR D_answer_unchecked (hr.mono (by decide)) takes0 (pa_cons (pv 0) (pa_cons (pe_tup (pa_cons pe_str (pa_cons (pv 1) pa_nil))) (pa_cons (pv 2) pa_nil))))))))), ?_⟩
    simp only [cxOf, tYes, eq_self, if_true, if_false, wipe, rLenQ, rIxTQ, rIxLQ, rIxSQ, rInt1Q, rTupQ, rAppQ, rPopQ, rPopAtQ, rRevQ, rListS, rReprP, tLenSetT, tChain, tRetN, tRet, tSeq, tAsg, gName, tVar, tC, tCons, tNil, tCB, tOp, rI0, rI, tAndV, tOrV, tNotV, tIf, tTest, tB, tNot, tAnd, tOr, tIfS, tNext, tCallR, rIsK, rEq, rNe, tDrop, L2.start, List.map_cons, List.map_nil, List.length_cons, List.length_nil, Nat.reduceAdd, Nat.reduceSub, Nat.sub_self, List.replicate_zero, List.replicate_succ, List.append_nil, List.cons_append, List.nil_append, List.getElem?_cons_zero, List.getElem?_cons_succ, List.set_cons_zero, List.set_cons_succ, Option.some.injEq, List.cons.injEq, and_true, true_and, exists_eq_left, exists_eq_left', exists_eq_right, V.ty.injEq, V.int.injEq, V.bl.injEq, V.str.injEq, V.ref.injEq, exists_and_left, exists_const, reduceIte, reduceCtorEq, false_and, and_false, exists_false, or_false, false_or, Bool.not_true, Bool.not_false, Bool.false_eq_true, String.reduceEq, true_or, or_true, rNotT, tNNew, tNNotIn, tNGet, sNPut, tLenSetN, tPar, tAug, ipI, tDNotIn, sDPut, tDGet, tTup, tLst, tBM, tBM0, tCallD, tCall, rKdIn, tTNew, tTIn, tTGet, sTPut, Sg.tMethR, tMeth, tMakeR, tMake, tDGet2, tSAddK, rSAddK, rSInK, rSet0K, rExtend, rExtendT, tFld, sFld, tRevT, tDIn, tSl, tPart, tNoPart, tDelFrom, StX.tStar, tUn, rU]
    refine ⟨_, z, some b, rfl, hv, hz, fun H1 s1 => ⟨_, z, b, rfl, hv.tp (TP.of_same s1), fun H2 s2 => ⟨_, .inl (.inl ((Same.trans s1 s2) _ _ hpa)), _, rfl, z, s, rfl, hs, Nat.le_trans ha.len (by decide), fun H3 s3 => ⟨by rw [sizeLine_eq]; decide, fun p hp => ?_⟩⟩⟩⟩
    have s13 := Same.trans s1 (Same.trans s2 s3)
    have s4 := same_upd (o := HO.tup [.str (Str.ofString "fun"), .str (Str.ofString "f")]) hp
    have s14 := Same.trans s13 s4
    exact ⟨_, .ref p, z, s, some b, .fn, rfl, hv.tp (TP.of_same s14), .tup upd_same (.cons (.str _) (.cons (.str _) .nil)), ha, fun H4 s5 => q H4 (Same.trans s14 s5)⟩
theorem sc_apply_work : FnScope ["program", "work", "text"] ["program", "work", "text"] (defScope (topS 107)) := ⟨rfl, rfl, rfl, by decide +kernel, rfl, by decide +kernel, by decide +kernel⟩
theorem bd_apply_work {K : PySem.W.Frag} {f : Addr} {fd : FuncData} (F : FnP K "apply_work" (topS 107) f fd) : Binds K fd ["program", "work", "text"] [] := F.bindsN fun _ _ _ _ _ _ us hl => match us, hl with | [_, _, _], _ => rfl
def spApw : Sp := fun vs H Q _ => ∃ (v x : V) (z s : Str) (bd : Option Wk) (t : Wk), vs = [v, x, .str s] ∧ KeyV H v (progK z bd) ∧ PrOk z bd ∧ KeyV H x t.key ∧ t.In z ∧ (t.fns = [] ∨ bd.isSome = true) ∧ txB z s = true ∧ Askd bd t s ∧ ∀ H', Same H H' → Q (.str (ev (sub bd t) s)) H'
theorem ok_apply_work (T : Tx w K mg) : Dk P w K mg base 11 "apply_work" ["program", "work", "text"] spApw := by
  have D_check_program := ok_check_program (P := P) (w := w) (base := base) T
  have D_check_work := ok_check_work (P := P) (w := w) (base := base) T
  have D_check_text := ok_check_text (P := P) (w := w) (base := base) T
  have D_answer_unchecked := ok_answer_unchecked (P := P) (w := w) (base := base) T
  obtain ⟨fd, F⟩ := T.d_apply_work
  refine ⟨⟨fd, F.ok sc_apply_work (fun vs H Q E h => ?_) (fun cdv A outer s H vs Q E hr h => ?_), bd_apply_work F⟩, F.kp, T.g_apply_work⟩
  · obtain ⟨v, x, z, s, bd, t, rfl, _⟩ := h
    rfl
  · obtain ⟨v, x, z, s, bd, t, rfl, hv, hz, hx, hi, hf, hs, ha, q⟩ := h
    obtain ⟨a, b1, rs, rfl, hpa, hpb, hrs⟩ := prog_view hv
    refine ⟨_, PSs.nox (pss_cons (ps_expr (pe_callR D_check_program (hr.mono (by decide)) takes0 (pa_cons (pv 0) pa_nil)))
      (pss_cons (ps_expr (pe_callR D_check_work (hr.mono (by decide)) takes0 (pa_cons (pv 0) (pa_cons (pv 1) pa_nil))))
      (pss_cons (ps_expr (pe_callR D_check_text (hr.mono (by decide)) takes0 (pa_cons (pe_ix ix_tupQ (pv 0) pe_int (fun _ _ => rfl)) (pa_cons (pv 2) pa_nil))))
      (pss_one (ps_ret (pe_callR D_answer_unchecked (hr.mono (by decide)) takes0 (pa_cons (pv 0) (pa_cons (pv 1) (pa_cons (pv 2) pa_nil))))))))), ?_⟩
    simp only [cxOf, tYes, eq_self, if_true, if_false, wipe, rLenQ, rIxTQ, rIxLQ, rIxSQ, rInt1Q, rTupQ, rAppQ, rPopQ, rPopAtQ, rRevQ, rListS, rReprP, tLenSetT, tChain, tRetN, tRet, tSeq, tAsg, gName, tVar, tC, tCons, tNil, tCB, tOp, rI0, rI, tAndV, tOrV, tNotV, tIf, tTest, tB, tNot, tAnd, tOr, tIfS, tNext, tCallR, rIsK, rEq, rNe, tDrop, L2.start, List.map_cons, List.map_nil, List.length_cons, List.length_nil, Nat.reduceAdd, Nat.reduceSub, Nat.sub_self, List.replicate_zero, List.replicate_succ, List.append_nil, List.cons_append, List.nil_append, List.getElem?_cons_zero, List.getElem?_cons_succ, List.set_cons_zero, List.set_cons_succ, Option.some.injEq, List.cons.injEq, and_true, true_and, exists_eq_left, exists_eq_left', exists_eq_right, V.ty.injEq, V.int.injEq, V.bl.injEq, V.str.injEq, V.ref.injEq, exists_and_left, exists_const, reduceIte, reduceCtorEq, false_and, and_false, exists_false, or_false, false_or, Bool.not_true, Bool.not_false, Bool.false_eq_true, String.reduceEq, true_or, or_true, rNotT, tNNew, tNNotIn, tNGet, sNPut, tLenSetN, tPar, tAug, ipI, tDNotIn, sDPut, tDGet, tTup, tLst, tBM, tBM0, tCallD, tCall, rKdIn, tTNew, tTIn, tTGet, sTPut, Sg.tMethR, tMeth, tMakeR, tMake, tDGet2, tSAddK, rSAddK, rSInK, rSet0K, rExtend, rExtendT, tFld, sFld, tRevT, tDIn, tSl, tPart, tNoPart, tDelFrom, StX.tStar, tUn, rU]
    refine ⟨_, z, bd, rfl, hv, hz, fun H1 s1 => ⟨_, x, z, bd, t, rfl, hv.tp (TP.of_same s1), hx.tp (TP.of_same s1), hi, hf, fun H2 s2 => ⟨_, .inl (.inl ((Same.trans s1 s2) _ _ hpa)), _, rfl, z, s, rfl, hs, Nat.le_trans ha.len (by decide), fun H3 s3 => ?_⟩⟩⟩
    have s13 := Same.trans s1 (Same.trans s2 s3)
    exact ⟨_, x, z, s, bd, t, rfl, hv.tp (TP.of_same s13), hx.tp (TP.of_same s13), ha, fun H4 s4 => q H4 (Same.trans s13 s4)⟩
end
end K08

namespace K08
open PySem PySem.Spec PyProof.Rows L2 Sg
section
variable {P : Program} {w : World} {K : PySem.W.Frag} {mg : Str → Option Value} {base : Heap}
/-! the law's own functions: drawing of numbers -/
def Bag (H : Hp) (b g : Addr) (B : Nat) : Prop := b ≠ g ∧ ∃ (js : List Int) (sd : Int) (c : Nat), H b = some (.lst [.ref g, .int sd, .int (c : Int)]) ∧ H g = some (.lst (js.map V.int)) ∧ 0 ≤ sd ∧ sd < 2147483647 ∧ c ≤ B
def Bch (b g : Addr) (H H' : Hp) : Prop := ∀ x o, x ≠ b → x ≠ g → H x = some o → H' x = some o
theorem Bch.refl (b g : Addr) (H : Hp) : Bch b g H H := fun _ _ _ _ h => h
theorem Bch.trans {b g : Addr} {H H1 H2 : Hp} (a : Bch b g H H1) (c : Bch b g H1 H2) : Bch b g H H2 := fun x o h1 h2 h => c x o h1 h2 (a x o h1 h2 h)
theorem Bch.of_same {b g : Addr} {H H1 : Hp} (s : Same H H1) : Bch b g H H1 := fun x o _ _ h => s x o h
theorem Bag.le {H : Hp} {b g : Addr} {B C : Nat} (h : Bag H b g B) (l : B ≤ C) : Bag H b g C := by
  obtain ⟨n, js, sd, c, h1, h2, h3, h4, h5⟩ := h
  exact ⟨n, js, sd, c, h1, h2, h3, h4, Nat.le_trans h5 l⟩
theorem Bag.same {H H' : Hp} {b g : Addr} {B : Nat} (h : Bag H b g B) (s : Same H H') : Bag H' b g B := by
  obtain ⟨n, js, sd, c, h1, h2, h3, h4, h5⟩ := h
  exact ⟨n, js, sd, c, s _ _ h1, s _ _ h2, h3, h4, h5⟩
theorem Bag.ne {H : Hp} {b g : Addr} {B : Nat} (h : Bag H b g B) {x : Addr} (hx : H x = none) : x ≠ b ∧ x ≠ g := by
  obtain ⟨n, js, sd, c, h1, h2, _⟩ := h
  exact ⟨fun e => by (rw [e, h1] at hx; cases hx), fun e => by (rw [e, h2] at hx; cases hx)⟩
theorem cps_app (x y : Str) : (x ++ y).cps.toList = x.cps.toList ++ y.cps.toList := Array.toList_append
theorem len_app (x y : Str) : (x ++ y).length = x.length + y.length := Array.size_append
theorem cmR {i j : Int} (h : -(2 ^ 64) < j ∧ j < 2 ^ 64 := by decide) : CMul i j := .inr h
theorem cmL {i j : Int} (h : -(2 ^ 64) < i ∧ i < 2 ^ 64 := by decide) : CMul i j := .inl h
theorem cutV_mem {xs : List V} {lo hi : Option Int} {i : Nat} {x : V} (h : (cutV xs lo hi)[i]? = some x) : x ∈ xs :=
  List.mem_of_mem_drop (List.mem_of_mem_take (List.mem_of_getElem? h))
theorem cutV_63 {xs : List V} : (cutV xs none (some 63)).length ≤ 63 := by
  unfold cutV
  rw [List.length_take, show (63 : Int) = ((63 : Nat) : Int) from rfl, HT.sIx_nat]
  omega
theorem cmM {i j B : Int} (h : 0 < B) (h2 : B < 2 ^ 64) : CMul i (j % B) := .inr ⟨by
  have := Int.emod_nonneg j (Int.ne_of_gt h)
  omega, by
  have := Int.emod_lt_of_pos j h
  omega⟩
theorem ix_0 (x : V) (xs : List V) : ixN (x :: xs).length 0 = some 0 := by
  unfold ixN
  rw [if_pos (by omega), if_pos (by rw [List.length_cons]; omega)]
  rfl
theorem sc__law_bag : FnScope ["script", "great", "seed", "cell"] ["script"] (defScope (topS 109)) := ⟨rfl, rfl, rfl, by decide +kernel, rfl, by decide +kernel, by decide +kernel⟩
theorem bd__law_bag {K : PySem.W.Frag} {f : Addr} {fd : FuncData} (F : FnP K "_law_bag" (topS 109) f fd) : Binds K fd ["script"] [] := F.bindsN fun _ _ _ _ _ _ us hl => match us, hl with | [_], _ => rfl
def spBg (K : PySem.W.Frag) : Sp := fun vs H Q _ => ∃ (a : Addr) (ns : List Int), vs = [.ref a] ∧ SqL K H a (ns.map V.int) ∧ ∀ b g H', H b = none → H g = none → Same H H' → Bag H' b g 0 → Q (.ref b) H'
def BgP (H : Hp) (a l p : Addr) (cs : List V) (i : Nat) (σ : L2.St) (H' : Hp) : Prop := ∃ (js : List Int) (sd : Int) (y3 : Option V), Same H H' ∧ H' p = some (.lst cs) ∧ H' l = some (.lst (js.map V.int)) ∧ js.length ≤ i ∧ 0 ≤ sd ∧ sd < 2147483647 ∧ σ = [some (.ref a), some (.ref l), some (.int sd), y3]
theorem ok__law_bag (T : Tx w K mg) : Dk P w K mg base 1 "_law_bag" ["script"] (spBg K) := by
  obtain ⟨fd, F⟩ := T.d__law_bag
  refine ⟨⟨fd, F.ok sc__law_bag (fun vs H Q E h => ?_) (fun cdv A outer s H vs Q E hr h => ?_), bd__law_bag F⟩, F.kp, T.g__law_bag⟩
  · obtain ⟨a, ns, rfl, _⟩ := h
    rfl
  · obtain ⟨a, ns, rfl, ha, q⟩ := h
    refine ⟨_, PSs.nox (pss_cons (ps_set (i := 1) sc__law_bag.nd rfl (.inl rfl) (pe_lst pa_nil))
      (pss_cons (ps_set (i := 2) sc__law_bag.nd rfl (.inl rfl) pe_int)
      (pss_cons (ps_for PassesOwn.never rfl (pi_list (pe_slice sl_list (pv 0) po_none (po_some pe_int))) (pg_name (i := 3) sc__law_bag.nd rfl (.inl rfl)) (pss_cons (ps_if (pt_cmpR op_ge (pv 3) (pe_op op_pow pe_int pe_int) (nomark _)) (pss_one (ps_expr (pe_bm PySem.F.plainAttrs_list PySem.F.slot_list_append PySem.F.type_list_append mt_appQ (pv 1) (pa_cons (pe_op op_mod (pe_callTy call_int1Q (by rfl) T.f_int PyProof.Rows.boot_int (pa_cons (pv 3) pa_nil)) (pe_op op_powB (pe_op op_pow pe_int pe_int) pe_int)) pa_nil)))) pss_nil)
      (pss_one (ps_set (i := 2) sc__law_bag.nd rfl (.inl rfl) (pe_op op_mod (pe_callTy call_int1Q (by rfl) T.f_int PyProof.Rows.boot_int (pa_cons (pe_op op_add (pe_op op_add (pe_op op_mul (pv 2) pe_int) (pe_op op_mod (pe_callTy call_int1Q (by rfl) T.f_int PyProof.Rows.boot_int (pa_cons (pv 3) pa_nil)) pe_int)) pe_int) pa_nil)) pe_int)))))
      (pss_one (ps_ret (pe_lst (pa_cons (pv 1) (pa_cons (pv 2) (pa_cons pe_int pa_nil))))))))), ?_⟩
    simp only [cxOf, tYes, eq_self, if_true, if_false, wipe, rLenQ, rIxTQ, rIxLQ, rIxSQ, rInt1Q, rTupQ, rAppQ, rPopQ, rPopAtQ, rRevQ, rListS, rReprP, tLenSetT, tChain, tRetN, tRet, tSeq, tAsg, gName, tVar, tC, tCons, tNil, tCB, tOp, rI0, rI, tAndV, tOrV, tNotV, tIf, tTest, tB, tNot, tAnd, tOr, tIfS, tNext, tCallR, rIsK, rEq, rNe, tDrop, L2.start, List.map_cons, List.map_nil, List.length_cons, List.length_nil, Nat.reduceAdd, Nat.reduceSub, Nat.sub_self, List.replicate_zero, List.replicate_succ, List.append_nil, List.cons_append, List.nil_append, List.getElem?_cons_zero, List.getElem?_cons_succ, List.set_cons_zero, List.set_cons_succ, Option.some.injEq, List.cons.injEq, and_true, true_and, exists_eq_left, exists_eq_left', exists_eq_right, V.ty.injEq, V.int.injEq, V.bl.injEq, V.str.injEq, V.ref.injEq, exists_and_left, exists_const, reduceIte, reduceCtorEq, false_and, and_false, exists_false, or_false, false_or, Bool.not_true, Bool.not_false, Bool.false_eq_true, String.reduceEq, true_or, or_true, rNotT, tNNew, tNNotIn, tNGet, sNPut, tLenSetN, tPar, tAug, ipI, tDNotIn, sDPut, tDGet, tTup, tLst, tBM, tBM0, tCallD, tCall, rKdIn, tTNew, tTIn, tTGet, sTPut, Sg.tMethR, tMeth, tMakeR, tMake, tDGet2, tSAddK, rSAddK, rSInK, rSet0K, rExtend, rExtendT, tFld, sFld, tRevT, tDIn, tSl, tPart, tNoPart, tDelFrom, StX.tStar, tUn, rU]
    refine ⟨Nat.zero_le _, fun l hl0 => ?_⟩
    have sA : Same H (upd H l (.lst [])) := same_upd hl0
    refine ⟨_, rfl, _, rfl, a, _, rfl, Same.seq sA ha, fun p hp => ⟨p, rfl, ⟨_, .inl (.inl upd_same)⟩, ?_⟩⟩
    have hpl : p ≠ l := fun e => by rw [e, upd_same] at hp; cases hp
    have hp0 : H p = none := by rwa [upd_ne hpl] at hp
    generalize hcs : cutV (ns.map V.int) none (some 63) = cs
    have hc63 : cs.length ≤ 63 := by rw [← hcs]; exact cutV_63
    have hci : ∀ i x, cs[i]? = some x → ∃ j : Int, x = V.int j := fun i x hx => by
      rw [← hcs] at hx
      obtain ⟨j, _, e⟩ := List.mem_map.mp (cutV_mem hx)
      exact ⟨j, e.symm⟩
    refine for_list (K := K) (a := p) (xs := cs) (BgP H a l p cs) ⟨[], 23, none, Same.trans sA (same_upd hp), upd_same, (upd_ne (Ne.symm hpl)).trans upd_same, Nat.zero_le _, by decide, by decide, rfl⟩ ?_ ?_ ?_
    · rintro i σ H1 _ ⟨js, sd, y3, s1, h1, _⟩
      exact .inl (.inl h1)
    · rintro i x σ H1 hx ⟨js, sd, y3, s1, h1, h2, h3, h4, h5, rfl⟩
      obtain ⟨j, rfl⟩ := hci i x hx
      simp only [cxOf, tYes, eq_self, if_true, if_false, wipe, rLenQ, rIxTQ, rIxLQ, rIxSQ, rInt1Q, rTupQ, rAppQ, rPopQ, rPopAtQ, rRevQ, rListS, rReprP, tLenSetT, tChain, tRetN, tRet, tSeq, tAsg, gName, tVar, tC, tCons, tNil, tCB, tOp, rI0, rI, tAndV, tOrV, tNotV, tIf, tTest, tB, tNot, tAnd, tOr, tIfS, tNext, tCallR, rIsK, rEq, rNe, tDrop, L2.start, List.map_cons, List.map_nil, List.length_cons, List.length_nil, Nat.reduceAdd, Nat.reduceSub, Nat.sub_self, List.replicate_zero, List.replicate_succ, List.append_nil, List.cons_append, List.nil_append, List.getElem?_cons_zero, List.getElem?_cons_succ, List.set_cons_zero, List.set_cons_succ, Option.some.injEq, List.cons.injEq, and_true, true_and, exists_eq_left, exists_eq_left', exists_eq_right, V.ty.injEq, V.int.injEq, V.bl.injEq, V.str.injEq, V.ref.injEq, exists_and_left, exists_const, reduceIte, reduceCtorEq, false_and, and_false, exists_false, or_false, false_or, Bool.not_true, Bool.not_false, Bool.false_eq_true, String.reduceEq, true_or, or_true, rNotT, tNNew, tNNotIn, tNGet, sNPut, tLenSetN, tPar, tAug, ipI, tDNotIn, sDPut, tDGet, tTup, tLst, tBM, tBM0, tCallD, tCall, rKdIn, tTNew, tTIn, tTGet, sTPut, Sg.tMethR, tMeth, tMakeR, tMake, tDGet2, tSAddK, rSAddK, rSInK, rSet0K, rExtend, rExtendT, tFld, sFld, tRevT, tDIn, tSl, tPart, tNoPart, tDelFrom, StX.tStar, tUn, rU]
      have hi : i < cs.length := (List.getElem?_eq_some_iff.mp hx).1
      refine ⟨⟨by decide, by decide, by decide⟩, ?_⟩
      by_cases hbig : (10 : Int) ^ Int.toNat 18 ≤ j
      · refine ifT (decide_eq_true hbig) ⟨lst_ty h2, ⟨by decide, by decide, by decide⟩, ⟨by decide, by decide +kernel⟩, Int.pow_pos (Int.pow_pos (by decide)), _, h2, ?_, cmR, by decide, by decide, ?_⟩
        · rw [List.length_map]
          exact szlt (m := 100000) (by omega)
        · refine ⟨js ++ [j % (10 ^ Int.toNat 60) ^ Int.toNat 11], _, _, fun b o hb => ?_, (upd_ne hpl).trans h1, by rw [upd_same, List.map_append]; rfl, by rw [List.length_append]; exact Nat.succ_le_succ h3, Int.emod_nonneg _ (by decide), Int.emod_lt_of_pos _ (by decide), rfl⟩
          rw [upd_ne (ne_of_none hb hl0)]
          exact s1 b o hb
      · exact ifF (decide_eq_false hbig) ⟨cmR, by decide, by decide, js, _, _, s1, h1, h2, Nat.le_succ_of_le h3, Int.emod_nonneg _ (by decide), Int.emod_lt_of_pos _ (by decide), rfl⟩
    · rintro σ H1 ⟨js, sd, y3, s1, h1, h2, h3, h4, h5, rfl⟩
      simp only [cxOf, tYes, eq_self, if_true, if_false, wipe, rLenQ, rIxTQ, rIxLQ, rIxSQ, rInt1Q, rTupQ, rAppQ, rPopQ, rPopAtQ, rRevQ, rListS, rReprP, tLenSetT, tChain, tRetN, tRet, tSeq, tAsg, gName, tVar, tC, tCons, tNil, tCB, tOp, rI0, rI, tAndV, tOrV, tNotV, tIf, tTest, tB, tNot, tAnd, tOr, tIfS, tNext, tCallR, rIsK, rEq, rNe, tDrop, L2.start, List.map_cons, List.map_nil, List.length_cons, List.length_nil, Nat.reduceAdd, Nat.reduceSub, Nat.sub_self, List.replicate_zero, List.replicate_succ, List.append_nil, List.cons_append, List.nil_append, List.getElem?_cons_zero, List.getElem?_cons_succ, List.set_cons_zero, List.set_cons_succ, Option.some.injEq, List.cons.injEq, and_true, true_and, exists_eq_left, exists_eq_left', exists_eq_right, V.ty.injEq, V.int.injEq, V.bl.injEq, V.str.injEq, V.ref.injEq, exists_and_left, exists_const, reduceIte, reduceCtorEq, false_and, and_false, exists_false, or_false, false_or, Bool.not_true, Bool.not_false, Bool.false_eq_true, String.reduceEq, true_or, or_true, rNotT, tNNew, tNNotIn, tNGet, sNPut, tLenSetN, tPar, tAug, ipI, tDNotIn, sDPut, tDGet, tTup, tLst, tBM, tBM0, tCallD, tCall, rKdIn, tTNew, tTIn, tTGet, sTPut, Sg.tMethR, tMeth, tMakeR, tMake, tDGet2, tSAddK, rSAddK, rSInK, rSet0K, rExtend, rExtendT, tFld, sFld, tRevT, tDIn, tSl, tPart, tNoPart, tDelFrom, StX.tStar, tUn, rU]
      refine ⟨by rw [sizeLine_eq]; decide, fun b hb => q b l _ ?_ hl0 (Same.trans s1 (same_upd hb)) ⟨fun e => by (rw [e, h2] at hb; cases hb), js, sd, 0, upd_same, (upd_ne fun e => by (rw [← e, h2] at hb; cases hb)).trans h2, h4, h5, Nat.le_refl _⟩⟩
      cases e : H b with
      | none => rfl
      | some o => rw [s1 _ _ e] at hb; cases hb
theorem sc__law_take : FnScope ["bag", "many", "great", "got", "mixed"] ["bag", "many"] (defScope (topS 110)) := ⟨rfl, rfl, rfl, by decide +kernel, rfl, by decide +kernel, by decide +kernel⟩
theorem bd__law_take {K : PySem.W.Frag} {f : Addr} {fd : FuncData} (F : FnP K "_law_take" (topS 110) f fd) : Binds K fd ["bag", "many"] [] := F.bindsN fun _ _ _ _ _ _ us hl => match us, hl with | [_, _], _ => rfl
def spTa : Sp := fun vs H Q _ => ∃ (b g : Addr) (n B : Nat), vs = [.ref b, .int (n : Int)] ∧ Bag H b g B ∧ B < 2 ^ 40 ∧ 1 ≤ n ∧ n < 100000 ∧ ∀ (r : Nat) H', r < n → Bch b g H H' → Bag H' b g (B + 1) → Q (.int (r : Int)) H'
theorem ok__law_take (T : Tx w K mg) : Dk P w K mg base 1 "_law_take" ["bag", "many"] spTa := by
  obtain ⟨fd, F⟩ := T.d__law_take
  refine ⟨⟨fd, F.ok sc__law_take (fun vs H Q E h => ?_) (fun cdv A outer s H vs Q E hr h => ?_), bd__law_take F⟩, F.kp, T.g__law_take⟩
  · obtain ⟨b, g, n, c, rfl, _⟩ := h
    rfl
  · obtain ⟨b, g, n, B, rfl, ⟨hne, js, sd, c, hb, hg, hs0, hs1, hc⟩, hB, hn1, hn2, q⟩ := h
    refine ⟨_, PSs.nox (pss_cons (ps_asg (pe_op op_add (pe_ix ix_listQ (pv 0) pe_int (fun _ _ => rfl)) pe_int) (pg_sub (pv 0) pe_int set_list))
      (pss_cons (ps_set (i := 2) sc__law_take.nd rfl (.inl rfl) (pe_ix ix_listQ (pv 0) pe_int (fun _ _ => rfl)))
      (pss_cons (ps_if (pt_truth (pv 2) (by intro _; rfl)) (pss_cons (ps_set (i := 3) sc__law_take.nd rfl (.inl rfl) (pe_op op_mod (pe_callTy call_int1Q (by rfl) T.f_int PyProof.Rows.boot_int (pa_cons (pe_ix ix_listQ (pv 2) pe_int (fun _ _ => rfl)) pa_nil)) (pv 1)))
      (pss_cons (ps_asg (pe_op op_fdiv (pe_callTy call_int1Q (by rfl) T.f_int PyProof.Rows.boot_int (pa_cons (pe_ix ix_listQ (pv 2) pe_int (fun _ _ => rfl)) pa_nil)) (pv 1)) (pg_sub (pv 2) pe_int set_list))
      (pss_cons (ps_if (pt_cmpR op_eq (pe_ix ix_listQ (pv 2) pe_int (fun _ _ => rfl)) pe_int (nomark _)) (pss_one (ps_expr (pe_bm PySem.F.plainAttrs_list PySem.F.slot_list_pop PySem.F.type_list_pop mt_popAtQ (pv 2) (pa_cons pe_int pa_nil)))) pss_nil)
      (pss_one (ps_ret (pv 3)))))) pss_nil)
      (pss_cons (ps_set (i := 4) sc__law_take.nd rfl (.inl rfl) (pe_op op_mod (pe_callTy call_int1Q (by rfl) T.f_int PyProof.Rows.boot_int (pa_cons (pe_op op_add (pe_ix ix_listQ (pv 0) pe_int (fun _ _ => rfl)) (pe_op op_mul (pe_ix ix_listQ (pv 0) pe_int (fun _ _ => rfl)) pe_int)) pa_nil)) pe_int))
      (pss_cons (ps_set (i := 4) sc__law_take.nd rfl (.inl rfl) (pe_op op_mod (pe_callTy call_int1Q (by rfl) T.f_int PyProof.Rows.boot_int (pa_cons (pe_op op_add (pe_op op_mul (pv 4) pe_int) (pe_op op_mul (pe_ix ix_listQ (pv 0) pe_int (fun _ _ => rfl)) (pe_ix ix_listQ (pv 0) pe_int (fun _ _ => rfl)))) pa_nil)) pe_int))
      (pss_cons (ps_set (i := 4) sc__law_take.nd rfl (.inl rfl) (pe_op op_mod (pe_callTy call_int1Q (by rfl) T.f_int PyProof.Rows.boot_int (pa_cons (pe_op op_add (pe_op op_add (pe_op op_mul (pv 4) (pv 4)) (pe_op op_mul (pv 4) pe_int)) pe_int) pa_nil)) pe_int))
      (pss_cons (ps_set (i := 4) sc__law_take.nd rfl (.inl rfl) (pe_op op_mod (pe_callTy call_int1Q (by rfl) T.f_int PyProof.Rows.boot_int (pa_cons (pe_op op_add (pe_op op_mul (pv 4) (pv 4)) (pe_ix ix_listQ (pv 0) pe_int (fun _ _ => rfl))) pa_nil)) pe_int))
      (pss_one (ps_ret (pe_op op_mod (pe_callTy call_int1Q (by rfl) T.f_int PyProof.Rows.boot_int (pa_cons (pe_op op_fdiv (pv 4) pe_int) pa_nil)) (pv 1))))))))))), ?_⟩
    simp only [cxOf, tYes, eq_self, if_true, if_false, wipe, rLenQ, rIxTQ, rIxLQ, rIxSQ, rInt1Q, rTupQ, rAppQ, rPopQ, rPopAtQ, rRevQ, rListS, rReprP, tLenSetT, tChain, tRetN, tRet, tSeq, tAsg, gName, tVar, tC, tCons, tNil, tCB, tOp, rI0, rI, tAndV, tOrV, tNotV, tIf, tTest, tB, tNot, tAnd, tOr, tIfS, tNext, tCallR, rIsK, rEq, rNe, tDrop, L2.start, List.map_cons, List.map_nil, List.length_cons, List.length_nil, Nat.reduceAdd, Nat.reduceSub, Nat.sub_self, List.replicate_zero, List.replicate_succ, List.append_nil, List.cons_append, List.nil_append, List.getElem?_cons_zero, List.getElem?_cons_succ, List.set_cons_zero, List.set_cons_succ, Option.some.injEq, List.cons.injEq, and_true, true_and, exists_eq_left, exists_eq_left', exists_eq_right, V.ty.injEq, V.int.injEq, V.bl.injEq, V.str.injEq, V.ref.injEq, exists_and_left, exists_const, reduceIte, reduceCtorEq, false_and, and_false, exists_false, or_false, false_or, Bool.not_true, Bool.not_false, Bool.false_eq_true, String.reduceEq, true_or, or_true, rNotT, tNNew, tNNotIn, tNGet, sNPut, tLenSetN, tPar, tAug, ipI, tDNotIn, sDPut, tDGet, tTup, tLst, tBM, tBM0, tCallD, tCall, rKdIn, tTNew, tTIn, tTGet, sTPut, Sg.tMethR, tMeth, tMakeR, tMake, tDGet2, tSAddK, rSAddK, rSInK, rSet0K, rExtend, rExtendT, tFld, sFld, tRevT, tDIn, tSl, tPart, tNoPart, tDelFrom, StX.tStar, tUn, rU]
    refine ⟨_, .inl (.inl hb), .int (c : Int), rfl, _, rfl, ?_⟩
    have e3 : [V.ref g, V.int sd, V.int (c : Int)].set 2 (V.int ((c : Int) + 1)) = [V.ref g, V.int sd, V.int ((c + 1 : Nat) : Int)] := rfl
    refine ⟨_, rfl, b, _, 2, 2, rfl, rfl, hb, rfl, ?_⟩
    rw [e3]
    have hb1 : (upd H b (.lst [V.ref g, V.int sd, V.int ((c + 1 : Nat) : Int)])) b = some (.lst [V.ref g, V.int sd, V.int ((c + 1 : Nat) : Int)]) := upd_same
    have hg1 : (upd H b (.lst [V.ref g, V.int sd, V.int ((c + 1 : Nat) : Int)])) g = some (.lst (js.map V.int)) := (upd_ne (Ne.symm hne)).trans hg
    have c1 : Bch b g H (upd H b (.lst [V.ref g, V.int sd, V.int ((c + 1 : Nat) : Int)])) := fun x o hx _ e => (upd_ne hx).trans e
    generalize upd H b (.lst [V.ref g, V.int sd, V.int ((c + 1 : Nat) : Int)]) = H1 at hb1 hg1 c1
    simp only [cxOf, tYes, eq_self, if_true, if_false, wipe, rLenQ, rIxTQ, rIxLQ, rIxSQ, rInt1Q, rTupQ, rAppQ, rPopQ, rPopAtQ, rRevQ, rListS, rReprP, tLenSetT, tChain, tRetN, tRet, tSeq, tAsg, gName, tVar, tC, tCons, tNil, tCB, tOp, rI0, rI, tAndV, tOrV, tNotV, tIf, tTest, tB, tNot, tAnd, tOr, tIfS, tNext, tCallR, rIsK, rEq, rNe, tDrop, L2.start, List.map_cons, List.map_nil, List.length_cons, List.length_nil, Nat.reduceAdd, Nat.reduceSub, Nat.sub_self, List.replicate_zero, List.replicate_succ, List.append_nil, List.cons_append, List.nil_append, List.getElem?_cons_zero, List.getElem?_cons_succ, List.set_cons_zero, List.set_cons_succ, Option.some.injEq, List.cons.injEq, and_true, true_and, exists_eq_left, exists_eq_left', exists_eq_right, V.ty.injEq, V.int.injEq, V.bl.injEq, V.str.injEq, V.ref.injEq, exists_and_left, exists_const, reduceIte, reduceCtorEq, false_and, and_false, exists_false, or_false, false_or, Bool.not_true, Bool.not_false, Bool.false_eq_true, String.reduceEq, true_or, or_true, rNotT, tNNew, tNNotIn, tNGet, sNPut, tLenSetN, tPar, tAug, ipI, tDNotIn, sDPut, tDGet, tTup, tLst, tBM, tBM0, tCallD, tCall, rKdIn, tTNew, tTIn, tTGet, sTPut, Sg.tMethR, tMeth, tMakeR, tMake, tDGet2, tSAddK, rSAddK, rSInK, rSet0K, rExtend, rExtendT, tFld, sFld, tRevT, tDIn, tSl, tPart, tNoPart, tDelFrom, StX.tStar, tUn, rU]
    have hn0 : (0 : Int) < (n : Int) := by omega
    refine ⟨_, .inl (.inl hb1), .ref g, rfl, !(js.map V.int).isEmpty, .inl ⟨_, .inl (.inl hg1), rfl⟩, ?_⟩
    have fin : ∀ (m : Int) H', Bch b g H1 H' → (∃ ks : List Int, H' g = some (.lst (ks.map V.int))) → H' b = some (.lst [V.ref g, V.int sd, V.int ((c + 1 : Nat) : Int)]) → Q (.int (m % (n : Int))) H' := fun m H' c2 hks hb2 => by
      have h0 := Int.emod_nonneg m (Int.ne_of_gt hn0)
      have h1 := Int.emod_lt_of_pos m hn0
      obtain ⟨ks, hks⟩ := hks
      have := q (m % (n : Int)).toNat H' (by omega) (c1.trans c2) ⟨hne, ks, sd, c + 1, hb2, hks, hs0, hs1, Nat.succ_le_succ hc⟩
      rwa [Int.toNat_of_nonneg h0] at this
    cases js with
    | cons j0 jr =>
      refine ifT rfl ?_
      refine ⟨_, .inl (.inl hg1), .int j0, at_0 _ _, ?_⟩
      refine ⟨hn0, _, .inl (.inl hg1), .int j0, at_0 _ _, ⟨hn0, by omega⟩, _, rfl, g, _, 0, 0, rfl, rfl, hg1, ix_0 _ _, ?_⟩
      rw [show (List.map V.int (j0 :: jr)).set 0 (V.int (j0 / (n : Int))) = (j0 / (n : Int) :: jr).map V.int from rfl]
      have hg2 : (upd H1 g (.lst ((j0 / (n : Int) :: jr).map V.int))) g = some (.lst ((j0 / (n : Int) :: jr).map V.int)) := upd_same
      have hb2 : (upd H1 g (.lst ((j0 / (n : Int) :: jr).map V.int))) b = some (.lst [V.ref g, V.int sd, V.int ((c + 1 : Nat) : Int)]) := (upd_ne hne).trans hb1
      have c2 : Bch b g H1 (upd H1 g (.lst ((j0 / (n : Int) :: jr).map V.int))) := fun x o _ hx e => (upd_ne hx).trans e
      generalize upd H1 g (.lst ((j0 / (n : Int) :: jr).map V.int)) = H2 at hg2 hb2 c2
      simp only [cxOf, tYes, eq_self, if_true, if_false, wipe, rLenQ, rIxTQ, rIxLQ, rIxSQ, rInt1Q, rTupQ, rAppQ, rPopQ, rPopAtQ, rRevQ, rListS, rReprP, tLenSetT, tChain, tRetN, tRet, tSeq, tAsg, gName, tVar, tC, tCons, tNil, tCB, tOp, rI0, rI, tAndV, tOrV, tNotV, tIf, tTest, tB, tNot, tAnd, tOr, tIfS, tNext, tCallR, rIsK, rEq, rNe, tDrop, L2.start, List.map_cons, List.map_nil, List.length_cons, List.length_nil, Nat.reduceAdd, Nat.reduceSub, Nat.sub_self, List.replicate_zero, List.replicate_succ, List.append_nil, List.cons_append, List.nil_append, List.getElem?_cons_zero, List.getElem?_cons_succ, List.set_cons_zero, List.set_cons_succ, Option.some.injEq, List.cons.injEq, and_true, true_and, exists_eq_left, exists_eq_left', exists_eq_right, V.ty.injEq, V.int.injEq, V.bl.injEq, V.str.injEq, V.ref.injEq, exists_and_left, exists_const, reduceIte, reduceCtorEq, false_and, and_false, exists_false, or_false, false_or, Bool.not_true, Bool.not_false, Bool.false_eq_true, String.reduceEq, true_or, or_true, rNotT, tNNew, tNNotIn, tNGet, sNPut, tLenSetN, tPar, tAug, ipI, tDNotIn, sDPut, tDGet, tTup, tLst, tBM, tBM0, tCallD, tCall, rKdIn, tTNew, tTIn, tTGet, sTPut, Sg.tMethR, tMeth, tMakeR, tMake, tDGet2, tSAddK, rSAddK, rSInK, rSet0K, rExtend, rExtendT, tFld, sFld, tRevT, tDIn, tSl, tPart, tNoPart, tDelFrom, StX.tStar, tUn, rU, tM0, tM1]
      refine ⟨_, .inl (.inl hg2), .int (j0 / (n : Int)), at_0 _ _, ?_⟩
      by_cases hz : j0 / (n : Int) = 0
      · refine ⟨rfl, ifT (decide_eq_true (by rw [hz])) ⟨lst_ty hg2, _, hg2, by decide, by decide, _, rfl, fin _ _ (c2.trans ?_) ⟨jr, upd_same⟩ ((upd_ne hne).trans hb2)⟩⟩
        exact fun x o _ hx e => (upd_ne hx).trans e
      · refine ⟨rfl, ifF (decide_eq_false ?_) (fin _ _ c2 ⟨_, hg2⟩ hb2)⟩
        · intro e
          exact hz (V.int.inj e)
    | nil =>
      refine ifF rfl ?_
      have hB1 : SqL K H1 b [V.ref g, V.int sd, V.int ((c + 1 : Nat) : Int)] := .inl (.inl hb1)
      exact ⟨_, hB1, .int sd, rfl, _, hB1, _, rfl, _, rfl, cmR, _, rfl, by decide, cmR, _, hB1, _, rfl, _, hB1, _, rfl, _, rfl, _, rfl, .inr ⟨by omega, by omega⟩, by decide, cmM (by decide) (by decide), cmR, by decide, cmM (by decide) (by decide), _, hB1, _, rfl, _, rfl, by decide, ⟨by decide, by decide⟩, hn0, fin _ _ (.refl _ _ _) ⟨[], hg1⟩ hb1⟩
theorem sc__law_word : FnScope ["bag", "signs", "most", "many", "k"] ["bag", "signs", "most"] (defScope (topS 113)) := ⟨rfl, rfl, rfl, by decide +kernel, rfl, by decide +kernel, by decide +kernel⟩
theorem bd__law_word {K : PySem.W.Frag} {f : Addr} {fd : FuncData} (F : FnP K "_law_word" (topS 113) f fd) : Binds K fd ["bag", "signs", "most"] [] := F.bindsN fun _ _ _ _ _ _ us hl => match us, hl with | [_, _, _], _ => rfl
def spLw : Sp := fun vs H Q _ => ∃ (b g : Addr) (z : Str) (n B : Nat), vs = [.ref b, .str z, .int (n : Int)] ∧ Bag H b g B ∧ B + n + 2 < 2 ^ 40 ∧ n ≤ 100 ∧ 1 ≤ z.length ∧ z.length ≤ 1000 ∧ ∀ (u : Str) H', u.length ≤ n → (∀ c ∈ u.cps.toList, c ∈ z.cps.toList) → Bch b g H H' → Bag H' b g (B + n + 2) → Q (.str u) H'
theorem ok__law_word (T : Tx w K mg) : Dk P w K mg base 2 "_law_word" ["bag", "signs", "most"] spLw := by
  have D__law_take := ok__law_take (P := P) (w := w) (base := base) T
  obtain ⟨fd, F⟩ := T.d__law_word
  refine ⟨⟨fd, F.ok sc__law_word (fun vs H Q E h => ?_) (fun cdv A outer s H vs Q E hr h => ?_), bd__law_word F⟩, F.kp, T.g__law_word⟩
  · obtain ⟨b, g, z, n, B, rfl, _⟩ := h
    rfl
  · obtain ⟨b, g, z, n, B, rfl, hbag, hB, hn, hz1, hz2, q⟩ := h
    refine ⟨_, PSs.nox (pss_cons (ps_set (i := 3) sc__law_word.nd rfl (.inl rfl) (pe_callR D__law_take (hr.mono (by decide)) takes0 (pa_cons (pv 0) (pa_cons (pe_op op_add (pv 2) pe_int) pa_nil))))
      (pss_one (ps_ret (pe_join pe_str (pe_lc (own := [("k", 4)]) rfl sc__law_word.nd (pi_range1 (by rfl) T.f_range (pa_cons (pv 3) pa_nil)) (blkOk_by (own := [("k", 4)]) (N := ["bag", "signs", "most", "many", "k"]) (sc := defScope (topS 113)) (by decide +kernel)) (fun _ _ _ _ _ => (pg_name (i := 4) sc__law_word.nd rfl (.inl rfl))) (fun _ _ _ _ _ => pts_nil) (fun _ _ _ _ _ => (pe_ix ix_strQ (pv 1) (pe_callR D__law_take (hr.mono (by decide)) takes0 (pa_cons (pv 0) (pa_cons (pe_callB (show CallR _ _ (rLenQ K) by exact call_lenQ) (by rfl) T.f_len PySem.boot_len (pa_cons (pv 1) pa_nil)) pa_nil))) (fun _ _ => rfl)))))))), ?_⟩
    simp only [cxOf, tYes, eq_self, if_true, if_false, wipe, rLenQ, rIxTQ, rIxLQ, rIxSQ, rInt1Q, rTupQ, rAppQ, rPopQ, rPopAtQ, rRevQ, rListS, rReprP, tLenSetT, tChain, tRetN, tRet, tSeq, tAsg, gName, tVar, tC, tCons, tNil, tCB, tOp, rI0, rI, tAndV, tOrV, tNotV, tIf, tTest, tB, tNot, tAnd, tOr, tIfS, tNext, tCallR, rIsK, rEq, rNe, tDrop, L2.start, List.map_cons, List.map_nil, List.length_cons, List.length_nil, Nat.reduceAdd, Nat.reduceSub, Nat.sub_self, List.replicate_zero, List.replicate_succ, List.append_nil, List.cons_append, List.nil_append, List.getElem?_cons_zero, List.getElem?_cons_succ, List.set_cons_zero, List.set_cons_succ, Option.some.injEq, List.cons.injEq, and_true, true_and, exists_eq_left, exists_eq_left', exists_eq_right, V.ty.injEq, V.int.injEq, V.bl.injEq, V.str.injEq, V.ref.injEq, exists_and_left, exists_const, reduceIte, reduceCtorEq, false_and, and_false, exists_false, or_false, false_or, Bool.not_true, Bool.not_false, Bool.false_eq_true, String.reduceEq, true_or, or_true, rNotT, tNNew, tNNotIn, tNGet, sNPut, tLenSetN, tPar, tAug, ipI, tDNotIn, sDPut, tDGet, tTup, tLst, tBM, tBM0, tCallD, tCall, rKdIn, tTNew, tTIn, tTGet, sTPut, Sg.tMethR, tMeth, tMakeR, tMake, tDGet2, tSAddK, rSAddK, rSInK, rSet0K, rExtend, rExtendT, tFld, sFld, tRevT, tDIn, tSl, tPart, tNoPart, tDelFrom, StX.tStar, tUn, rU]
    refine ⟨b, g, n + 1, B, rfl, hbag, by omega, by omega, by omega, fun r H1 hr1 c1 bg1 => ?_⟩
    simp only [cxOf, tYes, eq_self, if_true, if_false, wipe, rLenQ, rIxTQ, rIxLQ, rIxSQ, rInt1Q, rTupQ, rAppQ, rPopQ, rPopAtQ, rRevQ, rListS, rReprP, tLenSetT, tChain, tRetN, tRet, tSeq, tAsg, gName, tVar, tC, tCons, tNil, tCB, tOp, rI0, rI, tAndV, tOrV, tNotV, tIf, tTest, tB, tNot, tAnd, tOr, tIfS, tNext, tCallR, rIsK, rEq, rNe, tDrop, L2.start, List.map_cons, List.map_nil, List.length_cons, List.length_nil, Nat.reduceAdd, Nat.reduceSub, Nat.sub_self, List.replicate_zero, List.replicate_succ, List.append_nil, List.cons_append, List.nil_append, List.getElem?_cons_zero, List.getElem?_cons_succ, List.set_cons_zero, List.set_cons_succ, Option.some.injEq, List.cons.injEq, and_true, true_and, exists_eq_left, exists_eq_left', exists_eq_right, V.ty.injEq, V.int.injEq, V.bl.injEq, V.str.injEq, V.ref.injEq, exists_and_left, exists_const, reduceIte, reduceCtorEq, false_and, and_false, exists_false, or_false, false_or, Bool.not_true, Bool.not_false, Bool.false_eq_true, String.reduceEq, true_or, or_true, rNotT, tNNew, tNNotIn, tNGet, sNPut, tLenSetN, tPar, tAug, ipI, tDNotIn, sDPut, tDGet, tTup, tLst, tBM, tBM0, tCallD, tCall, rKdIn, tTNew, tTIn, tTGet, sTPut, Sg.tMethR, tMeth, tMakeR, tMake, tDGet2, tSAddK, rSAddK, rSInK, rSet0K, rExtend, rExtendT, tFld, sFld, tRevT, tDIn, tSl, tPart, tNoPart, tDelFrom, StX.tStar, tUn, rU, tM0, tM1]
    refine ⟨⟨_, rfl⟩, _, rfl, (r : Int), rfl, by omega, by omega, fun D hD => ?_⟩
    have hne := bg1.ne hD
    refine lc_gen (J := Itr 0 r) (n := r) (fun i H' => Bch b g H1 H' ∧ Bag H' b g (B + 1 + i) ∧ ∃ us : List Nat, us.length = i ∧ (∀ c ∈ us, c ∈ z.cps.toList) ∧ H' D = some (.lst ((us.map sgn).map V.str))) ⟨.of_same (same_upd hD), bg1.same (same_upd hD), [], rfl, (fun c hc => nomatch hc), upd_same⟩ (fun i H' hi _ => hi) (fun H' _ => Nat.le_refl _) ?_ ?_
    · rintro i x H' H'' hi ⟨c2, bg2, us, hu1, hu2, hD2⟩ ⟨rfl, rfl⟩
      simp only [cxOf, tYes, eq_self, if_true, if_false, wipe, rLenQ, rIxTQ, rIxLQ, rIxSQ, rInt1Q, rTupQ, rAppQ, rPopQ, rPopAtQ, rRevQ, rListS, rReprP, tLenSetT, tChain, tRetN, tRet, tSeq, tAsg, gName, tVar, tC, tCons, tNil, tCB, tOp, rI0, rI, tAndV, tOrV, tNotV, tIf, tTest, tB, tNot, tAnd, tOr, tIfS, tNext, tCallR, rIsK, rEq, rNe, tDrop, L2.start, List.map_cons, List.map_nil, List.length_cons, List.length_nil, Nat.reduceAdd, Nat.reduceSub, Nat.sub_self, List.replicate_zero, List.replicate_succ, List.append_nil, List.cons_append, List.nil_append, List.getElem?_cons_zero, List.getElem?_cons_succ, List.set_cons_zero, List.set_cons_succ, Option.some.injEq, List.cons.injEq, and_true, true_and, exists_eq_left, exists_eq_left', exists_eq_right, V.ty.injEq, V.int.injEq, V.bl.injEq, V.str.injEq, V.ref.injEq, exists_and_left, exists_const, reduceIte, reduceCtorEq, false_and, and_false, exists_false, or_false, false_or, Bool.not_true, Bool.not_false, Bool.false_eq_true, String.reduceEq, true_or, or_true, rNotT, tNNew, tNNotIn, tNGet, sNPut, tLenSetN, tPar, tAug, ipI, tDNotIn, sDPut, tDGet, tTup, tLst, tBM, tBM0, tCallD, tCall, rKdIn, tTNew, tTIn, tTGet, sTPut, Sg.tMethR, tMeth, tMakeR, tMake, tDGet2, tSAddK, rSAddK, rSInK, rSet0K, rExtend, rExtendT, tFld, sFld, tRevT, tDIn, tSl, tPart, tNoPart, tDelFrom, StX.tStar, tUn, rU, tM0, tM1]
      refine ⟨by rw [sizeLine_eq]; omega, b, g, z.length, B + 1 + i, rfl, bg2, by omega, by omega, by omega, fun j H3 hj c3 bg3 => ?_⟩
      have hj2 : j < z.cps.toList.length := by rw [Array.length_toList]; exact hj
      refine ⟨by rw [sizeLine_eq]; omega, z.cps.toList[j], atI_nat (List.getElem?_eq_getElem hj2), _, c3 D _ hne.1 hne.2 hD2, ?_, ?_, ?_, us ++ [z.cps.toList[j]], ?_, ?_, ?_⟩
      · rw [List.length_map, List.length_map]
        exact szlt (m := 100000) (by omega)
      · intro x o h1 h2 e
        rw [upd_ne (ne_of_none e hD)]
        exact c3 x o h1 h2 (c2 x o h1 h2 e)
      · obtain ⟨n0, js, sd, c, e1, e2, e3, e4, e5⟩ := bg3
        exact ⟨n0, js, sd, c, (upd_ne (Ne.symm hne.1)).trans e1, (upd_ne (Ne.symm hne.2)).trans e2, e3, e4, by omega⟩
      · rw [List.length_append, hu1]
        rfl
      · intro c hc
        rcases List.mem_append.mp hc with h | h
        · exact hu2 c h
        · rw [List.mem_singleton.mp h]
          exact List.getElem_mem hj2
      · rw [upd_same, List.map_append, List.map_append]
        rfl
    · rintro H' ⟨c2, bg2, us, hu1, hu2, hD2⟩
      refine ⟨D, rfl, us.map sgn, .inl (.inl (.inl hD2)), ?_, ?_⟩
      · rw [sum_ones, List.length_map, show (Str.ofString "").length = 0 from rfl]
        omega
      · rw [join_signs]
        exact q _ _ (by show us.toArray.size ≤ n; rw [List.size_toArray]; omega) hu2 (c1.trans c2) (bg2.le (by omega))
end
end K08

namespace K08
open PySem PySem.Spec PyProof.Rows L2 Sg
def rMulP : R2 := fun x y H Q => ∃ z, ∃ n : Nat, x = .str z ∧ y = .int (n : Int) ∧ 1 ≤ n ∧ n ≤ 1000 ∧ z.length ≤ 1000 ∧ Q (.str (mulT z n)) H
theorem op_mulP {X : Cx} : OpR X (binaryOp .Mult) rMulP := by
  intro pins s σ H x y v u Q I rx ry h
  obtain ⟨z, n, rfl, rfl, h2, h3, h5, q⟩ := h
  by_cases h4 : 2 ≤ n ∧ 1 ≤ z.length
  · exact op_mulS pins s σ H _ _ v u Q I rx ry ⟨z, n, rfl, rfl, h4.1, h3, h4.2, h5, q⟩
  obtain ⟨t, rfl⟩ := rx
  obtain ⟨t', rfl⟩ := ry
  have e2 : ((n : Int) == 1 || z.length == 0) = true := by
    by_cases h1 : n = 1
    · rw [h1]; rfl
    · have hz : z.length = 0 := by omega
      rw [hz]
      simp
  refine PySem.P.mul_str (by rw [decide_eq_false (by omega), decide_eq_false (by omega)]; rfl) (fun _ e => ?_) (fun _ e => ?_) ?_
  · rw [e2] at e; cases e
  · rw [e2] at e; cases e
  · rw [if_neg (by omega), if_pos e2]
    refine ⟨.str z, H, I, ⟨t, rfl⟩, ?_⟩
    have e : mulT z n = z := by
      refine str_ext ?_
      rw [mulT_cps]
      by_cases h1 : n = 1
      · rw [h1]; simp
      · have hz : z.cps.toList = [] := List.length_eq_zero_iff.mp (by rw [str_len]; omega)
        rw [hz]
        simp
    rwa [e] at q
theorem mulT_mem {z : Str} {n c : Nat} (h : c ∈ (mulT z n).cps.toList) : c ∈ z.cps.toList := by
  rw [mulT_cps] at h
  obtain ⟨l, hl, hc⟩ := List.mem_flatten.mp h
  rw [(List.mem_replicate.mp hl).2] at hc
  exact hc
theorem bch_tp {b g : Addr} {H H' : Hp} {B : Nat} (h : Bag H b g B) (c : Bch b g H H') : TP H H' := fun x xs hx => c x _ (fun e => by
  obtain ⟨_, js, sd, k, h1, h2, _⟩ := h
  rw [e, h1] at hx; cases hx) (fun e => by
  obtain ⟨_, js, sd, k, h1, h2, _⟩ := h
  rw [e, h2] at hx; cases hx) hx
theorem bag_keep {b g p : Addr} {H H' : Hp} {B : Nat} (h : Bag H b g B) (c : Chg [p] H H') (h1 : p ≠ b) (h2 : p ≠ g) : Bag H' b g B := by
  obtain ⟨n0, js, sd, k, e1, e2, e3⟩ := h
  exact ⟨n0, js, sd, k, c _ _ (by simpa using Ne.symm h1) e1, c _ _ (by simpa using Ne.symm h2) e2, e3⟩
theorem bch_keep {b g p : Addr} {H H1 H2 : Hp} (a : Bch b g H H1) (hp : H p = none) (c : Chg [p] H1 H2) : Bch b g H H2 := fun x o h1 h2 h => c x o (by simpa using ne_of_none h hp) (a x o h1 h2 h)
theorem cut_perm (us : List Nat) {l : List Nat} {j : Nat} (h : j < l.length) : (us ++ l).Perm ((us ++ [l[j]]) ++ (l.take j ++ l.drop (j + 1))) := by
  have e : l = l.take j ++ l[j] :: l.drop (j + 1) := by
    rw [← List.drop_eq_getElem_cons h, List.take_append_drop]
  have e2 : (us ++ [l[j]]) ++ (l.take j ++ l.drop (j + 1)) = us ++ (l[j] :: (l.take j ++ l.drop (j + 1))) := by simp
  rw [e2]
  refine List.Perm.append_left us ?_
  conv => lhs; rw [e]
  exact List.perm_middle
section
variable {P : Program} {w : World} {K : PySem.W.Frag} {mg : Str → Option Value} {base : Heap}
theorem sc__law_same : FnScope ["told", "due", "pairs", "one", "two", "k"] ["told", "due"] (defScope (topS 111)) := ⟨rfl, rfl, rfl, by decide +kernel, rfl, by decide +kernel, by decide +kernel⟩
theorem bd__law_same {K : PySem.W.Frag} {f : Addr} {fd : FuncData} (F : FnP K "_law_same" (topS 111) f fd) : Binds K fd ["told", "due"] [] := F.bindsN fun _ _ _ _ _ _ us hl => match us, hl with | [_, _], _ => rfl
def spSm : Sp := fun vs H Q _ => ∃ z : Str, vs = [.str z, .str z] ∧ ∀ H', Same H H' → Q (.bl true) H'
theorem ok__law_same (T : Tx w K mg) : Dk P w K mg base 1 "_law_same" ["told", "due"] spSm := by
  obtain ⟨fd, F⟩ := T.d__law_same
  refine ⟨⟨fd, F.ok sc__law_same (fun vs H Q E h => ?_) (fun cdv A outer s H vs Q E hr h => ?_), bd__law_same F⟩, F.kp, T.g__law_same⟩
  · obtain ⟨z, rfl, _⟩ := h
    rfl
  · obtain ⟨z, rfl, q⟩ := h
    refine ⟨_, PSs.nox (pss_cons (ps_set (i := 2) sc__law_same.nd rfl (.inl rfl) (pe_lst (pa_cons (pe_tup (pa_cons (pv 0) (pa_cons (pv 1) pa_nil))) pa_nil)))
      (pss_cons (ps_while PassesOwn.never (pt_truth (pv 2) (by intro _; rfl)) (pss_cons (ps_asg (pe_bm0 PySem.F.plainAttrs_list PySem.F.slot_list_pop PySem.F.type_list_pop mt_popQ (pv 2)) (pg_tup (by rfl) (pgs_cons (pg_name (i := 3) sc__law_same.nd rfl (.inr rfl)) (pgs_cons (pg_name (i := 4) sc__law_same.nd rfl (.inr rfl)) pgs_nil))))
      (pss_one (ps_if (pt_val (pe_callB call_isK (by rfl) T.f_isinstance PyProof.Rows.boot_isinstance (pa_cons (pv 4) (pa_cons (pe_bltn (v := .ty "tuple") (by rfl) T.f_tuple PyProof.Rows.boot_tuple rfl) pa_nil)))) (pss_cons (ps_if (PW.pt (pw_or (pt_not (pt_val (pe_callB call_isK (by rfl) T.f_isinstance PyProof.Rows.boot_isinstance (pa_cons (pv 3) (pa_cons (pe_bltn (v := .ty "tuple") (by rfl) T.f_tuple PyProof.Rows.boot_tuple rfl) pa_nil))))) (pw_or1 (pt_cmpR op_ne (pe_callB call_lenQ (by rfl) T.f_len PySem.boot_len (pa_cons (pv 3) pa_nil)) (pe_callB call_lenQ (by rfl) T.f_len PySem.boot_len (pa_cons (pv 4) pa_nil)) (nomark _))))) (pss_one (ps_ret pe_bl)) pss_nil)
      (pss_one (ps_set (i := 2) sc__law_same.nd rfl (.inl rfl) (pe_op op_cat (pv 2) (pe_lc (own := [("k", 5)]) rfl sc__law_same.nd (pi_range1 (by rfl) T.f_range (pa_cons (pe_callB call_lenQ (by rfl) T.f_len PySem.boot_len (pa_cons (pv 4) pa_nil)) pa_nil)) (blkOk_by (own := [("k", 5)]) (N := ["told", "due", "pairs", "one", "two", "k"]) (sc := defScope (topS 111)) (by decide +kernel)) (fun _ _ _ _ _ => (pg_name (i := 5) sc__law_same.nd rfl (.inl rfl))) (fun _ _ _ _ _ => pts_nil) (fun _ _ _ _ _ => (pe_tup (pa_cons (pe_ix (show IxR _ (rIxTQ K) by exact ix_tupQ) (pv 3) (pv 5) (fun _ _ => rfl)) (pa_cons (pe_ix (show IxR _ (rIxTQ K) by exact ix_tupQ) (pv 4) (pv 5) (fun _ _ => rfl)) pa_nil))))))))) (pss_one (ps_if (pt_cmpR op_isN (pv 4) pe_non (nomark _)) (pss_one (ps_if (pt_cmpR op_notN (pv 3) pe_non (nomark _)) (pss_one (ps_ret pe_bl)) pss_nil)) (pss_one (ps_if (pt_val (pe_callB call_isK (by rfl) T.f_isinstance PyProof.Rows.boot_isinstance (pa_cons (pv 4) (pa_cons (pe_bltn (v := .ty "bool") (by rfl) T.f_bool PyProof.Rows.boot_bool rfl) pa_nil)))) (pss_one (ps_if (PW.pt (pw_or (pt_not (pt_val (pe_callB call_isK (by rfl) T.f_isinstance PyProof.Rows.boot_isinstance (pa_cons (pv 3) (pa_cons (pe_bltn (v := .ty "bool") (by rfl) T.f_bool PyProof.Rows.boot_bool rfl) pa_nil))))) (pw_or1 (pt_cmpR op_ne (pv 3) (pv 4) (nomark _))))) (pss_one (ps_ret pe_bl)) pss_nil)) (pss_one (ps_if (pt_val (pe_callB call_isK (by rfl) T.f_isinstance PyProof.Rows.boot_isinstance (pa_cons (pv 4) (pa_cons (pe_bltn (v := .ty "int") (by rfl) T.f_int PyProof.Rows.boot_int rfl) pa_nil)))) (pss_one (ps_if (PW.pt (pw_or (pt_val (pe_callB call_isK (by rfl) T.f_isinstance PyProof.Rows.boot_isinstance (pa_cons (pv 3) (pa_cons (pe_bltn (v := .ty "bool") (by rfl) T.f_bool PyProof.Rows.boot_bool rfl) pa_nil)))) (pw_or (pt_not (pt_val (pe_callB call_isK (by rfl) T.f_isinstance PyProof.Rows.boot_isinstance (pa_cons (pv 3) (pa_cons (pe_bltn (v := .ty "int") (by rfl) T.f_int PyProof.Rows.boot_int rfl) pa_nil))))) (pw_or1 (pt_cmpR op_ne (pv 3) (pv 4) (nomark _)))))) (pss_one (ps_ret pe_bl)) pss_nil)) (pss_one (ps_if (PW.pt (pw_or (pt_not (pt_val (pe_callB call_isK (by rfl) T.f_isinstance PyProof.Rows.boot_isinstance (pa_cons (pv 3) (pa_cons (pe_bltn (v := .ty "str") (by rfl) T.f_str PyProof.Rows.boot_str rfl) pa_nil))))) (pw_or1 (pt_cmpR op_ne (pv 3) (pv 4) (nomark _))))) (pss_one (ps_ret pe_bl)) pss_nil))))))))))))
      (pss_one (ps_ret pe_bl)))), ?_⟩
    simp only [cxOf, tYes, eq_self, if_true, if_false, wipe, rLenQ, rIxTQ, rIxLQ, rIxSQ, rInt1Q, rTupQ, rAppQ, rPopQ, rPopAtQ, rRevQ, rListS, rReprP, tLenSetT, tChain, tRetN, tRet, tSeq, tAsg, gName, tVar, tC, tCons, tNil, tCB, tOp, rI0, rI, tAndV, tOrV, tNotV, tIf, tTest, tB, tNot, tAnd, tOr, tIfS, tNext, tCallR, rIsK, rEq, rNe, tDrop, L2.start, List.map_cons, List.map_nil, List.length_cons, List.length_nil, Nat.reduceAdd, Nat.reduceSub, Nat.sub_self, List.replicate_zero, List.replicate_succ, List.append_nil, List.cons_append, List.nil_append, List.getElem?_cons_zero, List.getElem?_cons_succ, List.set_cons_zero, List.set_cons_succ, Option.some.injEq, List.cons.injEq, and_true, true_and, exists_eq_left, exists_eq_left', exists_eq_right, V.ty.injEq, V.int.injEq, V.bl.injEq, V.str.injEq, V.ref.injEq, exists_and_left, exists_const, reduceIte, reduceCtorEq, false_and, and_false, exists_false, or_false, false_or, Bool.not_true, Bool.not_false, Bool.false_eq_true, String.reduceEq, true_or, or_true, rNotT, tNNew, tNNotIn, tNGet, sNPut, tLenSetN, tPar, tAug, ipI, tDNotIn, sDPut, tDGet, tTup, tLst, tBM, tBM0, tCallD, tCall, rKdIn, tTNew, tTIn, tTGet, sTPut, Sg.tMethR, tMeth, tMakeR, tMake, tDGet2, tSAddK, rSAddK, rSInK, rSet0K, rExtend, rExtendT, tFld, sFld, tRevT, tDIn, tSl, tPart, tNoPart, tDelFrom, StX.tStar, tUn, rU, tM0, tM1]
    refine ⟨by rw [sizeLine_eq]; decide, fun p hp => ⟨by rw [sizeLine_eq]; decide, fun l hl => ?_⟩⟩
    have s1 := same_upd (o := HO.tup [.str z, .str z]) hp
    have s2 := same_upd (o := HO.lst [.ref p]) hl
    have gp : (upd (upd H p (.tup [.str z, .str z])) l (.lst [.ref p])) p = some (.tup [.str z, .str z]) := s2 _ _ upd_same
    have gl : (upd (upd H p (.tup [.str z, .str z])) l (.lst [.ref p])) l = some (.lst [.ref p]) := upd_same
    have s0 := Same.trans s1 s2
    have hlH : H l = none := by
      cases e : H l with
      | none => rfl
      | some o => rw [s1 _ _ e] at hl; cases hl
    generalize upd (upd H p (.tup [.str z, .str z])) l (.lst [.ref p]) = H0 at gp gl s0
    refine ⟨fun m σ H' => Same H H' ∧ (∃ y3 y4 y5, σ = [some (.str z), some (.str z), some (.ref l), y3, y4, y5]) ∧ ((m = 1 ∧ H' l = some (.lst [.ref p]) ∧ H' p = some (.tup [.str z, .str z])) ∨ (m = 0 ∧ H' l = some (.lst []))), ⟨1, s0, ⟨_, _, _, rfl⟩, .inl ⟨rfl, gl, gp⟩⟩, ?_⟩
    rintro m σ H' ⟨s3, ⟨y3, y4, y5, rfl⟩, ⟨rfl, g1, g2⟩ | ⟨rfl, g1⟩⟩
    · refine ⟨_, rfl, true, .inl ⟨_, .inl (.inl g1), rfl⟩, ifT rfl ?_⟩
      refine ⟨fun σ H' => Same H H' ∧ (∃ y3 y4 y5, σ = [some (.str z), some (.str z), some (.ref l), y3, y4, y5]) ∧ H' l = some (.lst []), fun σ' H' e => ⟨0, by decide, e.1, e.2.1, .inr ⟨rfl, e.2.2⟩⟩, ?_⟩
      simp only [cxOf, tYes, eq_self, if_true, if_false, wipe, rLenQ, rIxTQ, rIxLQ, rIxSQ, rInt1Q, rTupQ, rAppQ, rPopQ, rPopAtQ, rRevQ, rListS, rReprP, tLenSetT, tChain, tRetN, tRet, tSeq, tAsg, gName, tVar, tC, tCons, tNil, tCB, tOp, rI0, rI, tAndV, tOrV, tNotV, tIf, tTest, tB, tNot, tAnd, tOr, tIfS, tNext, tCallR, rIsK, rEq, rNe, tDrop, L2.start, List.map_cons, List.map_nil, List.length_cons, List.length_nil, Nat.reduceAdd, Nat.reduceSub, Nat.sub_self, List.replicate_zero, List.replicate_succ, List.append_nil, List.cons_append, List.nil_append, List.getElem?_cons_zero, List.getElem?_cons_succ, List.set_cons_zero, List.set_cons_succ, Option.some.injEq, List.cons.injEq, and_true, true_and, exists_eq_left, exists_eq_left', exists_eq_right, V.ty.injEq, V.int.injEq, V.bl.injEq, V.str.injEq, V.ref.injEq, exists_and_left, exists_const, reduceIte, reduceCtorEq, false_and, and_false, exists_false, or_false, false_or, Bool.not_true, Bool.not_false, Bool.false_eq_true, String.reduceEq, true_or, or_true, rNotT, tNNew, tNNotIn, tNGet, sNPut, tLenSetN, tPar, tAug, ipI, tDNotIn, sDPut, tDGet, tTup, tLst, tBM, tBM0, tCallD, tCall, rKdIn, tTNew, tTIn, tTGet, sTPut, Sg.tMethR, tMeth, tMakeR, tMake, tDGet2, tSAddK, rSAddK, rSInK, rSet0K, rExtend, rExtendT, tFld, sFld, tRevT, tDIn, tSl, tPart, tNoPart, tDelFrom, StX.tStar, tUn, rU, tM0, tM1]
      have np : p ≠ l := fun e => by rw [e, g1] at g2; cases g2
      refine ⟨lst_ty g1, [], .ref p, g1, p, _, rfl, .inl (.inl ((upd_ne np).trans g2)), rfl, _, _, rfl, _, _, rfl, rfl, ?_⟩
      simp only [cxOf, tYes, eq_self, if_true, if_false, wipe, rLenQ, rIxTQ, rIxLQ, rIxSQ, rInt1Q, rTupQ, rAppQ, rPopQ, rPopAtQ, rRevQ, rListS, rReprP, tLenSetT, tChain, tRetN, tRet, tSeq, tAsg, gName, tVar, tC, tCons, tNil, tCB, tOp, rI0, rI, tAndV, tOrV, tNotV, tIf, tTest, tB, tNot, tAnd, tOr, tIfS, tNext, tCallR, rIsK, rEq, rNe, tDrop, L2.start, List.map_cons, List.map_nil, List.length_cons, List.length_nil, Nat.reduceAdd, Nat.reduceSub, Nat.sub_self, List.replicate_zero, List.replicate_succ, List.append_nil, List.cons_append, List.nil_append, List.getElem?_cons_zero, List.getElem?_cons_succ, List.set_cons_zero, List.set_cons_succ, Option.some.injEq, List.cons.injEq, and_true, true_and, exists_eq_left, exists_eq_left', exists_eq_right, V.ty.injEq, V.int.injEq, V.bl.injEq, V.str.injEq, V.ref.injEq, exists_and_left, exists_const, reduceIte, reduceCtorEq, false_and, and_false, exists_false, or_false, false_or, Bool.not_true, Bool.not_false, Bool.false_eq_true, String.reduceEq, true_or, or_true, rNotT, tNNew, tNNotIn, tNGet, sNPut, tLenSetN, tPar, tAug, ipI, tDNotIn, sDPut, tDGet, tTup, tLst, tBM, tBM0, tCallD, tCall, rKdIn, tTNew, tTIn, tTGet, sTPut, Sg.tMethR, tMeth, tMakeR, tMake, tDGet2, tSAddK, rSAddK, rSInK, rSet0K, rExtend, rExtendT, tFld, sFld, tRevT, tDIn, tSl, tPart, tNoPart, tDelFrom, StX.tStar, tUn, rU, tM0, tM1]
      refine ⟨.str _, ifF rfl (ifF (by decide) ⟨.str _, ifF rfl ⟨.str _, ifF rfl ⟨.str _, ifF rfl ⟨rfl, ifF (by simp) ⟨fun b o hb => ?_, ⟨_, rfl⟩, upd_same⟩⟩⟩⟩⟩)⟩
      rw [upd_ne (ne_of_none hb hlH)]
      exact s3 b o hb
    · refine ⟨_, rfl, false, .inl ⟨_, .inl (.inl g1), rfl⟩, ifF rfl (q H' s3)⟩
theorem sc__law_signs : FnScope ["bag", "many", "stock", "got", "k", "at"] ["bag", "many"] (defScope (topS 112)) := ⟨rfl, rfl, rfl, by decide +kernel, rfl, by decide +kernel, by decide +kernel⟩
theorem bd__law_signs {K : PySem.W.Frag} {f : Addr} {fd : FuncData} (F : FnP K "_law_signs" (topS 112) f fd) : Binds K fd ["bag", "many"] [] := F.bindsN fun _ _ _ _ _ _ us hl => match us, hl with | [_, _], _ => rfl
def spLs : Sp := fun vs H Q _ => ∃ (b g : Addr) (n B : Nat), vs = [.ref b, .int (n : Int)] ∧ Bag H b g B ∧ B + 10 < 2 ^ 40 ∧ 1 ≤ n ∧ n ≤ 5 ∧ ∀ (z : Str) H', z.length = n → z.cps.toList.Nodup → QtOk z → Bch b g H H' → Bag H' b g (B + n + 1) → Q (.str z) H'
def SgP (b g : Addr) (n B : Nat) (H : Hp) (i : Nat) (σ : L2.St) (H' : Hp) : Prop := ∃ (st got : Str), Bch b g H H' ∧ Bag H' b g (B + 1 + i) ∧ (got.cps.toList ++ st.cps.toList).Nodup ∧ (∀ c ∈ got.cps.toList ++ st.cps.toList, qcB c = true) ∧ (10 ≤ st.length + i ∧ st.length ≤ 100) ∧ got.length = i ∧ ∃ x4 x5, σ = [some (.ref b), some (.int (n : Int)), some (.str st), some (.str got), x4, x5]
theorem ok__law_signs (T : Tx w K mg) : Dk P w K mg base 2 "_law_signs" ["bag", "many"] spLs := by
  have D__law_take := ok__law_take (P := P) (w := w) (base := base) T
  obtain ⟨fd, F⟩ := T.d__law_signs
  refine ⟨⟨fd, F.ok sc__law_signs (fun vs H Q E h => ?_) (fun cdv A outer s H vs Q E hr h => ?_), bd__law_signs F⟩, F.kp, T.g__law_signs⟩
  · obtain ⟨b, g, n, B, rfl, _⟩ := h
    rfl
  · obtain ⟨b, g, n, B, rfl, hbag, hB, hn1, hn5, q⟩ := h
    refine ⟨_, PSs.nox (pss_cons (ps_set (i := 2) sc__law_signs.nd rfl (.inl rfl) pe_str)
      (pss_cons (ps_if (pt_cmpR op_eq (pe_callR D__law_take (hr.mono (by decide)) takes0 (pa_cons (pv 0) (pa_cons pe_int pa_nil))) pe_int (nomark _)) (pss_one (ps_set (i := 2) sc__law_signs.nd rfl (.inl rfl) pe_str)) pss_nil)
      (pss_cons (ps_set (i := 3) sc__law_signs.nd rfl (.inl rfl) pe_str)
      (pss_cons (ps_for PassesOwn.never rfl (pi_range1 (by rfl) T.f_range (pa_cons (pv 1) pa_nil)) (pg_name (i := 4) sc__law_signs.nd rfl (.inl rfl)) (pss_cons (ps_set (i := 5) sc__law_signs.nd rfl (.inl rfl) (pe_callR D__law_take (hr.mono (by decide)) takes0 (pa_cons (pv 0) (pa_cons (pe_callB call_lenQ (by rfl) T.f_len PySem.boot_len (pa_cons (pv 2) pa_nil)) pa_nil))))
      (pss_cons (ps_set (i := 3) sc__law_signs.nd rfl (.inl rfl) (pe_op op_add_str (pv 3) (pe_ix ix_strQ (pv 2) (pv 5) (fun _ _ => rfl))))
      (pss_one (ps_set (i := 2) sc__law_signs.nd rfl (.inl rfl) (pe_op op_add_str (pe_slice sl_str (pv 2) po_none (po_some (pv 5))) (pe_slice sl_str (pv 2) (po_some (pe_op op_add (pv 5) pe_int)) po_none)))))))
      (pss_one (ps_ret (pv 3))))))), ?_⟩
    simp only [cxOf, tYes, eq_self, if_true, if_false, wipe, rLenQ, rIxTQ, rIxLQ, rIxSQ, rInt1Q, rTupQ, rAppQ, rPopQ, rPopAtQ, rRevQ, rListS, rReprP, tLenSetT, tChain, tRetN, tRet, tSeq, tAsg, gName, tVar, tC, tCons, tNil, tCB, tOp, rI0, rI, tAndV, tOrV, tNotV, tIf, tTest, tB, tNot, tAnd, tOr, tIfS, tNext, tCallR, rIsK, rEq, rNe, tDrop, L2.start, List.map_cons, List.map_nil, List.length_cons, List.length_nil, Nat.reduceAdd, Nat.reduceSub, Nat.sub_self, List.replicate_zero, List.replicate_succ, List.append_nil, List.cons_append, List.nil_append, List.getElem?_cons_zero, List.getElem?_cons_succ, List.set_cons_zero, List.set_cons_succ, Option.some.injEq, List.cons.injEq, and_true, true_and, exists_eq_left, exists_eq_left', exists_eq_right, V.ty.injEq, V.int.injEq, V.bl.injEq, V.str.injEq, V.ref.injEq, exists_and_left, exists_const, reduceIte, reduceCtorEq, false_and, and_false, exists_false, or_false, false_or, Bool.not_true, Bool.not_false, Bool.false_eq_true, String.reduceEq, true_or, or_true, rNotT, tNNew, tNNotIn, tNGet, sNPut, tLenSetN, tPar, tAug, ipI, tDNotIn, sDPut, tDGet, tTup, tLst, tBM, tBM0, tCallD, tCall, rKdIn, tTNew, tTIn, tTGet, sTPut, Sg.tMethR, tMeth, tMakeR, tMake, tDGet2, tSAddK, rSAddK, rSInK, rSet0K, rExtend, rExtendT, tFld, sFld, tRevT, tDIn, tSl, tPart, tNoPart, tDelFrom, StX.tStar, tUn, rU, tM0, tM1]
    refine ⟨b, g, 3, B, rfl, hbag, by omega, by decide, by decide, fun r H1 hr c1 bg1 => ⟨rfl, ?_⟩⟩
    by_cases hr0 : V.int (r : Int) = V.int 0
    · refine ifT (decide_eq_true hr0) ?_
      refine ⟨_, rfl, (n : Int), rfl, by omega, by omega, ?_⟩
      refine for_gen (J := Itr 0 n) (n := n) (SgP b g n B H) ⟨(Str.ofString "cabxz0BQy9"), Str.ofString "", c1, bg1, ?_, ?_, ?_, rfl, _, _, rfl⟩ (fun i σ H' hi _ => hi) (fun σ H' _ => Nat.le_refl _) ?_ ?_
      · decide +kernel
      · exact fun c hc => List.all_eq_true.mp (by decide +kernel : ((Str.ofString "").cps.toList ++ (Str.ofString "cabxz0BQy9").cps.toList).all qcB = true) c hc
      · decide +kernel
      · rintro i x σ H' H'' hi ⟨st, got, c2, bg2, nd, qc, hl, hg, x4, x5, rfl⟩ ⟨rfl, rfl⟩
        simp only [cxOf, tYes, eq_self, if_true, if_false, wipe, rLenQ, rIxTQ, rIxLQ, rIxSQ, rInt1Q, rTupQ, rAppQ, rPopQ, rPopAtQ, rRevQ, rListS, rReprP, tLenSetT, tChain, tRetN, tRet, tSeq, tAsg, gName, tVar, tC, tCons, tNil, tCB, tOp, rI0, rI, tAndV, tOrV, tNotV, tIf, tTest, tB, tNot, tAnd, tOr, tIfS, tNext, tCallR, rIsK, rEq, rNe, tDrop, L2.start, List.map_cons, List.map_nil, List.length_cons, List.length_nil, Nat.reduceAdd, Nat.reduceSub, Nat.sub_self, List.replicate_zero, List.replicate_succ, List.append_nil, List.cons_append, List.nil_append, List.getElem?_cons_zero, List.getElem?_cons_succ, List.set_cons_zero, List.set_cons_succ, Option.some.injEq, List.cons.injEq, and_true, true_and, exists_eq_left, exists_eq_left', exists_eq_right, V.ty.injEq, V.int.injEq, V.bl.injEq, V.str.injEq, V.ref.injEq, exists_and_left, exists_const, reduceIte, reduceCtorEq, false_and, and_false, exists_false, or_false, false_or, Bool.not_true, Bool.not_false, Bool.false_eq_true, String.reduceEq, true_or, or_true, rNotT, tNNew, tNNotIn, tNGet, sNPut, tLenSetN, tPar, tAug, ipI, tDNotIn, sDPut, tDGet, tTup, tLst, tBM, tBM0, tCallD, tCall, rKdIn, tTNew, tTIn, tTGet, sTPut, Sg.tMethR, tMeth, tMakeR, tMake, tDGet2, tSAddK, rSAddK, rSInK, rSet0K, rExtend, rExtendT, tFld, sFld, tRevT, tDIn, tSl, tPart, tNoPart, tDelFrom, StX.tStar, tUn, rU, tM0, tM1]
        have hst := str_len st
        have hgl := str_len got
        refine ⟨szle (m := 1000) (by omega), b, g, st.length, B + 1 + i, rfl, bg2, by omega, by omega, by omega, fun j H3 hj c3 bg3 => ?_⟩
        have hj2 : j < st.cps.toList.length := by omega
        refine ⟨szle (m := 1000) (by omega), st.cps.toList[j], atI_nat (List.getElem?_eq_getElem hj2), szle (m := 1000) (by show got.length + 1 ≤ 1000; omega), (j : Int), rfl, st, rfl, szle (m := 1000) (by omega), (j : Int), rfl, st, rfl, szle (m := 1000) (by omega), _, rfl, _, rfl, ?_⟩
        have e1 : cutS st (some ((j : Int) + 1)) none = mkS (st.cps.toList.drop (j + 1)) := cut_skip st (j + 1)
        rw [cut_head, e1]
        have e2 : (mkS (st.cps.toList.take j) ++ mkS (st.cps.toList.drop (j + 1))).cps.toList = st.cps.toList.take j ++ st.cps.toList.drop (j + 1) := cps_app _ _
        have e3 : (mkS (st.cps.toList.take j) ++ mkS (st.cps.toList.drop (j + 1))).length = st.length - 1 := by
          rw [← str_len, e2, List.length_append, List.length_take, List.length_drop]
          omega
        have e4 : (got ++ sgn st.cps.toList[j]).cps.toList = got.cps.toList ++ [st.cps.toList[j]] := cps_app _ _
        have e5 : (got ++ sgn st.cps.toList[j]).length = got.length + 1 := len_app _ _
        have pm := cut_perm got.cps.toList hj2
        refine ⟨szle (m := 1000) (by rw [mkS_len, mkS_len, List.length_take, List.length_drop]; omega), _, _, c2.trans c3, bg3, ?_, ?_, ?_, ?_, _, _, rfl⟩
        · rw [e2, e4]
          exact pm.nodup_iff.mp nd
        · rw [e2, e4]
          exact fun c hc => qc c (pm.mem_iff.mpr hc)
        · rw [e3]
          omega
        · rw [e5, hg]
      · rintro σ H' ⟨st, got, c2, bg2, nd, qc, hl, hg, x4, x5, rfl⟩
        refine ⟨_, rfl, q got H' hg (List.nodup_append.mp nd).1 (fun c hc => qc c (List.mem_append_left _ hc)) c2 (by rw [show B + n + 1 = B + 1 + n by omega]; exact bg2)⟩
    · refine ifF (decide_eq_false hr0) ?_
      refine ⟨_, rfl, (n : Int), rfl, by omega, by omega, ?_⟩
      refine for_gen (J := Itr 0 n) (n := n) (SgP b g n B H) ⟨(Str.ofString " !#$&'()*+,-./0123456789:;<=>?@ABCDEFGHIJKLMNOPQRSTUVWXYZ[\\]^_`abcdefghijklmnopqrstuvwxyz{|}~"), Str.ofString "", c1, bg1, ?_, ?_, ?_, rfl, _, _, rfl⟩ (fun i σ H' hi _ => hi) (fun σ H' _ => Nat.le_refl _) ?_ ?_
      · decide +kernel
      · exact fun c hc => List.all_eq_true.mp (by decide +kernel : ((Str.ofString "").cps.toList ++ (Str.ofString " !#$&'()*+,-./0123456789:;<=>?@ABCDEFGHIJKLMNOPQRSTUVWXYZ[\\]^_`abcdefghijklmnopqrstuvwxyz{|}~").cps.toList).all qcB = true) c hc
      · decide +kernel
      · rintro i x σ H' H'' hi ⟨st, got, c2, bg2, nd, qc, hl, hg, x4, x5, rfl⟩ ⟨rfl, rfl⟩
        simp only [cxOf, tYes, eq_self, if_true, if_false, wipe, rLenQ, rIxTQ, rIxLQ, rIxSQ, rInt1Q, rTupQ, rAppQ, rPopQ, rPopAtQ, rRevQ, rListS, rReprP, tLenSetT, tChain, tRetN, tRet, tSeq, tAsg, gName, tVar, tC, tCons, tNil, tCB, tOp, rI0, rI, tAndV, tOrV, tNotV, tIf, tTest, tB, tNot, tAnd, tOr, tIfS, tNext, tCallR, rIsK, rEq, rNe, tDrop, L2.start, List.map_cons, List.map_nil, List.length_cons, List.length_nil, Nat.reduceAdd, Nat.reduceSub, Nat.sub_self, List.replicate_zero, List.replicate_succ, List.append_nil, List.cons_append, List.nil_append, List.getElem?_cons_zero, List.getElem?_cons_succ, List.set_cons_zero, List.set_cons_succ, Option.some.injEq, List.cons.injEq, and_true, true_and, exists_eq_left, exists_eq_left', exists_eq_right, V.ty.injEq, V.int.injEq, V.bl.injEq, V.str.injEq, V.ref.injEq, exists_and_left, exists_const, reduceIte, reduceCtorEq, false_and, and_false, exists_false, or_false, false_or, Bool.not_true, Bool.not_false, Bool.false_eq_true, String.reduceEq, true_or, or_true, rNotT, tNNew, tNNotIn, tNGet, sNPut, tLenSetN, tPar, tAug, ipI, tDNotIn, sDPut, tDGet, tTup, tLst, tBM, tBM0, tCallD, tCall, rKdIn, tTNew, tTIn, tTGet, sTPut, Sg.tMethR, tMeth, tMakeR, tMake, tDGet2, tSAddK, rSAddK, rSInK, rSet0K, rExtend, rExtendT, tFld, sFld, tRevT, tDIn, tSl, tPart, tNoPart, tDelFrom, StX.tStar, tUn, rU, tM0, tM1]
        have hst := str_len st
        have hgl := str_len got
        refine ⟨szle (m := 1000) (by omega), b, g, st.length, B + 1 + i, rfl, bg2, by omega, by omega, by omega, fun j H3 hj c3 bg3 => ?_⟩
        have hj2 : j < st.cps.toList.length := by omega
        refine ⟨szle (m := 1000) (by omega), st.cps.toList[j], atI_nat (List.getElem?_eq_getElem hj2), szle (m := 1000) (by show got.length + 1 ≤ 1000; omega), (j : Int), rfl, st, rfl, szle (m := 1000) (by omega), (j : Int), rfl, st, rfl, szle (m := 1000) (by omega), _, rfl, _, rfl, ?_⟩
        have e1 : cutS st (some ((j : Int) + 1)) none = mkS (st.cps.toList.drop (j + 1)) := cut_skip st (j + 1)
        rw [cut_head, e1]
        have e2 : (mkS (st.cps.toList.take j) ++ mkS (st.cps.toList.drop (j + 1))).cps.toList = st.cps.toList.take j ++ st.cps.toList.drop (j + 1) := cps_app _ _
        have e3 : (mkS (st.cps.toList.take j) ++ mkS (st.cps.toList.drop (j + 1))).length = st.length - 1 := by
          rw [← str_len, e2, List.length_append, List.length_take, List.length_drop]
          omega
        have e4 : (got ++ sgn st.cps.toList[j]).cps.toList = got.cps.toList ++ [st.cps.toList[j]] := cps_app _ _
        have e5 : (got ++ sgn st.cps.toList[j]).length = got.length + 1 := len_app _ _
        have pm := cut_perm got.cps.toList hj2
        refine ⟨szle (m := 1000) (by rw [mkS_len, mkS_len, List.length_take, List.length_drop]; omega), _, _, c2.trans c3, bg3, ?_, ?_, ?_, ?_, _, _, rfl⟩
        · rw [e2, e4]
          exact pm.nodup_iff.mp nd
        · rw [e2, e4]
          exact fun c hc => qc c (pm.mem_iff.mpr hc)
        · rw [e3]
          omega
        · rw [e5, hg]
      · rintro σ H' ⟨st, got, c2, bg2, nd, qc, hl, hg, x4, x5, rfl⟩
        refine ⟨_, rfl, q got H' hg (List.nodup_append.mp nd).1 (fun c hc => qc c (List.mem_append_left _ hc)) c2 (by rw [show B + n + 1 = B + 1 + n by omega]; exact bg2)⟩
theorem sc__law_turn : FnScope ["bag", "signs", "most", "left", "pairs", "k", "at"] ["bag", "signs", "most"] (defScope (topS 114)) := ⟨rfl, rfl, rfl, by decide +kernel, rfl, by decide +kernel, by decide +kernel⟩
theorem bd__law_turn {K : PySem.W.Frag} {f : Addr} {fd : FuncData} (F : FnP K "_law_turn" (topS 114) f fd) : Binds K fd ["bag", "signs", "most"] [] := F.bindsN fun _ _ _ _ _ _ us hl => match us, hl with | [_, _, _], _ => rfl
def TuOk (z : Str) (ps : List (Str × Str)) : Prop := ps ≠ [] ∧ ps.length ≤ 5 ∧ (ps.map (·.1)).Nodup ∧ ∀ p ∈ ps, p.1.length = 1 ∧ (∀ c ∈ p.1.cps.toList, c ∈ z.cps.toList) ∧ p.2.length ≤ 3 ∧ ∀ c ∈ p.2.cps.toList, c ∈ z.cps.toList
def spLt : Sp := fun vs H Q _ => ∃ (b g : Addr) (z : Str) (B : Nat), vs = [.ref b, .str z, .int 3] ∧ Bag H b g B ∧ B + 50 < 2 ^ 40 ∧ 1 ≤ z.length ∧ z.length ≤ 5 ∧ z.cps.toList.Nodup ∧ ∀ (ps : List (Str × Str)) a H', TuOk z ps → Bch b g H H' → Bag H' b g (B + 40) → KeyV H' (.ref a) (Stp.turn ps).key → Q (.ref a) H'
def TuP (b g p : Addr) (z : Str) (B : Nat) (H : Hp) (i : Nat) (σ : L2.St) (H' : Hp) : Prop := ∃ (lf : Str) (us : List Nat) (ps : List (Str × Str)) (vs : List V), Bch b g H H' ∧ Bag H' b g (B + 1 + 6 * i) ∧ H' p = some (.lst vs) ∧ KeyVs H' vs (ps.map pairK) ∧ ps.map (·.1) = us.map sgn ∧ (us ++ lf.cps.toList).Nodup ∧ (∀ c ∈ us ++ lf.cps.toList, c ∈ z.cps.toList) ∧ lf.length + i = z.length ∧ ps.length = i ∧ (∀ q ∈ ps, q.2.length ≤ 3 ∧ ∀ c ∈ q.2.cps.toList, c ∈ z.cps.toList) ∧
  ∃ x5 x6, σ = [some (.ref b), some (.str z), some (.int 3), some (.str lf), some (.ref p), x5, x6]
theorem ok__law_turn (T : Tx w K mg) : Dk P w K mg base 3 "_law_turn" ["bag", "signs", "most"] spLt := by
  have D__law_take := ok__law_take (P := P) (w := w) (base := base) T
  have D__law_word := ok__law_word (P := P) (w := w) (base := base) T
  obtain ⟨fd, F⟩ := T.d__law_turn
  refine ⟨⟨fd, F.ok sc__law_turn (fun vs H Q E h => ?_) (fun cdv A outer s H vs Q E hr h => ?_), bd__law_turn F⟩, F.kp, T.g__law_turn⟩
  · obtain ⟨b, g, z, B, rfl, _⟩ := h
    rfl
  · obtain ⟨b, g, z, B, rfl, hbag, hB, h1, h5, hnd, q⟩ := h
    refine ⟨_, PSs.nox (pss_cons (ps_set (i := 3) sc__law_turn.nd rfl (.inl rfl) (pv 1))
      (pss_cons (ps_set (i := 4) sc__law_turn.nd rfl (.inl rfl) (pe_lst pa_nil))
      (pss_cons (ps_for PassesOwn.never rfl (pi_range1 (by rfl) T.f_range (pa_cons (pe_op op_add pe_int (pe_callR D__law_take (hr.mono (by decide)) takes0 (pa_cons (pv 0) (pa_cons (pe_callB call_lenQ (by rfl) T.f_len PySem.boot_len (pa_cons (pv 1) pa_nil)) pa_nil)))) pa_nil)) (pg_name (i := 5) sc__law_turn.nd rfl (.inl rfl)) (pss_cons (ps_set (i := 6) sc__law_turn.nd rfl (.inl rfl) (pe_callR D__law_take (hr.mono (by decide)) takes0 (pa_cons (pv 0) (pa_cons (pe_callB call_lenQ (by rfl) T.f_len PySem.boot_len (pa_cons (pv 3) pa_nil)) pa_nil))))
      (pss_cons (ps_expr (pe_bm PySem.F.plainAttrs_list PySem.F.slot_list_append PySem.F.type_list_append mt_appQ (pv 4) (pa_cons (pe_tup (pa_cons (pe_ix ix_strQ (pv 3) (pv 6) (fun _ _ => rfl)) (pa_cons (pe_callR D__law_word (hr.mono (by decide)) takes0 (pa_cons (pv 0) (pa_cons (pv 1) (pa_cons (pv 2) pa_nil)))) pa_nil))) pa_nil)))
      (pss_one (ps_set (i := 3) sc__law_turn.nd rfl (.inl rfl) (pe_op op_add_str (pe_slice sl_str (pv 3) po_none (po_some (pv 6))) (pe_slice sl_str (pv 3) (po_some (pe_op op_add (pv 6) pe_int)) po_none)))))))
      (pss_one (ps_ret (pe_tup (pa_cons pe_str (pa_cons (pe_callTy call_tupQ (by rfl) T.f_tuple PyProof.Rows.boot_tuple (pa_cons (pv 4) pa_nil)) pa_nil)))))))), ?_⟩
    simp only [cxOf, tYes, eq_self, if_true, if_false, wipe, rLenQ, rIxTQ, rIxLQ, rIxSQ, rInt1Q, rTupQ, rAppQ, rPopQ, rPopAtQ, rRevQ, rListS, rReprP, tLenSetT, tChain, tRetN, tRet, tSeq, tAsg, gName, tVar, tC, tCons, tNil, tCB, tOp, rI0, rI, tAndV, tOrV, tNotV, tIf, tTest, tB, tNot, tAnd, tOr, tIfS, tNext, tCallR, rIsK, rEq, rNe, tDrop, L2.start, List.map_cons, List.map_nil, List.length_cons, List.length_nil, Nat.reduceAdd, Nat.reduceSub, Nat.sub_self, List.replicate_zero, List.replicate_succ, List.append_nil, List.cons_append, List.nil_append, List.getElem?_cons_zero, List.getElem?_cons_succ, List.set_cons_zero, List.set_cons_succ, Option.some.injEq, List.cons.injEq, and_true, true_and, exists_eq_left, exists_eq_left', exists_eq_right, V.ty.injEq, V.int.injEq, V.bl.injEq, V.str.injEq, V.ref.injEq, exists_and_left, exists_const, reduceIte, reduceCtorEq, false_and, and_false, exists_false, or_false, false_or, Bool.not_true, Bool.not_false, Bool.false_eq_true, String.reduceEq, true_or, or_true, rNotT, tNNew, tNNotIn, tNGet, sNPut, tLenSetN, tPar, tAug, ipI, tDNotIn, sDPut, tDGet, tTup, tLst, tBM, tBM0, tCallD, tCall, rKdIn, tTNew, tTIn, tTGet, sTPut, Sg.tMethR, tMeth, tMakeR, tMake, tDGet2, tSAddK, rSAddK, rSInK, rSet0K, rExtend, rExtendT, tFld, sFld, tRevT, tDIn, tSl, tPart, tNoPart, tDelFrom, StX.tStar, tUn, rU, tM0, tM1]
    refine ⟨Nat.zero_le _, fun p hp => ?_⟩
    have hne := hbag.ne hp
    have s0 := same_upd (o := HO.lst []) hp
    have gp : (upd H p (.lst [])) p = some (.lst []) := upd_same
    have bg0 := hbag.same s0
    generalize upd H p (.lst []) = H0 at s0 gp bg0
    refine ⟨_, rfl, _, rfl, szle (m := 5) h5, b, g, z.length, B, rfl, bg0, by omega, by omega, by omega, fun r H1 hr c1 bg1 => ⟨_, _, rfl, rfl, ((1 + r : Nat) : Int), rfl, by omega, by omega, ?_⟩⟩
    refine for_gen (J := Itr 0 (1 + r)) (n := 1 + r) (TuP b g p z B H) ⟨z, [], [], [], (Bch.of_same s0).trans c1, bg1, c1 _ _ hne.1 hne.2 gp, .nil, rfl, by simpa using hnd, by simp, by omega, rfl, (fun p hp => nomatch hp), _, _, rfl⟩ (fun i σ H' hi _ => hi) (fun σ H' _ => Nat.le_refl _) ?_ ?_
    · rintro i x σ H' H'' hi ⟨lf, us, ps, vs, c2, bg2, g2, k2, hu, nd, sb, hl, hpl, hps, x5, x6, rfl⟩ ⟨rfl, rfl⟩
      simp only [cxOf, tYes, eq_self, if_true, if_false, wipe, rLenQ, rIxTQ, rIxLQ, rIxSQ, rInt1Q, rTupQ, rAppQ, rPopQ, rPopAtQ, rRevQ, rListS, rReprP, tLenSetT, tChain, tRetN, tRet, tSeq, tAsg, gName, tVar, tC, tCons, tNil, tCB, tOp, rI0, rI, tAndV, tOrV, tNotV, tIf, tTest, tB, tNot, tAnd, tOr, tIfS, tNext, tCallR, rIsK, rEq, rNe, tDrop, L2.start, List.map_cons, List.map_nil, List.length_cons, List.length_nil, Nat.reduceAdd, Nat.reduceSub, Nat.sub_self, List.replicate_zero, List.replicate_succ, List.append_nil, List.cons_append, List.nil_append, List.getElem?_cons_zero, List.getElem?_cons_succ, List.set_cons_zero, List.set_cons_succ, Option.some.injEq, List.cons.injEq, and_true, true_and, exists_eq_left, exists_eq_left', exists_eq_right, V.ty.injEq, V.int.injEq, V.bl.injEq, V.str.injEq, V.ref.injEq, exists_and_left, exists_const, reduceIte, reduceCtorEq, false_and, and_false, exists_false, or_false, false_or, Bool.not_true, Bool.not_false, Bool.false_eq_true, String.reduceEq, true_or, or_true, rNotT, tNNew, tNNotIn, tNGet, sNPut, tLenSetN, tPar, tAug, ipI, tDNotIn, sDPut, tDGet, tTup, tLst, tBM, tBM0, tCallD, tCall, rKdIn, tTNew, tTIn, tTGet, sTPut, Sg.tMethR, tMeth, tMakeR, tMake, tDGet2, tSAddK, rSAddK, rSInK, rSet0K, rExtend, rExtendT, tFld, sFld, tRevT, tDIn, tSl, tPart, tNoPart, tDelFrom, StX.tStar, tUn, rU, tM0, tM1]
      have hst := str_len lf
      refine ⟨szle (m := 1000) (by omega), b, g, lf.length, B + 1 + 6 * i, rfl, bg2, by omega, by omega, by omega, fun j H3 hj c3 bg3 => ?_⟩
      have hj2 : j < lf.cps.toList.length := by omega
      have hjl := str_len lf
      have g3 := c3 _ _ hne.1 hne.2 g2
      refine ⟨lst_ty g3, szle (m := 1000) (by omega), lf.cps.toList[j], atI_nat (List.getElem?_eq_getElem hj2), b, g, z, 3, B + 1 + 6 * i + 1, rfl, bg3, by omega, by decide, h1, by omega, fun u H4 hu4 hsub c4 bg4 => ⟨by rw [sizeLine_eq]; decide, fun q1 hq1 => ?_⟩⟩
      have g4 := c4 _ _ hne.1 hne.2 g3
      have k4 := (k2.tp (bch_tp bg2 c3)).tp (bch_tp bg3 c4)
      obtain ⟨u1, t5, c5, g5, k5⟩ := push1 (zs := [.text (sgn lf.cps.toList[j]), .text u]) (xs := [.str (sgn lf.cps.toList[j]), .str u]) hq1 g4 k4 (.cons (.str _) (.cons (.str _) .nil))
      refine ⟨vs, u1, szlt (m := 1000) (by rw [k2.len, List.length_map]; omega), ?_⟩
      generalize upd (upd H4 q1 (HO.tup [.str (sgn lf.cps.toList[j]), .str u])) p (HO.lst (vs ++ [.ref q1])) = H5 at t5 c5 g5 k5
      refine ⟨(j : Int), rfl, lf, rfl, szle (m := 1000) (by omega), (j : Int), rfl, lf, rfl, szle (m := 1000) (by omega), _, rfl, _, rfl, ?_⟩
      have e1 : cutS lf (some ((j : Int) + 1)) none = mkS (lf.cps.toList.drop (j + 1)) := cut_skip lf (j + 1)
      rw [cut_head, e1]
      have e2 : (mkS (lf.cps.toList.take j) ++ mkS (lf.cps.toList.drop (j + 1))).cps.toList = lf.cps.toList.take j ++ lf.cps.toList.drop (j + 1) := cps_app _ _
      have e3 : (mkS (lf.cps.toList.take j) ++ mkS (lf.cps.toList.drop (j + 1))).length = lf.length - 1 := by
        rw [← str_len, e2, List.length_append, List.length_take, List.length_drop]
        omega
      have pm := cut_perm us hj2
      have eb : B + 1 + 6 * (i + 1) = B + 1 + 6 * i + 1 + 3 + 2 := by omega
      refine ⟨szle (m := 1000) (by rw [mkS_len, mkS_len, List.length_take, List.length_drop]; omega), _, us ++ [lf.cps.toList[j]], ps ++ [(sgn lf.cps.toList[j], u)], _, bch_keep ((c2.trans c3).trans c4) hp c5, by rw [eb]; exact bag_keep bg4 c5 hne.1 hne.2, g5, ?_, ?_, ?_, ?_, ?_, ?_, ?_, _, _, rfl⟩
      · rw [List.map_append]
        exact k5
      · rw [List.map_append, List.map_append, hu]
        rfl
      · rw [e2]
        exact pm.nodup_iff.mp nd
      · rw [e2]
        exact fun c hc => sb c (pm.mem_iff.mpr hc)
      · rw [e3]
        omega
      · rw [List.length_append, hpl]
        rfl
      · intro q hq
        rcases List.mem_append.mp hq with h | h
        · exact hps q h
        · obtain rfl := List.mem_singleton.mp h
          exact ⟨hu4, hsub⟩
    · rintro σ H' ⟨lf, us, ps, vs, c2, bg2, g2, k2, hu, nd, sb, hl, hpl, hps, x5, x6, rfl⟩
      refine ⟨_, rfl, vs, .inl (.inl g2), fun q1 hq1 => ⟨by rw [sizeLine_eq]; exact (by decide : 2 ≤ 16777216), fun q2 hq2 => ?_⟩⟩
      have s1 := same_upd (o := HO.tup vs) hq1
      have s2 := same_upd (o := HO.tup [.str (Str.ofString "turn"), .ref q1]) hq2
      have s12 := Same.trans s1 s2
      have hun := (List.nodup_append.mp nd).1
      refine q ps q2 _ ⟨?_, by omega, ?_, ?_⟩ (c2.trans (Bch.of_same s12)) ((bg2.same s12).le (by omega)) (.tup upd_same (.cons (.str _) (.cons (.tup (s2 _ _ upd_same) (k2.tp (TP.of_same s12))) .nil)))
      · intro e
        rw [e] at hpl
        simp at hpl
        omega
      · rw [hu]
        refine List.Pairwise.map _ (fun a b hab e => hab ?_) hun
        exact (List.cons.inj (congrArg (fun x : Str => x.cps.toList) e)).1
      · intro pq hpq
        obtain ⟨h3, h4⟩ := hps pq hpq
        have hm : pq.1 ∈ us.map sgn := by
          rw [← hu]
          exact List.mem_map_of_mem hpq
        obtain ⟨c, hc, e⟩ := List.mem_map.mp hm
        refine ⟨by rw [← e]; rfl, fun c' hc' => ?_, h3, h4⟩
        rw [← e] at hc'
        obtain rfl := List.mem_singleton.mp hc'
        exact sb _ (List.mem_append_left _ hc)
end
end K08

namespace K08
open PySem PySem.Spec PyProof.Rows L2 Sg
def SubZ (z x : Str) : Prop := ∀ c ∈ x.cps.toList, c ∈ z.cps.toList
/-- a step that the law draws -/
def StIn (z : Str) : Stp → Prop
  | .same => True
  | .put x => x.length ≤ 3 ∧ SubZ z x
  | .ahead x => x.length ≤ 3 ∧ SubZ z x
  | .behind x => x.length ≤ 3 ∧ SubZ z x
  | .head n => n ≤ 99
  | .skip n => n ≤ 99
  | .less n => n ≤ 99
  | .turn ps => TuOk z ps
theorem trn_hit {ps : List (Str × Str)} {c j : Nat} {p : Str × Str} (nd : (ps.map (·.1)).Nodup) (h : ps[j]? = some p) (e : p.1 = sgn c) : trn (ps.take (j + 1)) c = p.2 := by
  have hj := (List.getElem?_eq_some_iff.mp h).1
  have hn : (ps.take j).find? (fun q => decide (q.1 = sgn c)) = none := List.find?_eq_none.mpr fun q hq e2 => by
    have e2 := of_decide_eq_true e2
    obtain ⟨i, hi⟩ := List.mem_iff_getElem?.mp hq
    have hij : i < j := by
      have := (List.getElem?_eq_some_iff.mp hi).1
      rw [List.length_take] at this
      omega
    rw [List.getElem?_take, if_pos hij] at hi
    have a1 : (ps.map (·.1))[i]? = some (sgn c) := by rw [List.getElem?_map, hi, ← e2]; rfl
    have a2 : (ps.map (·.1))[j]? = some (sgn c) := by rw [List.getElem?_map, h, ← e]; rfl
    have := (List.getElem?_inj (i := i) (j := j) (by rw [List.length_map]; omega) nd).mp (a1.trans a2.symm)
    omega
  unfold trn
  rw [List.take_add_one, h, List.find?_append, hn]
  simp [e]
theorem trn_miss {ps : List (Str × Str)} {c j : Nat} {p : Str × Str} (h : ps[j]? = some p) (e : ¬ p.1 = sgn c) : trn (ps.take (j + 1)) c = trn (ps.take j) c := by
  unfold trn
  rw [List.take_add_one, h, List.find?_append]
  simp [e]
theorem tk_len {l : List Nat} {i c : Nat} (hc : l[i]? = some c) : (l.take i).length = i := by
  rw [List.length_take]
  have := (List.getElem?_eq_some_iff.mp hc).1
  omega
theorem tk_yes {l : List Nat} {i n c : Nat} (hc : l[i]? = some c) (h : i < n) : (l.take (i + 1)).take n = (l.take i).take n ++ [c] := by
  rw [List.take_add_one, hc, List.take_append, tk_len hc]
  congr 1
  exact List.take_of_length_le (by show 1 ≤ n - i; omega)
theorem tk_no {l : List Nat} {i n c : Nat} (hc : l[i]? = some c) (h : ¬ i < n) : (l.take (i + 1)).take n = (l.take i).take n := by
  rw [List.take_add_one, hc, List.take_append, tk_len hc, show n - i = 0 by omega, List.take_zero, List.append_nil]
theorem dp_yes {l : List Nat} {i n c : Nat} (hc : l[i]? = some c) (h : n ≤ i) : (l.take (i + 1)).drop n = (l.take i).drop n ++ [c] := by
  rw [List.take_add_one, hc, List.drop_append, tk_len hc, show n - i = 0 by omega, List.drop_zero]
  rfl
theorem dp_no {l : List Nat} {i n c : Nat} (hc : l[i]? = some c) (h : ¬ n ≤ i) : (l.take (i + 1)).drop n = (l.take i).drop n := by
  rw [List.take_add_one, hc, List.drop_append, tk_len hc]
  have e : List.drop (n - i) (some c).toList = [] := List.drop_eq_nil_of_le (by show 1 ≤ n - i; omega)
  rw [e, List.append_nil]
section
variable {P : Program} {w : World} {K : PySem.W.Frag} {mg : Str → Option Value} {base : Heap}
theorem sc__law_plain_step : FnScope ["bag", "signs", "kind"] ["bag", "signs"] (defScope (topS 116)) := ⟨rfl, rfl, rfl, by decide +kernel, rfl, by decide +kernel, by decide +kernel⟩
theorem bd__law_plain_step {K : PySem.W.Frag} {f : Addr} {fd : FuncData} (F : FnP K "_law_plain_step" (topS 116) f fd) : Binds K fd ["bag", "signs"] [] := F.bindsN fun _ _ _ _ _ _ us hl => match us, hl with | [_, _], _ => rfl
def spLp : Sp := fun vs H Q _ => ∃ (b g : Addr) (z : Str) (B : Nat), vs = [.ref b, .str z] ∧ Bag H b g B ∧ B + 60 < 2 ^ 40 ∧ 1 ≤ z.length ∧ z.length ≤ 5 ∧ z.cps.toList.Nodup ∧ ∀ (s : Stp) a H', StIn z s → Bch b g H H' → Bag H' b g (B + 50) → KeyV H' (.ref a) s.key → Q (.ref a) H'
theorem ok__law_plain_step (T : Tx w K mg) : Dk P w K mg base 4 "_law_plain_step" ["bag", "signs"] spLp := by
  have D__law_take := ok__law_take (P := P) (w := w) (base := base) T
  have D__law_word := ok__law_word (P := P) (w := w) (base := base) T
  have D__law_turn := ok__law_turn (P := P) (w := w) (base := base) T
  obtain ⟨fd, F⟩ := T.d__law_plain_step
  refine ⟨⟨fd, F.ok sc__law_plain_step (fun vs H Q E h => ?_) (fun cdv A outer s H vs Q E hr h => ?_), bd__law_plain_step F⟩, F.kp, T.g__law_plain_step⟩
  · obtain ⟨b, g, z, B, rfl, _⟩ := h
    rfl
  · obtain ⟨b, g, z, B, rfl, hbag, hB, h1, h5, hnd, q⟩ := h
    refine ⟨_, PSs.nox (pss_cons (ps_set (i := 2) sc__law_plain_step.nd rfl (.inl rfl) (pe_callR D__law_take (hr.mono (by decide)) takes0 (pa_cons (pv 0) (pa_cons pe_int pa_nil))))
      (pss_cons (ps_if (pt_cmpR op_eq (pv 2) pe_int (nomark _)) (pss_one (ps_ret (pe_tup (pa_cons pe_str pa_nil)))) pss_nil)
      (pss_cons (ps_if (pt_cmpR op_lt (pv 2) pe_int (nomark _)) (pss_one (ps_ret (pe_tup (pa_cons (pe_ix ix_listQ (pe_lst (pa_cons pe_str (pa_cons pe_str (pa_cons pe_str pa_nil)))) (pe_op op_sub (pv 2) pe_int) (fun _ _ => rfl)) (pa_cons (pe_callR D__law_word (hr.mono (by decide)) takes0 (pa_cons (pv 0) (pa_cons (pv 1) (pa_cons pe_int pa_nil)))) pa_nil))))) pss_nil)
      (pss_cons (ps_if (pt_cmpR op_lt (pv 2) pe_int (nomark _)) (pss_one (ps_ret (pe_tup (pa_cons (pe_ix ix_listQ (pe_lst (pa_cons pe_str (pa_cons pe_str (pa_cons pe_str pa_nil)))) (pe_op op_sub (pv 2) pe_int) (fun _ _ => rfl)) (pa_cons (pe_callR D__law_take (hr.mono (by decide)) takes0 (pa_cons (pv 0) (pa_cons pe_int pa_nil))) pa_nil))))) pss_nil)
      (pss_one (ps_ret (pe_callR D__law_turn (hr.mono (by decide)) takes0 (pa_cons (pv 0) (pa_cons (pv 1) (pa_cons pe_int pa_nil)))))))))), ?_⟩
    simp only [cxOf, tYes, eq_self, if_true, if_false, wipe, rLenQ, rIxTQ, rIxLQ, rIxSQ, rInt1Q, rTupQ, rAppQ, rPopQ, rPopAtQ, rRevQ, rListS, rReprP, tLenSetT, tChain, tRetN, tRet, tSeq, tAsg, gName, tVar, tC, tCons, tNil, tCB, tOp, rI0, rI, tAndV, tOrV, tNotV, tIf, tTest, tB, tNot, tAnd, tOr, tIfS, tNext, tCallR, rIsK, rEq, rNe, tDrop, L2.start, List.map_cons, List.map_nil, List.length_cons, List.length_nil, Nat.reduceAdd, Nat.reduceSub, Nat.sub_self, List.replicate_zero, List.replicate_succ, List.append_nil, List.cons_append, List.nil_append, List.getElem?_cons_zero, List.getElem?_cons_succ, List.set_cons_zero, List.set_cons_succ, Option.some.injEq, List.cons.injEq, and_true, true_and, exists_eq_left, exists_eq_left', exists_eq_right, V.ty.injEq, V.int.injEq, V.bl.injEq, V.str.injEq, V.ref.injEq, exists_and_left, exists_const, reduceIte, reduceCtorEq, false_and, and_false, exists_false, or_false, false_or, Bool.not_true, Bool.not_false, Bool.false_eq_true, String.reduceEq, true_or, or_true, rNotT, tNNew, tNNotIn, tNGet, sNPut, tLenSetN, tPar, tAug, ipI, tDNotIn, sDPut, tDGet, tTup, tLst, tBM, tBM0, tCallD, tCall, rKdIn, tTNew, tTIn, tTGet, sTPut, Sg.tMethR, tMeth, tMakeR, tMake, tDGet2, tSAddK, rSAddK, rSInK, rSet0K, rExtend, rExtendT, tFld, sFld, tRevT, tDIn, tSl, tPart, tNoPart, tDelFrom, StX.tStar, tUn, rU, tM0, tM1]
    refine ⟨b, g, 9, B, rfl, hbag, by omega, by decide, by decide, fun r H1 hr c1 bg1 => ⟨rfl, ?_⟩⟩
    by_cases h0 : r = 0
    · subst h0
      refine ifT (by decide) ⟨by rw [sizeLine_eq]; decide, fun p hp => ?_⟩
      have s1 := same_upd (o := HO.tup [.str (Str.ofString "same")]) hp
      exact q .same p _ True.intro (c1.trans (Bch.of_same s1)) ((bg1.same s1).le (by omega)) (.tup upd_same (.cons (.str _) .nil))
    refine ifF (decide_eq_false fun e => h0 (by have := V.int.inj e; omega)) ⟨_, rfl, ?_⟩
    by_cases h4 : r < 4
    · refine ifT (decide_eq_true (by omega)) ⟨by rw [sizeLine_eq]; decide, fun p hp => ⟨_, rfl, _, .inl (.inl upd_same), ?_⟩⟩
      have s1 := same_upd (o := HO.lst [.str (Str.ofString "put"), .str (Str.ofString "ahead"), .str (Str.ofString "behind")]) hp
      have bg2 := bg1.same s1
      have c2 := c1.trans (Bch.of_same s1)
      generalize upd H1 p (HO.lst [.str (Str.ofString "put"), .str (Str.ofString "ahead"), .str (Str.ofString "behind")]) = H2 at s1 bg2 c2
      obtain rfl | rfl | rfl : r = 1 ∨ r = 2 ∨ r = 3 := by omega
      · refine ⟨_, atI_nat (j := 0) rfl, b, g, z, 3, B + 1, rfl, bg2, by omega, by decide, h1, by omega, fun u H3 hu hsub c3 bg3 => ⟨by rw [sizeLine_eq]; decide, fun p2 hp2 => ?_⟩⟩
        have s4 := same_upd (o := HO.tup [.str (Str.ofString "put"), .str u]) hp2
        exact q (.put u) p2 _ ⟨hu, hsub⟩ ((c2.trans c3).trans (Bch.of_same s4)) ((bg3.same s4).le (by omega)) (.tup upd_same (.cons (.str _) (.cons (.str _) .nil)))
      · refine ⟨_, atI_nat (j := 1) rfl, b, g, z, 3, B + 1, rfl, bg2, by omega, by decide, h1, by omega, fun u H3 hu hsub c3 bg3 => ⟨by rw [sizeLine_eq]; decide, fun p2 hp2 => ?_⟩⟩
        have s4 := same_upd (o := HO.tup [.str (Str.ofString "ahead"), .str u]) hp2
        exact q (.ahead u) p2 _ ⟨hu, hsub⟩ ((c2.trans c3).trans (Bch.of_same s4)) ((bg3.same s4).le (by omega)) (.tup upd_same (.cons (.str _) (.cons (.str _) .nil)))
      · refine ⟨_, atI_nat (j := 2) rfl, b, g, z, 3, B + 1, rfl, bg2, by omega, by decide, h1, by omega, fun u H3 hu hsub c3 bg3 => ⟨by rw [sizeLine_eq]; decide, fun p2 hp2 => ?_⟩⟩
        have s4 := same_upd (o := HO.tup [.str (Str.ofString "behind"), .str u]) hp2
        exact q (.behind u) p2 _ ⟨hu, hsub⟩ ((c2.trans c3).trans (Bch.of_same s4)) ((bg3.same s4).le (by omega)) (.tup upd_same (.cons (.str _) (.cons (.str _) .nil)))
    refine ifF (decide_eq_false (by omega)) ⟨_, rfl, ?_⟩
    by_cases h7 : r < 7
    · refine ifT (decide_eq_true (by omega)) ⟨by rw [sizeLine_eq]; decide, fun p hp => ⟨_, rfl, _, .inl (.inl upd_same), ?_⟩⟩
      have s1 := same_upd (o := HO.lst [.str (Str.ofString "head"), .str (Str.ofString "skip"), .str (Str.ofString "less")]) hp
      have bg2 := bg1.same s1
      have c2 := c1.trans (Bch.of_same s1)
      generalize upd H1 p (HO.lst [.str (Str.ofString "head"), .str (Str.ofString "skip"), .str (Str.ofString "less")]) = H2 at s1 bg2 c2
      obtain rfl | rfl | rfl : r = 4 ∨ r = 5 ∨ r = 6 := by omega
      · refine ⟨_, atI_nat (j := 0) rfl, b, g, 100, B + 1, rfl, bg2, by omega, by decide, by decide, fun n H3 hn c3 bg3 => ⟨by rw [sizeLine_eq]; decide, fun p2 hp2 => ?_⟩⟩
        have s4 := same_upd (o := HO.tup [.str (Str.ofString "head"), .int (n : Int)]) hp2
        exact q (.head n) p2 _ (Nat.le_of_lt_succ hn) ((c2.trans c3).trans (Bch.of_same s4)) ((bg3.same s4).le (by omega)) (.tup upd_same (.cons (.str _) (.cons (.int _) .nil)))
      · refine ⟨_, atI_nat (j := 1) rfl, b, g, 100, B + 1, rfl, bg2, by omega, by decide, by decide, fun n H3 hn c3 bg3 => ⟨by rw [sizeLine_eq]; decide, fun p2 hp2 => ?_⟩⟩
        have s4 := same_upd (o := HO.tup [.str (Str.ofString "skip"), .int (n : Int)]) hp2
        exact q (.skip n) p2 _ (Nat.le_of_lt_succ hn) ((c2.trans c3).trans (Bch.of_same s4)) ((bg3.same s4).le (by omega)) (.tup upd_same (.cons (.str _) (.cons (.int _) .nil)))
      · refine ⟨_, atI_nat (j := 2) rfl, b, g, 100, B + 1, rfl, bg2, by omega, by decide, by decide, fun n H3 hn c3 bg3 => ⟨by rw [sizeLine_eq]; decide, fun p2 hp2 => ?_⟩⟩
        have s4 := same_upd (o := HO.tup [.str (Str.ofString "less"), .int (n : Int)]) hp2
        exact q (.less n) p2 _ (Nat.le_of_lt_succ hn) ((c2.trans c3).trans (Bch.of_same s4)) ((bg3.same s4).le (by omega)) (.tup upd_same (.cons (.str _) (.cons (.int _) .nil)))
    exact ifF (decide_eq_false (by omega)) ⟨b, g, z, B + 1, rfl, bg1, by omega, h1, h5, hnd, fun ps a H3 hps c3 bg3 k3 => q (.turn ps) a H3 hps (c1.trans c3) (bg3.le (by omega)) k3⟩
theorem sc__law_exchanged : FnScope ["pairs", "word", "out", "sign", "part", "pair"] ["pairs", "word"] (defScope (topS 115)) := ⟨rfl, rfl, rfl, by decide +kernel, rfl, by decide +kernel, by decide +kernel⟩
theorem bd__law_exchanged {K : PySem.W.Frag} {f : Addr} {fd : FuncData} (F : FnP K "_law_exchanged" (topS 115) f fd) : Binds K fd ["pairs", "word"] [] := F.bindsN fun _ _ _ _ _ _ us hl => match us, hl with | [_, _], _ => rfl
def spLe : Sp := fun vs H Q _ => ∃ (v : V) (z t : Str) (ps : List (Str × Str)), vs = [v, .str t] ∧ KeyV H v (.tup (ps.map pairK)) ∧ TuOk z ps ∧ t.length ≤ 10000 ∧ ∀ H', Same H H' → Q (.str (ans (.turn ps) t)) H'
theorem ok__law_exchanged (T : Tx w K mg) : Dk P w K mg base 1 "_law_exchanged" ["pairs", "word"] spLe := by
  obtain ⟨fd, F⟩ := T.d__law_exchanged
  refine ⟨⟨fd, F.ok sc__law_exchanged (fun vs H Q E h => ?_) (fun cdv A outer s H vs Q E hr h => ?_), bd__law_exchanged F⟩, F.kp, T.g__law_exchanged⟩
  · obtain ⟨v, z, t, ps, rfl, _⟩ := h
    rfl
  · obtain ⟨v, z, t, ps, rfl, hv, hps, ht, q⟩ := h
    obtain ⟨a, xs, rfl, ha, hx⟩ := tup_view hv
    refine ⟨_, PSs.nox (pss_cons (ps_set (i := 2) sc__law_exchanged.nd rfl (.inl rfl) pe_str)
      (pss_cons (ps_for PassesOwn.never rfl (pi_str (pv 1)) (pg_name (i := 3) sc__law_exchanged.nd rfl (.inl rfl)) (pss_cons (ps_set (i := 4) sc__law_exchanged.nd rfl (.inl rfl) (pv 3))
      (pss_cons (ps_for PassesOwn.never rfl (pi_tup (pv 0)) (pg_name (i := 5) sc__law_exchanged.nd rfl (.inl rfl)) (pss_one (ps_if (pt_cmpR op_eq (pe_ix ix_tupQ (pv 5) pe_int (fun _ _ => rfl)) (pv 3) (nomark _)) (pss_one (ps_set (i := 4) sc__law_exchanged.nd rfl (.inl rfl) (pe_ix ix_tupQ (pv 5) pe_int (fun _ _ => rfl)))) pss_nil)))
      (pss_one (ps_set (i := 2) sc__law_exchanged.nd rfl (.inl rfl) (pe_op op_add_str (pv 2) (pv 4)))))))
      (pss_one (ps_ret (pv 2))))), ?_⟩
    simp only [cxOf, tYes, eq_self, if_true, if_false, wipe, rLenQ, rIxTQ, rIxLQ, rIxSQ, rInt1Q, rTupQ, rAppQ, rPopQ, rPopAtQ, rRevQ, rListS, rReprP, tLenSetT, tChain, tRetN, tRet, tSeq, tAsg, gName, tVar, tC, tCons, tNil, tCB, tOp, rI0, rI, tAndV, tOrV, tNotV, tIf, tTest, tB, tNot, tAnd, tOr, tIfS, tNext, tCallR, rIsK, rEq, rNe, tDrop, L2.start, List.map_cons, List.map_nil, List.length_cons, List.length_nil, Nat.reduceAdd, Nat.reduceSub, Nat.sub_self, List.replicate_zero, List.replicate_succ, List.append_nil, List.cons_append, List.nil_append, List.getElem?_cons_zero, List.getElem?_cons_succ, List.set_cons_zero, List.set_cons_succ, Option.some.injEq, List.cons.injEq, and_true, true_and, exists_eq_left, exists_eq_left', exists_eq_right, V.ty.injEq, V.int.injEq, V.bl.injEq, V.str.injEq, V.ref.injEq, exists_and_left, exists_const, reduceIte, reduceCtorEq, false_and, and_false, exists_false, or_false, false_or, Bool.not_true, Bool.not_false, Bool.false_eq_true, String.reduceEq, true_or, or_true, rNotT, tNNew, tNNotIn, tNGet, sNPut, tLenSetN, tPar, tAug, ipI, tDNotIn, sDPut, tDGet, tTup, tLst, tBM, tBM0, tCallD, tCall, rKdIn, tTNew, tTIn, tTGet, sTPut, Sg.tMethR, tMeth, tMakeR, tMake, tDGet2, tSAddK, rSAddK, rSInK, rSet0K, rExtend, rExtendT, tFld, sFld, tRevT, tDIn, tSl, tPart, tNoPart, tDelFrom, StX.tStar, tUn, rU, tM0, tM1]
    have hxl : xs.length = ps.length := by rw [hx.len, List.length_map]
    have hsz : t.cps.size = t.length := rfl
    have h3 : ∀ c, (trn ps c).length ≤ 3 := fun c => by
      unfold trn
      cases e : ps.find? fun p => decide (p.1 = sgn c) with
      | none => exact (by decide : 1 ≤ 3)
      | some p => exact (hps.2.2.2 p (List.mem_of_find?_eq_some e)).2.2.1
    refine ⟨_, rfl, t, rfl, ?_⟩
    refine for_gen (n := t.cps.size) (fun i σ H' => Same H H' ∧ ∃ out y3 y4 y5, out.cps.toList = (t.cps.toList.take i).flatMap (fun c => (trn ps c).cps.toList) ∧ out.length ≤ 3 * i ∧ σ = [some (.ref a), some (.str t), some (.str out), y3, y4, y5]) ⟨fun _ _ z => z, _, _, _, _, rfl, Nat.zero_le _, rfl⟩ (fun i σ H' hi _ => hi) (fun σ H' _ => Nat.le_refl _) ?_ ?_
    · rintro i x σ H' H'' hi ⟨s1, out, y3, y4, y5, ho, hl, rfl⟩ ⟨rfl, c, hc, rfl⟩
      have hc2 : t.cps.toList[i]? = some c := by rw [Array.getElem?_toList]; exact hc
      simp only [cxOf, tYes, eq_self, if_true, if_false, wipe, rLenQ, rIxTQ, rIxLQ, rIxSQ, rInt1Q, rTupQ, rAppQ, rPopQ, rPopAtQ, rRevQ, rListS, rReprP, tLenSetT, tChain, tRetN, tRet, tSeq, tAsg, gName, tVar, tC, tCons, tNil, tCB, tOp, rI0, rI, tAndV, tOrV, tNotV, tIf, tTest, tB, tNot, tAnd, tOr, tIfS, tNext, tCallR, rIsK, rEq, rNe, tDrop, L2.start, List.map_cons, List.map_nil, List.length_cons, List.length_nil, Nat.reduceAdd, Nat.reduceSub, Nat.sub_self, List.replicate_zero, List.replicate_succ, List.append_nil, List.cons_append, List.nil_append, List.getElem?_cons_zero, List.getElem?_cons_succ, List.set_cons_zero, List.set_cons_succ, Option.some.injEq, List.cons.injEq, and_true, true_and, exists_eq_left, exists_eq_left', exists_eq_right, V.ty.injEq, V.int.injEq, V.bl.injEq, V.str.injEq, V.ref.injEq, exists_and_left, exists_const, reduceIte, reduceCtorEq, false_and, and_false, exists_false, or_false, false_or, Bool.not_true, Bool.not_false, Bool.false_eq_true, String.reduceEq, true_or, or_true, rNotT, tNNew, tNNotIn, tNGet, sNPut, tLenSetN, tPar, tAug, ipI, tDNotIn, sDPut, tDGet, tTup, tLst, tBM, tBM0, tCallD, tCall, rKdIn, tTNew, tTIn, tTGet, sTPut, Sg.tMethR, tMeth, tMakeR, tMake, tDGet2, tSAddK, rSAddK, rSInK, rSet0K, rExtend, rExtendT, tFld, sFld, tRevT, tDIn, tSl, tPart, tNoPart, tDelFrom, StX.tStar, tUn, rU, tM0, tM1]
      refine ⟨_, rfl, a, rfl, ⟨_, .inl (.inl (s1 _ _ ha))⟩, ?_⟩
      refine for_tup (K := K) (a := a) (xs := xs) (fun j σ H2 => Same H H2 ∧ ∃ y5, σ = [some (.ref a), some (.str t), some (.str out), some (.str (sgn c)), some (.str (trn (ps.take j) c)), y5]) ⟨s1, _, rfl⟩ (fun j σ H2 _ h => .inl (.inl (h.1 _ _ ha))) ?_ ?_
      · rintro j x σ H2 hj ⟨s2, y5, rfl⟩
        obtain ⟨k, hk, hkv⟩ := hx.get hj
        rw [List.getElem?_map] at hk
        obtain ⟨pq, hpq, rfl⟩ := Option.map_eq_some_iff.mp hk
        obtain ⟨d, ds, rfl, hd, hds⟩ := tup_view (hkv.tp (TP.of_same s2))
        obtain ⟨y1, y2, rfl, hy1, hy2⟩ := two_view hds
        obtain rfl := text_view hy1
        obtain rfl := text_view hy2
        simp only [cxOf, tYes, eq_self, if_true, if_false, wipe, rLenQ, rIxTQ, rIxLQ, rIxSQ, rInt1Q, rTupQ, rAppQ, rPopQ, rPopAtQ, rRevQ, rListS, rReprP, tLenSetT, tChain, tRetN, tRet, tSeq, tAsg, gName, tVar, tC, tCons, tNil, tCB, tOp, rI0, rI, tAndV, tOrV, tNotV, tIf, tTest, tB, tNot, tAnd, tOr, tIfS, tNext, tCallR, rIsK, rEq, rNe, tDrop, L2.start, List.map_cons, List.map_nil, List.length_cons, List.length_nil, Nat.reduceAdd, Nat.reduceSub, Nat.sub_self, List.replicate_zero, List.replicate_succ, List.append_nil, List.cons_append, List.nil_append, List.getElem?_cons_zero, List.getElem?_cons_succ, List.set_cons_zero, List.set_cons_succ, Option.some.injEq, List.cons.injEq, and_true, true_and, exists_eq_left, exists_eq_left', exists_eq_right, V.ty.injEq, V.int.injEq, V.bl.injEq, V.str.injEq, V.ref.injEq, exists_and_left, exists_const, reduceIte, reduceCtorEq, false_and, and_false, exists_false, or_false, false_or, Bool.not_true, Bool.not_false, Bool.false_eq_true, String.reduceEq, true_or, or_true, rNotT, tNNew, tNNotIn, tNGet, sNPut, tLenSetN, tPar, tAug, ipI, tDNotIn, sDPut, tDGet, tTup, tLst, tBM, tBM0, tCallD, tCall, rKdIn, tTNew, tTIn, tTGet, sTPut, Sg.tMethR, tMeth, tMakeR, tMake, tDGet2, tSAddK, rSAddK, rSInK, rSet0K, rExtend, rExtendT, tFld, sFld, tRevT, tDIn, tSl, tPart, tNoPart, tDelFrom, StX.tStar, tUn, rU, tM0, tM1]
        refine ⟨_, .inl (.inl hd), _, rfl, rfl, ?_⟩
        by_cases e : pq.1 = sgn c
        · refine ifT (decide_eq_true (by rw [e])) ⟨_, .inl (.inl hd), _, rfl, s2, ?_⟩
          rw [trn_hit hps.2.2.1 hpq e]
          exact ⟨rfl, _, rfl⟩
        · refine ifF (decide_eq_false fun h => e (V.str.inj h)) ⟨s2, ?_⟩
          rw [trn_miss hpq e]
          exact ⟨rfl, _, rfl⟩
      · rintro σ H2 ⟨s2, y5, rfl⟩
        rw [hxl, List.take_length]
        simp only [cxOf, tYes, eq_self, if_true, if_false, wipe, rLenQ, rIxTQ, rIxLQ, rIxSQ, rInt1Q, rTupQ, rAppQ, rPopQ, rPopAtQ, rRevQ, rListS, rReprP, tLenSetT, tChain, tRetN, tRet, tSeq, tAsg, gName, tVar, tC, tCons, tNil, tCB, tOp, rI0, rI, tAndV, tOrV, tNotV, tIf, tTest, tB, tNot, tAnd, tOr, tIfS, tNext, tCallR, rIsK, rEq, rNe, tDrop, L2.start, List.map_cons, List.map_nil, List.length_cons, List.length_nil, Nat.reduceAdd, Nat.reduceSub, Nat.sub_self, List.replicate_zero, List.replicate_succ, List.append_nil, List.cons_append, List.nil_append, List.getElem?_cons_zero, List.getElem?_cons_succ, List.set_cons_zero, List.set_cons_succ, Option.some.injEq, List.cons.injEq, and_true, true_and, exists_eq_left, exists_eq_left', exists_eq_right, V.ty.injEq, V.int.injEq, V.bl.injEq, V.str.injEq, V.ref.injEq, exists_and_left, exists_const, reduceIte, reduceCtorEq, false_and, and_false, exists_false, or_false, false_or, Bool.not_true, Bool.not_false, Bool.false_eq_true, String.reduceEq, true_or, or_true, rNotT, tNNew, tNNotIn, tNGet, sNPut, tLenSetN, tPar, tAug, ipI, tDNotIn, sDPut, tDGet, tTup, tLst, tBM, tBM0, tCallD, tCall, rKdIn, tTNew, tTIn, tTGet, sTPut, Sg.tMethR, tMeth, tMakeR, tMake, tDGet2, tSAddK, rSAddK, rSInK, rSet0K, rExtend, rExtendT, tFld, sFld, tRevT, tDIn, tSl, tPart, tNoPart, tDelFrom, StX.tStar, tUn, rU, tM0, tM1]
        have hl2 := h3 c
        refine ⟨szle (m := 100000) (by omega), s2, out ++ trn ps c, ?_, ?_, rfl, _, rfl⟩
        · rw [cps_app, ho, List.take_add_one, hc2, List.flatMap_append]
          simp
        · rw [len_app]
          omega
    · rintro σ H' ⟨s1, out, y3, y4, y5, ho, hl, rfl⟩
      have ee : t.cps.toList.take t.cps.size = t.cps.toList := List.take_of_length_le (by simp)
      rw [ee] at ho
      have e : out = ans (.turn ps) t := str_ext (by rw [ho]; rfl)
      rw [e]
      exact ⟨_, rfl, q H' s1⟩
theorem sc__law_answered : FnScope ["step", "word", "k"] ["step", "word"] (defScope (topS 117)) := ⟨rfl, rfl, rfl, by decide +kernel, rfl, by decide +kernel, by decide +kernel⟩
theorem bd__law_answered {K : PySem.W.Frag} {f : Addr} {fd : FuncData} (F : FnP K "_law_answered" (topS 117) f fd) : Binds K fd ["step", "word"] [] := F.bindsN fun _ _ _ _ _ _ us hl => match us, hl with | [_, _], _ => rfl
def spLa : Sp := fun vs H Q _ => ∃ (v : V) (z t : Str) (s : Stp), vs = [v, .str t] ∧ KeyV H v s.key ∧ StIn z s ∧ t.length ≤ 10000 ∧ ∀ H', Same H H' → Q (.str (ans s t)) H'
theorem ok__law_answered (T : Tx w K mg) : Dk P w K mg base 2 "_law_answered" ["step", "word"] spLa := by
  have D__law_exchanged := ok__law_exchanged (P := P) (w := w) (base := base) T
  obtain ⟨fd, F⟩ := T.d__law_answered
  refine ⟨⟨fd, F.ok sc__law_answered (fun vs H Q E h => ?_) (fun cdv A outer s H vs Q E hr h => ?_), bd__law_answered F⟩, F.kp, T.g__law_answered⟩
  · obtain ⟨v, z, t, s, rfl, _⟩ := h
    rfl
  · obtain ⟨v, z, t, s, rfl, hv, hs, ht, q⟩ := h
    obtain ⟨a, xs, rfl, ha, hx⟩ := wk_view (w := .st s) hv
    refine ⟨_, PSs.nox (pss_cons (ps_if (pt_cmpR op_eq (pe_ix ix_tupQ (pv 0) pe_int (fun _ _ => rfl)) pe_str (nomark _)) (pss_one (ps_ret (pe_ix ix_tupQ (pv 0) pe_int (fun _ _ => rfl)))) pss_nil)
      (pss_cons (ps_if (pt_cmpR op_eq (pe_ix ix_tupQ (pv 0) pe_int (fun _ _ => rfl)) pe_str (nomark _)) (pss_one (ps_ret (pe_op op_add_str (pe_ix ix_tupQ (pv 0) pe_int (fun _ _ => rfl)) (pv 1)))) pss_nil)
      (pss_cons (ps_if (pt_cmpR op_eq (pe_ix ix_tupQ (pv 0) pe_int (fun _ _ => rfl)) pe_str (nomark _)) (pss_one (ps_ret (pe_op op_add_str (pv 1) (pe_ix ix_tupQ (pv 0) pe_int (fun _ _ => rfl))))) pss_nil)
      (pss_cons (ps_if (pt_cmpR op_eq (pe_ix ix_tupQ (pv 0) pe_int (fun _ _ => rfl)) pe_str (nomark _)) (pss_one (ps_ret (pe_join pe_str (pe_lc (own := [("k", 2)]) rfl sc__law_answered.nd (pi_range1 (by rfl) T.f_range (pa_cons (pe_callB call_lenQ (by rfl) T.f_len PySem.boot_len (pa_cons (pv 1) pa_nil)) pa_nil)) (blkOk_by (own := [("k", 2)]) (N := ["step", "word", "k"]) (sc := defScope (topS 117)) (by decide +kernel)) (fun _ _ _ _ _ => (pg_name (i := 2) sc__law_answered.nd rfl (.inl rfl))) (fun _ _ _ _ _ => (pts_one (pt_cmpR op_lt (pv 2) (pe_ix (show IxR _ (rIxTQ K) by exact ix_tupQ) (pv 0) pe_int (fun _ _ => rfl)) (nomark _)))) (fun _ _ _ _ _ => (pe_ix ix_strQ (pv 1) (pv 2) (fun _ _ => rfl))))))) pss_nil)
      (pss_cons (ps_if (pt_cmpR op_eq (pe_ix ix_tupQ (pv 0) pe_int (fun _ _ => rfl)) pe_str (nomark _)) (pss_one (ps_ret (pe_join pe_str (pe_lc (own := [("k", 2)]) rfl sc__law_answered.nd (pi_range1 (by rfl) T.f_range (pa_cons (pe_callB call_lenQ (by rfl) T.f_len PySem.boot_len (pa_cons (pv 1) pa_nil)) pa_nil)) (blkOk_by (own := [("k", 2)]) (N := ["step", "word", "k"]) (sc := defScope (topS 117)) (by decide +kernel)) (fun _ _ _ _ _ => (pg_name (i := 2) sc__law_answered.nd rfl (.inl rfl))) (fun _ _ _ _ _ => (pts_one (pt_cmpR op_ge (pv 2) (pe_ix (show IxR _ (rIxTQ K) by exact ix_tupQ) (pv 0) pe_int (fun _ _ => rfl)) (nomark _)))) (fun _ _ _ _ _ => (pe_ix ix_strQ (pv 1) (pv 2) (fun _ _ => rfl))))))) pss_nil)
      (pss_cons (ps_if (pt_cmpR op_eq (pe_ix ix_tupQ (pv 0) pe_int (fun _ _ => rfl)) pe_str (nomark _)) (pss_one (ps_ret (pe_join pe_str (pe_lc (own := [("k", 2)]) rfl sc__law_answered.nd (pi_range1 (by rfl) T.f_range (pa_cons (pe_callB call_lenQ (by rfl) T.f_len PySem.boot_len (pa_cons (pv 1) pa_nil)) pa_nil)) (blkOk_by (own := [("k", 2)]) (N := ["step", "word", "k"]) (sc := defScope (topS 117)) (by decide +kernel)) (fun _ _ _ _ _ => (pg_name (i := 2) sc__law_answered.nd rfl (.inl rfl))) (fun _ _ _ _ _ => (pts_one (pt_cmpR op_lt (pe_op op_add (pv 2) (pe_ix (show IxR _ (rIxTQ K) by exact ix_tupQ) (pv 0) pe_int (fun _ _ => rfl))) (pe_callB (show CallR _ _ (rLenQ K) by exact call_lenQ) (by rfl) T.f_len PySem.boot_len (pa_cons (pv 1) pa_nil)) (nomark _)))) (fun _ _ _ _ _ => (pe_ix ix_strQ (pv 1) (pv 2) (fun _ _ => rfl))))))) pss_nil)
      (pss_one (ps_ret (pe_ifExp (pt_cmpR op_eq (pe_ix ix_tupQ (pv 0) pe_int (fun _ _ => rfl)) pe_str (nomark _)) (pv 1) (pe_callR D__law_exchanged (hr.mono (by decide)) takes0 (pa_cons (pe_ix ix_tupQ (pv 0) pe_int (fun _ _ => rfl)) (pa_cons (pv 1) pa_nil)))))))))))), ?_⟩
    simp only [cxOf, tYes, eq_self, if_true, if_false, wipe, rLenQ, rIxTQ, rIxLQ, rIxSQ, rInt1Q, rTupQ, rAppQ, rPopQ, rPopAtQ, rRevQ, rListS, rReprP, tLenSetT, tChain, tRetN, tRet, tSeq, tAsg, gName, tVar, tC, tCons, tNil, tCB, tOp, rI0, rI, tAndV, tOrV, tNotV, tIf, tTest, tB, tNot, tAnd, tOr, tIfS, tNext, tCallR, rIsK, rEq, rNe, tDrop, L2.start, List.map_cons, List.map_nil, List.length_cons, List.length_nil, Nat.reduceAdd, Nat.reduceSub, Nat.sub_self, List.replicate_zero, List.replicate_succ, List.append_nil, List.cons_append, List.nil_append, List.getElem?_cons_zero, List.getElem?_cons_succ, List.set_cons_zero, List.set_cons_succ, Option.some.injEq, List.cons.injEq, and_true, true_and, exists_eq_left, exists_eq_left', exists_eq_right, V.ty.injEq, V.int.injEq, V.bl.injEq, V.str.injEq, V.ref.injEq, exists_and_left, exists_const, reduceIte, reduceCtorEq, false_and, and_false, exists_false, or_false, false_or, Bool.not_true, Bool.not_false, Bool.false_eq_true, String.reduceEq, true_or, or_true, rNotT, tNNew, tNNotIn, tNGet, sNPut, tLenSetN, tPar, tAug, ipI, tDNotIn, sDPut, tDGet, tTup, tLst, tBM, tBM0, tCallD, tCall, rKdIn, tTNew, tTIn, tTGet, sTPut, Sg.tMethR, tMeth, tMakeR, tMake, tDGet2, tSAddK, rSAddK, rSInK, rSet0K, rExtend, rExtendT, tFld, sFld, tRevT, tDIn, tSl, tPart, tNoPart, tDelFrom, StX.tStar, tUn, rU, tM0, tM1]
    have hS : SqT K H a (.str s.word :: xs) := .inl (.inl ha)
    have hsz : t.cps.size = t.length := rfl
    have htl := str_len t
    cases s with
    | put y =>
      obtain ⟨z2, rfl, hz⟩ := one_view hx
      obtain rfl := text_view hz
      have hy3 : y.length ≤ 3 := hs.1
      exact word_yes ha rfl ⟨_, hS, _, at_1 _ _ _, q H fun _ _ z => z⟩
    | ahead y =>
      obtain ⟨z2, rfl, hz⟩ := one_view hx
      obtain rfl := text_view hz
      have hy3 : y.length ≤ 3 := hs.1
      refine word_no ha (by decide +kernel : Str.ofString "ahead" ≠ Str.ofString "put") ?_
      exact word_yes ha rfl ⟨_, hS, _, at_1 _ _ _, y, rfl, szle (m := 20000) (by omega), q H fun _ _ z => z⟩
    | behind y =>
      obtain ⟨z2, rfl, hz⟩ := one_view hx
      obtain rfl := text_view hz
      have hy3 : y.length ≤ 3 := hs.1
      refine word_no ha (by decide +kernel : Str.ofString "behind" ≠ Str.ofString "put") ?_
      refine word_no ha (by decide +kernel : Str.ofString "behind" ≠ Str.ofString "ahead") ?_
      exact word_yes ha rfl ⟨_, hS, _, at_1 _ _ _, y, rfl, szle (m := 20000) (by omega), q H fun _ _ z => z⟩
    | head n =>
      obtain ⟨z2, rfl, hz⟩ := one_view hx
      obtain rfl := num_view hz
      refine word_no ha (by decide +kernel : Str.ofString "head" ≠ Str.ofString "put") ?_
      refine word_no ha (by decide +kernel : Str.ofString "head" ≠ Str.ofString "ahead") ?_
      refine word_no ha (by decide +kernel : Str.ofString "head" ≠ Str.ofString "behind") ?_
      refine word_yes ha rfl ⟨⟨_, rfl⟩, ?_⟩
      refine ⟨_, rfl, szle (m := 10000) ht, (t.length : Int), rfl, by omega, by omega, fun D hD => ?_⟩
      refine lc_gen (J := Itr 0 t.length) (n := t.length) (fun i H' => Same H H' ∧ H' D = some (.lst (((t.cps.toList.take i).take n).map fun c => V.str (sgn c)))) ⟨same_upd hD, by rw [upd_same]; simp⟩ (fun i H' hi _ => hi) (fun H' _ => Nat.le_refl _) ?_ ?_
      · rintro i x H2 H3 hi ⟨s2, h2⟩ ⟨rfl, rfl⟩
        obtain ⟨c, hc⟩ : ∃ c, t.cps.toList[i]? = some c := ⟨_, List.getElem?_eq_getElem (by omega)⟩
        refine ⟨rfl, ?_⟩
        simp only [cxOf, tYes, eq_self, if_true, if_false, wipe, rLenQ, rIxTQ, rIxLQ, rIxSQ, rInt1Q, rTupQ, rAppQ, rPopQ, rPopAtQ, rRevQ, rListS, rReprP, tLenSetT, tChain, tRetN, tRet, tSeq, tAsg, gName, tVar, tC, tCons, tNil, tCB, tOp, rI0, rI, tAndV, tOrV, tNotV, tIf, tTest, tB, tNot, tAnd, tOr, tIfS, tNext, tCallR, rIsK, rEq, rNe, tDrop, L2.start, List.map_cons, List.map_nil, List.length_cons, List.length_nil, Nat.reduceAdd, Nat.reduceSub, Nat.sub_self, List.replicate_zero, List.replicate_succ, List.append_nil, List.cons_append, List.nil_append, List.getElem?_cons_zero, List.getElem?_cons_succ, List.set_cons_zero, List.set_cons_succ, Option.some.injEq, List.cons.injEq, and_true, true_and, exists_eq_left, exists_eq_left', exists_eq_right, V.ty.injEq, V.int.injEq, V.bl.injEq, V.str.injEq, V.ref.injEq, exists_and_left, exists_const, reduceIte, reduceCtorEq, false_and, and_false, exists_false, or_false, false_or, Bool.not_true, Bool.not_false, Bool.false_eq_true, String.reduceEq, true_or, or_true, rNotT, tNNew, tNNotIn, tNGet, sNPut, tLenSetN, tPar, tAug, ipI, tDNotIn, sDPut, tDGet, tTup, tLst, tBM, tBM0, tCallD, tCall, rKdIn, tTNew, tTIn, tTGet, sTPut, Sg.tMethR, tMeth, tMakeR, tMake, tDGet2, tSAddK, rSAddK, rSInK, rSet0K, rExtend, rExtendT, tFld, sFld, tRevT, tDIn, tSl, tPart, tNoPart, tDelFrom, StX.tStar, tUn, rU, tM0, tM1]
        refine ⟨_, .inl (.inl (s2 _ _ ha)), _, at_1 _ _ _, _, rfl, ?_⟩
        have hlen : ((t.cps.toList.take i)).length ≤ 10000 := by rw [List.length_take]; omega
        by_cases hk : i < n
        · refine ifT (decide_eq_true (by omega)) ⟨szle (m := 10000) ht, c, by rw [Int.zero_add]; exact atI_nat hc, _, h2, szlt (m := 10000) (by rw [List.length_map]; first | (rw [List.length_take]; omega) | (rw [List.length_drop]; omega)), snoc_same hD s2, ?_⟩
          rw [upd_same, tk_yes hc hk, List.map_append]
          rfl
        · refine ifF (decide_eq_false (by omega)) ⟨s2, ?_⟩
          rw [h2, tk_no hc hk]
      · rintro H2 ⟨s2, h2⟩
        have ee : t.cps.toList.take t.length = t.cps.toList := List.take_of_length_le (by omega)
        rw [ee] at h2
        refine ⟨D, rfl, (t.cps.toList.take n).map sgn, .inl (.inl (.inl (by rw [h2, List.map_map]; rfl))), ?_, ?_⟩
        · rw [sum_ones, List.length_map, show (Str.ofString "").length = 0 from rfl]
          simp
          omega
        · rw [join_signs]
          exact q H2 s2
    | skip n =>
      obtain ⟨z2, rfl, hz⟩ := one_view hx
      obtain rfl := num_view hz
      refine word_no ha (by decide +kernel : Str.ofString "skip" ≠ Str.ofString "put") ?_
      refine word_no ha (by decide +kernel : Str.ofString "skip" ≠ Str.ofString "ahead") ?_
      refine word_no ha (by decide +kernel : Str.ofString "skip" ≠ Str.ofString "behind") ?_
      refine word_no ha (by decide +kernel : Str.ofString "skip" ≠ Str.ofString "head") ?_
      refine word_yes ha rfl ⟨⟨_, rfl⟩, ?_⟩
      refine ⟨_, rfl, szle (m := 10000) ht, (t.length : Int), rfl, by omega, by omega, fun D hD => ?_⟩
      refine lc_gen (J := Itr 0 t.length) (n := t.length) (fun i H' => Same H H' ∧ H' D = some (.lst (((t.cps.toList.take i).drop n).map fun c => V.str (sgn c)))) ⟨same_upd hD, by rw [upd_same]; simp⟩ (fun i H' hi _ => hi) (fun H' _ => Nat.le_refl _) ?_ ?_
      · rintro i x H2 H3 hi ⟨s2, h2⟩ ⟨rfl, rfl⟩
        obtain ⟨c, hc⟩ : ∃ c, t.cps.toList[i]? = some c := ⟨_, List.getElem?_eq_getElem (by omega)⟩
        refine ⟨rfl, ?_⟩
        simp only [cxOf, tYes, eq_self, if_true, if_false, wipe, rLenQ, rIxTQ, rIxLQ, rIxSQ, rInt1Q, rTupQ, rAppQ, rPopQ, rPopAtQ, rRevQ, rListS, rReprP, tLenSetT, tChain, tRetN, tRet, tSeq, tAsg, gName, tVar, tC, tCons, tNil, tCB, tOp, rI0, rI, tAndV, tOrV, tNotV, tIf, tTest, tB, tNot, tAnd, tOr, tIfS, tNext, tCallR, rIsK, rEq, rNe, tDrop, L2.start, List.map_cons, List.map_nil, List.length_cons, List.length_nil, Nat.reduceAdd, Nat.reduceSub, Nat.sub_self, List.replicate_zero, List.replicate_succ, List.append_nil, List.cons_append, List.nil_append, List.getElem?_cons_zero, List.getElem?_cons_succ, List.set_cons_zero, List.set_cons_succ, Option.some.injEq, List.cons.injEq, and_true, true_and, exists_eq_left, exists_eq_left', exists_eq_right, V.ty.injEq, V.int.injEq, V.bl.injEq, V.str.injEq, V.ref.injEq, exists_and_left, exists_const, reduceIte, reduceCtorEq, false_and, and_false, exists_false, or_false, false_or, Bool.not_true, Bool.not_false, Bool.false_eq_true, String.reduceEq, true_or, or_true, rNotT, tNNew, tNNotIn, tNGet, sNPut, tLenSetN, tPar, tAug, ipI, tDNotIn, sDPut, tDGet, tTup, tLst, tBM, tBM0, tCallD, tCall, rKdIn, tTNew, tTIn, tTGet, sTPut, Sg.tMethR, tMeth, tMakeR, tMake, tDGet2, tSAddK, rSAddK, rSInK, rSet0K, rExtend, rExtendT, tFld, sFld, tRevT, tDIn, tSl, tPart, tNoPart, tDelFrom, StX.tStar, tUn, rU, tM0, tM1]
        refine ⟨_, .inl (.inl (s2 _ _ ha)), _, at_1 _ _ _, _, rfl, ?_⟩
        have hlen : ((t.cps.toList.take i)).length ≤ 10000 := by rw [List.length_take]; omega
        by_cases hk : n ≤ i
        · refine ifT (decide_eq_true (by omega)) ⟨szle (m := 10000) ht, c, by rw [Int.zero_add]; exact atI_nat hc, _, h2, szlt (m := 10000) (by rw [List.length_map]; first | (rw [List.length_take]; omega) | (rw [List.length_drop]; omega)), snoc_same hD s2, ?_⟩
          rw [upd_same, dp_yes hc hk, List.map_append]
          rfl
        · refine ifF (decide_eq_false (by omega)) ⟨s2, ?_⟩
          rw [h2, dp_no hc hk]
      · rintro H2 ⟨s2, h2⟩
        have ee : t.cps.toList.take t.length = t.cps.toList := List.take_of_length_le (by omega)
        rw [ee] at h2
        refine ⟨D, rfl, (t.cps.toList.drop n).map sgn, .inl (.inl (.inl (by rw [h2, List.map_map]; rfl))), ?_, ?_⟩
        · rw [sum_ones, List.length_map, show (Str.ofString "").length = 0 from rfl]
          simp
          omega
        · rw [join_signs]
          exact q H2 s2
    | less n =>
      obtain ⟨z2, rfl, hz⟩ := one_view hx
      obtain rfl := num_view hz
      refine word_no ha (by decide +kernel : Str.ofString "less" ≠ Str.ofString "put") ?_
      refine word_no ha (by decide +kernel : Str.ofString "less" ≠ Str.ofString "ahead") ?_
      refine word_no ha (by decide +kernel : Str.ofString "less" ≠ Str.ofString "behind") ?_
      refine word_no ha (by decide +kernel : Str.ofString "less" ≠ Str.ofString "head") ?_
      refine word_no ha (by decide +kernel : Str.ofString "less" ≠ Str.ofString "skip") ?_
      refine word_yes ha rfl ⟨⟨_, rfl⟩, ?_⟩
      refine ⟨_, rfl, szle (m := 10000) ht, (t.length : Int), rfl, by omega, by omega, fun D hD => ?_⟩
      refine lc_gen (J := Itr 0 t.length) (n := t.length) (fun i H' => Same H H' ∧ H' D = some (.lst (((t.cps.toList.take i).take (t.length - n)).map fun c => V.str (sgn c)))) ⟨same_upd hD, by rw [upd_same]; simp⟩ (fun i H' hi _ => hi) (fun H' _ => Nat.le_refl _) ?_ ?_
      · rintro i x H2 H3 hi ⟨s2, h2⟩ ⟨rfl, rfl⟩
        obtain ⟨c, hc⟩ : ∃ c, t.cps.toList[i]? = some c := ⟨_, List.getElem?_eq_getElem (by omega)⟩
        refine ⟨rfl, ?_⟩
        simp only [cxOf, tYes, eq_self, if_true, if_false, wipe, rLenQ, rIxTQ, rIxLQ, rIxSQ, rInt1Q, rTupQ, rAppQ, rPopQ, rPopAtQ, rRevQ, rListS, rReprP, tLenSetT, tChain, tRetN, tRet, tSeq, tAsg, gName, tVar, tC, tCons, tNil, tCB, tOp, rI0, rI, tAndV, tOrV, tNotV, tIf, tTest, tB, tNot, tAnd, tOr, tIfS, tNext, tCallR, rIsK, rEq, rNe, tDrop, L2.start, List.map_cons, List.map_nil, List.length_cons, List.length_nil, Nat.reduceAdd, Nat.reduceSub, Nat.sub_self, List.replicate_zero, List.replicate_succ, List.append_nil, List.cons_append, List.nil_append, List.getElem?_cons_zero, List.getElem?_cons_succ, List.set_cons_zero, List.set_cons_succ, Option.some.injEq, List.cons.injEq, and_true, true_and, exists_eq_left, exists_eq_left', exists_eq_right, V.ty.injEq, V.int.injEq, V.bl.injEq, V.str.injEq, V.ref.injEq, exists_and_left, exists_const, reduceIte, reduceCtorEq, false_and, and_false, exists_false, or_false, false_or, Bool.not_true, Bool.not_false, Bool.false_eq_true, String.reduceEq, true_or, or_true, rNotT, tNNew, tNNotIn, tNGet, sNPut, tLenSetN, tPar, tAug, ipI, tDNotIn, sDPut, tDGet, tTup, tLst, tBM, tBM0, tCallD, tCall, rKdIn, tTNew, tTIn, tTGet, sTPut, Sg.tMethR, tMeth, tMakeR, tMake, tDGet2, tSAddK, rSAddK, rSInK, rSet0K, rExtend, rExtendT, tFld, sFld, tRevT, tDIn, tSl, tPart, tNoPart, tDelFrom, StX.tStar, tUn, rU, tM0, tM1]
        refine ⟨_, .inl (.inl (s2 _ _ ha)), _, at_1 _ _ _, _, rfl, ?_⟩
        have hlen : ((t.cps.toList.take i)).length ≤ 10000 := by rw [List.length_take]; omega
        refine ⟨szle (m := 10000) ht, ?_⟩
        by_cases hk : i < t.length - n
        · refine ifT (decide_eq_true (by omega)) ⟨szle (m := 10000) ht, c, by rw [Int.zero_add]; exact atI_nat hc, _, h2, szlt (m := 10000) (by rw [List.length_map]; first | (rw [List.length_take]; omega) | (rw [List.length_drop]; omega)), snoc_same hD s2, ?_⟩
          rw [upd_same, tk_yes hc hk, List.map_append]
          rfl
        · refine ifF (decide_eq_false (by omega)) ⟨s2, ?_⟩
          rw [h2, tk_no hc hk]
      · rintro H2 ⟨s2, h2⟩
        have ee : t.cps.toList.take t.length = t.cps.toList := List.take_of_length_le (by omega)
        rw [ee] at h2
        refine ⟨D, rfl, (t.cps.toList.take (t.length - n)).map sgn, .inl (.inl (.inl (by rw [h2, List.map_map]; rfl))), ?_, ?_⟩
        · rw [sum_ones, List.length_map, show (Str.ofString "").length = 0 from rfl]
          simp
          omega
        · rw [join_signs]
          exact q H2 s2
    | same =>
      refine word_no ha (by decide +kernel : Str.ofString "same" ≠ Str.ofString "put") ?_
      refine word_no ha (by decide +kernel : Str.ofString "same" ≠ Str.ofString "ahead") ?_
      refine word_no ha (by decide +kernel : Str.ofString "same" ≠ Str.ofString "behind") ?_
      refine word_no ha (by decide +kernel : Str.ofString "same" ≠ Str.ofString "head") ?_
      refine word_no ha (by decide +kernel : Str.ofString "same" ≠ Str.ofString "skip") ?_
      refine word_no ha (by decide +kernel : Str.ofString "same" ≠ Str.ofString "less") ?_
      exact word_yes ha rfl (q H fun _ _ z => z)
    | turn ps =>
      obtain ⟨y, rfl, hy⟩ := one_view hx
      refine word_no ha (by decide +kernel : Str.ofString "turn" ≠ Str.ofString "put") ?_
      refine word_no ha (by decide +kernel : Str.ofString "turn" ≠ Str.ofString "ahead") ?_
      refine word_no ha (by decide +kernel : Str.ofString "turn" ≠ Str.ofString "behind") ?_
      refine word_no ha (by decide +kernel : Str.ofString "turn" ≠ Str.ofString "head") ?_
      refine word_no ha (by decide +kernel : Str.ofString "turn" ≠ Str.ofString "skip") ?_
      refine word_no ha (by decide +kernel : Str.ofString "turn" ≠ Str.ofString "less") ?_
      refine word_no ha (by decide +kernel : Str.ofString "turn" ≠ Str.ofString "same") ?_
      exact ⟨_, hS, _, at_1 _ _ _, y, z, t, ps, rfl, hy, hs, ht, q⟩
end
end K08

namespace K08
open PySem PySem.Spec PyProof.Rows L2 Sg
theorem txb_of {z x : Str} (h : SubZ z x) : txB z x = true := List.all_eq_true.mpr fun c hc => decide_eq_true (h c hc)
theorem qt_sub {z x : Str} (hz : QtOk z) (h : SubZ z x) : QtOk x := fun c hc => hz c (h c hc)
/-- a step's facts -/
structure StF (z : Str) (s : Stp) : Prop where
  fine : s.Fine
  deep : s.key.depth ≤ 3
  sz : s.sz ≤ 6
  txl : s.texts.length ≤ 10
  txs : ∀ x ∈ s.texts, x.length ≤ 1000 ∧ txB z x = true
  turns : ∀ ps, s = .turn ps → (∀ p ∈ ps, p.1.length = 1) ∧ (ps.map (·.1)).Nodup ∧ ps.length ≤ 100
theorem stF {z : Str} {s : Stp} (hz : QtOk z) (h : StIn z s) : StF z s := by
  have one : ∀ {x : Str}, x.length ≤ 3 ∧ SubZ z x → QtOk x ∧ x.length ≤ 1000 := fun {x} h => ⟨qt_sub hz h.2, by omega⟩
  cases s with
  | same => exact ⟨⟨⟨(fun x hx => nomatch hx), True.intro⟩, True.intro⟩, by show max 0 0 + 1 ≤ 3; omega, by show 1 ≤ 6; omega, Nat.zero_le _, (fun x hx => nomatch hx), fun ps e => nomatch e⟩
  | put x => exact ⟨⟨⟨fun y hy => by (obtain rfl := List.mem_singleton.mp hy; exact one h), True.intro⟩, True.intro⟩, by show max 0 (max 0 0) + 1 ≤ 3; omega, by show 1 ≤ 6; omega, by show 1 ≤ 10; omega, fun y hy => by (obtain rfl := List.mem_singleton.mp hy; exact ⟨(one h).2, txb_of h.2⟩), fun ps e => nomatch e⟩
  | ahead x => exact ⟨⟨⟨fun y hy => by (obtain rfl := List.mem_singleton.mp hy; exact one h), True.intro⟩, True.intro⟩, by show max 0 (max 0 0) + 1 ≤ 3; omega, by show 1 ≤ 6; omega, by show 1 ≤ 10; omega, fun y hy => by (obtain rfl := List.mem_singleton.mp hy; exact ⟨(one h).2, txb_of h.2⟩), fun ps e => nomatch e⟩
  | behind x => exact ⟨⟨⟨fun y hy => by (obtain rfl := List.mem_singleton.mp hy; exact one h), True.intro⟩, True.intro⟩, by show max 0 (max 0 0) + 1 ≤ 3; omega, by show 1 ≤ 6; omega, by show 1 ≤ 10; omega, fun y hy => by (obtain rfl := List.mem_singleton.mp hy; exact ⟨(one h).2, txb_of h.2⟩), fun ps e => nomatch e⟩
  | head n => exact ⟨⟨⟨(fun x hx => nomatch hx), h⟩, True.intro⟩, by show max 0 (max 0 0) + 1 ≤ 3; omega, by show 1 ≤ 6; omega, Nat.zero_le _, (fun x hx => nomatch hx), fun ps e => nomatch e⟩
  | skip n => exact ⟨⟨⟨(fun x hx => nomatch hx), h⟩, True.intro⟩, by show max 0 (max 0 0) + 1 ≤ 3; omega, by show 1 ≤ 6; omega, Nat.zero_le _, (fun x hx => nomatch hx), fun ps e => nomatch e⟩
  | less n => exact ⟨⟨⟨(fun x hx => nomatch hx), h⟩, True.intro⟩, by show max 0 (max 0 0) + 1 ≤ 3; omega, by show 1 ≤ 6; omega, Nat.zero_le _, (fun x hx => nomatch hx), fun ps e => nomatch e⟩
  | turn ps =>
    obtain ⟨h1, h2, h3, h4⟩ := h
    have htx : ∀ x ∈ ps.flatMap (fun p => [p.1, p.2]), QtOk x ∧ x.length ≤ 1000 ∧ SubZ z x := fun x hx => by
      obtain ⟨p, hp, hx⟩ := List.mem_flatMap.mp hx
      obtain ⟨q1, q2, q3, q4⟩ := h4 p hp
      have hx : x ∈ [p.1, p.2] := hx
      simp only [List.mem_cons, List.not_mem_nil, or_false] at hx
      rcases hx with rfl | rfl
      · exact ⟨qt_sub hz q2, by omega, q2⟩
      · exact ⟨qt_sub hz q4, by omega, q4⟩
    refine ⟨⟨⟨fun x hx => ⟨(htx x hx).1, (htx x hx).2.1⟩, h1, by omega⟩, h3⟩, ?_, ?_, ?_, fun x hx => ⟨(htx x hx).2.1, txb_of (htx x hx).2.2⟩, fun ps' e => ?_⟩
    · show max 0 (max (NestedKey.depthAll (ps.map pairK) + 1) 0) + 1 ≤ 3
      have := depth_pairs ps
      omega
    · show 1 + ps.length ≤ 6
      omega
    · have e : ∀ l : List (Str × Str), (l.flatMap fun p => [p.1, p.2]).length = 2 * l.length := fun l => by
        induction l with
        | nil => rfl
        | cons a l ih =>
          rw [List.flatMap_cons, List.length_append, ih]
          show 2 + 2 * l.length = 2 * (l.length + 1)
          omega
      show (ps.flatMap fun p => [p.1, p.2]).length ≤ 10
      rw [e]
      omega
    · cases e
      exact ⟨fun p hp => (h4 p hp).1, h3, by omega⟩
/-- the steps one behind another -/
inductive LN (z : Str) : List Stp → Wk → Prop
  | one {s : Stp} : StIn z s → LN z [s] (.st s)
  | snoc {ss : List Stp} {u : Wk} {s : Stp} : LN z ss u → StIn z s → LN z (ss ++ [s]) (.th u (.st s))
def runS (ss : List Stp) (t : Str) : Str := ss.foldl (fun t s => ans s t) t
theorem LN.ev {z : Str} {ss : List Stp} {u : Wk} (h : LN z ss u) : ∀ t, K08.ev u t = runS ss t := by
  induction h with
  | one _ => intro t; rfl
  | @snoc ss u s h hs ih =>
    intro t
    show ans s (K08.ev u t) = runS (ss ++ [s]) t
    rw [ih]
    unfold runS
    rw [List.foldl_append]
    rfl
theorem run_snoc (ss : List Stp) (s : Stp) (t : Str) : runS (ss ++ [s]) t = ans s (runS ss t) := by
  unfold runS
  rw [List.foldl_append]
  rfl
structure LF (z : Str) (n : Nat) (u : Wk) : Prop where
  good : u.Good
  fine : u.Fine
  ff : u.ff = true
  fns : u.fns = []
  deep : u.key.depth ≤ 3 + n
  nodes : u.nodes + 1 ≤ 2 * n
  size : u.size + 1 ≤ 7 * n
  txl : u.txs.length ≤ 10 * n
  txs : ∀ x ∈ u.txs, x.length ≤ 1000 ∧ txB z x = true
  turns : ∀ ps ∈ u.turns, (∀ p ∈ ps, p.1.length = 1) ∧ (ps.map (·.1)).Nodup ∧ ps.length ≤ 100
  c0 : u.c0 ≤ 4 * n
  cw : u.cw ≤ 4 * n
theorem turns_st {s : Stp} {ps : List (Str × Str)} (h : ps ∈ (Wk.st s).turns) : s = .turn ps := by
  obtain ⟨x, hx, e⟩ := List.mem_filterMap.mp h
  obtain rfl := List.mem_singleton.mp hx
  cases s <;> simp [tuF] at e
  rw [e]
theorem lnF {z : Str} (hz : QtOk z) {ss : List Stp} {u : Wk} (h : LN z ss u) : LF z ss.length u := by
  induction h with
  | @one s hs =>
    have f := stF hz hs
    refine ⟨f.fine.1, f.fine, rfl, rfl, ?_, by show 1 + 1 ≤ 2; omega, ?_, ?_, ?_, fun ps h => f.turns ps (turns_st h), by show 2 ≤ 4; omega, by show 1 ≤ 4; omega⟩
    · have := f.deep
      show s.key.depth ≤ 4
      omega
    · have := f.sz
      show s.sz + 0 + 1 ≤ 7
      omega
    · have := f.txl
      show (s.texts ++ []).length ≤ 10
      rw [List.append_nil]
      exact this
    · have e : (Wk.st s).txs = s.texts := List.append_nil _
      rw [e]
      exact f.txs
  | @snoc ss u s h hs ih =>
    have f := stF hz hs
    have hl : (ss ++ [s]).length = ss.length + 1 := by rw [List.length_append]; rfl
    rw [hl]
    have ep : (Wk.th u (.st s)).pre = .th u (.st s) :: (u.pre ++ [.st s]) := rfl
    have etx : (Wk.th u (.st s)).txs = u.txs ++ s.texts := by
      unfold Wk.txs
      rw [ep, List.flatMap_cons, List.flatMap_append]
      show [] ++ (_ ++ (s.texts ++ [])) = _
      rw [List.append_nil]
      rfl
    have esz : (Wk.th u (.st s)).size = 1 + (u.size + s.sz) := by
      unfold Wk.size
      rw [ep, List.map_cons, List.sum_cons, List.map_append, List.sum_append]
      rfl
    refine ⟨⟨ih.good, f.fine.1⟩, ⟨ih.fine, f.fine⟩, ?_, ?_, ?_, ?_, ?_, ?_, ?_, ?_, ?_, ?_⟩
    · show (u.ff && true) = true
      rw [ih.ff]
      rfl
    · unfold Wk.fns
      rw [ep, List.filterMap_cons_none rfl, List.filterMap_append]
      have e1 : u.pre.filterMap fnF = [] := ih.fns
      rw [e1]
      rfl
    · rw [Wk.depth_th]
      have := ih.deep
      have := f.deep
      show max u.key.depth s.key.depth + 1 ≤ _
      omega
    · have := ih.nodes
      show 1 + u.nodes + 1 + 1 ≤ _
      omega
    · rw [esz]
      have := ih.size
      have := f.sz
      omega
    · rw [etx, List.length_append]
      have := ih.txl
      have := f.txl
      omega
    · rw [etx]
      intro x hx
      rcases List.mem_append.mp hx with h | h
      · exact ih.txs x h
      · exact f.txs x h
    · intro ps hp
      unfold Wk.turns at hp
      rw [ep, List.filterMap_cons_none rfl, List.filterMap_append] at hp
      rcases List.mem_append.mp hp with h | h
      · exact ih.turns ps h
      · exact f.turns ps (turns_st h)
    · have := ih.c0
      show 2 + u.c0 + 2 ≤ _
      omega
    · have := ih.cw
      show 2 + u.cw + 1 ≤ _
      omega
theorem LF.isIn {z : Str} {n : Nat} {u : Wk} (h : LF z n u) (hn : n ≤ 4) : u.In z where
  good := h.good
  deep := by have := h.deep; omega
  nodes := by have := h.nodes; omega
  size := by have := h.size; omega
  txl := by have := h.txl; omega
  txs := h.txs
  turns := h.turns
/-! lengths -/
theorem trn_3 {z : Str} {ps : List (Str × Str)} (h : TuOk z ps) (c : Nat) : (trn ps c).length ≤ 3 := by
  unfold trn
  cases e : ps.find? fun p => decide (p.1 = sgn c) with
  | none => exact (by decide : 1 ≤ 3)
  | some p => exact (h.2.2.2 p (List.mem_of_find?_eq_some e)).2.2.1
theorem ans_len {z : Str} {s : Stp} (h : StIn z s) (t : Str) : (ans s t).length ≤ 3 * t.length + 3 := by
  have hl := str_len t
  cases s with
  | same => show t.length ≤ _; omega
  | put x => show x.length ≤ _; have := h.1; omega
  | ahead x =>
    show (x ++ t).length ≤ _
    rw [len_app]
    have := h.1
    omega
  | behind x =>
    show (t ++ x).length ≤ _
    rw [len_app]
    have := h.1
    omega
  | head n =>
    show (mkS _).length ≤ _
    rw [mkS_len, List.length_take]
    omega
  | skip n =>
    show (mkS _).length ≤ _
    rw [mkS_len, List.length_drop]
    omega
  | less n =>
    show (mkS _).length ≤ _
    rw [mkS_len, List.length_take]
    omega
  | turn ps =>
    show (mkS _).length ≤ _
    rw [mkS_len, List.length_flatMap]
    have := sum_le (l := t.cps.toList) (f := fun c => (trn ps c).cps.toList.length) (B := 3) fun c _ => by rw [str_len]; exact trn_3 h c
    omega
theorem ans_sub {z : Str} {s : Stp} (h : StIn z s) {t : Str} (ht : SubZ z t) : SubZ z (ans s t) := by
  intro c hc
  cases s with
  | same => exact ht c hc
  | put x => exact h.2 c hc
  | ahead x =>
    have hc : c ∈ (x ++ t).cps.toList := hc
    rw [cps_app] at hc
    rcases List.mem_append.mp hc with hc | hc
    · exact h.2 c hc
    · exact ht c hc
  | behind x =>
    have hc : c ∈ (t ++ x).cps.toList := hc
    rw [cps_app] at hc
    rcases List.mem_append.mp hc with hc | hc
    · exact ht c hc
    · exact h.2 c hc
  | head n => exact ht c (List.mem_of_mem_take hc)
  | skip n => exact ht c (List.mem_of_mem_drop hc)
  | less n => exact ht c (List.mem_of_mem_take hc)
  | turn ps =>
    obtain ⟨d, hd, hc⟩ := List.mem_flatMap.mp (show c ∈ t.cps.toList.flatMap fun c => (trn ps c).cps.toList from hc)
    unfold trn at hc
    cases e : ps.find? fun p => decide (p.1 = sgn d) with
    | none =>
      rw [e] at hc
      obtain rfl := List.mem_singleton.mp hc
      exact ht _ hd
    | some p =>
      rw [e] at hc
      exact (h.2.2.2 p (List.mem_of_find?_eq_some e)).2.2.2 c hc
/-- no text ahead of a step is long -/
def Low : List Stp → Str → Prop
  | [], _ => True
  | s :: ss, t => t.length ≤ 3300 ∧ Low ss (ans s t)
theorem low_snoc : ∀ {ss : List Stp} {s : Stp} {t : Str}, Low ss t → (runS ss t).length ≤ 3300 → Low (ss ++ [s]) t
  | [], s, t, _, h => ⟨h, True.intro⟩
  | r :: ss, s, t, h, h2 => ⟨h.1, low_snoc h.2 h2⟩
theorem low_init : ∀ {ss : List Stp} {s : Stp} {t : Str}, Low (ss ++ [s]) t → Low ss t ∧ (runS ss t).length ≤ 3300
  | [], _, _, h => ⟨True.intro, h.1⟩
  | r :: ss, s, t, h => by
    obtain ⟨h1, h2⟩ := low_init (ss := ss) h.2
    exact ⟨⟨h.1, h1⟩, h2⟩
theorem low_bd {z : Str} {ss : List Stp} {u : Wk} (h : LN z ss u) : ∀ {t : Str}, Low ss t → Bd u t := by
  induction h with
  | @one s hs =>
    intro t hl
    have := ans_len hs t
    have h2 : t.length ≤ 3300 := hl.1
    show (ans s t).length ≤ 10000
    omega
  | @snoc ss u s h hs ih =>
    intro t hl
    obtain ⟨h1, h2⟩ := low_init hl
    refine ⟨ih h1, ?_⟩
    rw [h.ev]
    have := ans_len hs (runS ss t)
    show (ans s (runS ss t)).length ≤ 10000
    omega
end K08

namespace K08
open PySem PySem.Spec PyProof.Rows L2 Sg
section
variable {P : Program} {w : World} {K : PySem.W.Frag} {mg : Str → Option Value} {base : Heap}
def bnd : Nat → Nat
  | 0 => 120
  | n + 1 => 3 * bnd n + 3
theorem bnd_le {n : Nat} (h : n ≤ 3) : bnd n ≤ 3300 := by
  match n, h with
  | 0, _ => decide
  | 1, _ => decide
  | 2, _ => decide
  | 3, _ => decide
theorem bnd_le4 {n : Nat} (h : n ≤ 4) : bnd n ≤ 10000 := by
  match n, h with
  | 0, _ => decide
  | 1, _ => decide
  | 2, _ => decide
  | 3, _ => decide
  | 4, _ => decide
theorem prOk {z : Str} (h1 : 1 ≤ z.length) (h5 : z.length ≤ 5) (hn : z.cps.toList.Nodup) (hq : QtOk z) {bd : Option Wk} (hb : ∀ t, bd = some t → t.In z ∧ t.fns = []) : PrOk z bd := ⟨h1, h5, signs_once hn, hq, hb⟩
theorem askSt {z : Str} {s : Stp} {t : Str} (hz : QtOk z) (hs : StIn z s) (h : t.length ≤ 3300) : Askd none (.st s) t where
  cl := .inl rfl
  ff := fun b e => by cases e
  c := (by decide : 2 ≤ 40000)
  fine := (stF hz hs).fine
  short := by
    have := ans_len hs t
    show (ans s t).length ≤ 10000
    omega
  len := by omega
  cw := (by decide : 1 ≤ 80000)
theorem askW {z : Str} {ss : List Stp} {u : Wk} {t : Str} (hz : QtOk z) (h : LN z ss u) (hl : ss.length ≤ 4) (lo : Low ss t) (ht : t.length ≤ 3300) : Askd (some u) u t := by
  have f := lnF hz h
  have e : sub (some u) u = u := sub_ff _ f.ff
  refine ⟨.inl f.ff, fun b e => by (cases e; exact f.ff), ?_, by rw [e]; exact f.fine, by rw [e]; exact low_bd h lo, by omega, ?_⟩
  · have := f.c0
    show Wk.c u u ≤ 40000
    rw [c_ff f.ff]
    omega
  · have := f.cw
    rw [e]
    omega
theorem askF {z : Str} {ss : List Stp} {u : Wk} {t : Str} (hz : QtOk z) (h : LN z ss u) (hl : ss.length ≤ 4) (lo : Low ss t) (ht : t.length ≤ 3300) : Askd (some u) .fn t := by
  have f := lnF hz h
  refine ⟨.inr rfl, fun b e => by (cases e; exact f.ff), ?_, f.fine, low_bd h lo, by omega, ?_⟩
  · have := f.c0
    show 3 + u.c0 ≤ 40000
    omega
  · have := f.cw
    show u.cw ≤ 80000
    omega
theorem askT {z : Str} {ss : List Stp} {u : Wk} {t : Str} (hz : QtOk z) (h : LN z ss u) (hl : ss.length ≤ 4) (lo : Low ss t) (ht : t.length ≤ 3300) (lo2 : Low ss (runS ss t)) : Askd (some u) (.th .fn .fn) t := by
  have f := lnF hz h
  refine ⟨.inr rfl, fun b e => by (cases e; exact f.ff), ?_, ⟨f.fine, f.fine⟩, ⟨low_bd h lo, ?_⟩, by omega, ?_⟩
  · have := f.c0
    show 2 + (3 + u.c0) + (3 + u.c0) ≤ 40000
    omega
  · show Bd u (ev u t)
    rw [h.ev]
    exact low_bd h lo2
  · have := f.cw
    show 2 + u.cw + u.cw ≤ 80000
    omega
theorem twIn (z : Str) : (Wk.th .fn .fn).In z where
  good := ⟨True.intro, True.intro⟩
  deep := by show max 0 (max (max 0 (max 0 0) + 1) (max (max 0 (max 0 0) + 1) 0)) + 1 ≤ 40; omega
  nodes := by decide
  size := by decide
  txl := by decide
  txs := fun x hx => nomatch (show x ∈ ([] : List Str) from hx)
  turns := fun x hx => nomatch (show x ∈ ([] : List (List (Str × Str))) from hx)
/-- between two turns -/
def LwO (a b g : Addr) (z : Str) (i : Nat) (σ : L2.St) (H' : Hp) : Prop := Bag H' b g (20 + 500 * i) ∧ ∃ x3 x4 x5 x6 x7 x8 x9 x10 x11 x12, σ = [some (.ref a), some (.ref b), some (.str z), x3, x4, x5, x6, x7, x8, x9, x10, x11, x12]
/-- between two steps -/
def InI (a b g pst : Addr) (z wd : Str) (B k : Nat) (σ : L2.St) (H' : Hp) : Prop := ∃ (ss : List Stp) (svs : List V) (wv : V) (x3 x8 x9 x10 x11 x12 : Option V), Bag H' b g (B + 60 * k) ∧ H' pst = some (.lst svs) ∧ KeyVs H' svs (ss.map Stp.key) ∧ ss.length = k ∧ (∀ s ∈ ss, StIn z s) ∧ Low ss wd ∧ (runS ss wd).length ≤ bnd k ∧ SubZ z (runS ss wd) ∧ (k = 0 → wv = .non) ∧ (k ≠ 0 → ∃ u, LN z ss u ∧ KeyV H' wv u.key) ∧
  σ = [some (.ref a), some (.ref b), some (.str z), x3, some (.str wd), some (.str (runS ss wd)), some wv, some (.ref pst), x8, x9, x10, x11, x12]
theorem for_brk {ta : TS} {D : Ends} {σ : L2.St} {H : Hp} (M : L2.St → Hp → Prop) (h : ∀ N : L2.St → Hp → Prop, (∀ σ' H', M σ' H' → N σ' H') → ta { D with nx := N } σ H) (tail : ∀ σ' H', M σ' H' → D.nx σ' H') : ta D σ H := h D.nx tail
theorem sc_law : FnScope ["script", "bag", "signs", "turn", "word", "due", "work", "steps", "k", "step", "prog", "again", "twice_done"] ["script"] (defScope (topS 118)) := ⟨rfl, rfl, rfl, by decide +kernel, rfl, by decide +kernel, by decide +kernel⟩
theorem bd_law {K : PySem.W.Frag} {f : Addr} {fd : FuncData} (F : FnP K "law" (topS 118) f fd) : Binds K fd ["script"] [] := F.bindsN fun _ _ _ _ _ _ us hl => match us, hl with | [_], _ => rfl
def spLaw (K : PySem.W.Frag) : Sp := fun vs H Q _ => ∃ (a : Addr) (ns : List Int), vs = [.ref a] ∧ SqL K H a (ns.map V.int) ∧ ∀ H', Q (.bl true) H'
theorem fn_law (T : Tx w K mg) {fd : FuncData} (F : FnP K "law" (topS 118) (He.ga K "law") fd) : FnOk P w K mg base L2.CX0 12 (He.ga K "law") fd ["script"] (spLaw K) := by
  have D__law_bag := ok__law_bag (P := P) (w := w) (base := base) T
  have D__law_take := ok__law_take (P := P) (w := w) (base := base) T
  have D__law_signs := ok__law_signs (P := P) (w := w) (base := base) T
  have D__law_word := ok__law_word (P := P) (w := w) (base := base) T
  have D__law_plain_step := ok__law_plain_step (P := P) (w := w) (base := base) T
  have D__law_same := ok__law_same (P := P) (w := w) (base := base) T
  have D__law_answered := ok__law_answered (P := P) (w := w) (base := base) T
  have D_apply_work := ok_apply_work (P := P) (w := w) (base := base) T
  have D_apply := ok_apply (P := P) (w := w) (base := base) T
  refine F.ok sc_law (fun vs H Q E h => ?_) (fun cdv A outer s H vs Q E hr h => ?_)
  · obtain ⟨a, ns, rfl, _⟩ := h
    rfl
  · obtain ⟨a, ns, rfl, ha, q⟩ := h
    refine ⟨_, PSs.nox (pss_cons (ps_set (i := 1) sc_law.nd rfl (.inl rfl) (pe_callR D__law_bag (hr.mono (by decide)) takes0 (pa_cons (pv 0) pa_nil)))
      (pss_cons (ps_set (i := 2) sc_law.nd rfl (.inl rfl) (pe_callR D__law_signs (hr.mono (by decide)) takes0 (pa_cons (pv 1) (pa_cons (pe_op op_add pe_int (pe_callR D__law_take (hr.mono (by decide)) takes0 (pa_cons (pv 1) (pa_cons pe_int pa_nil)))) pa_nil))))
      (pss_cons (ps_for PassesOwn.never rfl (pi_range1 (by rfl) T.f_range (pa_cons pe_int pa_nil)) (pg_name (i := 3) sc_law.nd rfl (.inl rfl)) (pss_cons (ps_set (i := 4) sc_law.nd rfl (.inl rfl) (pe_op op_mulP (pe_callR D__law_word (hr.mono (by decide)) takes0 (pa_cons (pv 1) (pa_cons (pv 2) (pa_cons pe_int pa_nil)))) (pe_op op_add pe_int (pe_callR D__law_take (hr.mono (by decide)) takes0 (pa_cons (pv 1) (pa_cons pe_int pa_nil))))))
      (pss_cons (ps_set (i := 5) sc_law.nd rfl (.inl rfl) (pv 4))
      (pss_cons (ps_set (i := 6) sc_law.nd rfl (.inl rfl) pe_non)
      (pss_cons (ps_set (i := 7) sc_law.nd rfl (.inl rfl) (pe_lst pa_nil))
      (pss_cons (ps_for PassesOwn.never rfl (pi_range1 (by rfl) T.f_range (pa_cons (pe_op op_add pe_int (pe_callR D__law_take (hr.mono (by decide)) takes0 (pa_cons (pv 1) (pa_cons pe_int pa_nil)))) pa_nil)) (pg_name (i := 8) sc_law.nd rfl (.inl rfl)) (pss_cons (ps_set (i := 9) sc_law.nd rfl (.inl rfl) (pe_callR D__law_plain_step (hr.mono (by decide)) takes0 (pa_cons (pv 1) (pa_cons (pv 2) pa_nil))))
      (pss_cons (ps_if (pt_not (pt_val (pe_callR D__law_same (hr.mono (by decide)) takes0 (pa_cons (pe_callR D_apply_work (hr.mono (by decide)) takes0 (pa_cons (pe_tup (pa_cons (pv 2) (pa_cons (pe_tup pa_nil) pa_nil))) (pa_cons (pv 9) (pa_cons (pv 5) pa_nil)))) (pa_cons (pe_callR D__law_answered (hr.mono (by decide)) takes0 (pa_cons (pv 9) (pa_cons (pv 5) pa_nil))) pa_nil))))) (pss_one (ps_ret pe_bl)) pss_nil)
      (pss_cons (ps_set (i := 5) sc_law.nd rfl (.inl rfl) (pe_callR D__law_answered (hr.mono (by decide)) takes0 (pa_cons (pv 9) (pa_cons (pv 5) pa_nil))))
      (pss_cons (ps_expr (pe_bm PySem.F.plainAttrs_list PySem.F.slot_list_append PySem.F.type_list_append mt_appQ (pv 7) (pa_cons (pv 9) pa_nil)))
      (pss_one (ps_set (i := 6) sc_law.nd rfl (.inl rfl) (pe_ifExp (pt_cmpR op_isN (pv 6) pe_non (nomark _)) (pv 9) (pe_tup (pa_cons pe_str (pa_cons (pv 6) (pa_cons (pv 9) pa_nil))))))))))))
      (pss_cons (ps_set (i := 10) sc_law.nd rfl (.inl rfl) (pe_tup (pa_cons (pv 2) (pa_cons (pe_tup (pa_cons (pe_tup (pa_cons pe_str (pa_cons pe_str (pa_cons (pv 6) pa_nil)))) pa_nil)) pa_nil))))
      (pss_cons (ps_if (PW.pt (pw_or (pt_not (pt_val (pe_callR D__law_same (hr.mono (by decide)) takes0 (pa_cons (pe_callR D_apply_work (hr.mono (by decide)) takes0 (pa_cons (pv 10) (pa_cons (pv 6) (pa_cons (pv 4) pa_nil)))) (pa_cons (pv 5) pa_nil))))) (pw_or1 (pt_not (pt_val (pe_callR D__law_same (hr.mono (by decide)) takes0 (pa_cons (pe_callR D_apply (hr.mono (by decide)) takes0 (pa_cons (pv 10) (pa_cons pe_str (pa_cons (pv 4) pa_nil)))) (pa_cons (pv 5) pa_nil)))))))) (pss_one (ps_ret pe_bl)) pss_nil)
      (pss_cons (ps_set (i := 11) sc_law.nd rfl (.inl rfl) (pv 5))
      (pss_cons (ps_for PassesOwn.never rfl (pi_list (pv 7)) (pg_name (i := 9) sc_law.nd rfl (.inl rfl)) (pss_one (ps_if (pt_cmpR op_le (pe_callB call_lenQ (by rfl) T.f_len PySem.boot_len (pa_cons (pv 11) pa_nil)) pe_int (nomark _)) (pss_one (ps_set (i := 11) sc_law.nd rfl (.inl rfl) (pe_callR D__law_answered (hr.mono (by decide)) takes0 (pa_cons (pv 9) (pa_cons (pv 11) pa_nil))))) (pss_cons (ps_set (i := 11) sc_law.nd rfl (.inl rfl) pe_non)
      (pss_one ps_break)))))
      (pss_cons (ps_set (i := 12) sc_law.nd rfl (.inl rfl) (pe_tup (pa_cons pe_str (pa_cons (pe_tup (pa_cons pe_str (pa_cons pe_str pa_nil))) (pa_cons (pe_tup (pa_cons pe_str (pa_cons pe_str pa_nil))) pa_nil)))))
      (pss_one (ps_if (PW.pt (pw_and (pt_cmpR op_notN (pv 11) pe_non (nomark _)) (pw_and1 (pt_not (pt_val (pe_callR D__law_same (hr.mono (by decide)) takes0 (pa_cons (pe_callR D_apply_work (hr.mono (by decide)) takes0 (pa_cons (pv 10) (pa_cons (pv 12) (pa_cons (pv 4) pa_nil)))) (pa_cons (pv 11) pa_nil)))))))) (pss_one (ps_ret pe_bl)) pss_nil)))))))))))))
      (pss_one (ps_ret pe_bl))))), ?_⟩
    simp only [cxOf, tYes, eq_self, if_true, if_false, wipe, rLenQ, rIxTQ, rIxLQ, rIxSQ, rInt1Q, rTupQ, rAppQ, rPopQ, rPopAtQ, rRevQ, rListS, rReprP, tLenSetT, tChain, tRetN, tRet, tSeq, tAsg, gName, tVar, tC, tCons, tNil, tCB, tOp, rI0, rI, tAndV, tOrV, tNotV, tIf, tTest, tB, tNot, tAnd, tOr, tIfS, tNext, tCallR, rIsK, rEq, rNe, tDrop, L2.start, List.map_cons, List.map_nil, List.length_cons, List.length_nil, Nat.reduceAdd, Nat.reduceSub, Nat.sub_self, List.replicate_zero, List.replicate_succ, List.append_nil, List.cons_append, List.nil_append, List.getElem?_cons_zero, List.getElem?_cons_succ, List.set_cons_zero, List.set_cons_succ, Option.some.injEq, List.cons.injEq, and_true, true_and, exists_eq_left, exists_eq_left', exists_eq_right, V.ty.injEq, V.int.injEq, V.bl.injEq, V.str.injEq, V.ref.injEq, exists_and_left, exists_const, reduceIte, reduceCtorEq, false_and, and_false, exists_false, or_false, false_or, Bool.not_true, Bool.not_false, Bool.false_eq_true, String.reduceEq, true_or, or_true, rNotT, tNNew, tNNotIn, tNGet, sNPut, tLenSetN, tPar, tAug, ipI, tDNotIn, sDPut, tDGet, tTup, tLst, tBM, tBM0, tCallD, tCall, rKdIn, tTNew, tTIn, tTGet, sTPut, Sg.tMethR, tMeth, tMakeR, tMake, tDGet2, tSAddK, rSAddK, rSInK, rSet0K, rExtend, rExtendT, tFld, sFld, tRevT, tDIn, tSl, tPart, tNoPart, tDelFrom, StX.tStar, tUn, rU, tM0, tM1]
    refine ⟨a, ns, rfl, ha, fun b g H1 hb0 hg0 s1 bg1 => ?_⟩
    refine ⟨b, g, 5, 0, rfl, bg1, by decide, by decide, by decide, fun r H2 hr c2 bg2 => ?_⟩
    refine ⟨_, rfl, b, g, 1 + r, 1, rfl, bg2, by decide, by omega, by omega, fun z H3 hzl hzn hzq c3 bg3 => ?_⟩
    have hz1 : 1 ≤ z.length := by omega
    have hz5 : z.length ≤ 5 := by omega
    refine ⟨3, rfl, by omega, by omega, ?_⟩
    refine for_gen (J := Itr 0 3) (n := 3) (LwO a b g z) ⟨bg3.le (by omega), _, _, _, _, _, _, _, _, _, _, rfl⟩ (fun i σ H' hi _ => hi) (fun σ H' _ => Nat.le_refl _) ?_ ?_
    case refine_2 =>
      rintro σ H' ⟨_, x3, x4, x5, x6, x7, x8, x9, x10, x11, x12, rfl⟩
      exact q H'
    rintro i x σ H' H4 hi ⟨bg4, x3, x4, x5, x6, x7, x8, x9, x10, x11, x12, rfl⟩ ⟨rfl, rfl⟩
    simp only [cxOf, tYes, eq_self, if_true, if_false, wipe, rLenQ, rIxTQ, rIxLQ, rIxSQ, rInt1Q, rTupQ, rAppQ, rPopQ, rPopAtQ, rRevQ, rListS, rReprP, tLenSetT, tChain, tRetN, tRet, tSeq, tAsg, gName, tVar, tC, tCons, tNil, tCB, tOp, rI0, rI, tAndV, tOrV, tNotV, tIf, tTest, tB, tNot, tAnd, tOr, tIfS, tNext, tCallR, rIsK, rEq, rNe, tDrop, L2.start, List.map_cons, List.map_nil, List.length_cons, List.length_nil, Nat.reduceAdd, Nat.reduceSub, Nat.sub_self, List.replicate_zero, List.replicate_succ, List.append_nil, List.cons_append, List.nil_append, List.getElem?_cons_zero, List.getElem?_cons_succ, List.set_cons_zero, List.set_cons_succ, Option.some.injEq, List.cons.injEq, and_true, true_and, exists_eq_left, exists_eq_left', exists_eq_right, V.ty.injEq, V.int.injEq, V.bl.injEq, V.str.injEq, V.ref.injEq, exists_and_left, exists_const, reduceIte, reduceCtorEq, false_and, and_false, exists_false, or_false, false_or, Bool.not_true, Bool.not_false, Bool.false_eq_true, String.reduceEq, true_or, or_true, rNotT, tNNew, tNNotIn, tNGet, sNPut, tLenSetN, tPar, tAug, ipI, tDNotIn, sDPut, tDGet, tTup, tLst, tBM, tBM0, tCallD, tCall, rKdIn, tTNew, tTIn, tTGet, sTPut, Sg.tMethR, tMeth, tMakeR, tMake, tDGet2, tSAddK, rSAddK, rSInK, rSet0K, rExtend, rExtendT, tFld, sFld, tRevT, tDIn, tSl, tPart, tNoPart, tDelFrom, StX.tStar, tUn, rU, tM0, tM1]
    refine ⟨b, g, z, 8, _, rfl, bg4, by omega, by decide, hz1, by omega, fun u H5 hul hus c5 bg5 => ⟨b, g, 15, _, rfl, bg5, by omega, by decide, by decide, fun r2 H6 hr2 c6 bg6 => ⟨_, rfl, u, 1 + r2, rfl, rfl, by omega, by omega, by omega, Nat.zero_le _, fun pst hpst => ?_⟩⟩⟩
    have hwl : (mulT u (1 + r2)).length ≤ 120 := by
      rw [mulT_len]
      exact Nat.le_trans (Nat.mul_le_mul (show 1 + r2 ≤ 15 by omega) hul) (by decide)
    have hws : SubZ z (mulT u (1 + r2)) := fun c hc => hus c (mulT_mem hc)
    generalize mulT u (1 + r2) = wd at hwl hws
    have hne := bg6.ne hpst
    have s7 := same_upd (o := HO.lst []) hpst
    have bg7 := bg6.same s7
    have g7 : (upd H6 pst (.lst [])) pst = some (.lst []) := upd_same
    generalize upd H6 pst (.lst []) = H7 at s7 bg7 g7
    refine ⟨_, rfl, b, g, 4, _, rfl, bg7, by omega, by decide, by decide, fun r3 H8 hr3 c8 bg8 => ⟨_, _, rfl, rfl, ((1 + r3 : Nat) : Int), rfl, by omega, by omega, ?_⟩⟩
    refine for_gen (J := Itr 0 (1 + r3)) (n := 1 + r3) (InI a b g pst z wd (20 + 500 * i + 8 + 2 + 1 + 1)) ⟨[], [], .non, _, _, _, _, _, _, bg8, c8 _ _ hne.1 hne.2 g7, .nil, rfl, (fun s hs => nomatch hs), True.intro, hwl, hws, fun _ => rfl, fun e => absurd rfl e, rfl⟩ (fun i σ H' hi _ => hi) (fun σ H' _ => Nat.le_refl _) ?_ ?_
    · rintro k x σ H' H9 hk ⟨ss, svs, wv, y3, y8, y9, y10, y11, y12, bg9, g9, k9, hsl, hst, hlo, hrl, hrs, hw0, hw1, rfl⟩ ⟨rfl, rfl⟩
      simp only [cxOf, tYes, eq_self, if_true, if_false, wipe, rLenQ, rIxTQ, rIxLQ, rIxSQ, rInt1Q, rTupQ, rAppQ, rPopQ, rPopAtQ, rRevQ, rListS, rReprP, tLenSetT, tChain, tRetN, tRet, tSeq, tAsg, gName, tVar, tC, tCons, tNil, tCB, tOp, rI0, rI, tAndV, tOrV, tNotV, tIf, tTest, tB, tNot, tAnd, tOr, tIfS, tNext, tCallR, rIsK, rEq, rNe, tDrop, L2.start, List.map_cons, List.map_nil, List.length_cons, List.length_nil, Nat.reduceAdd, Nat.reduceSub, Nat.sub_self, List.replicate_zero, List.replicate_succ, List.append_nil, List.cons_append, List.nil_append, List.getElem?_cons_zero, List.getElem?_cons_succ, List.set_cons_zero, List.set_cons_succ, Option.some.injEq, List.cons.injEq, and_true, true_and, exists_eq_left, exists_eq_left', exists_eq_right, V.ty.injEq, V.int.injEq, V.bl.injEq, V.str.injEq, V.ref.injEq, exists_and_left, exists_const, reduceIte, reduceCtorEq, false_and, and_false, exists_false, or_false, false_or, Bool.not_true, Bool.not_false, Bool.false_eq_true, String.reduceEq, true_or, or_true, rNotT, tNNew, tNNotIn, tNGet, sNPut, tLenSetN, tPar, tAug, ipI, tDNotIn, sDPut, tDGet, tTup, tLst, tBM, tBM0, tCallD, tCall, rKdIn, tTNew, tTIn, tTGet, sTPut, Sg.tMethR, tMeth, tMakeR, tMake, tDGet2, tSAddK, rSAddK, rSInK, rSet0K, rExtend, rExtendT, tFld, sFld, tRevT, tDIn, tSl, tPart, tNoPart, tDelFrom, StX.tStar, tUn, rU, tM0, tM1]
      refine ⟨b, g, z, _, rfl, bg9, by omega, hz1, hz5, hzn, fun s sa H10 hs c10 bg10 k10 => ?_⟩
      have hrl2 : (runS ss wd).length ≤ 3300 := Nat.le_trans hrl (bnd_le (by omega))
      have g10 := c10 _ _ hne.1 hne.2 g9
      have k10s := k9.tp (bch_tp bg9 c10)
      refine ⟨Nat.zero_le _, fun p1 hp1 => ⟨by rw [sizeLine_eq]; exact (by decide : 2 ≤ 16777216), fun p2 hp2 => ?_⟩⟩
      have s11 := same_upd (o := HO.tup []) hp1
      have s12 := same_upd (o := HO.tup [.str z, .ref p1]) hp2
      have hv : KeyV (upd (upd H10 p1 (.tup [])) p2 (.tup [.str z, .ref p1])) (.ref p2) (progK z none) := .tup upd_same (.cons (.str _) (.cons (.tup (s12 _ _ upd_same) .nil) .nil))
      have sA := Same.trans s11 s12
      generalize upd (upd H10 p1 (.tup [])) p2 (.tup [.str z, .ref p1]) = H11 at hv sA
      have f1 := lnF hzq (LN.one hs)
      refine ⟨_, _, z, runS ss wd, none, .st s, rfl, hv, prOk hz1 hz5 hzn hzq (fun t e => by cases e), k10.tp (TP.of_same sA), f1.isIn (by show 1 ≤ 4; omega), .inl rfl, txb_of hrs, askSt hzq hs hrl2, fun H12 s12 => ⟨_, z, runS ss wd, s, rfl, k10.tp (TP.of_same (Same.trans sA s12)), hs, by omega, fun H13 s13 => ⟨ans s (runS ss wd), rfl, fun H14 s14 => ⟨true, rfl, ifF rfl ⟨_, z, runS ss wd, s, rfl, k10.tp (TP.of_same (Same.trans (Same.trans sA s12) (Same.trans s13 s14))), hs, by omega, fun H15 s15 => ?_⟩⟩⟩⟩⟩
      have sB : Same H10 H15 := Same.trans (Same.trans (Same.trans sA s12) (Same.trans s13 s14)) s15
      have g15 := sB _ _ g10
      have t16 : TP H15 (upd H15 pst (.lst (svs ++ [.ref sa]))) := tp_upd g15 fun _ e => by cases e
      have tB := (TP.of_same sB).trans t16
      have b16 := bag_keep (bg10.same sB) (Chg.upd (H := H15) (p := pst) (S := [pst]) (o := .lst (svs ++ [.ref sa])) (by simp)) hne.1 hne.2
      have g16 : (upd H15 pst (.lst (svs ++ [.ref sa]))) pst = some (.lst (svs ++ [.ref sa])) := upd_same
      refine ⟨lst_ty g15, svs, g15, szlt (m := 1000) (by rw [k9.len, List.length_map]; omega), ?_⟩
      generalize upd H15 pst (.lst (svs ++ [.ref sa])) = H16 at t16 tB b16 g16
      have fin : ∀ (wv' : V) (H17 : Hp), Same H16 H17 → (∃ u, LN z (ss ++ [s]) u ∧ KeyV H17 wv' u.key) → InI a b g pst z wd (20 + 500 * i + 8 + 2 + 1 + 1) (k + 1) [some (.ref a), some (.ref b), some (.str z), y3, some (.str wd), some (.str (ans s (runS ss wd))), some wv', some (.ref pst), some (.int (0 + (k : Int))), some (.ref sa), y10, y11, y12] H17 := fun wv' H17 s17 hw => by
        refine ⟨ss ++ [s], svs ++ [.ref sa], wv', _, _, _, _, _, _, (b16.same s17).le (by omega), s17 _ _ g16, ?_, by rw [List.length_append, hsl]; rfl, fun s' hs' => ?_, low_snoc hlo hrl2, ?_, ?_, fun e => by omega, fun _ => hw, by rw [run_snoc]⟩
        · rw [List.map_append]
          exact ((k10s.tp tB).app (.cons (k10.tp tB) .nil)).tp (TP.of_same s17)
        · rcases List.mem_append.mp hs' with h | h
          · exact hst s' h
          · rw [List.mem_singleton.mp h]
            exact hs
        · rw [run_snoc]
          have := ans_len hs (runS ss wd)
          show _ ≤ 3 * bnd k + 3
          omega
        · rw [run_snoc]
          exact ans_sub hs hrs
      by_cases hk0 : k = 0
      · refine ifT (decide_eq_true (hw0 hk0)) (fin _ _ (fun _ _ z => z) ⟨.st s, ?_, k10.tp tB⟩)
        obtain rfl : ss = [] := List.length_eq_zero_iff.mp (by omega)
        exact LN.one hs
      · obtain ⟨u, hln, hwv⟩ := hw1 hk0
        refine ifF (decide_eq_false fun e => ?_) ⟨by rw [sizeLine_eq]; decide, fun p hp => ?_⟩
        · obtain ⟨_, _, e2, _⟩ := wk_view hwv
          rw [e] at e2
          cases e2
        · have s17 := same_upd (o := HO.tup [.str (Str.ofString "then"), wv, .ref sa]) hp
          exact fin _ _ s17 ⟨.th u (.st s), .snoc hln hs, .tup upd_same (.cons (.str _) (.cons ((hwv.tp (bch_tp bg9 c10)).tp (tB.trans (TP.of_same s17))) (.cons (k10.tp (tB.trans (TP.of_same s17))) .nil)))⟩
    · rintro σ H' ⟨ss, svs, wv, y3, y8, y9, y10, y11, y12, bg9, g9, k9, hsl, hst, hlo, hrl, hrs, hw0, hw1, rfl⟩
      obtain ⟨u, hln, hwv⟩ := hw1 (by omega)
      simp only [cxOf, tYes, eq_self, if_true, if_false, wipe, rLenQ, rIxTQ, rIxLQ, rIxSQ, rInt1Q, rTupQ, rAppQ, rPopQ, rPopAtQ, rRevQ, rListS, rReprP, tLenSetT, tChain, tRetN, tRet, tSeq, tAsg, gName, tVar, tC, tCons, tNil, tCB, tOp, rI0, rI, tAndV, tOrV, tNotV, tIf, tTest, tB, tNot, tAnd, tOr, tIfS, tNext, tCallR, rIsK, rEq, rNe, tDrop, L2.start, List.map_cons, List.map_nil, List.length_cons, List.length_nil, Nat.reduceAdd, Nat.reduceSub, Nat.sub_self, List.replicate_zero, List.replicate_succ, List.append_nil, List.cons_append, List.nil_append, List.getElem?_cons_zero, List.getElem?_cons_succ, List.set_cons_zero, List.set_cons_succ, Option.some.injEq, List.cons.injEq, and_true, true_and, exists_eq_left, exists_eq_left', exists_eq_right, V.ty.injEq, V.int.injEq, V.bl.injEq, V.str.injEq, V.ref.injEq, exists_and_left, exists_const, reduceIte, reduceCtorEq, false_and, and_false, exists_false, or_false, false_or, Bool.not_true, Bool.not_false, Bool.false_eq_true, String.reduceEq, true_or, or_true, rNotT, tNNew, tNNotIn, tNGet, sNPut, tLenSetN, tPar, tAug, ipI, tDNotIn, sDPut, tDGet, tTup, tLst, tBM, tBM0, tCallD, tCall, rKdIn, tTNew, tTIn, tTGet, sTPut, Sg.tMethR, tMeth, tMakeR, tMake, tDGet2, tSAddK, rSAddK, rSInK, rSet0K, rExtend, rExtendT, tFld, sFld, tRevT, tDIn, tSl, tPart, tNoPart, tDelFrom, StX.tStar, tUn, rU, tM0, tM1]
      have hl4 : ss.length ≤ 4 := by omega
      have f := lnF hzq hln
      refine ⟨by rw [sizeLine_eq]; decide, fun p1 hp1 => ⟨by rw [sizeLine_eq]; exact (by decide : 1 ≤ 16777216), fun p2 hp2 => ⟨by rw [sizeLine_eq]; exact (by decide : 2 ≤ 16777216), fun p3 hp3 => ?_⟩⟩⟩
      have s11 := same_upd (o := HO.tup [.str (Str.ofString "fun"), .str (Str.ofString "f"), wv]) hp1
      have s12 := same_upd (o := HO.tup [.ref p1]) hp2
      have s13 := same_upd (o := HO.tup [.str z, .ref p2]) hp3
      have sA := Same.trans s11 (Same.trans s12 s13)
      have hv : KeyV (upd (upd (upd H' p1 (.tup [.str (Str.ofString "fun"), .str (Str.ofString "f"), wv])) p2 (.tup [.ref p1])) p3 (.tup [.str z, .ref p2])) (.ref p3) (progK z (some u)) :=
        .tup upd_same (.cons (.str _) (.cons (.tup (s13 _ _ upd_same) (.cons (.tup (s13 _ _ (s12 _ _ upd_same)) (.cons (.str _) (.cons (.str _) (.cons (hwv.tp (TP.of_same sA)) .nil)))) .nil)) .nil))
      generalize upd (upd (upd H' p1 (.tup [.str (Str.ofString "fun"), .str (Str.ofString "f"), wv])) p2 (.tup [.ref p1])) p3 (.tup [.str z, .ref p2]) = H10 at hv sA
      have hpr : PrOk z (some u) := prOk hz1 hz5 hzn hzq fun t e => by
        cases e
        exact ⟨f.isIn hl4, f.fns⟩
      refine ⟨_, _, z, wd, some u, u, rfl, hv, hpr, hwv.tp (TP.of_same sA), f.isIn hl4, .inr rfl, txb_of hws, askW hzq hln hl4 hlo (by omega), fun H11 s14 => ⟨runS ss wd, by rw [sub_ff _ f.ff, hln.ev], fun H12 s15 => ⟨true, rfl, ifF rfl ⟨_, z, wd, u, rfl, hv.tp (TP.of_same (Same.trans s14 s15)), hpr, txb_of hws, askF hzq hln hl4 hlo (by omega), fun H13 s16 => ⟨runS ss wd, by rw [hln.ev], fun H14 s17 => ⟨true, rfl, ifF rfl ?_⟩⟩⟩⟩⟩⟩
      have sB : Same H10 H14 := Same.trans (Same.trans s14 s15) (Same.trans s16 s17)
      have sC := Same.trans sA sB
      have g14 := sC _ _ g9
      have k14 := k9.tp (TP.of_same sC)
      have hvl : svs.length = ss.length := by rw [k9.len, List.length_map]
      refine for_brk (fun σ H' => Same H14 H' ∧ ∃ ag y, (ag = V.non ∨ (Low ss (runS ss wd) ∧ ag = .str (runS ss (runS ss wd)))) ∧ σ = [some (.ref a), some (.ref b), some (.str z), y3, some (.str wd), some (.str (runS ss wd)), some wv, some (.ref pst), y8, y, some (.ref p3), some ag, y12]) (fun N tail => ?_) ?_
      · refine ⟨_, rfl, pst, rfl, ⟨svs, .inl (.inl g14)⟩, ?_⟩
        refine for_list (K := K) (a := pst) (xs := svs) (fun j σ H2 => Same H14 H2 ∧ Low (ss.take j) (runS ss wd) ∧ (runS (ss.take j) (runS ss wd)).length ≤ 10000 ∧ ∃ y, σ = [some (.ref a), some (.ref b), some (.str z), y3, some (.str wd), some (.str (runS ss wd)), some wv, some (.ref pst), y8, y, some (.ref p3), some (.str (runS (ss.take j) (runS ss wd))), y12]) ⟨fun _ _ z => z, True.intro, Nat.le_trans hrl (bnd_le4 (by omega)), _, rfl⟩ (fun j σ H2 _ h => .inl (.inl (h.1 _ _ g14))) ?_ ?_
        · rintro j x σ H2 hj ⟨s2, lo, ln, y, rfl⟩
          obtain ⟨kk, hk, hkv⟩ := k14.get hj
          rw [List.getElem?_map] at hk
          obtain ⟨s', hs', rfl⟩ := Option.map_eq_some_iff.mp hk
          simp only [cxOf, tYes, eq_self, if_true, if_false, wipe, rLenQ, rIxTQ, rIxLQ, rIxSQ, rInt1Q, rTupQ, rAppQ, rPopQ, rPopAtQ, rRevQ, rListS, rReprP, tLenSetT, tChain, tRetN, tRet, tSeq, tAsg, gName, tVar, tC, tCons, tNil, tCB, tOp, rI0, rI, tAndV, tOrV, tNotV, tIf, tTest, tB, tNot, tAnd, tOr, tIfS, tNext, tCallR, rIsK, rEq, rNe, tDrop, L2.start, List.map_cons, List.map_nil, List.length_cons, List.length_nil, Nat.reduceAdd, Nat.reduceSub, Nat.sub_self, List.replicate_zero, List.replicate_succ, List.append_nil, List.cons_append, List.nil_append, List.getElem?_cons_zero, List.getElem?_cons_succ, List.set_cons_zero, List.set_cons_succ, Option.some.injEq, List.cons.injEq, and_true, true_and, exists_eq_left, exists_eq_left', exists_eq_right, V.ty.injEq, V.int.injEq, V.bl.injEq, V.str.injEq, V.ref.injEq, exists_and_left, exists_const, reduceIte, reduceCtorEq, false_and, and_false, exists_false, or_false, false_or, Bool.not_true, Bool.not_false, Bool.false_eq_true, String.reduceEq, true_or, or_true, rNotT, tNNew, tNNotIn, tNGet, sNPut, tLenSetN, tPar, tAug, ipI, tDNotIn, sDPut, tDGet, tTup, tLst, tBM, tBM0, tCallD, tCall, rKdIn, tTNew, tTIn, tTGet, sTPut, Sg.tMethR, tMeth, tMakeR, tMake, tDGet2, tSAddK, rSAddK, rSInK, rSet0K, rExtend, rExtendT, tFld, sFld, tRevT, tDIn, tSl, tPart, tNoPart, tDelFrom, StX.tStar, tUn, rU, tM0, tM1]
          have et : ss.take (j + 1) = ss.take j ++ [s'] := by rw [List.take_add_one, hs']; rfl
          refine ⟨szle (m := 10000) ln, ?_⟩
          by_cases h4 : (runS (ss.take j) (runS ss wd)).length ≤ 400
          · refine ifT (decide_eq_true (by omega)) ⟨_, z, _, s', rfl, hkv.tp (TP.of_same s2), hst s' (List.mem_of_getElem? hs'), ln, fun H3 s3 => ⟨Same.trans s2 s3, ?_, ?_, ?_⟩⟩
            · rw [et]
              exact low_snoc lo (by omega)
            · rw [et, run_snoc]
              have := ans_len (hst s' (List.mem_of_getElem? hs')) (runS (ss.take j) (runS ss wd))
              omega
            · rw [et, run_snoc]
          · exact ifF (decide_eq_false (by omega)) (tail _ _ ⟨s2, _, _, .inl rfl, rfl⟩)
        · rintro σ H2 ⟨s2, lo, ln, y, rfl⟩
          rw [hvl, List.take_length] at lo ⊢
          exact tail _ _ ⟨s2, _, _, .inr ⟨lo, rfl⟩, rfl⟩
      · rintro σ H2 ⟨s2, ag, y, hag, rfl⟩
        simp only [cxOf, tYes, eq_self, if_true, if_false, wipe, rLenQ, rIxTQ, rIxLQ, rIxSQ, rInt1Q, rTupQ, rAppQ, rPopQ, rPopAtQ, rRevQ, rListS, rReprP, tLenSetT, tChain, tRetN, tRet, tSeq, tAsg, gName, tVar, tC, tCons, tNil, tCB, tOp, rI0, rI, tAndV, tOrV, tNotV, tIf, tTest, tB, tNot, tAnd, tOr, tIfS, tNext, tCallR, rIsK, rEq, rNe, tDrop, L2.start, List.map_cons, List.map_nil, List.length_cons, List.length_nil, Nat.reduceAdd, Nat.reduceSub, Nat.sub_self, List.replicate_zero, List.replicate_succ, List.append_nil, List.cons_append, List.nil_append, List.getElem?_cons_zero, List.getElem?_cons_succ, List.set_cons_zero, List.set_cons_succ, Option.some.injEq, List.cons.injEq, and_true, true_and, exists_eq_left, exists_eq_left', exists_eq_right, V.ty.injEq, V.int.injEq, V.bl.injEq, V.str.injEq, V.ref.injEq, exists_and_left, exists_const, reduceIte, reduceCtorEq, false_and, and_false, exists_false, or_false, false_or, Bool.not_true, Bool.not_false, Bool.false_eq_true, String.reduceEq, true_or, or_true, rNotT, tNNew, tNNotIn, tNGet, sNPut, tLenSetN, tPar, tAug, ipI, tDNotIn, sDPut, tDGet, tTup, tLst, tBM, tBM0, tCallD, tCall, rKdIn, tTNew, tTIn, tTGet, sTPut, Sg.tMethR, tMeth, tMakeR, tMake, tDGet2, tSAddK, rSAddK, rSInK, rSet0K, rExtend, rExtendT, tFld, sFld, tRevT, tDIn, tSl, tPart, tNoPart, tDelFrom, StX.tStar, tUn, rU, tM0, tM1]
        refine ⟨by rw [sizeLine_eq]; decide, fun q1 hq1 => ⟨by rw [sizeLine_eq]; decide, fun q2 hq2 => ⟨by rw [sizeLine_eq]; exact (by decide : 3 ≤ 16777216), fun q3 hq3 => ?_⟩⟩⟩
        have u1 := same_upd (o := HO.tup [.str (Str.ofString "fun"), .str (Str.ofString "f")]) hq1
        have u2 := same_upd (o := HO.tup [.str (Str.ofString "fun"), .str (Str.ofString "f")]) hq2
        have u3 := same_upd (o := HO.tup [.str (Str.ofString "then"), .ref q1, .ref q2]) hq3
        have uA := Same.trans u1 (Same.trans u2 u3)
        have kt : KeyV (upd (upd (upd H2 q1 (.tup [.str (Str.ofString "fun"), .str (Str.ofString "f")])) q2 (.tup [.str (Str.ofString "fun"), .str (Str.ofString "f")])) q3 (.tup [.str (Str.ofString "then"), .ref q1, .ref q2])) (.ref q3) (Wk.th .fn .fn).key :=
          .tup upd_same (.cons (.str _) (.cons (.tup (u3 _ _ (u2 _ _ upd_same)) (.cons (.str _) (.cons (.str _) .nil))) (.cons (.tup (u3 _ _ upd_same) (.cons (.str _) (.cons (.str _) .nil))) .nil)))
        generalize upd (upd (upd H2 q1 (.tup [.str (Str.ofString "fun"), .str (Str.ofString "f")])) q2 (.tup [.str (Str.ofString "fun"), .str (Str.ofString "f")])) q3 (.tup [.str (Str.ofString "then"), .ref q1, .ref q2]) = H5 at uA kt
        have sD : Same H' H5 := Same.trans sC (Same.trans s2 uA)
        have done : ∀ H6, Same H5 H6 → LwO a b g z (i + 1) [some (.ref a), some (.ref b), some (.str z), y3, some (.str wd), some (.str (runS ss wd)), some wv, some (.ref pst), y8, y, some (.ref p3), some ag, some (.ref q3)] H6 := fun H6 s6 => ⟨(bg9.same (Same.trans sD s6)).le (by omega), _, _, _, _, _, _, _, _, _, _, rfl⟩
        rcases hag with rfl | ⟨lo2, rfl⟩
        · exact ifF (by decide) (done H5 fun _ _ z => z)
        · refine ifT (by rw [decide_eq_false (by intro e; cases e)]; rfl) ⟨_, _, z, wd, some u, .th .fn .fn, rfl, hv.tp (TP.of_same (Same.trans sB (Same.trans s2 uA))), hpr, kt, twIn z, .inr rfl, txb_of hws, askT hzq hln hl4 hlo (by omega) lo2, fun H6 s6 => ⟨runS ss (runS ss wd), ?_, fun H7 s7 => ⟨true, rfl, ifF rfl (done H7 (Same.trans s6 s7))⟩⟩⟩
          show [V.str (ev u (ev u wd)), _] = _
          rw [hln.ev, hln.ev]
end
end K08

namespace K08
open PySem PySem.Spec PyProof.Rows L2 Sg
theorem facts {P : Program} {w : World} {K : PySem.W.Frag} {h : Heap} {mg : Str → Option Value} {f : Addr} (X : K.In h) (G : h.Ns mainGlobals mg) (hfa : mg ("law" : Str) = some (.ref f)) (c : SaysY exB fas fns tabs w K) :
    ∃ fd : FuncData, (∀ (s : Shared) (v : Value), BindsTo s fd ⟨[v], []⟩ [("script", v)]) ∧ ∀ base : Heap, K.In base → base.Ns mainGlobals mg → FnOk P w K mg base L2.CX0 12 f fd ["script"] (spLaw K) := by
  have T := tx_mk X G c.1 c.2
  obtain ⟨fd0, F0⟩ := T.d_law
  have same := hfa.symm.trans T.g_law
  cases same
  have bound := FunD.bindsA (ps := ["script"]) F0 fun _ _ _ _ _ _ us hl => match us, hl with | [_], _ => rfl
  exact ⟨fd0, fun s v => bound s [v] rfl, fun base _ _ => fn_law T F0⟩
end K08
open PySem PySem.W PySem.Calls PyProof.Rows
theorem PySem.Challenge.cw_signwright_k08_plain_steps_holds : PySem.Challenge.rw_signwright_k08_plain_steps.Holds := by
  w_on; o_law
  refine HandSHeadRun.head_any (r := OpenLaw.row PySem.Challenge.rw_signwright_k08_plain_steps) (q := view (OpenLaw.row PySem.Challenge.rw_signwright_k08_plain_steps).prog [118]) (H := K08.hk) (ob := K08.ob) (M := 8000) (loose := K08.loose) (d := HandSHeadRun.topDef (OpenLaw.row PySem.Challenge.rw_signwright_k08_plain_steps).prog 118) (kwd := []) K08.ob_eq
    (by kernel_rfl) (fun s => by kernel_rfl) K08.run (by kernel_rfl) (by kernel_rfl) (by kernel_rfl) (by rfl) (by first | assumption | decide +kernel) (by decide +kernel) ⟨rfl, rfl, rfl, rfl, rfl, by decide +kernel⟩ ?hw ?hc
  case hw => w_witness2
  case hc =>
    refine L2.walk_ofE (l := PySem.Challenge.rw_signwright_k08_plain_steps) (n := 63) (k := 12) (x := "script") (CX := L2.CX0) rfl (by decide) (by kernel_rfl) ⟨rfl, by decide, by decide⟩ ?F (fun _ _ _ _ z => z)
    intro w mg fa h Y G hmg0
    obtain ⟨K, KX, said⟩ := Y
    have hmg : mg ("law" : PySem.Str) = some (.ref fa) := by
      have name_is : (HandSHeadRun.topDef (OpenLaw.row PySem.Challenge.rw_signwright_k08_plain_steps).prog 118).name = ("law" : PySem.Str) := by kernel_rfl
      rw [← name_is]
      exact hmg0
    obtain ⟨fd, hb, hF⟩ := K08.facts (P := (PySem.Challenge.rw_signwright_k08_plain_steps).prog) (w := w) KX G hmg said
    exact ⟨K, fd, K08.spLaw K, KX, hb, fun H a xs _ _ hS => ⟨a, xs, rfl, hS, fun _ => rfl⟩, hF⟩
