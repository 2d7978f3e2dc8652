import PyProof.Rows.All
import Wide.All
import OpenK.AllK
import Wide.FinOn
import Lean
import HandS.ForMost
import HandS.ForExc
import HandS.Defaults
import HandS.Head0
import HandS.Head1
import HandS.Head2
import HandS.HeadEnd
import HandS.HeadHook1
import HandS.HeadHook2
import HandS.IsInst
import HandS.TupAny
import HandS.Style
import HandS.TryMany
import HandS.ExcIs
import PyProof.Rows.SetFrom
import PyProof.StrWalks
import KE.GoesEnum
import KE.KDictDisplayH
import PyProof.ListStr
import PyProof.StrLawsRepr
import PyProof.Rows.StrFirst
import HandS.TupLen
import HandS.TupSets
import KE.KeyNested
import PyProof.Rows.TupTab
import PyProof.ReprRoads
import PyProof.ReprLen
import HandS.FStr
import HandS.TupMul
import PyProof.TupleOfStr
import HandS.HeadHook3
import HandS.Star
import HandS.Flow
import HandS.NoneIn
import HandS.StrMore
import HandS.ExcInit
import HandS.ExcField
import HandS.Nested
import KE.KExcSuper
import PySem.Challenge.RW_signwright_k01_quotes_and_remarks
import PyProof.Rows.RegStrFacts
import PyProof.Rows.RegReprOcc
import PyProof.StrLawsLast
set_option Elab.async false
set_option linter.all false
set_option maxRecDepth 100000
set_option maxHeartbeats 0
namespace Sg
open PySem PySem.Spec PyProof.Rows L2
/-! ### plain data by kinds; isinstance of built-in classes -/
abbrev FnP (K : PySem.W.Frag) (x : Str) (st : Stmt) (f : Addr) (fd : FuncData) : Prop := FunD K x x (defArgs st) (defBody st) (defScope st) [] [] f fd
inductive Kd (K : PySem.W.Frag) (H : Hp) : V → Prop where
  | int (i : Int) : Kd K H (.int i)
  | bl (b : Bool) : Kd K H (.bl b)
  | non : Kd K H .non
  | str (x : Str) : Kd K H (.str x)
  | tup {a : Addr} {xs : List V} (h : SqT K H a xs) : Kd K H (.ref a)
def kdn : V → String
  | .int _ => "int"
  | .bl _ => "bool"
  | .non => "NoneType"
  | .str _ => "str"
  | _ => "tuple"
theorem sqT_ty {K : PySem.W.Frag} {H : Hp} {a : Addr} {xs : List V} (h : SqT K H a xs) : TyX K H (.ref a) (.type "tuple") := by
  rcases h with (h | ⟨o, h⟩) | ⟨o, its, n, h1, h2, _⟩
  · exact .base (.tup h)
  · exact .fTuple h
  · exact .kTuple h1 h2
theorem Kd.ty {K : PySem.W.Frag} {H : Hp} {x : V} (h : Kd K H x) : TyX K H x (.type (kdn x)) := by
  cases h with
  | int i => exact .base (.int i)
  | bl i => exact .base (.bl i)
  | non => exact .base .non
  | str i => exact .base (.str i)
  | tup h => exact sqT_ty h
def isaB (n : String) (x : V) : Bool := match x with
  | .int _ => n == "int"
  | .bl _ => n == "int" || n == "bool"
  | .str _ => n == "str"
  | .ref _ => n == "tuple"
  | _ => false
theorem Kd.kit {K : PySem.W.Frag} {H : Hp} {x : V} (h : Kd K H x) {n : String} (hn : n = "int" ∨ n = "bool" ∨ n = "str" ∨ n = "tuple") : PySem.W.kitOne K (.type (kdn x)) (.type n) = some (isaB n x) := by
  refine kit_ty ?_
  have a1 : kitB "int" "int" = some true ∧ kitB "int" "bool" = some false ∧ kitB "int" "str" = some false ∧ kitB "int" "tuple" = some false := by decide +kernel
  have a2 : kitB "bool" "int" = some true ∧ kitB "bool" "bool" = some true ∧ kitB "bool" "str" = some false ∧ kitB "bool" "tuple" = some false := by decide +kernel
  have a3 : kitB "NoneType" "int" = some false ∧ kitB "NoneType" "bool" = some false ∧ kitB "NoneType" "str" = some false ∧ kitB "NoneType" "tuple" = some false := by decide +kernel
  have a4 : kitB "str" "int" = some false ∧ kitB "str" "bool" = some false ∧ kitB "str" "str" = some true ∧ kitB "str" "tuple" = some false := by decide +kernel
  have a5 : kitB "tuple" "int" = some false ∧ kitB "tuple" "bool" = some false ∧ kitB "tuple" "str" = some false ∧ kitB "tuple" "tuple" = some true := by decide +kernel
  rcases hn with rfl | rfl | rfl | rfl <;> cases h <;> simp only [kdn, isaB, a1, a2, a3, a4, a5] <;> decide
/-- isinstance(x, T), x plain data, T one of int, bool, str, tuple -/
def rIsK (K : PySem.W.Frag) : List V → Hp → VK → Prop := fun xs H Q => match xs with
  | [x, .ty n] => (n = "int" ∨ n = "bool" ∨ n = "str" ∨ n = "tuple") ∧ Kd K H x ∧ Q (.bl (isaB n x)) H
  | _ => False
theorem call_isK {X : Cx} : CallR X (.builtin "isinstance") (rIsK X.K) := by
  intro pins s σ H xs us Q I r h
  match xs, h with
  | [x, .ty n], ⟨hn, hx, q⟩ => exact call_isi pins s σ H _ us Q I r ⟨x, .ty n, _, _, _, rfl, .ty n, hx.ty, hx.kit hn, q⟩
/-! ### defs, and calls of them -/
structure Dk (P : Program) (w : World) (K : PySem.W.Frag) (mg : Str → Option Value) (base : Heap) (k : Nat) (x : Str) (ps : List Str) (sp : Sp) : Prop where
  ok : ∃ fd, FnOk P w K mg base (L2.CX P w) k (He.ga K x) fd ps sp ∧ Binds K fd ps []
  kp : PySem.W.keepIn K (.ref (He.ga K x)) = true
  gm : mg x = some (.ref (He.ga K x))
def tCallR (sp : Sp) (W : WX) (t : TA) : TE := fun σ H Q => t σ H fun vs H1 => sp vs H1 Q fun cls d H' => W cls d σ H'
theorem pe_callR {X : Cx} {k : Nat} {x : Str} {ps : List Str} {sp : Sp} {W : WX} {e : Expr} {es : List Expr} {t : TA} {p pos : Pos} (D : Dk X.prog X.w X.K X.mg X.base k x ps sp) (hr : Room k X.A) (tk : Takes X W) (ha : PA X (e :: es) t) (hg : Gl X x := by rfl)
    (hdb : (x == ("__debug__" : Str)) = false := by decide) (he : starEach (e :: es) X.env = (false, eval e X.env) :: starEach es X.env := by rfl) (hpl : (backTo pos (starEach es X.env)).any (·.1) = false := by rfl) :
    PE X (.Call (.Name x p) (e :: es) [] pos) (tCallR sp W t) := by
  obtain ⟨fd, F, B⟩ := D.ok
  exact pe_callS (E := fun σ cls d H' => W cls d σ H') F hr hg D.gm D.kp B (fun σ => passAt tk σ) ha hdb he hpl
structure ExcF (K : PySem.W.Frag) (mg : Str → Option Value) (x : Str) : Prop where
  gm : mg x = some (.ref (He.ga K x))
  ex : PySem.W.excIn K (He.ga K x) He.veBase "ValueError.__new__" = true
  kp : PySem.W.keepIn K (.ref (He.ga K x)) = true
  sb : PySem.W.subIn K (.ref (He.ga K x)) (.type "BaseException") = some true
  tc : PySem.W.typeIn K (.ref (He.ga K x)) = some (.type "type")
theorem excF_mk {K : PySem.W.Frag} {mg : Str → Option Value} {x : Str} (g : mg x = some (.ref (He.ga K x))) (c : (He.Fa.exc x).ok K = true) : ExcF K mg x :=
  let ⟨h1, h2, h3, h4⟩ := He.exc_ok c
  ⟨g, h1, h2, h3, h4⟩
theorem ExcF.rs {X : Cx} {mg : Str → Option Value} {x : Str} (h : ExcF X.K mg x) : Raises X (.ref (He.ga X.K x)) := raises_own h.sb h.tc
/-! ### the hook of facts, with one Bool more -/
def obsX (ex : PySem.W.Frag → Bool) (fa : List He.Fa) (fn : List He.DefD) (K : PySem.W.Frag) : Bool × He.AlD := (ex K, He.obsD fa fn K)
def obsXG (n : Nat) (ex : PySem.W.Frag → Bool) (fa : List He.Fa) (fn : List He.DefD) (g : Addr → Option Obj) : Bool × He.AlD := obsX ex fa fn (He.frG g (He.asD g n))
def SaysX (ex : PySem.W.Frag → Bool) (fa : List He.Fa) (fn : List He.DefD) (K : PySem.W.Frag) : Prop := He.SaysD fa fn K ∧ ex K = true
def hookX (n : Nat) (ex : PySem.W.Frag → Bool) (fa : List He.Fa) (fn : List He.DefD) : PySem.W.Hook where
  α := Bool × He.AlD
  obs := fun s => obsXG n ex fa fn s.heap.get?
  val := fun _ => (true, He.valD fn)
  says := fun _ h => ∃ K : PySem.W.Frag, K.In h ∧ SaysX ex fa fn K
  of := fun _ _ e => ⟨_, He.frG_in, congrArg (fun z : Bool × He.AlD => z.2) e, congrArg (fun z : Bool × He.AlD => z.1) e⟩
  keeps := fun _ _ _ ⟨K, hK, c⟩ k => ⟨K, PySem.W.Frag.In.keeps hK k, c⟩
theorem obsXG_eq {n : Nat} {ex : PySem.W.Frag → Bool} {fa : List He.Fa} {fn : List He.DefD} {g : Addr → Option Obj} {s : Shared} (h : ∀ a, g a = s.heap.get? a) : obsXG n ex fa fn g = (hookX n ex fa fn).obs s := by
  have e : g = s.heap.get? := funext h
  rw [e]; rfl
/-! ### heaps -/
/-- what stood but the list at p is as it was -/
def But (p : Addr) (H H' : Hp) : Prop := ∀ b o, b ≠ p → H b = some o → H' b = some o
/-- tuples stay -/
def TK (H H' : Hp) : Prop := (∀ b xs, H b = some (.tup xs) → H' b = some (.tup xs)) ∧ ∀ b o u, H b = some (.frz o u) → H' b = some (.frz o u)
theorem TK.refl (H : Hp) : TK H H := ⟨fun _ _ h => h, fun _ _ _ h => h⟩
theorem TK.trans {H H1 H2 : Hp} (a : TK H H1) (b : TK H1 H2) : TK H H2 := ⟨fun c xs h => b.1 c xs (a.1 c xs h), fun c o u h => b.2 c o u (a.2 c o u h)⟩
theorem TK.of_same {H H' : Hp} (s : Same H H') : TK H H' := ⟨fun b _ h => s b _ h, fun b _ _ h => s b _ h⟩
theorem TK.of_but {H H' : Hp} {p : Addr} {xs : List V} (s : But p H H') (hp : H p = some (.lst xs)) : TK H H' :=
  ⟨fun b _ h => s b _ (fun z => by rw [z, hp] at h; cases h) h, fun b _ _ h => s b _ (fun z => by rw [z, hp] at h; cases h) h⟩
theorem TK.sqT {K : PySem.W.Frag} {H H' : Hp} {a : Addr} {xs : List V} (k : TK H H') (h : SqT K H a xs) : SqT K H' a xs := by
  rcases h with (h | ⟨o, h⟩) | h
  · exact .inl (.inl (k.1 _ _ h))
  · exact .inl (.inr ⟨o, k.2 _ _ _ h⟩)
  · exact .inr h
theorem Same.sqT {K : PySem.W.Frag} {H H' : Hp} {a : Addr} {xs : List V} (e : Same H H') (h : SqT K H a xs) : SqT K H' a xs := (TK.of_same e).sqT h
theorem same_upd {H : Hp} {p : Addr} {o : HO} (h : H p = none) : Same H (upd H p o) := fun b x e => by
  rw [upd_ne (ne_of_none e h)]
  exact e
theorem But.refl (p : Addr) (H : Hp) : But p H H := fun _ _ _ h => h
theorem But.trans {p : Addr} {H H1 H2 : Hp} (a : But p H H1) (b : But p H1 H2) : But p H H2 := fun c o n h => b c o n (a c o n h)
theorem But.of_same {p : Addr} {H H' : Hp} (s : Same H H') : But p H H' := fun b o _ h => s b o h
theorem But.upd {p : Addr} {H : Hp} {o : HO} : But p H (upd H p o) := fun b _ n h => by rw [upd_ne n]; exact h
/-! ### loops over any iterator of a known number of turns -/
theorem for_gen {J : It} {n : Nat} {g : TG} {tb : TS} {D : Ends} {σ : L2.St} {H : Hp} (Pv : Nat → L2.St → Hp → Prop) (h0 : Pv 0 σ H) (hg : ∀ i σ H, i < n → Pv i σ H → J.go i H) (he : ∀ σ H, Pv n σ H → J.stop n H)
    (hs : ∀ i x σ H H', i < n → Pv i σ H → J.yld i H x H' → g x σ H' fun σ2 H2 => tb { D with nx := Pv (i + 1), ct := Pv (i + 1), bk := D.nx } σ2 H2) (hd : ∀ σ H, Pv n σ H → D.nx σ H) :
    ∃ W : Nat → Nat → L2.St → Hp → Prop, (∃ m, W 0 m σ H) ∧ ∀ i m σ H, W i m σ H →
      (J.stop i H ∧ D.nx σ H) ∨ (J.go i H ∧ ∃ N : L2.St → Hp → Prop, (∀ σ' H', N σ' H' → ∃ m', m' < m ∧ W (i + 1) m' σ' H') ∧ ∀ x H', J.yld i H x H' → g x σ H' fun σ2 H2 => tb { D with nx := N, ct := N, bk := D.nx } σ2 H2) := by
  refine ⟨fun i m σ H => m + i = n ∧ Pv i σ H, ⟨n, rfl, h0⟩, fun i m σ H hW => ?_⟩
  obtain ⟨e, p⟩ := hW
  cases m with
  | zero =>
    have e2 : i = n := by omega
    subst e2
    exact .inl ⟨he σ H p, hd σ H p⟩
  | succ m =>
    have hlt : i < n := by omega
    exact .inr ⟨hg i σ H hlt p, Pv (i + 1), fun σ' H' p' => ⟨m, Nat.lt_succ_self m, by omega, p'⟩, fun x H' y => hs i x σ H H' hlt p y⟩
theorem lc_gen {J : It} {n : Nat} {g : TG} {tt : TT} {te : TE} {vs : List Nat} {σ : L2.St} {H1 : Hp} {D : Addr} {Qd : Hp → Prop} (Pv : Nat → Hp → Prop) (h0 : Pv 0 (upd H1 D (.lst []))) (hg : ∀ i H, i < n → Pv i H → J.go i H) (he : ∀ H, Pv n H → J.stop n H)
    (hs : ∀ i x H H', i < n → Pv i H → J.yld i H x H' → g x (wipe σ vs) H' fun σ2 H2 => wipe σ2 vs = wipe σ vs ∧ tt σ2 H2 fun b H3 =>
      if b = true then te σ2 H3 fun y H4 => ∃ acc, H4 D = some (.lst acc) ∧ acc.length < sizeLine ∧ Pv (i + 1) (upd H4 D (.lst (acc ++ [y]))) else Pv (i + 1) H3) (hd : ∀ H, Pv n H → Qd H) :
    ∃ W : Nat → Nat → Hp → Prop, (∃ m, W 0 m (upd H1 D (.lst []))) ∧ ∀ i m H, W i m H →
      (J.stop i H ∧ Qd H) ∨ (J.go i H ∧ ∃ Nx : Hp → Prop, (∀ H', Nx H' → ∃ m', m' < m ∧ W (i + 1) m' H') ∧ ∀ x H', J.yld i H x H' → g x (wipe σ vs) H' fun σ2 H2 => wipe σ2 vs = wipe σ vs ∧ tt σ2 H2 fun b H3 =>
        if b = true then te σ2 H3 fun y H4 => ∃ acc, H4 D = some (.lst acc) ∧ acc.length < sizeLine ∧ Nx (upd H4 D (.lst (acc ++ [y]))) else Nx H3) := by
  refine ⟨fun i m H => m + i = n ∧ Pv i H, ⟨n, rfl, h0⟩, fun i m H hW => ?_⟩
  obtain ⟨e, p⟩ := hW
  cases m with
  | zero =>
    have e2 : i = n := by omega
    subst e2
    exact .inl ⟨he H p, hd H p⟩
  | succ m =>
    have hlt : i < n := by omega
    exact .inr ⟨hg i H hlt p, Pv (i + 1), fun H' p' => ⟨m, Nat.lt_succ_self m, by omega, p'⟩, fun x H' y => hs i x H H' hlt p y⟩
end Sg

/-! set(..) of a text: its signs, each once -/
namespace Sg
open PySem
section
variable {κ : Type} [DecidableEq κ]
def addOne (acc : List κ) (v : κ) : List κ := if v ∈ acc then acc else acc ++ [v]
def once (l : List κ) : List κ := l.foldl addOne []
theorem addOne_mem {acc : List κ} {v k : κ} : k ∈ addOne acc v ↔ k ∈ acc ∨ k = v := by
  unfold addOne
  by_cases h : v ∈ acc
  · rw [if_pos h]
    exact ⟨.inl, fun q => q.elim id fun e => e ▸ h⟩
  · rw [if_neg h, List.mem_append, List.mem_singleton]
theorem addOne_len {acc : List κ} {v : κ} : (addOne acc v).length ≤ acc.length + 1 := by
  unfold addOne
  by_cases h : v ∈ acc
  · rw [if_pos h]; exact Nat.le_succ _
  · rw [if_neg h, List.length_append]; exact Nat.le_refl _
theorem once_snoc (l : List κ) (v : κ) : once (l ++ [v]) = addOne (once l) v := by
  unfold once
  rw [List.foldl_append]
  rfl
theorem once_len (l : List κ) : (once l).length ≤ l.length := by
  have h : ∀ (l acc : List κ), (l.foldl addOne acc).length ≤ acc.length + l.length := by
    intro l
    induction l with
    | nil => intro acc; exact Nat.le_refl _
    | cons a r ih =>
      intro acc
      have h1 := ih (addOne acc a)
      have h2 := addOne_len (acc := acc) (v := a)
      show ((r.foldl addOne (addOne acc a))).length ≤ acc.length + (r.length + 1)
      omega
  have h1 := h l []
  rw [List.length_nil, Nat.zero_add] at h1
  exact h1
theorem once_mem (l : List κ) (k : κ) : k ∈ once l ↔ k ∈ l := by
  have h : ∀ (l acc : List κ), k ∈ l.foldl addOne acc ↔ k ∈ acc ∨ k ∈ l := by
    intro l
    induction l with
    | nil => intro acc; simp
    | cons a r ih =>
      intro acc
      show k ∈ r.foldl addOne (addOne acc a) ↔ _
      rw [ih, addOne_mem, List.mem_cons]
      exact or_assoc
  have h1 := h l []
  simpa [once] using h1
theorem once_nodup_self {l : List κ} (h : l.Nodup) : once l = l := by
  have key : ∀ (r acc : List κ), (acc ++ r).Nodup → r.foldl addOne acc = acc ++ r := by
    intro r
    induction r with
    | nil => intro acc _; simp
    | cons a r ih =>
      intro acc hn
      have hna : a ∉ acc := fun hm => by
        have := List.nodup_append.mp hn
        exact this.2.2 a hm a (List.mem_cons_self ..) rfl
      show r.foldl addOne (addOne acc a) = _
      have e : addOne acc a = acc ++ [a] := if_neg hna
      rw [e, ih (acc ++ [a]) (by simpa using hn)]
      simp
  have := key l [] (by simpa using h)
  simpa [once] using this
end
section
variable {prog : Program} {w : World} {A : Around} {R : Result → Shared → Prop} {it : Addr} {fp wr : List Addr} {G : Array GenState → Array GenState → Prop} {n : Nat} {Pk : Nat → Value → Prop} {Sx : Nat → Shared → Prop}
variable {κ : Type} [DecidableEq κ]
def upto (val : Nat → κ) (i : Nat) : List κ := once ((List.range i).map val)
theorem upto_zero (val : Nat → κ) : upto val 0 = [] := rfl
theorem upto_succ (val : Nat → κ) (i : Nat) : upto val (i + 1) = addOne (upto val i) (val i) := by
  unfold upto
  rw [List.range_succ, List.map_append, List.map_singleton, once_snoc]
theorem upto_len (val : Nat → κ) (i : Nat) : (upto val i).length ≤ i := by
  have h := once_len ((List.range i).map val)
  rw [List.length_map, List.length_range] at h
  exact h
theorem setOf_as {knd : KeyKind prog w κ} {h : Heap} {a : Addr} {S T : κ → Bool} {m q : Nat} (x : h.SetOf knd a S m) (e : ∀ k, S k = T k) (en : m = q) : h.SetOf knd a T q := by
  obtain rfl : S = T := funext e
  subst en
  exact x
theorem upto_add (val : Nat → κ) (i : Nat) (k : κ) : (decide (k ∈ upto val i) || decide (k = val i)) = decide (k ∈ upto val (i + 1)) := by
  rw [upto_succ]
  by_cases h : k ∈ addOne (upto val i) (val i)
  · rw [decide_eq_true h]
    rcases addOne_mem.mp h with q | q
    · simp [q]
    · simp [q]
  · rw [decide_eq_false h]
    have h1 : ¬ k ∈ upto val i := fun q => h (addOne_mem.mpr (.inl q))
    have h2 : ¬ k = val i := fun q => h (addOne_mem.mpr (.inr q))
    simp [h1, h2]
theorem upto_count (val : Nat → κ) (i : Nat) : (if decide (val i ∈ upto val i) = true then (upto val i).length else (upto val i).length + 1) = (upto val (i + 1)).length := by
  rw [upto_succ]
  unfold addOne
  by_cases h : val i ∈ upto val i
  · rw [decide_eq_true h, if_pos rfl, if_pos h]
  · rw [decide_eq_false h, if_neg Bool.false_ne_true, if_neg h, List.length_append]
    rfl
/-- set.update over any walk of values that are keys of a kind -/
theorem code_upd {knd : KeyKind prog w κ} (Wk : WalksS prog w A.in1 it fp wr G n Pk Sx) (a : Addr) (haf : a ∉ fp) (val : Nat → κ) (hval : ∀ i v, Pk i v → knd.is (val i) v = true ∧ v.scannable = true) (hb : n + 1 < scanBound) :
    ∀ (m i : Nat) (s : Shared), m + i = n → Sx i s → s.heap.SetOf knd a (fun k => decide (k ∈ upto val i)) (upto val i).length →
      (∀ s', Moved (a :: wr) G s s' → s'.heap.SetOf knd a (fun k => decide (k ∈ upto val n)) (upto val n).length → R (.ok (.ret .none)) s') →
      codeAny (model prog w) A (.builtin "set.update.loop" ⟨[.ref a, .ref it], []⟩) R s := by
  have haw : a ∉ wr := fun q => haf (Wk.sub _ q)
  have sub : ∀ b ∈ wr, b ∈ a :: wr := fun b q => List.mem_cons_of_mem _ q
  have keep : ∀ {s s' : Shared} {S : κ → Bool} {q : Nat}, Moved wr G s s' → s.heap.SetOf knd a S q → s'.heap.SetOf knd a S q := fun hm ⟨o, es, ep, t, ho, r⟩ => ⟨o, es, ep, t, hm.heap a _ haw ho, r⟩
  intro m
  induction m with
  | zero =>
    intro i s e hst hS hR
    obtain rfl : i = n := by omega
    refine codeAny_builtin PyProof.Rows.F.entry_set_update_loop ?_
    rw [Around.under_plainId PyProof.Rows.F.plain_set_update_loop _]
    refine wpAny_bind (Wk.done s _ _ hst fun s' hm => ?_)
    show wpAny _ A.in1 (ret Value.none) _ _ s'
    exact wpAny_pure (hR s' (hm.mono sub) (keep hm hS))
  | succ m ih =>
    intro i s e hst hS hR
    have hlt : i < n := by omega
    refine codeAny_builtin PyProof.Rows.F.entry_set_update_loop ?_
    rw [Around.under_plainId PyProof.Rows.F.plain_set_update_loop _]
    refine wpAny_bind (Wk.item i s _ _ hlt hst fun v s' hP hst' hm => ?_)
    obtain ⟨hk, hsc⟩ := hval i v hP
    show wpAny _ A.in1 (holding [v] (setAdd a v) >>= _) _ _ s'
    refine wpAny_bind (wpAny_holding ?_)
    unfold setAdd
    refine wpAny_holding (wpAny_bind (knd.pyHash hk ?_))
    have room : (upto val i).length + 1 < scanBound := by
      have := upto_len val i
      omega
    have hS1 := keep hm hS
    refine wpAny_setAddHashed_of (knd := knd) (s := { s' with toks := s'.toks + 1 }) hk hsc hS1 room fun h' sb hS2 => ?_
    have hS3 := setOf_as hS2 (upto_add val i) (upto_count val i)
    refine wpAny_pure ⟨plainId_quiet PyProof.Rows.F.plain_set_update_loop _, ih (i + 1) _ (by omega) (Wk.frame _ s' _ _ hst' (Nat.le_succ _) fun b q o z => ?_) hS3 fun s2 hm2 hS4 => ?_⟩
    · rw [sb.2 b fun z2 : b = a => haf (by rw [← z2]; exact q)]
      exact z
    · refine hR s2 (Moved.trans Wk.gtrans ((hm.mono sub).then_heap (Nat.le_succ _) fun b o q z => ?_) hm2) hS4
      rw [sb.2 b fun z2 : b = a => q (by rw [z2]; exact List.mem_cons_self)]
      exact z
end
namespace FX
theorem sub_str_set : isSubtype (.type "str") (.type "set") = pure false := by rw [isSubtype_type]; kernel_rfl
theorem sub_str_frozenset : isSubtype (.type "str") (.type "frozenset") = pure false := by rw [isSubtype_type]; kernel_rfl
end FX
def sgn (c : Nat) : Str := ⟨#[c]⟩
section
variable {prog : Program} {w : World} {A : Around} {E : Value → Shared → Prop} {s : Shared}
theorem call_set_text {x : Str} {u : Tok} {Q : Value → Shared → Prop} (hh : A.handled = none) (hb : x.cps.size + 1 < scanBound)
    (h : ∀ (h' : Heap) (tk : Nat), h'.SetOf (strKind prog w) s.heap.objs.size (fun k => decide (k ∈ upto (fun i => sgn (x.cps.getD i 0)) x.cps.size)) (upto (fun i => sgn (x.cps.getD i 0)) x.cps.size).length →
      (∀ b o, b < s.heap.objs.size → s.heap.get? b = some o → h'.get? b = some o) → Q (.ref s.heap.objs.size) { s with heap := h', toks := tk }) :
    wpAny (model prog w) A (call (.type "set") [.str x u]) Q E s := by
  obtain ⟨c, tl, hmro⟩ := F.called_set.mro
  have hmade := F.called_set.made
  have hsub := F.called_set.sub
  refine wpAny_call (codeAny_of_tree ?_)
  show wpAny _ _ (callAny (.type "set") _) _ _ _
  refine wpAny_pure ⟨Code.quiet_builtin _ (by decide +kernel), codeAny_builtin F.entry_type_call ?_⟩
  rw [Around.under_plain (weight_type_call_type "set" [.str x u] []) rfl]
  have h1 := F.called_set.notType
  have h2 := F.called_set.canCreate
  have hct := F.typeCall_set_1 (.str x u)
  repeat (any_goals (first | assumption | wp_step))
  have fresh : ∀ led : Bool, (s.heap.push { cls := .type "set", dict := none, data := .set #[] 0 (.fresh 0 0 led) }).get? s.heap.objs.size = some { cls := .type "set", dict := none, data := .set #[] 0 (.fresh 0 0 led) } := fun led => Heap.get?_push_size _ rfl
  refine codeAny_mono (code_set_new_1 (.str x u) (E := E) (Q₁ := fun z s₁ => ∃ led : Bool, z = .ref s.heap.objs.size ∧ s₁ = { s with heap := s.heap.push { cls := .type "set", dict := none, data := .set #[] 0 (.fresh 0 0 led) } }) fun led => ⟨led, rfl, rfl⟩) fun r s₁ hr => ?_
  cases r with
  | error e => exact hr
  | ok fl =>
    cases fl with
    | ret z =>
      obtain ⟨led, rfl, rfl⟩ := hr
      have hT : Shared.TypeIs { s with heap := s.heap.push { cls := .type "set", dict := none, data := .set #[] 0 (.fresh 0 0 led) } } (.ref s.heap.objs.size) "set" := ⟨_, fresh led, rfl⟩
      have hli := F.called_set.init.lookup
      have hbi := F.called_set.init.bind (.ref s.heap.objs.size)
      repeat (any_goals (first | assumption | wp_step))
      refine codeAny_mono (codeAny_call_builtin (R := wants (fun r s₂ => r = .none ∧ ∃ h' tk, s₂ = { s with heap := h', toks := tk } ∧
          h'.SetOf (strKind prog w) s.heap.objs.size (fun k => decide (k ∈ upto (fun i => sgn (x.cps.getD i 0)) x.cps.size)) (upto (fun i => sgn (x.cps.getD i 0)) x.cps.size).length ∧
          (∀ b o, b < s.heap.objs.size → s.heap.get? b = some o → h'.get? b = some o)) E) F.called_set.init.plain F.entry_set_init (check_set_init_1 hT ?_)) fun r₂ s₂ hr₂ => ?_
      · have hsls := FX.sub_str_set
        have hslf := FX.sub_str_frozenset
        unfold Builtin.«set.__init__» noKeywords Builtin.Frozenset.updateFrom
        generalize hPI : pyIter = PI
        wp_walk
        subst hPI
        refine wpAny_pyIter_str fun o Sx mk st0 => ?_
        refine wpAny_bind (wpAny_runValue ?_)
        have hh3 : A.in1.in1.in1.handled = none := by simp [hh]
        have hsz : (s.heap.push { cls := .type "set", dict := none, data := .set #[] 0 (.fresh 0 0 led) }).objs.size = s.heap.objs.size + 1 := Heap.size_push ..
        have haf : s.heap.objs.size ∉ [(s.heap.push { cls := .type "set", dict := none, data := .set #[] 0 (.fresh 0 0 led) }).objs.size] := by
          rw [hsz]
          simp
        have hset : ((s.heap.push { cls := .type "set", dict := none, data := .set #[] 0 (.fresh 0 0 led) }).push o).get? s.heap.objs.size = some { cls := .type "set", dict := none, data := .set #[] 0 (.fresh 0 0 led) } := Heap.get?_push_of_some _ (fresh led)
        refine code_upd (knd := strKind prog w) (n := x.cps.size) ((mk _ hh3).toS) s.heap.objs.size haf (fun i => sgn (x.cps.getD i 0)) (fun i v hv => ?_) hb x.cps.size 0 _ (Nat.add_zero _) st0 ?_ fun s' hm hS => ?_
        · obtain ⟨c, u', hc, rfl⟩ := hv
          have e : x.cps.getD i 0 = c := by
            rw [Array.getD_eq_getD_getElem?, hc]
            rfl
          exact ⟨by show (strKind prog w).is (sgn (x.cps.getD i 0)) (.str ⟨#[c]⟩ u') = true; rw [e]; exact strKind_is _ _ _ _, rfl⟩
        · exact setOf_as ((PyProof.Rows.setObjOf_fresh (knd := strKind prog w) led).setOf hset (by unfold scanBound; omega)) (fun _ => rfl) rfl
        · obtain ⟨h', g', d', tk', os'⟩ := s'
          obtain rfl : g' = s.gens := hm.gens
          obtain rfl : d' = s.drawn := hm.drawn
          obtain rfl : os' = s.os := hm.os
          refine wpAny_pure (wpAny_pure ⟨rfl, h', tk', rfl, hS, fun b o2 hlt e => ?_⟩)
          refine hm.heap b o2 ?_ (Heap.get?_push_of_some _ (Heap.get?_push_of_some _ e))
          rw [hsz]
          simp only [List.mem_cons, List.not_mem_nil, or_false, not_or]
          exact ⟨Nat.ne_of_lt hlt, Nat.ne_of_lt (Nat.lt_succ_of_lt hlt)⟩
      · cases r₂ with
        | error e => exact hr₂
        | ok fl₂ =>
          cases fl₂ with
          | ret r =>
            obtain ⟨rfl, h', tk, rfl, hS', hk'⟩ := hr₂
            repeat (any_goals (first | assumption | wp_step))
            exact h _ _ hS' hk'
          | _ => exact hr₂.elim
    | _ => exact hr.elim
end
end Sg

/-! rules: len(set(text)), enumerate(tuple), repr of plain values, list(text), {(a, b): v} -/
namespace Sg
open PySem PySem.Spec PyProof.Rows L2
def signsOf (x : Str) : List Str := x.cps.toList.map sgn
/-! ### len(set(text)) -/
def tLenSetT (ta : TE) : TE := fun σ H Q => ta σ H fun x H1 => match x with
  | .str z => z.length ≤ 1000 ∧ Q (.int ((once (signsOf z)).length : Nat)) H1
  | _ => False
theorem upto_text (z : Str) : upto (fun i => sgn (z.cps.getD i 0)) z.cps.size = once (signsOf z) := by
  unfold upto signsOf
  congr 1
  apply List.ext_getElem?
  intro i
  rw [List.getElem?_map, List.getElem?_map]
  by_cases h : i < z.cps.size
  · rw [List.getElem?_range h, Array.getElem?_toList, Array.getElem?_eq_getElem h, Option.map_some, Option.map_some, Array.getD_eq_getD_getElem?, Array.getElem?_eq_getElem h]
    rfl
  · rw [List.getElem?_eq_none (by simpa using h), Array.getElem?_toList, Array.getElem?_eq_none (by simpa using h)]
    rfl
theorem pe_lenSetT {X : Cx} {a : Expr} {ta : TE} {p p2 q pos : Pos} (hg : Gl X "len") (hm : X.mg "len" = none) (hg2 : Gl X "set") (hm2 : X.mg "set" = none) (ha : PE X a ta) (hc : X.calm = true)
    (na : starEach [a] X.env = (false, eval a X.env) :: starEach [] X.env := by rfl) : PE X (.Call (.Name "len" p) [.Call (.Name "set" p2) [a] [] q] [] pos) (tLenSetT ta) := by
  refine ⟨fun pins s σ H Q I h => ?_⟩
  refine Call_ (ld_blt I hg hm PySem.boot_len ?_)
  refine PyProof.Rows.callWith_builtin1 (PyProof.Rows.args_cons ?_ rfl) rfl rfl
  refine Call_ (ld_blt I hg2 hm2 PyProof.Rows.boot_set ?_)
  refine PyProof.Rows.callWith_type1 (PyProof.Rows.args_cons (thn (ha.run pins s σ H _ I h) fun v s1 ⟨x, H1, I1, r1, q1⟩ => PyProof.Rows.args_nil ?_) na) na rfl
  match x, q1 with
  | .str z, ⟨hz, q2⟩ =>
    obtain ⟨u, rfl⟩ := r1
    refine call_set_text (I1.ok.hd hc) (by unfold scanBound; show z.length + 1 < _; omega) fun h' tk hS hk => PyProof.Rows.args_nil ?_
    rw [upto_text] at hS
    obtain ⟨o, es, ep, t, ho, hex, hd, _, _, _, hf, hn⟩ := hS
    have I2 : Inv X pins σ H1 { s1 with heap := h', toks := tk } := I1.kept fun b o e => hk b o (Heap.lt_size e) e
    have hlen : (once (signsOf z)).length ≤ 1000 := by
      have h1 := once_len (signsOf z)
      unfold signsOf at h1
      rw [List.length_map, Array.length_toList] at h1
      exact Nat.le_trans h1 hz
    exact call_len_set ho hex hd hf (by rw [hn] <;> omega) ⟨.int ((once (signsOf z)).length : Nat), H1, I2.tok _, ⟨_, by rw [hn]⟩, q2⟩
/-! ### repr of None, a bool, an int, a text -/
def rReprP : List V → Hp → VK → Prop := fun xs H Q => match xs with
  | [.non] => Q (.str "None") H
  | [.bl b] => Q (.str (if b then "True" else "False")) H
  | [.int i] => i.natAbs.log2 < 1920 ∧ Q (.str (toString i)) H
  | [.str z] => (reprText z).length ≤ sizeLine ∧ Q (.str (reprText z)) H
  | _ => False
theorem call_reprP {X : Cx} : CallR X (.builtin "repr") rReprP := by
  intro pins s σ H xs us Q I r h
  match xs, h with
  | [.non], q =>
    obtain ⟨u, rfl, rfl⟩ := vals1 r
    exact PySem.P.repr_of_none ⟨.str _, H, I.tok _, ⟨_, rfl⟩, q⟩
  | [.bl b], q =>
    obtain ⟨u, rfl, rfl⟩ := vals1 r
    exact PySem.P.repr_of_bool ⟨.str _, H, I.tok _, ⟨_, rfl⟩, q⟩
  | [.int i], ⟨hz, q⟩ =>
    obtain ⟨u, rfl, t, rfl⟩ := vals1 r
    exact PySem.P.repr_of_int hz ⟨.str _, H, I.tok _, ⟨_, rfl⟩, q⟩
  | [.str z], ⟨hz, q⟩ =>
    obtain ⟨u, rfl, t, rfl⟩ := vals1 r
    exact PySem.P.repr_of_str ⟨.str _, H, I.tok _, ⟨_, rfl⟩, q⟩ hz
/-! ### list(text) -/
def rListS : List V → Hp → VK → Prop := fun xs H Q => match xs with
  | [.str z] => z.length ≤ sizeLine ∧ ∀ l, H l = none → Q (.ref l) (upd H l (.lst ((signsOf z).map V.str)))
  | _ => False
theorem vals_signs {z : Str} : ∀ {acc : Array Value}, ItemsOf (SignAt z) acc z.cps.size → Vals ((signsOf z).map V.str) acc.toList := by
  intro acc h
  have key : ∀ (n : Nat) (xs : List V) (us : List Value), xs.length = n → us.length = n → (∀ (i : Nat) (x : V) (u : Value), xs[i]? = some x → us[i]? = some u → RelV x u) → Vals xs us := by
    intro n
    induction n with
    | zero =>
      intro xs us h1 h2 _
      rw [List.length_eq_zero_iff.mp h1, List.length_eq_zero_iff.mp h2]
      exact .nil
    | succ n ih =>
      intro xs us h1 h2 hr
      match xs, us, h1, h2 with
      | x :: xs, u :: us, h1, h2 => exact .cons (hr 0 x u rfl rfl) (ih xs us (by simpa using h1) (by simpa using h2) fun i y v e1 e2 => hr (i + 1) y v e1 e2)
  have hs : acc.size = z.cps.size := h.1
  refine key z.cps.size _ _ (by simp [signsOf]) (by simp [hs]) fun i x u e1 e2 => ?_
  have hi : i < z.cps.size := by
    have := (List.getElem?_eq_some_iff.mp e2).1
    simpa [hs] using this
  obtain ⟨c, t, hc, hu⟩ := h.2 i u (by simpa using e2)
  rw [List.getElem?_map] at e1
  unfold signsOf at e1
  rw [List.getElem?_map, Array.getElem?_toList, hc] at e1
  have e : V.str (sgn c) = x := Option.some.inj e1
  rw [← e]
  exact ⟨t, hu⟩
theorem call_listS {X : Cx} (hc : X.calm = true) : CallR X (.type "list") rListS := by
  intro pins s σ H xs us Q I r h
  match xs, h with
  | [.str z], ⟨hz, q⟩ =>
    obtain ⟨u, rfl, t, rfl⟩ := vals1 r
    refine call_list_str (I.ok.hd hc) z t (fun h' tk acc' c' kp e hit => ?_) hz
    have hv := vals_signs hit
    have hlen : ((signsOf z).map V.str).length ≤ sizeLine := by
      rw [List.length_map]; unfold signsOf; rw [List.length_map, Array.length_toList]; exact hz
    exact ⟨.ref s.heap.objs.size, _, I.laid (t' := tk) kp (Nat.le_refl _) (show ObjOk X.prog X.w _ h' _ (.lst _) from ⟨hlen, acc'.toList, c', hv, by simpa using e⟩), rfl, q _ (I.hok.fresh (Nat.le_refl _))⟩
/-! ### {k: v}, k a tuple of ints and texts -/
def tDispT (tk tv : TE) : TE := fun σ H Q => ∀ p, H p = none → tk σ (upd H p (.dT [])) fun x H1 => tv σ H1 fun y H2 => H2 p = some (.dT []) ∧ ∃ (b : Addr) (ks : List Key), x = .ref b ∧ H2 b = some (.tup (ks.map kV)) ∧ Q (.ref p) (upd H2 p (.dT [(ks, y)]))
theorem pe_dispT {X : Cx} {k v : Expr} {tk tv : TE} {pos : Pos} (hu : X.A.units + 1 < cLine) (hk : PE X k tk) (hv : PE X v tv) : PE X (.Dict [some k] [v] pos) (tDispT tk tv) := by
  refine ⟨fun pins s σ H Q I q => ?_⟩
  have hn := I.hok.fresh (Nat.le_refl s.heap.objs.size)
  have I1 := I.laid (a := s.heap.objs.size) (o := .dT []) (h' := s.heap.push { cls := .type "dict", data := .dict #[] }) (t' := s.toks) (fun _ _ q => Heap.get?_push_of_some _ q) (Nat.le_refl _) (dt_empty s.heap I.big)
  have e : (evalEachOpt [some k] X.env).zip ((evalEach [v] X.env).map fun v => do let x ← v; standAt pos; pure x) = (pairTrees [some k] [v] X.env pos).map fun p => (some p.1, p.2) := zip_pairTrees [some k] [v] X.env pos rfl rfl
  have hl : (pairTrees [some k] [v] X.env pos).length = 1 := pairTrees_length [some k] [v] X.env pos rfl rfl
  rw [arm_eval_Dict, e, dictDisplay_pairs _ (fun z => by rw [z] at hl; cases hl) (by omega)]
  refine wpAny_bind (wpAny_standAt (wpAny_bind (wpAny_subDictH (knd := tupleKind (mixKind X.prog X.w)) (Nat.lt_of_succ_lt hu) (by omega) ?_)))
  refine pairTrees_cons_walk (thn (hk.run pins _ σ _ _ I1 (q _ hn)) fun u s1 ⟨x, H1, I2, rx, q1⟩ => thn (hv.run pins s1 σ H1 _ I2 q1) fun w2 s2 ⟨y, H2, I3, ry, e2, b, ks, ex, eb, q2⟩ => pairTrees_nil_walk ?_)
  subst ex
  cases (show u = Value.ref b from rx)
  obtain ⟨z, hd, xs, rel, dd⟩ := dt_of I3.hok e2
  cases rel
  refine ⟨[(ks, b, w2)], ⟨rfl, rfl, key_of I3.hok eb, True.intro⟩, dd, fun h' tk dd' hs => wpAny_pure ⟨.ref s.heap.objs.size, _, ?_, rfl, q2⟩⟩
  obtain ⟨o, es, ep, ho, h2, h3, h4, _, h5⟩ := dd'
  have hb : b ≠ s.heap.objs.size := ne_of eb e2 (fun z => nomatch z)
  refine d_write I3 (by rw [e2]; exact True.intro) hs ⟨o, ho⟩ ⟨by rw [sizeLine_eq]; show 1 ≤ _; omega, hd, [(ks, b, w2)], .cons ⟨rfl, ?_, ry⟩ .nil, o, es, ep, ho, h2, h3, h4, h5⟩
  rw [upd_ne hb]
  exact eb
/-! ### enumerate(tuple) -/
def IteT (K : PySem.W.Frag) (a : Addr) : It :=
  ⟨fun i H => ∃ (xs : List V) (x : V), SqT K H a xs ∧ xs[i]? = some x, fun i H v H' => ∃ T x, v = .ref T ∧ H T = none ∧ H' = upd H T (.tup [.int (i : Nat), x]) ∧ ∀ xs, SqT K H a xs → xs[i]? = some x, fun i H => ∃ xs : List V, SqT K H a xs ∧ xs.length ≤ i⟩
theorem turn_enumT {P : Program} {w : World} {K : PySem.W.Frag} {elts : List Expr} {kk : Nat} {tpos : Pos} (a e it : Addr) :
    Turn P w K (.Tuple elts kk tpos) (IteT K a) [e, it] e (fun i h => (∃ old, IsEnum h e it ((i : Nat) : Int) old) ∧ h.IsTupleIter it a i ∧ e ≠ it ∧ a ≠ e ∧ a ≠ it) where
  mem := by simp
  obj := fun i h st b hb => by
    obtain ⟨⟨old, he⟩, ⟨o, ho, hc, hd⟩, _⟩ := st
    have e' : b = e ∨ b = it := by simpa using hb
    rcases e' with z | z
    · exact z ▸ ⟨_, he, fun v q => nomatch q⟩
    · exact z ▸ ⟨o, ho, fun v q => by rw [hd] at q; cases q⟩
  keep := fun i h h' st k => by
    obtain ⟨⟨old, he⟩, hi, n1, n2, n3⟩ := st
    exact ⟨⟨old, k e (by simp) _ he⟩, hi.at fun o q => k it (by simp) o q, n1, n2, n3⟩
  item := by
    intro X hP hw hK hc i pins s σ H E I hf st hg
    subst hP hw hK
    obtain ⟨⟨old, he⟩, hit, n1, n2, n3⟩ := st
    obtain ⟨xs, x, hq, hx⟩ := hg
    obtain ⟨its, rv, p, hz⟩ := I.tuple hq
    obtain ⟨u, hu, ru⟩ := rv.get hx
    have hel : e < s.heap.objs.size := Heap.lt_size he
    have hil : it < s.heap.objs.size := by
      obtain ⟨_, q, _⟩ := hit
      exact Heap.lt_size q
    have low : ∀ b, b ∈ [e, it] → b < s.heap.objs.size := fun b hb => by
      have e' : b = e ∨ b = it := by simpa using hb
      rcases e' with z | z <;> rw [z] <;> assumption
    have hlt : i < its.toArray.size := by
      have := (List.getElem?_eq_some_iff.mp hu).1
      simpa using this
    refine wpAny_pyNext_enum_itemC (Draws.tuple (A := X.A.in1) (I.ok.hd hc) it a n3 its.toArray) he (⟨hit, p⟩ : s.heap.IsTupleIter it a i ∧ s.heap.IsTuple a its.toArray) hlt n1 (by simp [n1, Ne.symm n2]) fun y h' tk hy ho hst hT hsz hk => ?_
    have ey : y = u := by
      have h1 : its.toArray[i]? = some y := hy
      rw [List.getElem?_toArray, hu] at h1
      exact (Option.some.inj h1).symm
    subst ey
    refine ⟨_, rfl, wpAny_letOwnedTupleGo_enum (s := { s with heap := h', toks := tk + 1 }) ho fun h2 he2 sb => ?_⟩
    have hT2 : h2.get? s.heap.objs.size = some { cls := .type "tuple", data := .seq #[.int i tk, y] } := (sb.2 _ (Nat.ne_of_gt hel)).trans hT
    have made : ObjOk X.prog X.w (upd H s.heap.objs.size (.tup [.int (i : Nat), x])) h2 s.heap.objs.size (.tup [.int (i : Nat), x]) :=
      ⟨by show 2 ≤ sizeLine; decide, [.int i tk, y], .cons ⟨_, rfl⟩ (.cons ru .nil), ⟨_, hT2, rfl, _, rfl⟩⟩
    have out : ∀ b, b ∉ [e, it] → b ≠ e ∧ b ≠ it := fun b hb => ⟨fun z => hb (by simp [z]), fun z => hb (by simp [z])⟩
    have I1 : Inv X pins σ (upd H s.heap.objs.size (.tup [.int (i : Nat), x])) { s with heap := h2, toks := tk + 1 } :=
      I.turnedNew (ch := [e, it]) (fun b ob hb q => (sb.2 b (out b hb).1).trans (hk b ob (out b hb).1 (out b hb).2 q)) hf (Nat.le_refl _) made
    refine ⟨.ref s.heap.objs.size, _, I1, rfl, ⟨_, x, rfl, I.hok.fresh (Nat.le_refl _), rfl, fun ys hy => by rw [I.tuple_inj hy hq]; exact hx⟩, ⟨⟨y, ?_⟩, hst.1.at fun o q => (sb.2 it (Ne.symm n1)).trans q, n1, n2, n3⟩, fun b hb => ?_⟩
    · have e1 : ((i + 1 : Nat) : Int) = (i : Int) + 1 := by omega
      rw [e1]
      exact he2
    · rw [upd_ne (Nat.ne_of_lt (low b hb))]
      exact (hf b hb).1
  done := by
    intro X hP hw hK hc i pins s σ H E I hf st hg
    subst hP hw hK
    obtain ⟨⟨old, he⟩, hit, n1, n2, n3⟩ := st
    obtain ⟨xs, hq, hx⟩ := hg
    obtain ⟨its, rv, p, hz⟩ := I.tuple hq
    obtain ⟨f0, f1, f2, f3, f4, f5⟩ := hf it (by simp)
    have hl := rv.length
    have hnone : its.toArray[i]? = none := by
      rw [List.getElem?_toArray]
      exact List.getElem?_eq_none (by omega)
    have D : Draws X.prog X.w X.A.in1 it [it, a] i (fun _ _ => True) (fun j h => j = i ∧ h.IsTupleIter it a i ∧ h.IsTuple a its.toArray) :=
      { live := fun _ _ st => let ⟨o, ho, _⟩ := st.2.1; ⟨o, ho⟩
        frame := fun _ _ _ st k => ⟨st.1, st.2.1.at fun o q => k it (by simp) o q, st.2.2.at fun o q => k a (by simp) o q⟩
        item := fun j s Q E hj st _ => absurd hj (by rw [st.1]; exact Nat.lt_irrefl _)
        done := fun s Q E st hE => wpAny_nextOf_tuple_end (I.ok.hd hc) st.2.1 st.2.2 hnone hE }
    exact wpAny_pyNext_enum_endD D he ⟨rfl, hit, p⟩ fun h' eb => ⟨rfl, I.turned (t' := s.toks) (fun b o hb q => eb b o hb q) f0 f1 f3 f4 f5⟩
  self := fun A i s Q E st h => by
    obtain ⟨⟨_, he⟩, _⟩ := st
    exact wpAny_pyIter_enum he h
namespace FX
/-- enumerate(t) of a tuple: the maker's own tree -/
theorem meets_enumT (l : Addr) (items : Array Value) (n : Nat) (dct : Option Addr) (sl : Array (Option Value)) :
    Meets (Builtin.«enumerate.__new__» ⟨[.type "enumerate", .ref l], []⟩) (fun _ R s => s.heap.get? l = some { cls := .type "tuple", dict := dct, data := .seq items n, slots := sl } ∧
      R (.ok (.ret (.ref (s.heap.push { cls := .type "tuple_iterator", data := .fields #[.ref l, .int 0 0] }).objs.size)))
        { s with heap := (s.heap.push { cls := .type "tuple_iterator", data := .fields #[.ref l, .int 0 0] }).push { cls := .type "enumerate", data := .fields #[.none, .bool false, .ref s.heap.objs.size, rawInt 0, .none, .none] } }) :=
  .of_wp fun prog w A R s h => by
    obtain ⟨hp, g, d, tk, os⟩ := s
    obtain ⟨hl, h⟩ := h
    have hsub := sub_enumerate
    have hT : Heap.IsTuple (Shared.heap ⟨hp, g, d, tk, os⟩) l items := ⟨_, hl, rfl, n, rfl⟩
    wp_walk using AutoSeq1.wpAny_loadPart' hl
    refine wpAny_stack_any fun st => wpAny_pure ?_
    split
    · rename_i c _ _ _ _ _
      cases (c == Value.type "enumerate") <;>
      · wp_walk using AutoSeq1.wpAny_loadPart' hl, wpAny_pyIter_tuple hT
        exact ⟨_, rfl, h⟩
    · wp_walk using AutoSeq1.wpAny_loadPart' hl, wpAny_pyIter_tuple hT
      exact ⟨_, rfl, h⟩
end FX
theorem call_enumT {prog : Program} {w : World} {A : Around} {E : Value → Shared → Prop} {s : Shared} {l : Addr} {items : Array Value} {Q : Value → Shared → Prop} (ht : s.heap.IsTuple l items)
    (h : ∀ h', IsEnum h' (s.heap.objs.size + 1) s.heap.objs.size 0 .none → h'.IsTupleIter s.heap.objs.size l 0 → (∀ b o, s.heap.get? b = some o → h'.get? b = some o) → Q (.ref (s.heap.objs.size + 1)) { s with heap := h' }) :
    wpAny (model prog w) A (call (.type "enumerate") [.ref l]) Q E s := by
  obtain ⟨⟨c, dct, dt, sl⟩, hl, hc, n, hd⟩ := ht
  obtain rfl : c = .type "tuple" := hc
  obtain rfl : dt = .seq items n := hd
  refine callType_new F.called_enumerate (by decide) (F.typeCall_enumerate_1 _) (F.newCall_enumerate_1 _) (fun z => F.args_object_init_2 z _) F.entry_enumerate_new (FX.meets_enumT l items n dct sl) ⟨hl, ?_⟩
  have hz : (s.heap.push { cls := .type "tuple_iterator", data := .fields #[.ref l, .int 0 0] }).objs.size = s.heap.objs.size + 1 := Heap.size_push ..
  show _ ∧ _
  rw [hz]
  have he := Heap.get?_push_size (s.heap.push { cls := .type "tuple_iterator", data := .fields #[.ref l, .int 0 0] }) (o := { cls := .type "enumerate", data := .fields #[.none, .bool false, .ref s.heap.objs.size, rawInt 0, .none, .none] }) rfl
  rw [hz] at he
  exact ⟨⟨_, he, rfl⟩, h _ he ⟨_, Heap.get?_push_of_some _ (Heap.get?_push_size _ rfl), rfl, rfl⟩ fun b o x => Heap.get?_push_of_some _ (Heap.get?_push_of_some _ x)⟩
def iEnumT (K : PySem.W.Frag) (ta : TA) : TI := fun σ H R => ta σ H fun vs H1 => ∃ a xs, vs = [.ref a] ∧ SqT K H1 a xs ∧ R (IteT K a) H1
theorem pi_enumT {X : Cx} {e : Expr} {ta : TA} {p pos tpos : Pos} {elts : List Expr} {kk : Nat} (hg : Gl X "enumerate") (hm : X.mg "enumerate" = none) (ha : PA X [e] ta) (hs : starEach [e] X.env = [(false, eval e X.env)] := by rfl) :
    PI X (.Tuple elts kk tpos) (.Call (.Name "enumerate" p) [e] [] pos) (iEnumT X.K ta) := by
  refine ⟨fun pins s σ H R I h => ?_⟩
  refine Call_ (ld_blt I hg hm boot_enumerate (PyProof.Rows.callWith_type1 (thn (ha.run pos pins s σ H _ I h) fun us s1 ⟨vs, H1, I1, r1, q1⟩ => ?_) hs rfl))
  obtain ⟨a, xs, rfl, hq, q⟩ := q1
  obtain ⟨u, rfl, ru⟩ := vals1 r1
  cases ru
  obtain ⟨its, rv, p', hz⟩ := I1.tuple hq
  have hal : a < s1.heap.objs.size := p'.lt
  refine call_enumT p' fun h' he hit hk => wpAny_pyIter_enum he ?_
  have I2 : Inv X pins σ H1 { s1 with heap := h' } := I1.kept (t' := s1.toks) hk
  refine ⟨s1.heap.objs.size + 1, [s1.heap.objs.size + 1, s1.heap.objs.size], _, _, H1, rfl, I2, turn_enumT a (s1.heap.objs.size + 1) s1.heap.objs.size, ⟨⟨.none, he⟩, hit, Nat.succ_ne_self _, Nat.ne_of_lt (Nat.lt_succ_of_lt hal), Nat.ne_of_lt hal⟩, fun b hb => ?_, q⟩
  have hle : s1.heap.objs.size ≤ b := by
    have e' : b = s1.heap.objs.size + 1 ∨ b = s1.heap.objs.size := by simpa using hb
    rcases e' with z | z <;> rw [z]
    · exact Nat.le_succ _
    · exact Nat.le_refl _
  exact I1.fpOk hle (I1.hok.fresh hle)
end Sg

/-! try: .. with several clauses, each with «as» or without -/
namespace Sg
open PySem PySem.Spec PyProof.Rows L2
abbrev SuiteT : Type := Addr → Value → Option Addr → TS
/-- the ends of a suite whose name (slot i) goes behind it -/
def endsOff (i : Nat) (D : Ends) : Ends := { nx := fun σ' H' => D.nx (σ'.set i none) H', rt := D.rt, bk := fun σ' H' => D.bk (σ'.set i none) H', ct := fun σ' H' => D.ct (σ'.set i none) H' }
/-- what the clauses wish of an exception of the body, from the first on -/
def wCl (K : PySem.W.Frag) (Wo : WX) (D : Ends) : List (Value × Option Nat × SuiteT) → WX
  | [] => Wo
  | (c, oi, ts) :: r => fun cls d σ H => ∃ b, PySem.W.exmOne K cls c = some b ∧
    (b = true → ∀ a, H a = none → match oi with
      | none => ts a cls d D σ H
      | some i => ts a cls d (endsOff i D) (σ.set i (some (.ref a))) H) ∧ (b = false → wCl K Wo D r cls d σ H)
inductive ClOk (X : Cx) : List ExceptHandler → List (Value × Option Nat × SuiteT) → Prop
  | nil : ClOk X [] []
  | one {x : Str} {c : Value} {ts : SuiteT} {b₀ : Stmt} {su : List Stmt} {np pos' : Pos} {hds : List ExceptHandler} {l : List (Value × Option Nat × SuiteT)} (hc : Names X x c)
      (hsu : ∀ (a : Addr) (oe : Obj) (cls : Value) (d : Option Addr) (pn : List (Addr × Obj)), Zc cls d oe → (∃ vs, oe.data = .fields vs) → PSs (X.suite a ((a, oe) :: pn)) (b₀ :: su) (ts a cls d)) (r : ClOk X hds l) :
      ClOk X (.ExceptHandler (some (.Name x np)) none (b₀ :: su) pos' :: hds) ((c, none, ts) :: l)
  | named {x n : Str} {i : Nat} {c : Value} {ts : SuiteT} {b₀ : Stmt} {su : List Stmt} {np pos' : Pos} {hds : List ExceptHandler} {l : List (Value × Option Nat × SuiteT)} (hc : Names X x c)
      (hN : X.N.Nodup) (hi : X.N[i]? = some n) (hln : X.env.kindOf n = some .local)
      (hsu : ∀ (a : Addr) (oe : Obj) (cls : Value) (d : Option Addr) (pn : List (Addr × Obj)), Zc cls d oe → (∃ vs, oe.data = .fields vs) → PSs (X.suite a ((a, oe) :: pn)) (b₀ :: su) (ts a cls d)) (r : ClOk X hds l) :
      ClOk X (.ExceptHandler (some (.Name x np)) (some n) (b₀ :: su) pos' :: hds) ((c, some i, ts) :: l)
section
variable {X : Cx} {body : List Stmt} {h₀ : ExceptHandler} {hds : List ExceptHandler} {l : List (Value × Option Nat × SuiteT)} {pos : Pos} {tb : WX → TS} {Wo : WX}
theorem ps_try_cl (hs : X.stack = X.env :: X.outer) (hf : X.env.frame = some X.env.locals) (tk : Takes X Wo)
    (hb : ∀ (W : WX) (pn : List (Addr × Obj)) (xe : Value → Shared → Prop), Takes (X.tr pn xe) W → PassesOwn (model X.prog X.w) X.A X.env xe → PSs (X.tr pn xe) body (tb W))
    (hh : ClOk X (h₀ :: hds) l) : PS X (.Try body (h₀ :: hds) [] [] pos) (fun D σ H => tb (wCl X.K Wo D l) D σ H) := by
  refine ⟨fun pins s σ H D I hgo => ?_⟩
  have ok := I.ok
  have frm : X.A.frames = some (X.env :: X.outer) := ok.frames.trans (by rw [hs])
  refine wpAny_Try_except ?_
  refine wpAny_mono ((hb (wCl X.K Wo D l) (X.pn ++ pins) (fun e g₁ => wpAny (model X.prog X.w) X.A (noteFrame e X.env) (fun _ g₂ => wpAny (model X.prog X.w) X.A (setFlight e none) (fun _ g₃ =>
    wpAny (model X.prog X.w) X.A (handleBy e X.env (h₀ :: hds)) (SP X pins D) X.xe g₃) X.xe g₂) X.xe g₁) (fun u g gx => ?_) PassesOwn.looking).run [] s σ H D (I.toTry _) hgo) (fun fl g1 hsp => ?_) (fun e g1 he => he)
  · obtain ⟨a, B, sI, pins2, σ2, H2, cls, d, rfl, J0, nb, up, sky, na, os, ag, wish⟩ := gx
    have J : Inv X pins σ2 H2 sI := J0.ofTry ok
    have sky2 : Sky B (X.env :: X.outer) a (Zc cls d) X.env.locals g.heap := hs ▸ sky
    show wpAny (model X.prog X.w) X.A (noteFrame (.ref a) X.env) _ _ _
    refine Sky.land Zc.steady frm hf sky2 fun k3 fly up3 => ?_
    have J3 : Inv X pins σ2 H2 { g with heap := k3 } := J.landed nb fly.1 (up.trans up3) os ag
    obtain ⟨o3, f3, at3, z3, dt3⟩ := fly.there
    have apart : a ∉ frs (X.env :: X.outer) := fun hm => by
      obtain ⟨_, o', e', hnf⟩ := fly.2.2.1.mem hm
      rw [at3] at e'
      cases e'
      exact hnf _ dt3
    have nL : a ≠ X.env.locals := fun z => apart (List.mem_filterMap.mpr ⟨X.env, List.mem_cons_self, by rw [hf, z]⟩)
    have nF : a ∉ X.fs := fun hm => by
      obtain ⟨e, he, q⟩ := List.mem_filterMap.mp hm
      exact apart (List.mem_filterMap.mpr ⟨e, List.mem_cons_of_mem _ he, q⟩)
    have S3 := J3.suite at3 dt3 na nL nF
    have LT : PySem.W.Looks (model X.prog X.w) k3 (typeOf (.ref a)) cls := fun A Q E s k q => wpAny_typeOf_ref (k _ _ at3) (z3.1 ▸ q)
    have named : ∀ {x : Str} {c : Value} {np : Pos}, Names X x c → ∀ {Q : Value → Shared → Prop} {E : Value → Shared → Prop}, Q c { g with heap := k3 } → wpAny (model X.prog X.w) (X.A.mark (some (.ref a))) (eval (.Name x np) X.env) Q E { g with heap := k3 } := by
      intro x c np hc Q E q
      obtain ⟨hg, hdbg, hm | ⟨hm, hv, hnn⟩⟩ := hc
      · exact ld_glob (X := X.suite a ((a, o3) :: (X.pn ++ pins))) S3 hg hm q hdbg
      · exact ld_blt (X := X.suite a ((a, o3) :: (X.pn ++ pins))) S3 hg hm hv q hnn hdbg
    have go : ∀ {hs2 : List ExceptHandler} {l2 : List (Value × Option Nat × SuiteT)}, ClOk X hs2 l2 → wCl X.K Wo D l2 cls d σ2 H2 →
        wpAny (model X.prog X.w) X.A (handleBy (.ref a) X.env hs2) (SP X pins D) X.xe { g with heap := k3 } := by
      intro hs2 l2 hk
      induction hk with
      | nil =>
        intro wq
        refine wpAny_handleBy_nil ?_
        obtain ⟨_, _, _, oe, vs, T, oT, ts', at4, hz, dt4, h1, hr⟩ := id fly
        unfold PySem.passOn
        refine wpAny_bind (wpAny_field at4 dt4 h1 ?_)
        rw [if_neg (show ¬ ((Value.ref T == Value.none) = true) from by simp)]
        have fin : wpAny (model X.prog X.w) X.A (setFlight (.ref a) X.env.frame) (fun _ g4 => wpAny (model X.prog X.w) X.A (throw (.ref a) : Sem Flow) (SP X pins D) X.xe g4) X.xe { g with heap := k3 } := by
          rw [hf]
          refine HandSPX.setFlight_upZ fly fun k4 held up4 => wpAny_throw (tk _ _ ?_)
          exact ⟨a, B, sI, pins, σ2, H2, cls, d, rfl, J, nb, (up.trans up3).trans up4, .inr (.inr (hs ▸ held)), na, os, ag, wq⟩
        first
          | exact wpAny_bind (wpAny_pure (wpAny_bind fin))
          | exact wpAny_bind fin
      | @one x c ts b₀ su np pos' hds2 l2 hc hsu r ih =>
        intro wq
        obtain ⟨b, hb1, hyes, hno⟩ := wq
        refine wpAny_handleBy_cons (codeAny_handlers_test ?_) (by intro q; cases q)
        refine named hc ((PySem.W.exm_one (M := model X.prog X.w) (J3.kIn) LT hb1).here ?_)
        cases b with
        | false => exact ih (hno rfl)
        | true =>
          refine codeAny_handlers_suite ?_
          refine HandSPX.lands_againZ fly fun k4 fl4 up4 => ?_
          have J4 : Inv X pins σ2 H2 { g with heap := k4 } := J.landed nb fl4.1 ((up.trans up3).trans up4) os ag
          obtain ⟨o4, f4, at4, z4, dt4⟩ := fl4.there
          refine wpAny_mono ((hsu a o4 cls d (X.pn ++ pins) z4 ⟨_, dt4⟩).run [] _ _ H2 _ (J4.suite at4 dt4 na nL nF) (hyes rfl a na)) (fun fl g6 q6 => ?_) (fun _ _ z => False.elim z)
          cases fl with
          | ret u => obtain ⟨v6, σ6, H6, S6, r6, q6⟩ := q6; exact ⟨_, _, _, S6.unsuite ok, r6, q6⟩
          | _ => obtain ⟨σ6, H6, S6, q6⟩ := q6; exact ⟨_, _, S6.unsuite ok, q6⟩
      | @named x n i c ts b₀ su np pos' hds2 l2 hc hN hi hln hsu r ih =>
        intro wq
        obtain ⟨b, hb1, hyes, hno⟩ := wq
        refine wpAny_handleBy_cons (codeAny_handlers_test ?_) (by intro q; cases q)
        refine named hc ((PySem.W.exm_one (M := model X.prog X.w) (J3.kIn) LT hb1).here ?_)
        cases b with
        | false => exact ih (hno rfl)
        | true =>
          refine codeAny_handlers_suite_as ?_
          refine HandSPX.lands_againZ fly fun k4 fl4 up4 => ?_
          have J4 : Inv X pins σ2 H2 { g with heap := k4 } := J.landed nb fl4.1 ((up.trans up3).trans up4) os ag
          obtain ⟨o4, f4, at4, z4, dt4⟩ := fl4.there
          have S4 := J4.suite at4 dt4 na nL nF
          refine store_ok (X := X.suite a ((a, o4) :: (X.pn ++ pins))) (v := .ref a) S4 hN hi (.inl hln) rfl (fun g5 S5 => ?_) (.inr hln)
          refine wpAny_mono ((hsu a o4 cls d (X.pn ++ pins) z4 ⟨_, dt4⟩).run [] g5 _ H2 _ S5 (hyes rfl a na)) (fun fl g6 q6 => ?_) (fun _ _ z => False.elim z)
          have gone : ∀ {σ6 : L2.St} {H6 : Hp} {Q : Shared → Prop}, Inv (X.suite a ((a, o4) :: (X.pn ++ pins))) [] σ6 H6 g6 → (∀ g7, Inv X pins (σ6.set i none) H6 g7 → Q g7) →
              wpAny (model X.prog X.w) X.A (do bindName X.env n .none; unbindBehindTheSuite X.env n pos') (fun _ g7 => Q g7) X.xe g6 := fun S6 hq => gone_ok (S6.unsuite ok) hN hi hln hq
          cases fl with
          | ret u => obtain ⟨v6, σ6, H6, S6, r6, q6⟩ := q6; exact gone S6 fun g7 J7 => ⟨_, _, _, J7, r6, q6⟩
          | _ => obtain ⟨σ6, H6, S6, q6⟩ := q6; exact gone S6 fun g7 J7 => ⟨_, _, J7, q6⟩
    exact go hh wish
  · cases fl with
    | next => obtain ⟨σ', H', J', q⟩ := hsp; exact wpAny_execs_nil ⟨σ', H', J'.ofTry ok, q⟩
    | ret u => obtain ⟨v, σ', H', J', r, q⟩ := hsp; exact ⟨v, σ', H', J'.ofTry ok, r, q⟩
    | _ => obtain ⟨σ', H', J', q⟩ := hsp; exact ⟨σ', H', J'.ofTry ok, q⟩
end
/-! ### isinstance(e, C), e the exception that the suite holds, without an own dict -/
def rIsX (K : PySem.W.Frag) (a : Addr) (cls : Value) (d : Option Addr) : List V → Hp → VK → Prop := fun xs H Q => ∃ (D : Addr) (c : V) (cv : Value) (b : Bool), cls = .ref D ∧ d = none ∧ ExcC K D ∧ xs = [.ref a, c] ∧
  (∀ u, RelV c u → u = cv) ∧ PySem.W.kitOne K (.ref D) cv = some b ∧ Q (.bl b) H
theorem call_isX {X : Cx} {a : Addr} {oe : Obj} {cls : Value} {d : Option Addr} {pn : List (Addr × Obj)} (hz : Zc cls d oe) (hf : ∃ vs, oe.data = .fields vs) : CallR (X.suite a ((a, oe) :: pn)) (.builtin "isinstance") (rIsX X.K a cls d) := by
  intro pins s σ H xs us Q I r h
  obtain ⟨D, c, cv, b, rfl, rfl, C, hx, hcv, e, q⟩ := h
  exact call_isE C hz hf pins s σ H xs us Q I r ⟨c, cv, b, hx, hcv, e, q⟩
theorem takesNo {X : Cx} {a : Addr} {pn : List (Addr × Obj)} : Takes (X.suite a pn) (fun _ _ _ _ => False) := takes0
def eqF (a b : Option (Option Value)) : Bool := decide (a = b)
def excCB (K : PySem.W.Frag) (D : Addr) : Bool := eqF (PySem.W.findIn K (.ref D) "__getattribute__") (some (some (.builtin "BaseException.__getattribute__"))) && (eqF (PySem.W.findIn K (.ref D) "__getattr__") (some none) && (decide (PySem.W.subIn K (.ref D) (.type "BaseException") = some true) &&
  (PySem.W.hasDictIn K D && (eqF (PySem.W.findIn K (.ref D) "__class__") (some (some (.builtin "object.__class__"))) && (eqF (PySem.W.specialIn K (.builtin "object.__class__") "__get__") (some (some (.builtin "getset_descriptor.__get__"))) &&
  (decide (PySem.W.takesIn K (.builtin "object.__class__") = some true) && decide (PySem.W.mroIn K D (.type "object") = some true)))))))
theorem excCB_ok {K : PySem.W.Frag} {D : Addr} (h : excCB K D = true) : ExcC K D := by
  obtain ⟨h1, h⟩ := He.ba h
  obtain ⟨h2, h⟩ := He.ba h
  obtain ⟨h3, h⟩ := He.ba h
  obtain ⟨h4, h⟩ := He.ba h
  obtain ⟨h5, h⟩ := He.ba h
  obtain ⟨h6, h⟩ := He.ba h
  obtain ⟨h7, h8⟩ := He.ba h
  exact ⟨of_decide_eq_true h1, of_decide_eq_true h2, of_decide_eq_true h3, h4, of_decide_eq_true h5, of_decide_eq_true h6, of_decide_eq_true h7, of_decide_eq_true h8⟩
theorem exAt {l : List Bool} (h : l.all id = true) {i : Nat} {b : Bool} (e : l[i]? = some b) : b = true := List.all_eq_true.mp h b (List.mem_of_getElem? e)
end Sg

/-! readings by the shape of the values -/
namespace Sg
open PySem PySem.Spec PyProof.Rows L2
section
variable {X : Cx}
def rLenQ (K : PySem.W.Frag) : List V → Hp → VK → Prop := fun xs H Q => match xs with
  | [.ref p] => ∃ ys, (SqL K H p ys ∨ SqT K H p ys) ∧ Q (.int ys.length) H
  | [.str z] => z.length ≤ sizeLine ∧ Q (.int z.length) H
  | _ => False
theorem call_lenQ : CallR X (.builtin "len") (rLenQ X.K) := by
  intro pins s σ H xs us Q I r h
  match xs, h with
  | [.ref p], ⟨ys, hq, q⟩ => exact call_len_seq pins s σ H _ us Q I r ⟨p, ys, rfl, hq, q⟩
  | [.str z], ⟨hz, q⟩ => exact call_len_str pins s σ H _ us Q I r ⟨z, rfl, hz, q⟩
def rIxTQ (K : PySem.W.Frag) : R2 := fun x y H Q => match x, y with
  | .ref p, .int i => ∃ xs v, SqT K H p xs ∧ atI xs i = some v ∧ Q v H
  | _, _ => False
theorem ix_tupQ : IxR X (rIxTQ X.K) := by
  intro value slice pins s σ H x y v u Q I rx ry h hs
  match x, y, h with
  | .ref p, .int i, ⟨xs, w, h1, h2, q⟩ => exact ix_tup value slice pins s σ H _ _ v u Q I rx ry ⟨p, xs, i, w, rfl, rfl, h1, h2, q⟩ hs
def rIxLQ (K : PySem.W.Frag) : R2 := fun x y H Q => match x, y with
  | .ref p, .int i => ∃ xs v, SqL K H p xs ∧ atI xs i = some v ∧ Q v H
  | _, _ => False
theorem ix_listQ : IxR X (rIxLQ X.K) := by
  intro value slice pins s σ H x y v u Q I rx ry h hs
  match x, y, h with
  | .ref p, .int i, ⟨xs, w, h1, h2, q⟩ => exact ix_list value slice pins s σ H _ _ v u Q I rx ry ⟨p, xs, i, w, rfl, rfl, h1, h2, q⟩ hs
def rIxSQ : R2 := fun x y H Q => match x, y with
  | .str z, .int i => ∃ c, z.length ≤ sizeLine ∧ atI z.cps.toList i = some c ∧ Q (.str (sgn c)) H
  | _, _ => False
theorem ix_strQ : IxR X rIxSQ := by
  intro value slice pins s σ H x y v u Q I rx ry h hs
  match x, y, h with
  | .str z, .int i, ⟨c, h1, h2, q⟩ => exact ix_str value slice pins s σ H _ _ v u Q I rx ry ⟨z, i, c, rfl, rfl, h1, h2, q⟩ hs
def rInt1Q : List V → Hp → VK → Prop := fun xs H Q => match xs with
  | [.int i] => Q (.int i) H
  | [.bl k] => Q (.int (if k then 1 else 0)) H
  | _ => False
theorem call_int1Q : CallR X (.type "int") rInt1Q := by
  intro pins s σ H xs us Q I r h
  match xs, h with
  | [.int i], q => exact call_int1 pins s σ H _ us Q I r (.inl ⟨i, rfl, q⟩)
  | [.bl k], q => exact call_int1 pins s σ H _ us Q I r (.inr ⟨k, rfl, q⟩)
def rTupQ (K : PySem.W.Frag) : List V → Hp → VK → Prop := fun xs H Q => match xs with
  | [.ref p] => ∃ ys, SqL K H p ys ∧ ∀ l, H l = none → Q (.ref l) (upd H l (.tup ys))
  | _ => False
/-- tuple(list) -/
theorem call_tupQ : CallR X (.type "tuple") (rTupQ X.K) := by
  intro pins s σ H xs us Q I r h
  match xs, h with
  | [.ref p], ⟨ys, h1, q⟩ => exact call_tuple_of pins s σ H _ us Q I r ⟨p, ys, rfl, .inl ⟨h1, q⟩⟩
def rAppQ : V → List V → Hp → VK → Prop := fun x vs H Q => match x, vs with
  | .ref l, [y] => ∃ xs, H l = some (.lst xs) ∧ xs.length < sizeLine ∧ Q .non (upd H l (.lst (xs ++ [y])))
  | _, _ => False
theorem mt_appQ : MtR X "list.append" rAppQ := by
  intro pins s σ H x vs v us Q I rx rv h
  match x, vs, h with
  | .ref l, [y], ⟨xs, h1, h2, q⟩ => exact mt_append pins s σ H _ _ v us Q I rx rv ⟨l, xs, y, rfl, rfl, h1, h2, q⟩
def rPopQ : V → List V → Hp → VK → Prop := fun x vs H Q => match x, vs with
  | .ref l, [] => ∃ xs y, H l = some (.lst (xs ++ [y])) ∧ Q y (upd H l (.lst xs))
  | _, _ => False
theorem mt_popQ : MtR X "list.pop" rPopQ := by
  intro pins s σ H x vs v us Q I rx rv h
  match x, vs, h with
  | .ref l, [], ⟨xs, y, h1, q⟩ =>
    refine mt_pop pins s σ H _ _ v us Q I rx rv ⟨l, xs ++ [y], y, rfl, rfl, h1, ?_, ?_⟩
    · rw [List.length_append, List.length_singleton, Nat.add_sub_cancel, List.getElem?_append_right (Nat.le_refl _), Nat.sub_self]
      rfl
    · rw [List.dropLast_concat]
      exact q
def rPopAtQ : V → List V → Hp → VK → Prop := fun x vs H Q => match x, vs with
  | .ref l, [.int i] => ∃ xs y, H l = some (.lst xs) ∧ 0 ≤ i ∧ i < 2 ^ 62 ∧ xs[i.toNat]? = some y ∧ Q y (upd H l (.lst (xs.eraseIdx i.toNat)))
  | _, _ => False
theorem mt_popAtQ : MtR X "list.pop" rPopAtQ := by
  intro pins s σ H x vs v us Q I rx rv h
  match x, vs, h with
  | .ref l, [.int i], ⟨xs, y, h1, h0, hi, h2, q⟩ =>
    refine mt_popAt pins s σ H _ _ v us Q I rx rv ⟨l, xs, i, i.toNat, y, rfl, rfl, h1, by omega, by omega, ?_, h2, q⟩
    have hlt := (List.getElem?_eq_some_iff.mp h2).1
    unfold seqIndex?
    dsimp only
    rw [if_neg (show ¬ i < 0 by omega), if_pos (by simp; omega)]
def rRevQ : V → List V → Hp → VK → Prop := fun x vs H Q => match x, vs with
  | .ref l, [] => ∃ xs, H l = some (.lst xs) ∧ Q .non (upd H l (.lst xs.reverse))
  | _, _ => False
theorem mt_revQ : MtR X "list.reverse" rRevQ := by
  intro pins s σ H x vs v us Q I rx rv h
  match x, vs, h with
  | .ref l, [], ⟨xs, h1, q⟩ => exact mt_reverse pins s σ H _ _ v us Q I rx rv ⟨l, xs, rfl, rfl, h1, q⟩
end
theorem lst_ty {K : PySem.W.Frag} {H : Hp} {p : Addr} {ys : List V} (h : H p = some (.lst ys)) : tyV K "list" (.ref p) H := .inl ⟨rfl, _, .inl (.inl h)⟩
end Sg

/-! lookers as data -/
namespace Sg
open PySem PySem.Spec PyProof.Rows L2
def isWh : V → Bool
  | .int i => decide (0 ≤ i)
  | _ => false
def isBt : V → Bool
  | .int i => decide (0 ≤ i) && decide (i ≤ 1)
  | _ => false
def isSt (n : Int) : V → Bool
  | .int i => decide (0 ≤ i) && decide (i < n)
  | _ => false
/-- a tuple of how many things -/
def RowB (K : PySem.W.Frag) (H : Hp) (x : V) (n : Int) (b : Bool) : Prop :=
  (∃ a xs, x = .ref a ∧ SqT K H a xs ∧ b = decide ((xs.length : Int) = n)) ∨ (Kd K H x ∧ isaB "tuple" x = false ∧ b = false)
/-- one to five unlike signs -/
def sgB (z : Str) : Bool := decide (1 ≤ z.length) && (decide (z.length ≤ 5) && decide ((once (signsOf z)).length = z.length))
abbrev LRow : Type := Int × List Int
def RSt (K : PySem.W.Frag) (H : Hp) (v : V) (r : LRow) : Prop := ∃ a b, v = .ref a ∧ SqT K H a [.int r.1, .ref b] ∧ SqT K H b (r.2.map V.int)
def RRows (K : PySem.W.Frag) (H : Hp) (b : Addr) (rs : List LRow) : Prop := ∃ vs, SqT K H b vs ∧ Paired (RSt K H) vs rs
def RLk (K : PySem.W.Frag) (H : Hp) (v : V) (z : Str) (rs : List LRow) : Prop := ∃ a b, v = .ref a ∧ SqT K H a [.str z, .ref b] ∧ RRows K H b rs
structure RowsOk (n : Nat) (rs : List LRow) : Prop where
  pos : 1 ≤ rs.length
  top : rs.length ≤ 600
  bit : ∀ r ∈ rs, r.1 = 0 ∨ r.1 = 1
  wid : ∀ r ∈ rs, r.2.length = n
  to : ∀ r ∈ rs, ∀ q ∈ r.2, 0 ≤ q ∧ q < (rs.length : Int)
structure SignsOk (z : Str) : Prop where
  pos : 1 ≤ z.length
  top : z.length ≤ 5
  nd : z.cps.toList.Nodup
  low : ∀ c ∈ z.cps.toList, c < 128
theorem signs_once {z : Str} (h : z.cps.toList.Nodup) : (once (signsOf z)).length = z.length := by
  have hn : (signsOf z).Nodup := by
    unfold signsOf
    refine List.Pairwise.map _ (fun a b hab e => hab ?_) h
    have e2 : (#[a] : Array Nat) = #[b] := congrArg Str.cps e
    have e3 : [a] = [b] := congrArg Array.toList e2
    exact (List.cons.inj e3).1
  rw [once_nodup_self hn]
  unfold signsOf
  rw [List.length_map, Array.length_toList]
  rfl
theorem SignsOk.sgB {z : Str} (h : SignsOk z) : sgB z = true := by
  unfold Sg.sgB
  rw [decide_eq_true h.pos, decide_eq_true h.top, decide_eq_true (signs_once h.nd)]
  rfl
theorem pr_mono {α β : Type} {F G : α → β → Prop} {l : List α} {m : List β} (h : Paired F l m) (f : ∀ a b, F a b → G a b) : Paired G l m := by
  induction h with
  | nil => exact .nil
  | cons r _ ih => exact .cons (f _ _ r) ih
theorem pr_get {α β : Type} {F : α → β → Prop} {l : List α} {m : List β} (h : Paired F l m) : ∀ {i : Nat} {a : α}, l[i]? = some a → ∃ b, m[i]? = some b ∧ F a b := by
  induction h with
  | nil => intro i a e; simp at e
  | cons r _ ih =>
    intro i a e
    cases i with
    | zero =>
      obtain rfl := Option.some.inj e
      exact ⟨_, rfl, r⟩
    | succ i => exact ih e
theorem pr_get' {α β : Type} {F : α → β → Prop} {l : List α} {m : List β} (h : Paired F l m) : ∀ {i : Nat} {b : β}, m[i]? = some b → ∃ a, l[i]? = some a ∧ F a b := by
  induction h with
  | nil => intro i b e; simp at e
  | cons r _ ih =>
    intro i b e
    cases i with
    | zero =>
      obtain rfl := Option.some.inj e
      exact ⟨_, rfl, r⟩
    | succ i => exact ih e
theorem RSt.mono {K : PySem.W.Frag} {H H' : Hp} (k : TK H H') {v : V} {r : LRow} (h : RSt K H v r) : RSt K H' v r := by
  obtain ⟨a, b, e, h1, h2⟩ := h
  exact ⟨a, b, e, k.sqT h1, k.sqT h2⟩
theorem RRows.mono {K : PySem.W.Frag} {H H' : Hp} (k : TK H H') {b : Addr} {rs : List LRow} (h : RRows K H b rs) : RRows K H' b rs := by
  obtain ⟨vs, h1, h2⟩ := h
  exact ⟨vs, k.sqT h1, pr_mono h2 fun _ _ r => r.mono k⟩
theorem RLk.mono {K : PySem.W.Frag} {H H' : Hp} (k : TK H H') {v : V} {z : Str} {rs : List LRow} (h : RLk K H v z rs) : RLk K H' v z rs := by
  obtain ⟨a, b, e, h1, h2⟩ := h
  exact ⟨a, b, e, k.sqT h1, h2.mono k⟩
/-- tests that come out -/
theorem ifT {A B : Prop} {c : Bool} (hc : c = true) (h : A) : if c = true then A else B := by
  rw [if_pos hc]
  exact h
theorem ifF {A B : Prop} {c : Bool} (hc : c = false) (h : B) : if c = true then A else B := by
  rw [hc, if_neg Bool.false_ne_true]
  exact h
theorem szle {n m : Nat} (h : n ≤ m) (hm : m ≤ 1000000 := by omega) : n ≤ sizeLine := by
  rw [sizeLine_eq]
  omega
theorem szlt {n m : Nat} (h : n ≤ m) (hm : m ≤ 1000000 := by omega) : n < sizeLine := by
  rw [sizeLine_eq]
  omega
end Sg

/-! breadth-first search over numbered steps, in plain Lean -/
namespace Sg
section
variable {α β : Type} [DecidableEq α] [DecidableEq β]
abbrev Met (α : Type) : Type := List (α × List Nat)
def addStep (stp : α → Nat → α) (a : α) (p : List Nat) (acc : Met α) (x : Nat) : Met α := if stp a x ∈ acc.map Prod.fst then acc else acc ++ [(stp a x, p ++ [x])]
def expand (n : Nat) (stp : α → Nat → α) (acc : Met α) (a : α) (p : List Nat) : Met α := (List.range n).foldl (addStep stp a p) acc
def expandTo (stp : α → Nat → α) (acc : Met α) (a : α) (p : List Nat) (k : Nat) : Met α := (List.range k).foldl (addStep stp a p) acc
def bfs (n : Nat) (stp : α → Nat → α) (tst : α → Bool) : Nat → Nat → Met α → Option (List Nat)
  | 0, _, _ => none
  | f + 1, i, acc => match acc[i]? with
    | none => none
    | some (a, p) => if tst a then some p else bfs n stp tst f (i + 1) (expand n stp acc a p)
theorem expandTo_zero (stp : α → Nat → α) (acc : Met α) (a : α) (p : List Nat) : expandTo stp acc a p 0 = acc := rfl
theorem expandTo_succ (stp : α → Nat → α) (acc : Met α) (a : α) (p : List Nat) (k : Nat) : expandTo stp acc a p (k + 1) = addStep stp a p (expandTo stp acc a p k) k := by
  unfold expandTo
  rw [List.range_succ, List.foldl_append]
  rfl
/-- what holds of all that is met -/
structure MetOk (n : Nat) (stp : α → Nat → α) (s : α) (acc : Met α) : Prop where
  nd : (acc.map Prod.fst).Nodup
  way : ∀ e ∈ acc, e.1 = e.2.foldl stp s ∧ (∀ x ∈ e.2, x < n) ∧ e.2.length < acc.length
theorem met_start (n : Nat) (stp : α → Nat → α) (s : α) : MetOk n stp s [(s, [])] where
  nd := by simp
  way := by
    intro e he
    obtain rfl := List.mem_singleton.mp he
    exact ⟨rfl, by simp, by simp⟩
theorem met_add {n : Nat} {stp : α → Nat → α} {s : α} {acc : Met α} (h : MetOk n stp s acc) {a : α} {p : List Nat} (hm : (a, p) ∈ acc) {x : Nat} (hx : x < n) : MetOk n stp s (addStep stp a p acc x) := by
  unfold addStep
  by_cases c : stp a x ∈ acc.map Prod.fst
  · rw [if_pos c]; exact h
  · rw [if_neg c]
    refine ⟨?_, ?_⟩
    · rw [List.map_append, List.nodup_append]
      refine ⟨h.nd, by simp, fun y hy z hz => ?_⟩
      obtain rfl := List.mem_singleton.mp hz
      exact fun e => c ((show y = stp a x from e) ▸ hy)
    · intro e he
      rw [List.length_append]
      rcases List.mem_append.mp he with he | he
      · obtain ⟨h1, h2, h3⟩ := h.way e he
        exact ⟨h1, h2, by simp; omega⟩
      · obtain rfl := List.mem_singleton.mp he
        obtain ⟨h1, h2, h3⟩ := h.way _ hm
        have h1' : a = p.foldl stp s := h1
        refine ⟨?_, ?_, ?_⟩
        · show stp a x = (p ++ [x]).foldl stp s
          rw [List.foldl_append, ← h1']
          rfl
        · intro y hy
          rcases List.mem_append.mp hy with hy | hy
          · exact h2 y hy
          · rw [List.mem_singleton.mp hy]; exact hx
        · show (p ++ [x]).length < _
          have h3' : p.length < acc.length := h3
          simp
          omega
theorem addStep_sub {stp : α → Nat → α} {a : α} {p : List Nat} {acc : Met α} {x : Nat} : ∃ more, addStep stp a p acc x = acc ++ more := by
  unfold addStep
  by_cases c : stp a x ∈ acc.map Prod.fst
  · rw [if_pos c]; exact ⟨[], by simp⟩
  · rw [if_neg c]; exact ⟨_, rfl⟩
theorem expandTo_sub {stp : α → Nat → α} {acc : Met α} {a : α} {p : List Nat} : ∀ k, ∃ more, expandTo stp acc a p k = acc ++ more
  | 0 => ⟨[], by rw [expandTo_zero]; simp⟩
  | k + 1 => by
    obtain ⟨m1, e1⟩ := expandTo_sub (stp := stp) (acc := acc) (a := a) (p := p) k
    obtain ⟨m2, e2⟩ := addStep_sub (stp := stp) (a := a) (p := p) (acc := expandTo stp acc a p k) (x := k)
    exact ⟨m1 ++ m2, by rw [expandTo_succ, e2, e1, List.append_assoc]⟩
theorem met_expandTo {n : Nat} {stp : α → Nat → α} {s : α} {acc : Met α} (h : MetOk n stp s acc) {a : α} {p : List Nat} (hm : (a, p) ∈ acc) : ∀ k, k ≤ n → MetOk n stp s (expandTo stp acc a p k)
  | 0, _ => h
  | k + 1, hk => by
    rw [expandTo_succ]
    obtain ⟨more, e⟩ := expandTo_sub (stp := stp) (acc := acc) (a := a) (p := p) k
    exact met_add (met_expandTo h hm k (by omega)) (by rw [e]; exact List.mem_append_left _ hm) (by omega)
theorem met_expand {n : Nat} {stp : α → Nat → α} {s : α} {acc : Met α} (h : MetOk n stp s acc) {a : α} {p : List Nat} (hm : (a, p) ∈ acc) : MetOk n stp s (expand n stp acc a p) := met_expandTo h hm n (Nat.le_refl _)
/-- what is found leads to where the test holds -/
theorem bfs_way {n : Nat} {stp : α → Nat → α} {s : α} {tst : α → Bool} : ∀ {f i : Nat} {acc : Met α} {p : List Nat}, MetOk n stp s acc → bfs n stp tst f i acc = some p → tst (p.foldl stp s) = true ∧ ∀ x ∈ p, x < n
  | 0, _, _, _, _, e => nomatch e
  | f + 1, i, acc, p, h, e => by
    unfold bfs at e
    cases hi : acc[i]? with
    | none => rw [hi] at e; cases e
    | some ap =>
      obtain ⟨a, q⟩ := ap
      rw [hi] at e
      have hm : (a, q) ∈ acc := List.mem_of_getElem? hi
      have e2 : (if tst a then some q else bfs n stp tst f (i + 1) (expand n stp acc a q)) = some p := e
      by_cases c : tst a = true
      · rw [if_pos c] at e2
        obtain rfl := Option.some.inj e2
        obtain ⟨h1, h2, _⟩ := h.way _ hm
        have h1' : a = q.foldl stp s := h1
        exact ⟨by rw [← h1']; exact c, h2⟩
      · rw [if_neg c] at e2
        exact bfs_way (met_expand h hm) e2
/-- the met ones are few -/
theorem nodup_few : ∀ {l u : List α}, l.Nodup → (∀ a ∈ l, a ∈ u) → l.length ≤ u.length
  | [], _, _, _ => Nat.zero_le _
  | a :: l, u, h, hs => by
    obtain ⟨h1, h2⟩ := List.nodup_cons.mp h
    have ha : a ∈ u := hs a List.mem_cons_self
    have hl : (u.erase a).length = u.length - 1 := List.length_erase_of_mem ha
    have hpos : 0 < u.length := List.length_pos_of_mem ha
    have := nodup_few (l := l) (u := u.erase a) h2 fun b hb => (List.mem_erase_of_ne (fun e : b = a => h1 (e ▸ hb))).mpr (hs b (List.mem_cons_of_mem _ hb))
    rw [List.length_cons]
    omega
theorem met_few {n : Nat} {stp : α → Nat → α} {s : α} {acc : Met α} (h : MetOk n stp s acc) {u : List α} (hs : s ∈ u) (hc : ∀ a ∈ u, ∀ x, x < n → stp a x ∈ u) : acc.length ≤ u.length := by
  have hin : ∀ (p : List Nat) (a : α), a ∈ u → (∀ x ∈ p, x < n) → p.foldl stp a ∈ u := by
    intro p
    induction p with
    | nil => intro a ha _; exact ha
    | cons x r ih => intro a ha hp; exact ih _ (hc a ha x (hp x List.mem_cons_self)) fun y hy => hp y (List.mem_cons_of_mem _ hy)
  have := nodup_few (l := acc.map Prod.fst) (u := u) h.nd fun a ha => by
    obtain ⟨e, he, rfl⟩ := List.mem_map.mp ha
    obtain ⟨h1, h2, _⟩ := h.way e he
    rw [h1]
    exact hin _ _ hs h2
  rwa [List.length_map] at this
/-- more turns than things tell the same -/
theorem bfs_more {n : Nat} {stp : α → Nat → α} {s : α} {tst : α → Bool} {u : List α} (hs : s ∈ u) (hc : ∀ a ∈ u, ∀ x, x < n → stp a x ∈ u) : ∀ {f g i : Nat} {acc : Met α}, MetOk n stp s acc → u.length < f + i → u.length < g + i → bfs n stp tst f i acc = bfs n stp tst g i acc
  | 0, 0, _, _, _, _, _ => rfl
  | 0, g + 1, i, acc, h, hf, _ => by
    have := met_few h hs hc
    have hn : acc[i]? = none := List.getElem?_eq_none (by omega)
    unfold bfs
    rw [hn]
  | f + 1, 0, i, acc, h, _, hg => by
    have := met_few h hs hc
    have hn : acc[i]? = none := List.getElem?_eq_none (by omega)
    unfold bfs
    rw [hn]
  | f + 1, g + 1, i, acc, h, hf, hg => by
    unfold bfs
    cases hi : acc[i]? with
    | none => rfl
    | some ap =>
      obtain ⟨a, q⟩ := ap
      have hm : (a, q) ∈ acc := List.mem_of_getElem? hi
      show (if tst a then some q else _) = (if tst a then some q else _)
      rw [bfs_more hs hc (f := f) (g := g) (met_expand h hm) (by omega) (by omega)]
/-- another name for each thing -/
def ren (g : α → β) (acc : Met α) : Met β := acc.map fun e => (g e.1, e.2)
theorem ren_add {stp : α → Nat → α} {stq : β → Nat → β} {g : α → β} (gi : ∀ a b, g a = g b → a = b) {a : α} {p : List Nat} {acc : Met α} {x : Nat} (hg : g (stp a x) = stq (g a) x) : addStep stq (g a) p (ren g acc) x = ren g (addStep stp a p acc x) := by
  unfold addStep ren
  have e : (stq (g a) x ∈ (acc.map fun e => (g e.1, e.2)).map Prod.fst) ↔ (stp a x ∈ acc.map Prod.fst) := by
    rw [← hg]
    simp only [List.map_map, List.mem_map, Function.comp]
    constructor
    · rintro ⟨e, he, h⟩
      exact ⟨e, he, gi _ _ h⟩
    · rintro ⟨e, he, h⟩
      exact ⟨e, he, by rw [h]⟩
  by_cases c : stp a x ∈ acc.map Prod.fst
  · rw [if_pos (e.mpr c), if_pos c]
  · rw [if_neg (fun z => c (e.mp z)), if_neg c, List.map_append, ← hg]
    rfl
theorem ren_expandTo {stp : α → Nat → α} {stq : β → Nat → β} {g : α → β} (gi : ∀ a b, g a = g b → a = b) {n : Nat} {a : α} {p : List Nat} {acc : Met α} (hg : ∀ x, x < n → g (stp a x) = stq (g a) x) : ∀ k, k ≤ n → expandTo stq (ren g acc) (g a) p k = ren g (expandTo stp acc a p k)
  | 0, _ => rfl
  | k + 1, hk => by
    rw [expandTo_succ, expandTo_succ, ren_expandTo gi hg k (by omega), ren_add gi (hg k (by omega))]
theorem ren_bfs {n : Nat} {stp : α → Nat → α} {stq : β → Nat → β} {tst : α → Bool} {tsq : β → Bool} {g : α → β} (gi : ∀ a b, g a = g b → a = b) (hg : ∀ a x, x < n → g (stp a x) = stq (g a) x) (ht : ∀ a, tst a = tsq (g a)) :
    ∀ (f i : Nat) (acc : Met α), bfs n stq tsq f i (ren g acc) = bfs n stp tst f i acc
  | 0, _, _ => rfl
  | f + 1, i, acc => by
    unfold bfs
    have e : (ren g acc)[i]? = (acc[i]?).map fun e => (g e.1, e.2) := by
      unfold ren
      rw [List.getElem?_map]
    rw [e]
    cases hi : acc[i]? with
    | none => rfl
    | some ap =>
      obtain ⟨a, q⟩ := ap
      show (if tsq (g a) then some q else bfs n stq tsq f (i + 1) (expandTo stq (ren g acc) (g a) q n)) = (if tst a then some q else bfs n stp tst f (i + 1) (expand n stp acc a q))
      rw [ht a, ren_expandTo gi (fun x hx => hg a x hx) n (Nat.le_refl _), ren_bfs gi hg ht f (i + 1) _]
      rfl
end
end Sg
namespace Sg
section
variable {α : Type} [DecidableEq α]
theorem bfs_end {n : Nat} {stp : α → Nat → α} {tst : α → Bool} {f i : Nat} {acc : Met α} (h : acc.length ≤ i) : bfs n stp tst f i acc = none := by
  cases f with
  | zero => rfl
  | succ f =>
    unfold bfs
    rw [List.getElem?_eq_none h]
theorem bfs_hit {n : Nat} {stp : α → Nat → α} {tst : α → Bool} {f i : Nat} {acc : Met α} {a : α} {p : List Nat} (h : acc[i]? = some (a, p)) (t : tst a = true) : bfs n stp tst (f + 1) i acc = some p := by
  show (match acc[i]? with | none => none | some (a, p) => if tst a then some p else bfs n stp tst f (i + 1) (expand n stp acc a p)) = _
  rw [h]
  exact if_pos t
theorem bfs_go {n : Nat} {stp : α → Nat → α} {tst : α → Bool} {f i : Nat} {acc : Met α} {a : α} {p : List Nat} (h : acc[i]? = some (a, p)) (t : tst a = false) : bfs n stp tst (f + 1) i acc = bfs n stp tst f (i + 1) (expandTo stp acc a p n) := by
  show (match acc[i]? with | none => none | some (a, p) => if tst a then some p else bfs n stp tst f (i + 1) (expand n stp acc a p)) = _
  rw [h]
  exact if_neg (by rw [t]; exact Bool.false_ne_true)
theorem met_closed {n : Nat} {stp : α → Nat → α} {s : α} {acc : Met α} (h : MetOk n stp s acc) (C : α → Prop) (hs : C s) (hc : ∀ a x, C a → x < n → C (stp a x)) : ∀ e ∈ acc, C e.1 := by
  have hin : ∀ (p : List Nat) (a : α), C a → (∀ x ∈ p, x < n) → C (p.foldl stp a) := by
    intro p
    induction p with
    | nil => intro a ha _; exact ha
    | cons x r ih => intro a ha hp; exact ih _ (hc a x ha (hp x List.mem_cons_self)) fun y hy => hp y (List.mem_cons_of_mem _ hy)
  intro e he
  obtain ⟨h1, h2, _⟩ := h.way e he
  rw [h1]
  exact hin _ _ hs h2
end
end Sg

namespace Sg
open PySem PySem.Spec PyProof.Rows L2
/-! ### lookers, what they do -/
def rowOf (rs : List LRow) (p : Int) : LRow := rs.getD p.toNat (0, [])
def nxt (rs : List LRow) (p : Int) (x : Nat) : Int := (rowOf rs p).2.getD x 0
def endAt (rs : List LRow) (p : Int) : Int := (rowOf rs p).1
def InSt (rs : List LRow) (p : Int) : Prop := 0 ≤ p ∧ p < (rs.length : Int)
theorem rowOf_get {rs : List LRow} {p : Int} (h : InSt rs p) : rs[p.toNat]? = some (rowOf rs p) := by
  unfold rowOf
  have : p.toNat < rs.length := by have := h.1; have := h.2; omega
  rw [List.getD_eq_getElem?_getD, List.getElem?_eq_getElem this]
  rfl
theorem rowOf_mem {rs : List LRow} {p : Int} (h : InSt rs p) : rowOf rs p ∈ rs := List.mem_of_getElem? (rowOf_get h)
theorem nxt_get {n : Nat} {rs : List LRow} (ok : RowsOk n rs) {p : Int} (h : InSt rs p) {x : Nat} (hx : x < n) : (rowOf rs p).2[x]? = some (nxt rs p x) := by
  unfold nxt
  have : x < (rowOf rs p).2.length := by rw [ok.wid _ (rowOf_mem h)]; exact hx
  rw [List.getD_eq_getElem?_getD, List.getElem?_eq_getElem this]
  rfl
theorem nxt_in {n : Nat} {rs : List LRow} (ok : RowsOk n rs) {p : Int} (h : InSt rs p) {x : Nat} (hx : x < n) : InSt rs (nxt rs p x) := ok.to _ (rowOf_mem h) _ (List.mem_of_getElem? (nxt_get ok h hx))
theorem endAt_bit {n : Nat} {rs : List LRow} (ok : RowsOk n rs) {p : Int} (h : InSt rs p) : endAt rs p = 0 ∨ endAt rs p = 1 := ok.bit _ (rowOf_mem h)
theorem in_zero {n : Nat} {rs : List LRow} (ok : RowsOk n rs) : InSt rs 0 := ⟨Int.le_refl _, by have := ok.pos; omega⟩
/-- reading a state of a looker -/
theorem RRows.at {K : PySem.W.Frag} {H : Hp} {b : Addr} {rs : List LRow} (h : RRows K H b rs) {p : Int} (hp : InSt rs p) :
    ∃ vs a1 b1, SqT K H b vs ∧ atI vs p = some (.ref a1) ∧ SqT K H a1 [.int (endAt rs p), .ref b1] ∧ SqT K H b1 ((rowOf rs p).2.map V.int) := by
  obtain ⟨vs, h1, h2⟩ := h
  obtain ⟨v, hv, a1, b1, rfl, h3, h4⟩ := pr_get' h2 (rowOf_get hp)
  refine ⟨vs, a1, b1, h1, ?_, h3, h4⟩
  have e : p = ((p.toNat : Nat) : Int) := by have := hp.1; omega
  exact L2.at_of e hv
theorem row_at {n : Nat} {rs : List LRow} (ok : RowsOk n rs) {p : Int} (h : InSt rs p) {x : Nat} (hx : x < n) : atI ((rowOf rs p).2.map V.int) (x : Int) = some (.int (nxt rs p x)) :=
  atI_nat (by rw [List.getElem?_map, nxt_get ok h hx]; rfl)
/-! ### texts by places of signs -/
def textOf (z : Str) (p : List Nat) : Str := ⟨(p.map fun x => z.cps.getD x 0).toArray⟩
theorem str_ext {x y : Str} (h : x.cps.toList = y.cps.toList) : x = y := by
  obtain ⟨a⟩ := x
  obtain ⟨b⟩ := y
  have e : a = b := Array.toList_inj.mp h
  rw [e]
theorem joinL_nil : ∀ l : List (List Nat), TL.joinL [] l = l.flatten
  | [] => rfl
  | [p] => by simp [TL.joinL]
  | p :: q :: r => by
    show p ++ ([] ++ TL.joinL [] (q :: r)) = _
    rw [List.nil_append, joinL_nil (q :: r)]
    rfl
theorem flatten_ones : ∀ l : List Nat, ((l.map fun c => [c]).flatten) = l
  | [] => rfl
  | c :: r => by
    show [c] ++ (r.map fun c => [c]).flatten = _
    rw [flatten_ones r]
    rfl
theorem join_signs (l : List Nat) : Txt.join (Str.ofString "") (l.map sgn) = ⟨l.toArray⟩ := by
  apply str_ext
  rw [TL.join_eq]
  have h := TL.tl_join (Str.ofString "") (l.map sgn)
  have e : TL.tl (Str.ofString "") = [] := by decide
  rw [e, joinL_nil, List.map_map] at h
  have e2 : (l.map (TL.tl ∘ sgn)).flatten = l := flatten_ones l
  rw [e2] at h
  exact h
theorem sum_ones : ∀ l : List Nat, ((l.map sgn).map (·.length)).sum = l.length
  | [] => rfl
  | c :: r => by
    show (1 : Nat) + ((r.map sgn).map (·.length)).sum = r.length + 1
    rw [sum_ones r]
    omega
theorem find_sign {z : Str} {i c : Nat} (nd : z.cps.toList.Nodup) (hi : z.cps.toList[i]? = some c) : Txt.find z (sgn c) = (i : Int) := by
  have at_i : ∀ j, StrLaws.At z (sgn c) z.length j ↔ z.cps.toList[j]? = some c := by
    intro j
    rw [TL.at_iff (by show [c] ≠ []; simp)]
    show TL.pre [c] (z.cps.toList.drop j) = true ↔ _
    cases hd : z.cps.toList.drop j with
    | nil =>
      have : z.cps.toList[j]? = none := by
        have h := congrArg (fun l : List Nat => l[0]?) hd
        simp only [List.getElem?_drop] at h
        simpa using h
      rw [this]
      constructor
      · intro h; cases h
      · intro h; cases h
    | cons a r =>
      have : z.cps.toList[j]? = some a := by
        have h := congrArg (fun l : List Nat => l[0]?) hd
        simp only [List.getElem?_drop] at h
        simpa using h
      rw [this]
      constructor
      · intro h
        have h2 : ([a] == [c]) = true := h
        have h3 : [a] = [c] := beq_iff_eq.mp h2
        rw [(List.cons.inj h3).1]
      · intro h
        obtain rfl := Option.some.inj h
        show ([a] == [a]) = true
        exact beq_self_eq_true _
  rcases find_whole z (sgn c) with ⟨_, h⟩ | ⟨k, e, h1, _⟩
  · exact absurd ((at_i i).mpr hi) (h i)
  · rw [e]
    have h2 := (at_i k).mp h1
    obtain ⟨q1, e1⟩ := List.getElem?_eq_some_iff.mp h2
    obtain ⟨q2, e2⟩ := List.getElem?_eq_some_iff.mp hi
    have : k = i := (List.getElem_inj nd).mp (e1.trans e2.symm)
    rw [this]
/-! ### how a thing was met: the dict of what came ahead -/
theorem dget_mono {H H' : Hp} (s : Same H H') {d : Addr} {y : V} {r : Option V} (h : DGet H d y r) : DGet H' d y r := by
  have rd : ∀ {a : Addr} {u : HO}, Rd H a u → Rd H' a u := fun h => h.elim (fun h => .inl (s _ _ h)) fun ⟨o, h⟩ => .inr ⟨o, s _ _ h⟩
  rcases h with ⟨kvs, k, h1, h2, h3⟩ | ⟨kvs, k, b, h1, h2, h3, h4⟩
  · exact .inl ⟨kvs, k, rd h1, h2, h3⟩
  · exact .inr ⟨kvs, k, b, rd h1, h2, s _ _ h3, h4⟩
inductive Chain (K : PySem.W.Frag) (H : Hp) (d : Addr) : V → List Nat → Prop where
  | root {y : V} (h : DGet H d y (some .non)) : Chain K H d y []
  | step {y y' : V} {t : Addr} {x : Nat} {p : List Nat} (h : DGet H d y (some (.ref t))) (ht : SqT K H t [y', .int (x : Int)]) (r : Chain K H d y' p) : Chain K H d y (p ++ [x])
theorem Chain.mono {K : PySem.W.Frag} {H H' : Hp} {d : Addr} (s : Same H H') {y : V} {p : List Nat} (h : Chain K H d y p) : Chain K H' d y p := by
  induction h with
  | root h => exact .root (dget_mono s h)
  | step h ht _ ih => exact .step (dget_mono s h) (Same.sqT s ht) ih
/-- what the dict tells of a key that was met by q -/
def StepV (K : PySem.W.Frag) (H : Hp) (d : Addr) (v : V) (q : List Nat) : Prop := (v = .non ∧ q = []) ∨ ∃ t y x q0, v = .ref t ∧ SqT K H t [y, .int ((x : Nat) : Int)] ∧ Chain K H d y q0 ∧ q = q0 ++ [x]
theorem Chain.get {K : PySem.W.Frag} {H : Hp} {d : Addr} {y : V} {p : List Nat} (h : Chain K H d y p) : ∃ v, DGet H d y (some v) ∧ StepV K H d v p := by
  cases h with
  | root h => exact ⟨_, h, .inl ⟨rfl, rfl⟩⟩
  | step h ht r => exact ⟨_, h, .inr ⟨_, _, _, _, rfl, ht, r, rfl⟩⟩
theorem StepV.mono {K : PySem.W.Frag} {H H' : Hp} {d : Addr} (s : Same H H') {v : V} {q : List Nat} (h : StepV K H d v q) : StepV K H' d v q := by
  rcases h with h | ⟨t, y, x, q0, h1, h2, h3, h4⟩
  · exact .inl h
  · exact .inr ⟨t, y, x, q0, h1, Same.sqT s h2, h3.mono s, h4⟩
def sgs (z : Str) (q : List Nat) : List V := q.map fun x => V.str (sgn (z.cps.getD x 0))
theorem at_sign {z : Str} {x : Nat} (h : x < z.length) : atI z.cps.toList (x : Int) = some (z.cps.getD x 0) := by
  refine atI_nat ?_
  rw [Array.getElem?_toList, Array.getElem?_eq_getElem h, Array.getD_eq_getD_getElem?, Array.getElem?_eq_getElem h]
  rfl
end Sg

namespace Sg
open PySem PySem.Spec PyProof.Rows L2
theorem sqT_upd {K : PySem.W.Frag} {H : Hp} {p a : Addr} {o u : HO} {xs : List V} (hp : H p = some u) (nt : ∀ ys, u ≠ .tup ys) (nf : ∀ q v, u ≠ .frz q v) (h : SqT K H a xs) : SqT K (upd H p o) a xs := by
  rcases h with (h | ⟨q, h⟩) | h
  · exact .inl (.inl (by rw [upd_ne (fun z => nt _ (by rw [z, hp] at h; exact Option.some.inj h))]; exact h))
  · exact .inl (.inr ⟨q, by rw [upd_ne (fun z => nf _ _ (by rw [z, hp] at h; exact Option.some.inj h))]; exact h⟩)
  · exact .inr h
theorem Chain.grow {K : PySem.W.Frag} {H H' : Hp} {d : Addr} (hd : ∀ y v, DGet H d y (some v) → DGet H' d y (some v)) (ht : ∀ a xs, SqT K H a xs → SqT K H' a xs) {y : V} {p : List Nat} (h : Chain K H d y p) : Chain K H' d y p := by
  induction h with
  | root h => exact .root (hd _ _ h)
  | step h h2 _ ih => exact .step (hd _ _ h) (ht _ _ h2) ih
/-- a list changes: the dict tells the same -/
theorem dget_lst {H : Hp} {d l : Addr} {xs ys : List V} (hl : H l = some (.lst xs)) {y v : V} (h : DGet H d y (some v)) : DGet (upd H l (.lst ys)) d y (some v) := by
  have rd : ∀ {a : Addr} {u : HO}, (∀ zs, u ≠ .lst zs) → Rd H a u → Rd (upd H l (.lst ys)) a u := fun {a u} n h => by
    rcases h with h | ⟨o, h⟩
    · exact .inl (by rw [upd_ne (fun z => n xs (by rw [z, hl] at h; exact (Option.some.inj h).symm))]; exact h)
    · exact .inr ⟨o, by rw [upd_ne (fun z => by rw [z, hl] at h; cases h)]; exact h⟩
  rcases h with ⟨kvs, k, h1, h2, h3⟩ | ⟨kvs, k, b, h1, h2, h3, h4⟩
  · exact .inl ⟨kvs, k, rd (fun zs => nofun) h1, h2, h3⟩
  · exact .inr ⟨kvs, k, b, rd (fun zs => nofun) h1, h2, by rw [upd_ne (fun z => by rw [z, hl] at h3; cases h3)]; exact h3, h4⟩
/-! ### dicts with int keys -/
theorem dget_int {H : Hp} {d : Addr} {kvs : List (Key × V)} (hd : H d = some (.dK kvs)) {y : V} {r : Option V} (h : DGet H d y r) : ∃ k, y = kV k ∧ r = valV kvs k := by
  rcases h with ⟨kvs', k, h1, h2, h3⟩ | ⟨kvs', k, b, h1, _⟩
  · rcases h1 with h1 | ⟨o, h1⟩
    · rw [hd] at h1
      have e : kvs = kvs' := by injection Option.some.inj h1
      exact ⟨k, h2, e ▸ h3⟩
    · rw [hd] at h1; cases h1
  · rcases h1 with h1 | ⟨o, h1⟩ <;> (rw [hd] at h1; cases h1)
theorem dget_putK {H : Hp} {d : Addr} {kvs : List (Key × V)} (hd : H d = some (.dK kvs)) {k0 : Key} {w : V} (hn : valV kvs k0 = none) {y v : V} (h : DGet H d y (some v)) : DGet (upd H d (.dK (putK kvs k0 w))) d y (some v) := by
  obtain ⟨k, rfl, hk⟩ := dget_int hd h
  refine .inl ⟨_, k, .inl upd_same, rfl, ?_⟩
  rw [valV_put, if_neg (fun z => by rw [z, hn] at hk; cases hk)]
  exact hk
structure CameI (K : PySem.W.Frag) (H0 : Hp) (dc lo : Addr) (acc : Met Int) (H : Hp) : Prop where
  same : Same H0 H
  n1 : H0 dc = none
  n2 : H0 lo = none
  dict : ∃ kvs, H dc = some (.dK kvs) ∧ (∀ a, (valV kvs (.inl a)).isSome = true ↔ a ∈ acc.map Prod.fst) ∧ kvs.length ≤ acc.length
  list : H lo = some (.lst (acc.map fun e => V.int e.1))
  chain : ∀ e ∈ acc, Chain K H dc (.int e.1) e.2
theorem CameI.other {K : PySem.W.Frag} {H0 H : Hp} {dc lo : Addr} {acc : Met Int} (c : CameI K H0 dc lo acc H) {T : Addr} {o : HO} (hT : H T = none) : CameI K H0 dc lo acc (upd H T o) := by
  have s : Same H (upd H T o) := same_upd hT
  obtain ⟨kvs, h1, h2, h3⟩ := c.dict
  exact ⟨Same.trans c.same s, c.n1, c.n2, ⟨kvs, s _ _ h1, h2, h3⟩, s _ _ c.list, fun e he => (c.chain e he).mono s⟩
theorem CameI.add {K : PySem.W.Frag} {H0 H : Hp} {dc lo : Addr} {acc : Met Int} (c : CameI K H0 dc lo acc H) {kvs : List (Key × V)} (hd : H dc = some (.dK kvs)) {a : Int} {p : List Nat} (hm : (a, p) ∈ acc) {x : Nat} {T : Addr} (hT : SqT K H T [.int a, .int (x : Int)]) {y : Int} (hy : y ∉ acc.map Prod.fst) :
    CameI K H0 dc lo (acc ++ [(y, p ++ [x])]) (upd (upd H dc (.dK (putK kvs (.inl y) (.ref T)))) lo (.lst ((acc.map fun e => V.int e.1) ++ [.int y]))) := by
  obtain ⟨kvs', h1, h2, h3⟩ := c.dict
  have ek : kvs' = kvs := by
    rw [hd] at h1
    injection Option.some.inj h1 with e
    exact e.symm
  subst ek
  have hn : valV kvs' (.inl y) = none := by
    cases e : valV kvs' (.inl y) with
    | none => rfl
    | some v => exact absurd ((h2 y).mp (by rw [e]; rfl)) hy
  have hne : dc ≠ lo := ne_of hd c.list (fun z => nomatch z)
  have l1 : (upd H dc (.dK (putK kvs' (.inl y) (.ref T)))) lo = some (.lst (acc.map fun e => V.int e.1)) := by rw [upd_ne (Ne.symm hne)]; exact c.list
  have dg : ∀ y' v, DGet H dc y' (some v) → DGet (upd (upd H dc (.dK (putK kvs' (.inl y) (.ref T)))) lo (.lst ((acc.map fun e => V.int e.1) ++ [.int y]))) dc y' (some v) := fun y' v h => dget_lst l1 (dget_putK hd hn h)
  have st : ∀ a xs, SqT K H a xs → SqT K (upd (upd H dc (.dK (putK kvs' (.inl y) (.ref T)))) lo (.lst ((acc.map fun e => V.int e.1) ++ [.int y]))) a xs := fun a xs h => sqT_upd l1 (fun _ => nofun) (fun _ _ => nofun) (sqT_upd hd (fun _ => nofun) (fun _ _ => nofun) h)
  refine ⟨fun b o hb => ?_, c.n1, c.n2, ⟨putK kvs' (.inl y) (.ref T), by rw [upd_ne hne, upd_same], fun b => ?_, ?_⟩, ?_, fun e he => ?_⟩
  · rw [upd_ne (ne_of_none hb c.n2), upd_ne (ne_of_none hb c.n1)]
    exact c.same b o hb
  · rw [valV_put, List.map_append, List.mem_append]
    by_cases e : (Sum.inl b : Key) = Sum.inl y
    · rw [if_pos e]
      have e2 : b = y := Sum.inl.inj e
      exact ⟨fun _ => .inr (by rw [e2]; simp), fun _ => rfl⟩
    · rw [if_neg e, h2 b]
      have e2 : b ≠ y := fun z => e (by rw [z])
      exact ⟨.inl, fun h => h.elim id fun h => absurd (by simpa using h) e2⟩
  · have := length_putK kvs' (.inl y) (.ref T)
    rw [List.length_append]
    simp
    omega
  · rw [upd_same, List.map_append]
    rfl
  · rcases List.mem_append.mp he with he | he
    · exact (c.chain e he).grow dg st
    · obtain rfl := List.mem_singleton.mp he
      refine .step (y' := .int a) (t := T) ?_ (st _ _ hT) ((c.chain _ hm).grow dg st)
      refine dget_lst l1 (.inl ⟨_, .inl y, .inl upd_same, rfl, ?_⟩)
      rw [valV_put, if_pos rfl]
end Sg
namespace Sg
open PySem PySem.Spec PyProof.Rows L2
theorem CameI.start {K : PySem.W.Frag} {H H1 : Hp} {dc lo : Addr} {s : Int} (n1 : H dc = none) (e1 : H1 = upd (upd H dc (.dK [])) dc (.dK [(.inl s, .non)])) (n2 : H1 lo = none) : CameI K H dc lo [(s, [])] (upd H1 lo (.lst [.int s])) := by
  have hne : dc ≠ lo := fun z => by rw [← z, e1, upd_same] at n2; cases n2
  have l1 : H1 dc = some (.dK [(.inl s, .non)]) := by rw [e1, upd_same]
  have h0 : H lo = none := by rw [e1, upd_ne (Ne.symm hne), upd_ne (Ne.symm hne)] at n2; exact n2
  refine ⟨fun b o hb => ?_, n1, h0, ⟨_, by rw [upd_ne hne]; exact l1, fun a => ?_, Nat.le_refl _⟩, by rw [upd_same]; rfl, fun e he => ?_⟩
  · rw [upd_ne (ne_of_none hb h0), e1, upd_ne (ne_of_none hb n1), upd_ne (ne_of_none hb n1)]
    exact hb
  · by_cases c : s = a
    · subst c
      simp [valV]
    · simp [valV, c, Ne.symm c]
  · obtain rfl := List.mem_singleton.mp he
    exact .root (dget_mono (same_upd n2) (.inl ⟨_, .inl s, .inl l1, rfl, by simp [valV]⟩))
def stR (n : Nat) : List Int := (List.range n).map Int.ofNat
theorem mem_stR {rs : List LRow} {p : Int} : p ∈ stR rs.length ↔ InSt rs p := by
  unfold stR
  rw [List.mem_map]
  constructor
  · rintro ⟨x, hx, rfl⟩
    have := List.mem_range.mp hx
    exact ⟨Int.natCast_nonneg _, by show ((x : Nat) : Int) < _; omega⟩
  · rintro ⟨h1, h2⟩
    exact ⟨p.toNat, List.mem_range.mpr (by omega), by show ((p.toNat : Nat) : Int) = p; omega⟩
theorem stR_len (n : Nat) : (stR n).length = n := by simp [stR]
end Sg

namespace Sg
open PySem PySem.Spec PyProof.Rows L2
/-! ### dicts whose keys are pairs of ints -/
abbrev IP : Type := Int × Int
def kyP (a : IP) : List Key := [.inl a.1, .inl a.2]
theorem kyP_inj {a b : IP} (h : kyP a = kyP b) : a = b := by
  unfold kyP at h
  obtain ⟨h1, h2⟩ := List.cons.inj h
  exact Prod.ext (Sum.inl.inj h1) (Sum.inl.inj (List.cons.inj h2).1)
def tuP (a : IP) : HO := .tup [.int a.1, .int a.2]
theorem dget_tup {H : Hp} {d : Addr} {kvs : List (List Key × V)} (hd : H d = some (.dT kvs)) {y : V} {r : Option V} (h : DGet H d y r) : ∃ k b, y = .ref b ∧ H b = some (.tup (k.map kV)) ∧ r = valV kvs k := by
  rcases h with ⟨kvs', k, h1, _⟩ | ⟨kvs', k, b, h1, h2, h3, h4⟩
  · rcases h1 with h1 | ⟨o, h1⟩ <;> (rw [hd] at h1; cases h1)
  · rcases h1 with h1 | ⟨o, h1⟩
    · rw [hd] at h1
      have e : kvs = kvs' := by injection Option.some.inj h1
      exact ⟨k, b, h2, h3, e ▸ h4⟩
    · rw [hd] at h1; cases h1
theorem dget_putT {H : Hp} {d : Addr} {kvs : List (List Key × V)} (hd : H d = some (.dT kvs)) {k0 : List Key} {w : V} (hn : valV kvs k0 = none) {y v : V} (h : DGet H d y (some v)) : DGet (upd H d (.dT (putK kvs k0 w))) d y (some v) := by
  obtain ⟨k, b, rfl, hb, hk⟩ := dget_tup hd h
  refine .inr ⟨_, k, b, .inl upd_same, rfl, by rw [upd_ne (fun z => by rw [z, hd] at hb; cases hb)]; exact hb, ?_⟩
  rw [valV_put, if_neg (fun z => by rw [z, hn] at hk; cases hk)]
  exact hk
structure CameT (K : PySem.W.Frag) (H0 : Hp) (dc lo : Addr) (acc : Met IP) (H : Hp) (os : List Addr) : Prop where
  same : Same H0 H
  n1 : H0 dc = none
  n2 : H0 lo = none
  dict : ∃ kvs, H dc = some (.dT kvs) ∧ (∀ a, (valV kvs (kyP a)).isSome = true ↔ a ∈ acc.map Prod.fst) ∧ kvs.length ≤ acc.length
  list : H lo = some (.lst (os.map V.ref))
  chain : Paired (fun o e => H o = some (tuP e.1) ∧ Chain K H dc (.ref o) e.2) os acc
theorem CameT.other {K : PySem.W.Frag} {H0 H : Hp} {dc lo : Addr} {acc : Met IP} {os : List Addr} (c : CameT K H0 dc lo acc H os) {T : Addr} {o : HO} (hT : H T = none) : CameT K H0 dc lo acc (upd H T o) os := by
  have s : Same H (upd H T o) := same_upd hT
  obtain ⟨kvs, h1, h2, h3⟩ := c.dict
  exact ⟨Same.trans c.same s, c.n1, c.n2, ⟨kvs, s _ _ h1, h2, h3⟩, s _ _ c.list, pr_mono c.chain fun o e h => ⟨s _ _ h.1, h.2.mono s⟩⟩
theorem pr_snoc {α β : Type} {F : α → β → Prop} {l : List α} {m : List β} (h : Paired F l m) {a : α} {b : β} (r : F a b) : Paired F (l ++ [a]) (m ++ [b]) := by
  induction h with
  | nil => exact .cons r .nil
  | cons r' _ ih => exact .cons r' ih
theorem pr_len {α β : Type} {F : α → β → Prop} {l : List α} {m : List β} (h : Paired F l m) : l.length = m.length := by
  induction h with
  | nil => rfl
  | cons _ _ ih => rw [List.length_cons, List.length_cons, ih]
theorem CameT.add {K : PySem.W.Frag} {H0 H : Hp} {dc lo : Addr} {acc : Met IP} {os : List Addr} (c : CameT K H0 dc lo acc H os) {kvs : List (List Key × V)} (hd : H dc = some (.dT kvs)) {o : Addr} {p : List Nat} (hc : Chain K H dc (.ref o) p) {x : Nat} {T : Addr} (hT : SqT K H T [.ref o, .int (x : Int)]) {y : IP} {t : Addr} (ht : H t = some (tuP y)) (hy : y ∉ acc.map Prod.fst) :
    CameT K H0 dc lo (acc ++ [(y, p ++ [x])]) (upd (upd H dc (.dT (putK kvs (kyP y) (.ref T)))) lo (.lst (os.map V.ref ++ [.ref t]))) (os ++ [t]) := by
  obtain ⟨kvs', h1, h2, h3⟩ := c.dict
  have ek : kvs' = kvs := by
    rw [hd] at h1
    injection Option.some.inj h1 with e
    exact e.symm
  subst ek
  have hn : valV kvs' (kyP y) = none := by
    cases e : valV kvs' (kyP y) with
    | none => rfl
    | some v => exact absurd ((h2 y).mp (by rw [e]; rfl)) hy
  have hne : dc ≠ lo := ne_of hd c.list (fun z => nomatch z)
  have l1 : (upd H dc (.dT (putK kvs' (kyP y) (.ref T)))) lo = some (.lst (os.map V.ref)) := by rw [upd_ne (Ne.symm hne)]; exact c.list
  have dg : ∀ y' v, DGet H dc y' (some v) → DGet (upd (upd H dc (.dT (putK kvs' (kyP y) (.ref T)))) lo (.lst (os.map V.ref ++ [.ref t]))) dc y' (some v) := fun y' v h => dget_lst l1 (dget_putT hd hn h)
  have st : ∀ a xs, SqT K H a xs → SqT K (upd (upd H dc (.dT (putK kvs' (kyP y) (.ref T)))) lo (.lst (os.map V.ref ++ [.ref t]))) a xs := fun a xs h => sqT_upd l1 (fun _ => nofun) (fun _ _ => nofun) (sqT_upd hd (fun _ => nofun) (fun _ _ => nofun) h)
  have tu : ∀ a e, H a = some (tuP e) → (upd (upd H dc (.dT (putK kvs' (kyP y) (.ref T)))) lo (.lst (os.map V.ref ++ [.ref t]))) a = some (tuP e) := fun a e h => by
    rw [upd_ne (fun z => by rw [z, c.list] at h; cases h), upd_ne (fun z => by rw [z, hd] at h; cases h)]
    exact h
  refine ⟨fun b o hb => ?_, c.n1, c.n2, ⟨putK kvs' (kyP y) (.ref T), by rw [upd_ne hne, upd_same], fun b => ?_, ?_⟩, ?_, ?_⟩
  · rw [upd_ne (ne_of_none hb c.n2), upd_ne (ne_of_none hb c.n1)]
    exact c.same b o hb
  · rw [valV_put, List.map_append, List.mem_append]
    by_cases e : kyP b = kyP y
    · rw [if_pos e]
      have e2 : b = y := kyP_inj e
      exact ⟨fun _ => .inr (by rw [e2]; simp), fun _ => rfl⟩
    · rw [if_neg e, h2 b]
      have e2 : b ≠ y := fun z => e (by rw [z])
      exact ⟨.inl, fun h => h.elim id fun h => absurd (by simpa using h) e2⟩
  · have := length_putK kvs' (kyP y) (.ref T)
    rw [List.length_append]
    simp
    omega
  · rw [upd_same, List.map_append]
    rfl
  · refine pr_snoc (pr_mono c.chain fun o e h => ⟨tu _ _ h.1, h.2.grow dg st⟩) ⟨tu _ _ ht, ?_⟩
    refine .step (y' := .ref o) (t := T) ?_ (st _ _ hT) (hc.grow dg st)
    refine dget_lst l1 (.inr ⟨_, kyP y, t, .inl upd_same, rfl, ?_, ?_⟩)
    · rw [upd_ne (fun z => by rw [z, hd] at ht; cases ht)]
      exact ht
    · rw [valV_put, if_pos rfl]
theorem CameT.start {K : PySem.W.Frag} {H H1 H2 : Hp} {dc lo b t : Addr} {s : IP} (n1 : H dc = none) (eb : H1 b = some (tuP s)) (es : Same (upd H dc (.dT [])) H1) (e1 : H1 dc = some (.dT [])) (e2 : H2 = upd H1 dc (.dT [(kyP s, .non)])) (n2 : H2 t = none) (n3 : (upd H2 t (tuP s)) lo = none) :
    CameT K H dc lo [(s, [])] (upd (upd H2 t (tuP s)) lo (.lst [.ref t])) [t] := by
  have k1 : H2 dc = some (.dT [(kyP s, .non)]) := by rw [e2, upd_same]
  have k2 : (upd H2 t (tuP s)) dc = some (.dT [(kyP s, .non)]) := same_upd n2 _ _ k1
  have hne : dc ≠ lo := fun z => by rw [← z, k2] at n3; cases n3
  have hb : ∀ a o, H a = some o → a ≠ dc ∧ H1 a = some o := fun a o ha => ⟨ne_of_none ha n1, es _ _ (same_upd n1 _ _ ha)⟩
  have s3 : Same (upd H2 t (tuP s)) (upd (upd H2 t (tuP s)) lo (.lst [.ref t])) := same_upd n3
  have t1 : (upd H2 t (tuP s)) t = some (tuP s) := upd_same
  have sm : Same H (upd (upd H2 t (tuP s)) lo (.lst [.ref t])) := fun a o ha => s3 _ _ (same_upd n2 _ _ (by rw [e2, upd_ne (hb a o ha).1]; exact (hb a o ha).2))
  refine ⟨sm, n1, ?_, ⟨_, s3 _ _ k2, fun a => ?_, Nat.le_refl _⟩, upd_same, .cons ⟨s3 _ _ t1, .root (dget_mono s3 (.inr ⟨_, kyP s, t, .inl k2, rfl, t1, by simp [valV]⟩))⟩ .nil⟩
  · cases e : H lo with
    | none => rfl
    | some o =>
      have := same_upd (o := tuP s) n2 _ _ (show H2 lo = some o by rw [e2, upd_ne (hb lo o e).1]; exact (hb lo o e).2)
      rw [n3] at this
      cases this
  · by_cases c : s = a
    · subst c
      simp [valV]
    · have : kyP s ≠ kyP a := fun z => c (kyP_inj z)
      simp [valV, this, Ne.symm c]
end Sg
namespace Sg
open PySem PySem.Spec PyProof.Rows L2
theorem CameT.grow {K : PySem.W.Frag} {H0 H : Hp} {dc lo : Addr} {acc : Met IP} {os : List Addr} (c : CameT K H0 dc lo acc H os) {kvs : List (List Key × V)} (hd : H dc = some (.dT kvs)) {y : IP} (hy : y ∉ acc.map Prod.fst) {v0 : V} {l : List V} :
    (∀ y' p, Chain K H dc y' p → Chain K (upd (upd H dc (.dT (putK kvs (kyP y) v0))) lo (.lst l)) dc y' p) ∧ ∀ a e, H a = some (tuP e) → (upd (upd H dc (.dT (putK kvs (kyP y) v0))) lo (.lst l)) a = some (tuP e) := by
  obtain ⟨kvs', h1, h2, h3⟩ := c.dict
  have ek : kvs' = kvs := by
    rw [hd] at h1
    injection Option.some.inj h1 with e
    exact e.symm
  subst ek
  have hn : valV kvs' (kyP y) = none := by
    cases e : valV kvs' (kyP y) with
    | none => rfl
    | some v => exact absurd ((h2 y).mp (by rw [e]; rfl)) hy
  have hne : dc ≠ lo := ne_of hd c.list (fun z => nomatch z)
  have l1 : (upd H dc (.dT (putK kvs' (kyP y) v0))) lo = some (.lst (os.map V.ref)) := by rw [upd_ne (Ne.symm hne)]; exact c.list
  refine ⟨fun y' p h => h.grow (fun y' v h => dget_lst l1 (dget_putT hd hn h)) fun a xs h => sqT_upd l1 (fun _ => nofun) (fun _ _ => nofun) (sqT_upd hd (fun _ => nofun) (fun _ _ => nofun) h), fun a e h => ?_⟩
  rw [upd_ne (fun z => by rw [z, c.list] at h; cases h), upd_ne (fun z => by rw [z, hd] at h; cases h)]
  exact h
end Sg

namespace Sg
open PySem PySem.Spec PyProof.Rows L2
/-! ### a tuple with one thing put in at a place -/
section
variable {K : PySem.W.Frag} {H : Hp} {Q : VK} {a b : Addr} {xs ys : List V}
theorem sl_take {i : Nat} (h : SqT K H a xs) (hi : i ≤ xs.length) (q : ∀ c H', Same H H' → SqT K H' c (xs.take i) → Q (.ref c) H') : rSlA K (.ref a) none (some (i : Int)) H Q := by
  have e : HT.sIx xs.length xs.length (some (i : Int)) = i := by rw [HT.sIx_nat]; omega
  refine ⟨a, xs, rfl, h, fun w => q a H (Same.refl H) ?_, fun _ p hp => q p _ (same_upd hp) (.inl (.inl ?_))⟩
  · have e2 := w.2
    rw [e] at e2
    rw [e2, List.take_length]
    exact h
  · rw [upd_same]
    unfold cutV
    rw [e, HT.sIx_none]
    rfl
theorem sl_drop {i : Nat} (h : SqT K H a xs) (hi : i ≤ xs.length) (q : ∀ c H', Same H H' → SqT K H' c (xs.drop i) → Q (.ref c) H') : rSlA K (.ref a) (some (i : Int)) none H Q := by
  have e : HT.sIx xs.length 0 (some (i : Int)) = i := by rw [HT.sIx_nat]; omega
  refine ⟨a, xs, rfl, h, fun w => q a H (Same.refl H) ?_, fun _ p hp => q p _ (same_upd hp) (.inl (.inl ?_))⟩
  · have e2 := w.1
    rw [e] at e2
    rw [e2]
    exact h
  · rw [upd_same]
    unfold cutV
    rw [e, HT.sIx_none, List.take_of_length_le (by rw [List.length_drop]; exact Nat.le_refl _)]
theorem cat_use (h1 : SqT K H a xs) (h2 : SqT K H b ys) (hl : xs.length + ys.length ≤ 1000000) (q : ∀ c H', Same H H' → SqT K H' c (xs ++ ys) → Q (.ref c) H') : rCatA K (.ref a) (.ref b) H Q :=
  ⟨a, b, xs, ys, rfl, rfl, h1, h2, szle hl, fun e => q b H (Same.refl H) (by rw [e]; exact h2), fun _ e => q a H (Same.refl H) (by rw [e, List.append_nil]; exact h1), fun _ _ p hp => q p _ (same_upd hp) (.inl (.inl upd_same))⟩
end
def putAt {α : Type} (l : List α) (i : Nat) (a : α) : List α := l.take i ++ [a] ++ l.drop (i + 1)
theorem putAt_len {α : Type} {l : List α} {i : Nat} (a : α) (h : i < l.length) : (putAt l i a).length = l.length := by
  unfold putAt
  rw [List.length_append, List.length_append, List.length_take, List.length_drop, List.length_singleton]
  omega
theorem putAt_mem {α : Type} {l : List α} {i : Nat} {a b : α} (h : b ∈ putAt l i a) : b ∈ l ∨ b = a := by
  unfold putAt at h
  rcases List.mem_append.mp h with h | h
  · rcases List.mem_append.mp h with h | h
    · exact .inl (List.mem_of_mem_take h)
    · exact .inr (List.mem_singleton.mp h)
  · exact .inl (List.mem_of_mem_drop h)
theorem putAt_map {α β : Type} (f : α → β) (l : List α) (i : Nat) (a : α) : putAt (l.map f) i (f a) = (putAt l i a).map f := by
  unfold putAt
  rw [List.map_append, List.map_append, List.map_take, List.map_drop]
  rfl
theorem pr_take {α β : Type} {F : α → β → Prop} {l : List α} {m : List β} (h : Paired F l m) : ∀ i, Paired F (l.take i) (m.take i) := by
  induction h with
  | nil => intro i; simp; exact .nil
  | cons r _ ih =>
    intro i
    cases i with
    | zero => exact .nil
    | succ i => exact .cons r (ih i)
theorem pr_drop {α β : Type} {F : α → β → Prop} {l : List α} {m : List β} (h : Paired F l m) : ∀ i, Paired F (l.drop i) (m.drop i) := by
  induction h with
  | nil => intro i; simp; exact .nil
  | cons r t ih =>
    intro i
    cases i with
    | zero => exact .cons r t
    | succ i => exact ih i
theorem pr_append {α β : Type} {F : α → β → Prop} {l l' : List α} {m m' : List β} (h : Paired F l m) (h' : Paired F l' m') : Paired F (l ++ l') (m ++ m') := by
  induction h with
  | nil => exact h'
  | cons r _ ih => exact .cons r ih
theorem pr_putAt {α β : Type} {F : α → β → Prop} {l : List α} {m : List β} (h : Paired F l m) {a : α} {b : β} (r : F a b) (i : Nat) : Paired F (putAt l i a) (putAt m i b) :=
  pr_append (pr_append (pr_take h i) (.cons r .nil)) (pr_drop h (i + 1))
theorem RowsOk.putAt {n : Nat} {rs : List LRow} (ok : RowsOk n rs) {i : Nat} (hi : i < rs.length) {r : LRow} (h1 : r.1 = 0 ∨ r.1 = 1) (h2 : r.2.length = n) (h3 : ∀ q ∈ r.2, 0 ≤ q ∧ q < (rs.length : Int)) : RowsOk n (Sg.putAt rs i r) := by
  have e := putAt_len r hi
  refine ⟨by rw [e]; exact ok.pos, by rw [e]; exact ok.top, fun x hx => ?_, fun x hx => ?_, fun x hx => ?_⟩
  · rcases putAt_mem hx with hx | rfl
    · exact ok.bit x hx
    · exact h1
  · rcases putAt_mem hx with hx | rfl
    · exact ok.wid x hx
    · exact h2
  · rw [e]
    rcases putAt_mem hx with hx | rfl
    · exact ok.to x hx
    · exact h3
end Sg
namespace Sg
open PySem PySem.Spec PyProof.Rows L2
theorem rest_use {K : PySem.W.Frag} {H : Hp} {Q : VK} {σ : L2.St} {j k i : Nat} {b c : Addr} {xs : List V} {v : V} (hj : σ[j]? = some (some (.ref b))) (hk : σ[k]? = some (some (.int (i : Int)))) (hb : SqT K H b xs) (hi : i < xs.length) (hl : xs.length ≤ 1000) (hc : SqT K H c (xs.take i)) (hp : ∀ p, H p = none → ∀ c' H', Same H H' → SqT K H' c' (putAt xs i v) → Q (.ref c') H') :
    1 ≤ sizeLine ∧ ∀ p, H p = none → rCatA K (.ref c) (.ref p) (upd H p (.tup [v])) fun x2 H1 => tSl (rSlA K) (tVar j) (tPart (tOp (rI0 fun i j => V.int (i + j)) (tVar k) (tC (V.int 1)))) tNoPart σ H1 fun y H2 => rCatA K x2 y H2 Q := by
  refine ⟨szle (m := 1) (Nat.le_refl _), fun p hp0 => ?_⟩
  have s1 : Same H (upd H p (.tup [v])) := same_upd hp0
  have lt : (xs.take i).length = i := by rw [List.length_take]; omega
  refine cat_use (Same.sqT s1 hc) (.inl (.inl upd_same)) (by rw [lt]; show i + 1 ≤ _; omega) fun c2 H2 s2 h2 => ?_
  refine ⟨_, hj, _, hk, _, _, rfl, rfl, _, rfl, ?_⟩
  have e1 : ((i : Nat) : Int) + 1 = ((i + 1 : Nat) : Int) := by omega
  show rSlA K (.ref b) (some (((i : Nat) : Int) + 1)) none H2 (fun y H2 => rCatA K (.ref c2) y H2 Q)
  rw [e1]
  refine sl_drop (Same.sqT s2 (Same.sqT s1 hb)) (by omega) fun c3 H3 s3 h3 => ?_
  refine cat_use (Same.sqT s3 h2) h3 ?_ fun c4 H4 s4 h4 => hp p hp0 c4 H4 (Same.trans s1 (Same.trans s2 (Same.trans s3 s4))) h4
  rw [List.length_append, lt, List.length_drop]
  show i + 1 + _ ≤ _
  omega
theorem take_use {K : PySem.W.Frag} {H : Hp} {Q : VK} {σ : L2.St} {j k i : Nat} {b : Addr} {xs : List V} (hj : σ[j]? = some (some (.ref b))) (hk : σ[k]? = some (some (.int (i : Int)))) (hb : SqT K H b xs) (hi : i < xs.length) (q : ∀ c H', Same H H' → SqT K H' c (xs.take i) → Q (.ref c) H') :
    tSl (rSlA K) (tVar j) tNoPart (tPart (tVar k)) σ H Q := by
  refine ⟨_, hj, _, hk, _, rfl, ?_⟩
  exact sl_take hb (by omega) q
theorem splice {K : PySem.W.Frag} {H : Hp} {Q : VK} {σ : L2.St} {j k i : Nat} {b : Addr} {xs : List V} {v : V} (hj : σ[j]? = some (some (.ref b))) (hk : σ[k]? = some (some (.int (i : Int)))) (hb : SqT K H b xs) (hi : i < xs.length) (hl : xs.length ≤ 1000) (q : ∀ c' H', Same H H' → SqT K H' c' (putAt xs i v) → Q (.ref c') H') :
    tSl (rSlA K) (tVar j) tNoPart (tPart (tVar k)) σ H fun x1 H1 => 1 ≤ sizeLine ∧ ∀ p, H1 p = none → rCatA K x1 (.ref p) (upd H1 p (.tup [v])) fun x2 H1 => tSl (rSlA K) (tVar j) (tPart (tOp (rI0 fun i j => V.int (i + j)) (tVar k) (tC (V.int 1)))) tNoPart σ H1 fun y H2 => rCatA K x2 y H2 Q :=
  take_use hj hk hb hi fun _ _ s1 h1 => rest_use hj hk (Same.sqT s1 hb) hi hl h1 fun _ _ c' H' s' h' => q c' H' (Same.trans s1 s') h'
end Sg
namespace Sg
open PySem PySem.Spec PyProof.Rows L2
/-- one statement, then the rest: what holds between -/
theorem seq_with {ta tb : TS} {D : Ends} {σ : L2.St} {H : Hp} (M : L2.St → Hp → Prop) (h : ∀ N : L2.St → Hp → Prop, (∀ σ' H', M σ' H' → N σ' H') → ta { D with nx := N } σ H) (tail : ∀ σ' H', M σ' H' → tb D σ' H') : tSeq ta tb D σ H := h _ tail
end Sg

/-! dicts whose keys are (int, tuple of ints) and whose values are ints; len(set(ints)) -/
namespace Sg
open PySem PySem.Spec PyProof.Rows L2
/-! ### len(set(list of ints)) -/
theorem step_add (acc : List Int) (v : Int) : step_dedup acc v = addOne acc v := by
  unfold step_dedup addOne
  by_cases h : v ∈ acc
  · rw [if_pos h]
    simp [h]
  · rw [if_neg h]
    simp [h]
theorem met_once (ns : List Int) : firstMet (fun i => ns.getD i 0) ns.length = once ns := by
  unfold firstMet once
  have e1 : (List.range ns.length).map (fun i => ns.getD i 0) = ns := by
    apply List.ext_getElem?
    intro i
    rw [List.getElem?_map]
    by_cases h : i < ns.length
    · rw [List.getElem?_range h, List.getElem?_eq_getElem h, Option.map_some, List.getD_eq_getElem?_getD, List.getElem?_eq_getElem h]
      rfl
    · rw [List.getElem?_eq_none (by simpa using h), List.getElem?_eq_none (by omega)]
      rfl
  rw [e1]
  have e2 : (step_dedup : List Int → Int → List Int) = addOne := funext fun a => funext fun v => step_add a v
  rw [e2]
def tLenSetN (K : PySem.W.Frag) (ta : TE) : TE := fun σ H Q => ta σ H fun x H1 => match x with
  | .ref l => ∃ ns : List Int, SqL K H1 l (ns.map V.int) ∧ ns.length ≤ 1000 ∧ Q (.int ((once ns).length : Nat)) H1
  | _ => False
theorem pe_lenSetN {X : Cx} {a : Expr} {ta : TE} {p p2 q pos : Pos} (hc : X.calm = true) (hg : Gl X "len") (hm : X.mg "len" = none) (hg2 : Gl X "set") (hm2 : X.mg "set" = none) (ha : PE X a ta)
    (na : starEach [a] X.env = (false, eval a X.env) :: starEach [] X.env := by rfl) : PE X (.Call (.Name "len" p) [.Call (.Name "set" p2) [a] [] q] [] pos) (tLenSetN X.K ta) := by
  refine ⟨fun pins s σ H Q I h => ?_⟩
  refine Call_ (ld_blt I hg hm PySem.boot_len ?_)
  refine PyProof.Rows.callWith_builtin1 (PyProof.Rows.args_cons ?_ rfl) rfl rfl
  refine Call_ (ld_blt I hg2 hm2 PyProof.Rows.boot_set ?_)
  refine PyProof.Rows.callWith_type1 (PyProof.Rows.args_cons (thn (ha.run pins s σ H _ I h) fun v s1 ⟨x, H1, I1, r1, q1⟩ => PyProof.Rows.args_nil ?_) na) na rfl
  match x, q1 with
  | .ref l, ⟨ns, hq, hn1, q2⟩ =>
    cases (show v = Value.ref l from r1)
    obtain ⟨its, r, pl, hz⟩ := I1.list hq
    have hl : its.toArray.size = ns.length := by rw [List.size_toArray, ← r.length, List.length_map]
    refine call_set_list (I1.ok.hd hc) pl.isList (ns := ns) (by simpa using r.ints) (by unfold scanBound; omega) fun h' tk hS hk => PyProof.Rows.args_nil ?_
    rw [hl, met_once] at hS
    obtain ⟨o, es, ep, t, ho, hex, hd, _, _, _, hf, hn⟩ := hS
    have I2 : Inv X pins σ H1 { s1 with heap := h', toks := tk } := I1.kept fun b o e => hk b o (Heap.lt_size e) e
    have hlen : (once ns).length ≤ 1000 := Nat.le_trans (once_len ns) hn1
    exact call_len_set ho hex hd hf (by rw [hn] <;> omega) ⟨.int ((once ns).length : Nat), H1, I2.tok _, ⟨_, by rw [hn]⟩, q2⟩
/-! ### nested keys -/
abbrev NK : Type := Int × List Int
def nk (k : NK) : NestedKey := .tup [.num k.1, .tup (k.2.map .num)]
theorem nums_inj : ∀ {l m : List Int}, l.map NestedKey.num = m.map NestedKey.num → l = m
  | [], [], _ => rfl
  | [], b :: m, h => by cases h
  | a :: l, [], h => by cases h
  | a :: l, b :: m, h => by
    obtain ⟨h1, h2⟩ := List.cons.inj h
    rw [NestedKey.num.inj h1, nums_inj h2]
theorem nk_inj {a b : NK} (h : nk a = nk b) : a = b := by
  have h1 := NestedKey.tup.inj h
  obtain ⟨h2, h3⟩ := List.cons.inj h1
  have h4 := NestedKey.tup.inj (List.cons.inj h3).1
  exact Prod.ext (NestedKey.num.inj h2) (nums_inj h4)
abbrev NE : Type := NK × Addr × Int
def nEnt (p : NE) (x : NestedKey × Addr × Value) : Prop := nk p.1 = x.1 ∧ p.2.1 = x.2.1 ∧ ∃ t, x.2.2 = .int p.2.2 t
/-- the dict's own object -/
def NestD (P : Program) (w : World) (h : Heap) (d : Addr) (kvs : List NE) : Prop :=
  (d == sysModules) = false ∧ ∃ xs, Paired nEnt kvs xs ∧ ∃ o es ep, h.get? d = some o ∧ o.ExactDict ∧ o.data = .dict es ep ∧ es.toList = xs.map (entryOfKey (nestedKind P w)) ∧ (xs.map (·.1)).Nodup
def dN (P : Program) (w : World) (d : Addr) (kvs : List NE) : HO := .ext fun h => NestD P w h d kvs
def KeyN (H : Hp) (b : Addr) (k : NK) : Prop := ∃ c, H b = some (.tup [.int k.1, .ref c]) ∧ H c = some (.tup (k.2.map V.int))
def EntN (H : Hp) (kvs : List NE) : Prop := ∀ e ∈ kvs, KeyN H e.2.1 e.1
def valN (kvs : List NE) (k : NK) : Option Int := (kvs.find? fun e => decide (e.1 = k)).map (·.2.2)
theorem KeyN.mono {H H' : Hp} (s : ∀ b xs, H b = some (.tup xs) → H' b = some (.tup xs)) {b : Addr} {k : NK} (h : KeyN H b k) : KeyN H' b k := by
  obtain ⟨c, h1, h2⟩ := h
  exact ⟨c, s _ _ h1, s _ _ h2⟩
theorem EntN.mono {H H' : Hp} (s : ∀ b xs, H b = some (.tup xs) → H' b = some (.tup xs)) {kvs : List NE} (h : EntN H kvs) : EntN H' kvs := fun e he => (h e he).mono s
theorem dN_new {P : Program} {w : World} {H : Hp} {h : Heap} {d : Addr} {kvs : List NE} (x : NestD P w h d kvs) : ObjOk P w H h d (dN P w d kvs) := by
  obtain ⟨hd, xs, pr, o, es, ep, ho, r⟩ := id x
  refine ⟨x, ⟨o, ho⟩, fun h1 h2 p k => ?_⟩
  obtain ⟨hd, xs, pr, o, es, ep, ho, r⟩ := p
  exact ⟨hd, xs, pr, o, es, ep, k o ho, r⟩
theorem nums_all {h : Heap} : ∀ {l : List Int} {vs : List Value}, Vals (l.map V.int) vs → NestedAll h (l.map .num) vs
  | [], _, r => by cases r; exact .nil
  | i :: l, _, r => by
    cases r with
    | cons r1 r2 =>
      obtain ⟨t, rfl⟩ := (show ∃ t, _ = Value.int i t from r1)
      exact .cons (.int i t) (nums_all r2)
theorem depth_nums : ∀ l : List Int, NestedKey.depthAll (l.map .num) = 0
  | [] => rfl
  | i :: l => by
    show max (NestedKey.depth (.num i)) (NestedKey.depthAll (l.map .num)) = 0
    rw [depth_nums l]
    rfl
theorem nkey_of {P : Program} {w : World} {H : Hp} {h : Heap} {b : Addr} {k : NK} (ok : HOk P w H h) (x : KeyN H b k) : (nestedKind P w).is h (nk k) b := by
  obtain ⟨c, h1, h2⟩ := x
  obtain ⟨_, its, r, o, g1, g2, n, g3⟩ := (show ObjOk P w H h b (.tup _) from ok b _ h1)
  obtain ⟨_, its2, r2, o2, g4, g5, n2, g6⟩ := (show ObjOk P w H h c (.tup _) from ok c _ h2)
  refine ⟨.tup g1 g2 g3 ?_, ?_⟩
  · cases r with
    | cons r1 t1 =>
      cases t1 with
      | cons r3 t3 =>
        cases t3
        obtain ⟨t, rfl⟩ := (show ∃ t, _ = Value.int k.1 t from r1)
        cases (show _ = Value.ref c from r3)
        exact .cons (.int k.1 t) (.cons (.tup g4 g5 g6 (nums_all (by simpa using r2))) .nil)
  · show NestedKey.depth (.tup [.num k.1, .tup (k.2.map .num)]) ≤ 8
    show max 0 (max (NestedKey.depthAll (k.2.map .num) + 1) 0) + 1 ≤ 8
    rw [depth_nums]
    decide
section
variable {P : Program} {w : World} {H : Hp} {h : Heap} {d : Addr} {kvs : List NE}
theorem dN_get (ok : HOk P w H h) (e : H d = some (dN P w d kvs)) : NestD P w h d kvs := (show ObjOk P w H h d (.ext _) from ok d _ e).1
theorem dN_of (ok : HOk P w H h) (e : H d = some (dN P w d kvs)) (en : EntN H kvs) : (d == sysModules) = false ∧ ∃ xs, Paired nEnt kvs xs ∧ h.DictOfH (nestedKind P w) d xs := by
  obtain ⟨hd, xs, pr, o, es, ep, ho, h2, h3, h4, h5⟩ := dN_get ok e
  refine ⟨hd, xs, pr, o, es, ep, ho, h2, h3, h4, fun x hx => ?_, h5⟩
  obtain ⟨i, hi⟩ := List.mem_iff_getElem?.mp hx
  obtain ⟨p, hp, e1, e2, _⟩ := pr_get' pr hi
  have := nkey_of ok (en p (List.mem_of_getElem? hp))
  rw [e1, e2] at this
  exact this
theorem ent_val {kvs : List NE} {xs : List (NestedKey × Addr × Value)} (pr : Paired nEnt kvs xs) (k : NK) : (∀ i, valN kvs k = some i → ∃ a t, atKey xs (nk k) = some (a, .int i t)) ∧ (valN kvs k = none → atKey xs (nk k) = none) := by
  induction pr with
  | nil =>
    refine ⟨fun i h => ?_, fun _ => rfl⟩
    cases h
  | @cons p x ps qs hq t ih =>
    obtain ⟨e1, e2, t', e3⟩ := hq
    by_cases c : p.1 = k
    · have c2 : x.1 = nk k := by rw [← e1, c]
      have v1 : valN (p :: ps) k = some p.2.2 := by simp [valN, c]
      have v2 : atKey (x :: qs) (nk k) = some x.2 := by simp [atKey, c2]
      refine ⟨fun i h => ?_, fun h => by rw [v1] at h; cases h⟩
      rw [v1] at h
      obtain rfl := Option.some.inj h
      exact ⟨x.2.1, t', by rw [v2, ← e3]⟩
    · have c2 : ¬ x.1 = nk k := fun z => c (nk_inj (e1.trans z))
      have v1 : valN (p :: ps) k = valN ps k := by simp [valN, c]
      have v2 : atKey (x :: qs) (nk k) = atKey qs (nk k) := by simp [atKey, c2]
      rw [v1, v2]
      exact ih
theorem nest_empty (hp : Heap) (hb : sysModules < hp.objs.size) : NestD P w (hp.push { cls := .type "dict", data := .dict #[] }) hp.objs.size [] :=
  ⟨beq_eq_false_iff_ne.mpr (Ne.symm (Nat.ne_of_lt hb)), [], .nil, _, #[], 0, Heap.get?_push_size _ rfl, ⟨rfl, rfl, rfl⟩, rfl, rfl, List.nodup_nil⟩
end
/-! ### readings and rules -/
def tNNew (P : Program) (w : World) : TE := fun _ H Q => ∀ p, H p = none → Q (.ref p) (upd H p (dN P w p []))
def tNNotIn (P : Program) (w : World) (ty td : TE) : TE := fun σ H Q => ty σ H fun y H1 => td σ H1 fun x H2 => ∃ a b kvs k, x = .ref a ∧ y = .ref b ∧ H2 a = some (dN P w a kvs) ∧ EntN H2 kvs ∧ KeyN H2 b k ∧ Q (.bl (!(valN kvs k).isSome)) H2
def tNGet (P : Program) (w : World) (td ty : TE) : TE := fun σ H Q => td σ H fun x H1 => ty σ H1 fun y H2 => ∃ a b kvs k i, x = .ref a ∧ y = .ref b ∧ H2 a = some (dN P w a kvs) ∧ EntN H2 kvs ∧ KeyN H2 b k ∧ valN kvs k = some i ∧ Q (.int i) H2
def sNPut (P : Program) (w : World) (td ty tv : TE) : TS := fun D σ H => tv σ H fun v H1 => td σ H1 fun x H2 => ty σ H2 fun y H3 => ∃ a b kvs k i, x = .ref a ∧ y = .ref b ∧ v = .int i ∧ H3 a = some (dN P w a kvs) ∧ EntN H3 kvs ∧ KeyN H3 b k ∧ valN kvs k = none ∧ kvs.length < 100000 ∧
  D.nx σ (upd H3 a (dN P w a (kvs ++ [(k, b, i)])))
def rLenN (P : Program) (w : World) : List V → Hp → VK → Prop := fun xs H Q => match xs with
  | [.ref a] => ∃ kvs, H a = some (dN P w a kvs) ∧ EntN H kvs ∧ kvs.length < 100000 ∧ Q (.int kvs.length) H
  | _ => False
section
variable {X : Cx} {o i value : Expr} {pos pos' : Pos} {td ty tv : TE}
theorem nroom (hu : X.A.units + 64 < cLine) : (nestedKind X.prog X.w).room X.A.in1 := by show X.A.units + 1 + 8 < cLine; omega
theorem pe_nnew : PE X (.Dict [] [] pos) (tNNew X.prog X.w) := ⟨fun pins s σ H Q I h =>
  wpAny_Dict_empty ⟨.ref s.heap.objs.size, _, I.laid (a := s.heap.objs.size) (o := dN X.prog X.w s.heap.objs.size []) (t' := s.toks) (fun _ _ q => Heap.get?_push_of_some _ q) (Nat.le_refl _) (dN_new (nest_empty s.heap I.big)), rfl, h _ (I.hok.fresh (Nat.le_refl _))⟩⟩
theorem pc_nnotin (hu : X.A.units + 64 < cLine) (hi : PE X i ty) (ho : PE X o td) : PC X .NotIn i o (tNNotIn X.prog X.w ty td) := by
  refine ⟨fun pins s σ H Q I h => ?_⟩
  refine thn (hi.run pins s σ H _ I h) fun iv s1 ⟨y, H1, I1, ry, q1⟩ => thn (ho.run pins s1 σ H1 _ I1 q1) fun u s2 ⟨x, H2, I2, rx, a, b, kvs, k, ex, ey, e, en, kk, q2⟩ => ?_
  subst ex ey
  cases (show u = Value.ref a from rx)
  cases (show iv = Value.ref b from ry)
  obtain ⟨hd, xs, pr, dd⟩ := dN_of I2.hok e en
  refine wpAny_notIn_heap (nroom hu) (nkey_of I2.hok kk) hd dd ⟨.bl (!(valN kvs k).isSome), H2, I2.tok _, ?_, q2⟩
  obtain ⟨g1, g2⟩ := ent_val pr k
  cases hv : valN kvs k with
  | none => rw [g2 hv]; rfl
  | some j =>
    obtain ⟨c, t, hat⟩ := g1 j hv
    rw [hat]
    rfl
theorem pe_nget (hu : X.A.units + 64 < cLine) (ho : PE X o td) (hi : PE X i ty) (hs : NoSl i) : PE X (.Subscript o i pos) (tNGet X.prog X.w td ty) := by
  refine ⟨fun pins s σ H Q I h => ?_⟩
  refine subD_of PySem.F.slot_dict_getitem.lookup hs (thn (ho.run pins s σ H _ I h) fun u s1 ⟨x, H1, I1, rx, q1⟩ => thn (hi.run pins s1 σ H1 _ I1 q1) fun iv s2 ⟨y, H2, I2, ry, a, b, kvs, k, j, ex, ey, e, en, kk, hv, q2⟩ => ?_)
  subst ex ey
  cases (show u = Value.ref a from rx)
  cases (show iv = Value.ref b from ry)
  obtain ⟨hd, xs, pr, dd⟩ := dN_of I2.hok e en
  obtain ⟨c, t, hat⟩ := (ent_val pr k).1 j hv
  exact ⟨dd.typeIs, wpAny_getItem_heap (nroom hu) (nkey_of I2.hok kk) dd hat ⟨.int j, H2, I2.tok _, ⟨t, rfl⟩, q2⟩⟩
theorem ps_nput (hu : X.A.units + 64 < cLine) (ho : PE X o td) (hi : PE X i ty) (hv : PE X value tv) (hs : swapsWith value (some (.Subscript o i pos')) pos.line X.env = pure false) :
    PS X (.Assign [.Subscript o i pos'] value pos) (sNPut X.prog X.w td ty tv) := by
  refine ⟨fun pins s σ H D I h => ?_⟩
  refine wpAny_Assign_Subscript (thn (hv.run pins s σ H _ I h) fun r s1 ⟨v, H1, I1, rv, q1⟩ => thn (ho.run pins s1 σ H1 _ I1 q1) fun u s2 ⟨x, H2, I2, rx, q2⟩ => thn (hi.run pins s2 σ H2 _ I2 q2) fun iv s3 ⟨y, H3, I3, ry, a, b, kvs, k, j, ex, ey, ev, e, en, kk, hno, hl, q3⟩ => ?_) hs
  subst ex ey ev
  cases (show u = Value.ref a from rx)
  cases (show iv = Value.ref b from ry)
  obtain ⟨t, rfl⟩ := (show ∃ t, r = Value.int j t from rv)
  obtain ⟨hd, xs, pr, dd⟩ := dN_of I3.hok e en
  have hz : xs.length ≤ sizeLine := by rw [← pr_len pr]; exact szle (m := 100000) (by omega)
  refine wpAny_setItem_heap (hsz := hz) (nroom hu) (nkey_of I3.hok kk) dd fun h' dd' hsb => ?_
  rw [storedH_new ((ent_val pr k).2 hno)] at dd'
  obtain ⟨ob, es, ep, hq, h2, h3, h4, _, h5⟩ := dd'
  exact ⟨σ, _, d_write I3 (by rw [e]; exact True.intro) hsb ⟨ob, hq⟩ (dN_new ⟨hd, _, pr_snoc pr ⟨rfl, rfl, t, rfl⟩, ob, es, ep, hq, h2, h3, h4, h5⟩), q3⟩
theorem call_lenN : CallR X (.builtin "len") (rLenN X.prog X.w) := by
  intro pins s σ H xs us Q I r h
  match xs, h with
  | [.ref a], ⟨kvs, e, en, hl, q⟩ =>
    obtain ⟨u, rfl, rx⟩ := vals1 r
    cases (show u = Value.ref a from rx)
    obtain ⟨hd, ys, pr, dd⟩ := dN_of I.hok e en
    have hl2 : kvs.length = ys.length := pr_len pr
    refine call_len_dictH hd dd (by omega) ?_
    rw [← hl2]
    exact ⟨.int ((kvs.length : Nat) : Int), H, I.tok _, ⟨_, rfl⟩, q⟩
end
end Sg

/-! defs whose promise holds where no repr is under way; repr of data -/
namespace Sg
open PySem PySem.Spec PyProof.Rows L2
def Quiet (A : Around) : Prop := A.guards = some []
/-- repr of data of any depth -/
def rReprD (K : PySem.W.Frag) : List V → Hp → VK → Prop := fun xs H Q => ∃ (x : V) (d : PyData), xs = [x] ∧ Dp K H x d ∧ d.showable = true ∧ d.hasDict = false ∧ d.depth ≤ 50 ∧ d.shown.length ≤ sizeLine ∧ Q (.str d.shown) H
theorem call_reprD {X : Cx} (hq : Quiet X.A) (hu : X.A.units + 64 < cLine) : CallR X (.builtin "repr") (rReprD X.K) := by
  intro pins s σ H xs us Q I r h
  obtain ⟨x, d, rfl, hd, hs, hn, hdp, hsz, q⟩ := h
  obtain ⟨u, rfl, rx⟩ := vals1 r
  have deep : ∀ a, u = .ref a → wpAny (model X.prog X.w) X.A (call (.builtin "repr") [u]) (EP X pins σ Q) X.xe s := by
    intro a e
    subst e
    obtain ⟨as, rd⟩ := Dp.reads I d x _ hd rx
    exact repr_of_reads' rd hs (fun z => by rw [hn] at z; cases z) hq (by omega) (fun _ _ z => z) (fun h' t tk hk => ⟨.str d.shown, H, I.kept hk, ⟨t, rfl⟩, q⟩) hsz
  cases hd with
  | non =>
    cases (show u = Value.none from rx)
    exact PySem.P.repr_of_none ⟨.str _, H, I.tok _, ⟨_, rfl⟩, by simpa [PyData.shown] using q⟩
  | bl b =>
    cases (show u = Value.bool b from rx)
    exact PySem.P.repr_of_bool ⟨.str _, H, I.tok _, ⟨_, rfl⟩, by simpa [PyData.shown] using q⟩
  | int i =>
    obtain ⟨t, rfl⟩ := (show ∃ t, u = Value.int i t from rx)
    exact PySem.P.repr_of_int (by simpa [PyData.showable] using hs) ⟨.str _, H, I.tok _, ⟨_, rfl⟩, by simpa [PyData.shown] using q⟩
  | str z =>
    obtain ⟨t, rfl⟩ := (show ∃ t, u = Value.str z t from rx)
    exact PySem.P.repr_of_str ⟨.str _, H, I.tok _, ⟨_, rfl⟩, by simpa [PyData.shown] using q⟩ (by simpa [PyData.shown] using hsz)
  | lst h1 h2 => exact deep _ rx
  | tup h1 h2 => exact deep _ rx
/-! ### defs under a quiet stack -/
structure FnQ (P : Program) (w : World) (K : PySem.W.Frag) (mg : Str → Option Value) (base : Heap) (C : CXT) (k : Nat) (f : Addr) (fd : FuncData) (ps : List Str) (sp : Sp) : Prop where
  len : ∀ vs H Q E, sp vs H Q E → vs.length = ps.length
  run : ∀ (A : Around) (outer : List Env) (s : Shared) (H : Hp) (args : Args) (us : List Value) (vs : List V) (Q : VK) (E : XK), Quiet A → Room k A → Env0 P w K mg base A outer s H → BindsTo s fd args (ps.zip us) → Vals vs us → sp vs H Q E →
    codeAny (model P w) A (.call (.ref f) args) (CR C outer P w H s Q E) s
structure DkQ (P : Program) (w : World) (K : PySem.W.Frag) (mg : Str → Option Value) (base : Heap) (k : Nat) (x : Str) (ps : List Str) (sp : Sp) : Prop where
  ok : ∃ fd, FnQ P w K mg base (L2.CX P w) k (He.ga K x) fd ps sp ∧ Binds K fd ps []
  kp : PySem.W.keepIn K (.ref (He.ga K x)) = true
  gm : mg x = some (.ref (He.ga K x))
theorem run_quiet {X : Cx} {C : CXT} {k : Nat} {f : Addr} {fd : FuncData} {ps : List Str} {sp : Sp} {W : L2.St → XK} {pins : List (Addr × Obj)} {σ : L2.St} {H : Hp} {s : Shared} {Q : VK} {us : List Value} {vs : List V} (F : FnQ X.prog X.w X.K X.mg X.base C k f fd ps sp) (hq : Quiet X.A) (room : Room k X.A) (hb : Binds X.K fd ps []) (out : PassesAt C X σ (W σ))
    (I : Inv X pins σ H s) (r : Vals vs us) (h : sp vs H Q (W σ)) : wpAny (model X.prog X.w) X.A (call (.ref f) us) (EP X pins σ Q) X.xe s := by
  have same : us.length = ps.length := r.length ▸ F.len _ _ _ _ h
  have bound := hb s us I.kIn (by rw [List.append_nil]; exact same)
  rw [List.append_nil] at bound
  refine wpAny_call (codeAny_mono (F.run X.A X.stack s H ⟨us, []⟩ us vs Q (W σ) hq room I.env0 bound r h) fun res s' ended => ?_)
  match res, ended with
  | .error e, he => exact out pins H s e s' I he
  | .ok (.ret u), he => exact I.after he
  | .ok .next, he => exact False.elim he
  | .ok .brk, he => exact False.elim he
  | .ok .cont, he => exact False.elim he
theorem pe_callQ {X : Cx} {k : Nat} {x : Str} {ps : List Str} {sp : Sp} {W : WX} {e : Expr} {es : List Expr} {t : TA} {p pos : Pos} (D : DkQ X.prog X.w X.K X.mg X.base k x ps sp) (hq : Quiet X.A) (room : Room k X.A) (tk : Takes X W) (ha : PA X (e :: es) t) (hg : Gl X x := by rfl)
    (dbg : (x == ("__debug__" : Str)) = false := by decide) (he : starEach (e :: es) X.env = (false, eval e X.env) :: starEach es X.env := by rfl) (plain : (backTo pos (starEach es X.env)).any (·.1) = false := by rfl) :
    PE X (.Call (.Name x p) (e :: es) [] pos) (tCallR sp W t) := by
  obtain ⟨fd, F, B⟩ := D.ok
  refine ⟨fun pins s σ H Q I goal => wpAny_Call_Name_kw (ld_glob I hg D.gm ?_ dbg)⟩
  refine PySem.W.callWith_K (h₀ := X.base) I.ok.mod.kin D.kp (thn (ha.run pos pins s σ H _ I goal) fun us s1 ⟨vs, H1, I1, r, q⟩ => ⟨I1.kIn, ?_⟩) he plain
  exact run_quiet (W := fun σ cls d H' => W cls d σ H') F hq room B (passAt tk σ) I1 r q
theorem fnQ_of {C : CXT} {P : Program} {w : World} {K : PySem.W.Frag} {mg : Str → Option Value} {base : Heap} {k : Nat} {f : Addr} {x : Str} {st : Stmt} {fd : FuncData} {N ps : List Str} {sp : Sp} (F : FnP K x st f fd) (S : FnScope N ps (defScope st)) (len : ∀ vs H Q E, sp vs H Q E → vs.length = ps.length)
    (body : ∀ (cdv : Value) (A : Around) (outer : List Env) (s : Shared) (H : Hp) (vs : List V) (Q : VK) (E : XK), Quiet A → Room k (A.deeper (envOfC x (defScope st) s.heap.objs.size f cdv)) → sp vs H Q E →
      ∃ t, PSs (cxOf C P w K mg base N x (defScope st) f cdv A outer s H E) (defBody st) t ∧ t { nx := fun _ H' => Q .non H', rt := Q } (L2.start N vs) H) : FnQ P w K mg base C (k + 1) f fd ps sp := by
  obtain ⟨oc, od, dV, kV, doc, pm, an, cdv, ct, osl, rfl, lk, hcd, _, _⟩ := F.ex
  refine ⟨len, fun A outer s H args us vs Q E hq room e0 bnd r hsp => ?_⟩
  have KX : K.In s.heap := e0.mod.kin.keeps fun b o e => (e0.bs b o e).1
  have nolim : s.heap.NoLimit := e0.mod.nolimit.keeps fun b o e => (e0.bs b o e).1
  refine codeAny_call_function room.depth (KX _ _ lk) rfl S.co S.gen rfl (PySem.W.codeRec_of KX hcd) (bnd _ _ _ _ ?_)
  refine wpAny_newFunctionEnv_cells S.kind (fun ⟨n, v⟩ hy => (S.par n (List.of_mem_zip hy).1).elim .inl fun q => .inr ⟨q, PySem.W.cellsFrom_some _ _ _ (.inl q)⟩) fun env he s1 new => ?_
  subst he
  refine ⟨nolim.keeps new.toInCall.keep, codeAny_func ?_⟩
  obtain ⟨t, walk, hgo⟩ := body cdv A outer s H vs Q E hq (room.deeper _) hsp
  have I : Inv (cxOf C P w K mg base N x (defScope st) f cdv A outer s H E) [] (L2.start N vs) H s1 := inv_start S room.hd e0 (len _ _ _ _ hsp) r new
  have fin : ∀ {σ' : L2.St} {H' : Hp} {v : V} {u : Value} {s' : Shared}, Inv (cxOf C P w K mg base N x (defScope st) f cdv A outer s H E) [] σ' H' s' → RelV v u → Q v H' → CE outer P w H s Q u s' :=
    fun {σ' H' v u s'} J rv q => ⟨v, H', J.os, J.bare, J.base, J.hok, rv, q⟩
  refine wpAny_mono (walk.run [] s1 (L2.start N vs) H _ I hgo) (fun fl s' ended => ?_) fun _ _ z => z
  match fl, ended with
  | .ret u, ⟨v, σ', H', J, rv, q⟩ => exact fin J rv q
  | .next, ⟨σ', H', J, q⟩ => exact fin (v := V.non) (u := Value.none) J rfl q
  | .brk, ⟨_, _, _, q⟩ => exact False.elim q
  | .cont, ⟨_, _, _, q⟩ => exact False.elim q
end Sg

namespace Sg
open PySem PySem.Spec PyProof.Rows L2
/-! lookers by what they take; the least looker, in plain Lean -/
def Lang : Type := List Nat → Int
noncomputable instance : DecidableEq Lang := fun a b => Classical.propDecidable (a = b)
def lang (rs : List LRow) (p : Int) : Lang := fun w => endAt rs (w.foldl (fun p x => nxt rs p x) p)
def der (L : Lang) (x : Nat) : Lang := fun w => L (x :: w)
theorem der_lang (rs : List LRow) (p : Int) (x : Nat) : lang rs (nxt rs p x) = der (lang rs p) x := rfl
theorem nxt_far {n : Nat} {rs : List LRow} (ok : RowsOk n rs) {p : Int} (h : InSt rs p) {x : Nat} (hx : ¬ x < n) : nxt rs p x = 0 := by
  unfold nxt
  have := ok.wid _ (rowOf_mem h)
  rw [List.getD_eq_getElem?_getD, List.getElem?_eq_none (by omega)]
  rfl
theorem once_nodup {κ : Type} [DecidableEq κ] (l : List κ) : (once l).Nodup := by
  have key : ∀ (r acc : List κ), acc.Nodup → (r.foldl addOne acc).Nodup := by
    intro r
    induction r with
    | nil => intro acc h; exact h
    | cons a r ih =>
      intro acc h
      refine ih _ ?_
      unfold addOne
      by_cases c : a ∈ acc
      · rw [if_pos c]; exact h
      · rw [if_neg c, List.nodup_append]
        exact ⟨h, by simp, fun x hx y hy e => c (by rw [List.mem_singleton.mp hy] at e; exact e ▸ hx)⟩
  exact key l [] List.nodup_nil
theorem nodup_of_once {κ : Type} [DecidableEq κ] {l : List κ} (h : l.length ≤ (once l).length) : l.Nodup := by
  have key : ∀ (r acc : List κ), acc.Nodup → acc.length + r.length ≤ (r.foldl addOne acc).length → (acc ++ r).Nodup := by
    intro r
    induction r with
    | nil => intro acc h _; simpa using h
    | cons a r ih =>
      intro acc hn hl
      have hb : ∀ (r acc : List κ), (r.foldl addOne acc).length ≤ acc.length + r.length := by
        intro r
        induction r with
        | nil => intro acc; exact Nat.le_refl _
        | cons b r ih2 =>
          intro acc
          have h1 := ih2 (addOne acc b)
          have h2 := addOne_len (acc := acc) (v := b)
          show (r.foldl addOne (addOne acc b)).length ≤ acc.length + (r.length + 1)
          omega
      have hl2 : acc.length + (r.length + 1) ≤ (r.foldl addOne (addOne acc a)).length := hl
      have h1 := hb r (addOne acc a)
      by_cases c : a ∈ acc
      · have e : addOne acc a = acc := if_pos c
        rw [e] at hl2 h1
        omega
      · have e : addOne acc a = acc ++ [a] := if_neg c
        rw [e] at hl2 h1
        have := ih (acc ++ [a]) (by
          rw [List.nodup_append]
          exact ⟨hn, by simp, fun x hx y hy e => c (by rw [List.mem_singleton.mp hy] at e; exact e ▸ hx)⟩) (by rw [List.length_append]; simp at hl2 ⊢; omega)
        simpa using this
  have := key l [] List.nodup_nil (by simpa [once] using h)
  simpa using this
/-- two tellings of the same things, the second one finer -/
theorem finer {α β : Type} [DecidableEq α] [DecidableEq β] {N : Nat} {f : Nat → α} {g : Nat → β} (hg : ∀ p q, p < N → q < N → g p = g q → f p = f q) :
    (once ((List.range N).map f)).length ≤ (once ((List.range N).map g)).length ∧
      ((once ((List.range N).map g)).length ≤ (once ((List.range N).map f)).length → ∀ p q, p < N → q < N → f p = f q → g p = g q) := by
  let φ : β → α := fun v => f (((List.range N).map g).idxOf v)
  have hφ : ∀ p, p < N → φ (g p) = f p := by
    intro p hp
    have hm : g p ∈ (List.range N).map g := List.mem_map.mpr ⟨p, List.mem_range.mpr hp, rfl⟩
    have hi := List.idxOf_lt_length_of_mem hm
    have he := List.getElem_idxOf hi
    rw [List.length_map, List.length_range] at hi
    refine hg _ _ hi hp ?_
    rw [List.getElem_map, List.getElem_range] at he
    exact he
  have sub : ∀ a ∈ once ((List.range N).map f), a ∈ (once ((List.range N).map g)).map φ := by
    intro a ha
    rw [once_mem] at ha
    obtain ⟨p, hp, rfl⟩ := List.mem_map.mp ha
    have hp2 := List.mem_range.mp hp
    exact List.mem_map.mpr ⟨g p, (once_mem _ _).mpr (List.mem_map.mpr ⟨p, hp, rfl⟩), hφ p hp2⟩
  refine ⟨by have := nodup_few (once_nodup _) sub; rwa [List.length_map] at this, fun hle p q hp hq e => ?_⟩
  have hn : ((once ((List.range N).map g)).map φ).Nodup := by
    refine nodup_of_once ?_
    have := nodup_few (once_nodup ((List.range N).map f)) (u := once ((once ((List.range N).map g)).map φ)) fun a ha => (once_mem _ _).mpr (sub a ha)
    rw [List.length_map]
    omega
  have inj : ∀ {l : List β}, (l.map φ).Nodup → ∀ x ∈ l, ∀ y ∈ l, φ x = φ y → x = y := by
    intro l
    induction l with
    | nil => intro _ x hx; exact nomatch hx
    | cons c r ih =>
      intro hn x hx y hy e
      obtain ⟨h1, h2⟩ := List.nodup_cons.mp hn
      rcases List.mem_cons.mp hx with ex | hx2
      · rcases List.mem_cons.mp hy with ey | hy2
        · rw [ex, ey]
        · exact absurd (List.mem_map.mpr ⟨y, hy2, by rw [← e, ex]⟩) h1
      · rcases List.mem_cons.mp hy with ey | hy2
        · exact absurd (List.mem_map.mpr ⟨x, hx2, by rw [e, ey]⟩) h1
        · exact ih h2 x hx2 y hy2 e
  have mem : ∀ p, p < N → g p ∈ once ((List.range N).map g) := fun p hp => (once_mem _ _).mpr (List.mem_map.mpr ⟨p, List.mem_range.mpr hp, rfl⟩)
  exact inj hn _ (mem p hp) _ (mem q hq) (by rw [hφ p hp, hφ q hq]; exact e)
/-! ### one round -/
def mk (ms : List Int) (p : Int) : Int := ms.getD p.toNat 0
def keyAt (rs : List LRow) (ms : List Int) (p : Nat) : NK := (mk ms p, (rowOf rs p).2.map (mk ms))
def keysTo (rs : List LRow) (ms : List Int) (i : Nat) : List NK := (List.range i).map (keyAt rs ms)
def markTo (rs : List LRow) (ms : List Int) (i : Nat) : List Int := (keysTo rs ms i).map fun k => (((once (keysTo rs ms i)).idxOf k : Nat) : Int)
/-- what holds of the marks of a round -/
structure MarkOk (rs : List LRow) (ms : List Int) : Prop where
  len : ms.length = rs.length
  fin : ∀ p q, InSt rs p → InSt rs q → mk ms p = mk ms q → endAt rs p = endAt rs q
  all : ∀ p q, InSt rs p → InSt rs q → lang rs p = lang rs q → mk ms p = mk ms q
def Kern (rs : List LRow) (ms : List Int) : Prop := ∀ p q, InSt rs p → InSt rs q → (mk ms p = mk ms q ↔ lang rs p = lang rs q)
theorem in_nat {rs : List LRow} {p : Int} (h : InSt rs p) : ((p.toNat : Nat) : Int) = p ∧ p.toNat < rs.length := ⟨by have := h.1; omega, by have := h.1; have := h.2; omega⟩
theorem idx_inj {κ : Type} [BEq κ] [LawfulBEq κ] {l : List κ} {a b : κ} (ha : a ∈ l) (hb : b ∈ l) (h : l.idxOf a = l.idxOf b) : a = b := by
  have h1 := List.getElem_idxOf (List.idxOf_lt_length_of_mem ha)
  have h2 := List.getElem_idxOf (List.idxOf_lt_length_of_mem hb)
  rw [← h1, ← h2]
  congr 1
theorem mk_mark {rs : List LRow} {ms : List Int} {p : Int} (h : InSt rs p) : mk (markTo rs ms rs.length) p = (((once (keysTo rs ms rs.length)).idxOf (keyAt rs ms p.toNat) : Nat) : Int) := by
  obtain ⟨h1, h2⟩ := in_nat h
  unfold mk markTo keysTo
  rw [List.getD_eq_getElem?_getD, List.getElem?_map, List.getElem?_map, List.getElem?_range h2]
  rfl
theorem key_mem {rs : List LRow} {ms : List Int} {p : Nat} (h : p < rs.length) : keyAt rs ms p ∈ once (keysTo rs ms rs.length) := (once_mem _ _).mpr (List.mem_map.mpr ⟨p, List.mem_range.mpr h, rfl⟩)
theorem mark_key {rs : List LRow} {ms : List Int} {p q : Int} (hp : InSt rs p) (hq : InSt rs q) : mk (markTo rs ms rs.length) p = mk (markTo rs ms rs.length) q ↔ keyAt rs ms p.toNat = keyAt rs ms q.toNat := by
  rw [mk_mark hp, mk_mark hq]
  constructor
  · intro h
    exact idx_inj (key_mem (in_nat hp).2) (key_mem (in_nat hq).2) (by omega)
  · intro h
    rw [h]
theorem key_mk {rs : List LRow} {ms : List Int} {p q : Int} (hp : InSt rs p) (hq : InSt rs q) (h : keyAt rs ms p.toNat = keyAt rs ms q.toNat) : mk ms p = mk ms q ∧ (rowOf rs p).2.map (mk ms) = (rowOf rs q).2.map (mk ms) := by
  have h1 := congrArg Prod.fst h
  have h2 := congrArg Prod.snd h
  unfold keyAt at h1 h2
  rw [(in_nat hp).1, (in_nat hq).1] at h1 h2
  exact ⟨h1, h2⟩
theorem lang_nxt {rs : List LRow} {p q : Int} (h : lang rs p = lang rs q) (x : Nat) : lang rs (nxt rs p x) = lang rs (nxt rs q x) := by rw [der_lang, der_lang, h]
theorem row_ext {n : Nat} {rs : List LRow} (ok : RowsOk n rs) {p q : Int} (hp : InSt rs p) (hq : InSt rs q) {f : Int → Int} : (rowOf rs p).2.map f = (rowOf rs q).2.map f ↔ ∀ x, x < n → f (nxt rs p x) = f (nxt rs q x) := by
  constructor
  · intro h x hx
    have := congrArg (fun l => l[x]?) h
    simp only [List.getElem?_map, nxt_get ok hp hx, nxt_get ok hq hx, Option.map_some] at this
    exact Option.some.inj this
  · intro h
    apply List.ext_getElem?
    intro x
    rw [List.getElem?_map, List.getElem?_map]
    by_cases hx : x < n
    · rw [nxt_get ok hp hx, nxt_get ok hq hx, Option.map_some, Option.map_some, h x hx]
    · have h1 := ok.wid _ (rowOf_mem hp)
      have h2 := ok.wid _ (rowOf_mem hq)
      rw [List.getElem?_eq_none (by omega), List.getElem?_eq_none (by omega)]
theorem mark_round {n : Nat} {rs : List LRow} (ok : RowsOk n rs) {ms : List Int} (h : MarkOk rs ms) : MarkOk rs (markTo rs ms rs.length) := by
  refine ⟨by simp [markTo, keysTo], fun p q hp hq e => ?_, fun p q hp hq e => ?_⟩
  · exact h.fin p q hp hq (key_mk hp hq ((mark_key hp hq).mp e)).1
  · refine (mark_key hp hq).mpr ?_
    unfold keyAt
    rw [(in_nat hp).1, (in_nat hq).1, h.all p q hp hq e]
    congr 1
    exact (row_ext ok hp hq).mpr fun x hx => h.all _ _ (nxt_in ok hp hx) (nxt_in ok hq hx) (lang_nxt e x)
theorem mk_list {ms : List Int} {N : Nat} (h : ms.length = N) : (List.range N).map (fun (p : Nat) => mk ms (p : Int)) = ms := by
  apply List.ext_getElem?
  intro i
  rw [List.getElem?_map]
  by_cases hi : i < N
  · rw [List.getElem?_range hi, List.getElem?_eq_getElem (by omega), Option.map_some]
    unfold mk
    rw [Int.toNat_natCast, List.getD_eq_getElem?_getD, List.getElem?_eq_getElem (by omega)]
    rfl
  · rw [List.getElem?_eq_none (by simpa using hi), List.getElem?_eq_none (by omega)]
    rfl
theorem mark_more {rs : List LRow} {ms : List Int} (hl : ms.length = rs.length) : (once ms).length ≤ (once (keysTo rs ms rs.length)).length := by
  have h := (finer (N := rs.length) (f := fun p : Nat => mk ms (p : Int)) (g := keyAt rs ms) fun p q _ _ e => congrArg Prod.fst e).1
  rwa [mk_list hl] at h
theorem mark_same {n : Nat} {rs : List LRow} (ok : RowsOk n rs) {ms : List Int} (h : MarkOk rs ms) (hc : (once (keysTo rs ms rs.length)).length = (once ms).length) : Kern rs (markTo rs ms rs.length) := by
  have h2 := (finer (N := rs.length) (f := fun p : Nat => mk ms (p : Int)) (g := keyAt rs ms) fun p q _ _ e => congrArg Prod.fst e).2
  rw [mk_list h.len] at h2
  have h3 := h2 (Nat.le_of_eq hc)
  have st : ∀ p q, InSt rs p → InSt rs q → mk ms p = mk ms q → ∀ x, mk ms (nxt rs p x) = mk ms (nxt rs q x) ∧ InSt rs (nxt rs p x) ∧ InSt rs (nxt rs q x) := by
    intro p q hp hq e x
    by_cases hx : x < n
    · refine ⟨?_, nxt_in ok hp hx, nxt_in ok hq hx⟩
      have := h3 p.toNat q.toNat (in_nat hp).2 (in_nat hq).2 (by show mk ms ((p.toNat : Nat) : Int) = mk ms ((q.toNat : Nat) : Int); rw [(in_nat hp).1, (in_nat hq).1]; exact e)
      exact (row_ext ok hp hq).mp (key_mk hp hq this).2 x hx
    · rw [nxt_far ok hp hx, nxt_far ok hq hx]
      exact ⟨rfl, in_zero ok, in_zero ok⟩
  have la : ∀ w p q, InSt rs p → InSt rs q → mk ms p = mk ms q → lang rs p w = lang rs q w := by
    intro w
    induction w with
    | nil => intro p q hp hq e; exact h.fin p q hp hq e
    | cons x w ih =>
      intro p q hp hq e
      obtain ⟨a, b, c⟩ := st p q hp hq e x
      exact ih _ _ b c a
  have hm := mark_round ok h
  intro p q hp hq
  refine ⟨fun e => ?_, fun e => hm.all p q hp hq e⟩
  exact funext fun w => la w p q hp hq (key_mk hp hq ((mark_key hp hq).mp e)).1
theorem mark_start {rs : List LRow} : MarkOk rs (rs.map (·.1)) := by
  have e : ∀ p, InSt rs p → mk (rs.map (·.1)) p = endAt rs p := by
    intro p hp
    unfold mk endAt rowOf
    rw [List.getD_eq_getElem?_getD, List.getElem?_map, List.getD_eq_getElem?_getD, List.getElem?_eq_getElem (in_nat hp).2]
    rfl
  refine ⟨by simp, fun p q hp hq h => ?_, fun p q hp hq h => ?_⟩
  · rw [e p hp, e q hq] at h; exact h
  · rw [e p hp, e q hq]
    exact congrFun h []
end Sg

namespace Sg
open PySem PySem.Spec PyProof.Rows L2
/-- a list told over a tuple, each thing by reading alone -/
theorem lc_read {K : PySem.W.Frag} {a D : Addr} {xs ys : List V} {j : Nat} {te : TE} {vs : List Nat} {σ : L2.St} {H1 : Hp} {Qd : Hp → Prop} (hD : H1 D = none) (hA : SqT K H1 a xs) (hl : ys.length = xs.length) (hz : xs.length ≤ 100000)
    (hw : ∀ x, wipe ((wipe σ vs).set j (some x)) vs = wipe σ vs)
    (hs : ∀ i x y, xs[i]? = some x → ys[i]? = some y → ∀ R : V → Hp → Prop, R y (upd H1 D (.lst (ys.take i))) → te ((wipe σ vs).set j (some x)) (upd H1 D (.lst (ys.take i))) R)
    (hd : Qd (upd H1 D (.lst ys))) :
    ∃ W : Nat → Nat → Hp → Prop, (∃ m, W 0 m (upd H1 D (.lst []))) ∧ ∀ i m H, W i m H →
      ((Itt K a).stop i H ∧ Qd H) ∨ ((Itt K a).go i H ∧ ∃ Nx : Hp → Prop, (∀ H', Nx H' → ∃ m', m' < m ∧ W (i + 1) m' H') ∧ ∀ x H', (Itt K a).yld i H x H' → gName j x (wipe σ vs) H' fun σ2 H2 => wipe σ2 vs = wipe σ vs ∧ tYes σ2 H2 fun b H3 =>
        if b = true then te σ2 H3 fun y H4 => ∃ acc, H4 D = some (.lst acc) ∧ acc.length < sizeLine ∧ Nx (upd H4 D (.lst (acc ++ [y]))) else Nx H3) := by
  have hA2 : ∀ i, SqT K (upd H1 D (.lst (ys.take i))) a xs := fun i => Same.sqT (same_upd hD) hA
  refine lc_gen (n := xs.length) (fun i H => H = upd H1 D (.lst (ys.take i))) rfl (fun i H hi e => ?_) (fun H e => ?_) (fun i x H H' hi e y => ?_) (fun H e => ?_)
  · subst e
    obtain ⟨x, hx⟩ : ∃ x, xs[i]? = some x := ⟨_, List.getElem?_eq_getElem hi⟩
    exact ⟨xs, x, hA2 i, hx⟩
  · subst e
    exact ⟨xs, hA2 _, Nat.le_refl _⟩
  · subst e
    obtain ⟨rfl, hx⟩ := y
    have hx2 := hx xs (hA2 i)
    obtain ⟨v, hv⟩ : ∃ v, ys[i]? = some v := ⟨_, List.getElem?_eq_getElem (by omega)⟩
    refine ⟨hw x, ?_⟩
    refine hs i x v hx2 hv _ ⟨_, upd_same, ?_, ?_⟩
    · rw [List.length_take]
      exact szlt (m := 100000) (by omega)
    · rw [upd_upd, List.take_add_one, hv]
      rfl
  · subst e
    rw [← hl, List.take_length]
    exact hd
theorem getD_get {ms : List Int} {p : Int} {N : Nat} (hl : ms.length = N) (h0 : 0 ≤ p) (h1 : p < (N : Int)) : atI (ms.map V.int) p = some (.int (mk ms p)) := by
  have e : p = ((p.toNat : Nat) : Int) := by omega
  have hlt : p.toNat < ms.length := by omega
  rw [e]
  refine atI_nat ?_
  rw [List.getElem?_map, List.getElem?_eq_getElem hlt]
  unfold mk
  rw [Int.toNat_natCast, List.getD_eq_getElem?_getD, List.getElem?_eq_getElem hlt]
  rfl
/-! ### numbers given as keys are met -/
theorem once_to_succ (rs : List LRow) (ms : List Int) (i : Nat) : once (keysTo rs ms (i + 1)) = addOne (once (keysTo rs ms i)) (keyAt rs ms i) := by
  unfold keysTo
  rw [List.range_succ, List.map_append, List.map_singleton, once_snoc]
theorem keysTo_succ (rs : List LRow) (ms : List Int) (i : Nat) : keysTo rs ms (i + 1) = keysTo rs ms i ++ [keyAt rs ms i] := by
  unfold keysTo
  rw [List.range_succ, List.map_append, List.map_singleton]
theorem idx_add {κ : Type} [DecidableEq κ] [BEq κ] [LawfulBEq κ] {l : List κ} {a b : κ} (h : a ∈ l) : (addOne l b).idxOf a = l.idxOf a := by
  unfold addOne
  by_cases c : b ∈ l
  · rw [if_pos c]
  · rw [if_neg c, List.idxOf_append, if_pos h]
theorem markTo_succ (rs : List LRow) (ms : List Int) (i : Nat) : markTo rs ms (i + 1) = markTo rs ms i ++ [(((once (keysTo rs ms (i + 1))).idxOf (keyAt rs ms i) : Nat) : Int)] := by
  unfold markTo
  rw [once_to_succ]
  conv => lhs; rw [keysTo_succ, List.map_append]
  congr 1
  refine List.map_congr_left fun k hk => ?_
  rw [idx_add ((once_mem _ _).mpr hk)]
theorem valN_idx : ∀ {kvs : List NE} {ks : List NK} {s : Nat}, kvs.map (·.1) = ks → (∀ j e, kvs[j]? = some e → e.2.2 = ((s + j : Nat) : Int)) → ∀ k, valN kvs k = if k ∈ ks then some ((s + ks.idxOf k : Nat) : Int) else none
  | [], _, s, rfl, _, k => by simp [valN]
  | e :: kvs, _, s, rfl, hp, k => by
    have ih := valN_idx (kvs := kvs) (ks := kvs.map (·.1)) (s := s + 1) rfl (fun j e' he => by
      have := hp (j + 1) e' he
      rw [this]
      omega) k
    by_cases c : e.1 = k
    · have h0 := hp 0 e rfl
      have v1 : valN (e :: kvs) k = some e.2.2 := by simp [valN, c]
      rw [v1, h0, List.map_cons, if_pos (by rw [c]; exact List.mem_cons_self), List.idxOf_cons, beq_iff_eq.mpr c]
      rfl
    · have v1 : valN (e :: kvs) k = valN kvs k := by simp [valN, c]
      rw [v1, ih, List.map_cons]
      by_cases hm : k ∈ kvs.map (·.1)
      · rw [if_pos hm, if_pos (List.mem_cons_of_mem _ hm), List.idxOf_cons, beq_eq_false_iff_ne.mpr c]
        show some ((s + 1 + _ : Nat) : Int) = some ((s + (_ + 1) : Nat) : Int)
        congr 2
        omega
      · rw [if_neg hm, if_neg (fun h => (List.mem_cons.mp h).elim (fun e2 => c e2.symm) hm)]
/-! ### the heap of one round -/
structure CoH (P : Program) (w : World) (H : Hp) (l pd fr : Addr) (rs : List LRow) (ms : List Int) (i : Nat) (H2 : Hp) (kvs : List NE) : Prop where
  same : Same H H2
  lm : H2 l = some (.lst (ms.map V.int))
  dict : H2 pd = some (dN P w pd kvs)
  ent : EntN H2 kvs
  keys : kvs.map (·.1) = once (keysTo rs ms i)
  pos : ∀ (j : Nat) e, kvs[j]? = some e → e.2.2 = (j : Int)
  fresh : H2 fr = some (.lst ((markTo rs ms i).map V.int))
section
variable {P : Program} {w : World} {H H2 : Hp} {l pd fr T : Addr} {rs : List LRow} {ms : List Int} {i : Nat} {kvs : List NE} {o : HO}
theorem CoH.other (c : CoH P w H l pd fr rs ms i H2 kvs) (hT : H2 T = none) : CoH P w H l pd fr rs ms i (upd H2 T o) kvs := by
  have s : Same H2 (upd H2 T o) := same_upd hT
  exact ⟨Same.trans c.same s, s _ _ c.lm, s _ _ c.dict, c.ent.mono fun b xs h => s _ _ h, c.keys, c.pos, s _ _ c.fresh⟩
theorem CoH.len (c : CoH P w H l pd fr rs ms i H2 kvs) : kvs.length = (once (keysTo rs ms i)).length := by rw [← c.keys, List.length_map]
theorem CoH.val (c : CoH P w H l pd fr rs ms i H2 kvs) (k : NK) : valN kvs k = if k ∈ once (keysTo rs ms i) then some (((once (keysTo rs ms i)).idxOf k : Nat) : Int) else none := by
  have h := valN_idx (s := 0) c.keys (fun j e he => by rw [c.pos j e he, Nat.zero_add]) k
  rw [Nat.zero_add] at h
  exact h
/-- the turn's end: the key is there, its number goes to the list -/
theorem CoH.step (c : CoH P w H l pd fr rs ms i H2 kvs) (n0 : H l = none) (n1 : H pd = none) (n2 : H fr = none) (e1 : l ≠ pd) (e2 : l ≠ fr) (e3 : pd ≠ fr) {b : Addr} (hb : KeyN H2 b (keyAt rs ms i)) (hno : keyAt rs ms i ∉ once (keysTo rs ms i)) :
    CoH P w H l pd fr rs ms (i + 1) (upd (upd H2 pd (dN P w pd (kvs ++ [(keyAt rs ms i, b, (kvs.length : Int))]))) fr (.lst ((markTo rs ms i).map V.int ++ [.int (kvs.length : Int)]))) (kvs ++ [(keyAt rs ms i, b, (kvs.length : Int))]) := by
  have hkeys : (kvs ++ [(keyAt rs ms i, b, (kvs.length : Int))]).map (·.1) = once (keysTo rs ms (i + 1)) := by
    rw [List.map_append, c.keys, once_to_succ]
    unfold addOne
    rw [if_neg hno]
    rfl
  have tu : ∀ a xs, H2 a = some (.tup xs) → (upd (upd H2 pd (dN P w pd (kvs ++ [(keyAt rs ms i, b, (kvs.length : Int))]))) fr (.lst ((markTo rs ms i).map V.int ++ [.int (kvs.length : Int)]))) a = some (.tup xs) := fun a xs h => by
    rw [upd_ne (ne_of h c.fresh (fun z => nomatch z)), upd_ne (ne_of h c.dict (fun z => nomatch z))]
    exact h
  refine ⟨fun a x ha => ?_, by rw [upd_ne e2, upd_ne e1]; exact c.lm, by rw [upd_ne e3, upd_same], fun e he => ?_, hkeys, fun j e he => ?_, ?_⟩
  · rw [upd_ne (ne_of_none ha n2), upd_ne (ne_of_none ha n1)]
    exact c.same a x ha
  · rcases List.mem_append.mp he with he | he
    · exact (c.ent e he).mono tu
    · obtain rfl := List.mem_singleton.mp he
      exact hb.mono tu
  · by_cases hj : j < kvs.length
    · rw [List.getElem?_append_left hj] at he
      exact c.pos j e he
    · rw [List.getElem?_append_right (by omega)] at he
      obtain ⟨h0, h1⟩ := List.getElem?_eq_some_iff.mp he
      have : j - kvs.length = 0 := by simpa using h0
      have e4 : j = kvs.length := by omega
      subst e4
      simp at he
      rw [← he]
  · rw [upd_same, markTo_succ, List.map_append, List.map_singleton]
    congr 4
    rw [c.len, once_to_succ]
    unfold addOne
    rw [if_neg hno, List.idxOf_append, if_neg hno]
    simp
theorem CoH.stay (c : CoH P w H l pd fr rs ms i H2 kvs) (n0 : H l = none) (n2 : H fr = none) (e2 : l ≠ fr) (e3 : pd ≠ fr) (hin : keyAt rs ms i ∈ once (keysTo rs ms i)) :
    CoH P w H l pd fr rs ms (i + 1) (upd H2 fr (.lst ((markTo rs ms i).map V.int ++ [.int (((once (keysTo rs ms i)).idxOf (keyAt rs ms i) : Nat) : Int)]))) kvs := by
  have ho : once (keysTo rs ms (i + 1)) = once (keysTo rs ms i) := by
    rw [once_to_succ]
    unfold addOne
    rw [if_pos hin]
  refine ⟨fun a x ha => ?_, by rw [upd_ne e2]; exact c.lm, by rw [upd_ne e3]; exact c.dict, c.ent.mono fun a xs h => ?_, by rw [ho]; exact c.keys, c.pos, ?_⟩
  · rw [upd_ne (ne_of_none ha n2)]
    exact c.same a x ha
  · rw [upd_ne (ne_of h c.fresh (fun z => nomatch z))]
    exact h
  · rw [upd_same, markTo_succ, List.map_append, List.map_singleton, ho]
end
end Sg
namespace Sg
open PySem PySem.Spec PyProof.Rows L2
theorem CoH.start {P : Program} {w : World} {H H1 : Hp} {l pd fr : Addr} {rs : List LRow} {ms : List Int} (s : Same H H1) (hl : H1 l = some (.lst (ms.map V.int))) (hp : H1 pd = none) (hf : (upd H1 pd (dN P w pd [])) fr = none) :
    CoH P w H l pd fr rs ms 0 (upd (upd H1 pd (dN P w pd [])) fr (.lst [])) [] := by
  have s1 : Same H1 (upd H1 pd (dN P w pd [])) := same_upd hp
  have s2 : Same (upd H1 pd (dN P w pd [])) (upd (upd H1 pd (dN P w pd [])) fr (.lst [])) := same_upd hf
  exact ⟨Same.trans s (Same.trans s1 s2), s2 _ _ (s1 _ _ hl), s2 _ _ upd_same, fun e he => (nomatch he), rfl, fun j e he => (by simp at he), upd_same⟩
end Sg
namespace Sg
open PySem PySem.Spec PyProof.Rows L2
theorem CoH.mid {P : Program} {w : World} {H H2 : Hp} {l pd fr : Addr} {rs : List LRow} {ms : List Int} {i : Nat} {kvs : List NE} (c : CoH P w H l pd fr rs ms i H2 kvs) (e3 : pd ≠ fr) {b : Addr} (hb : KeyN H2 b (keyAt rs ms i)) (hno : keyAt rs ms i ∉ once (keysTo rs ms i)) :
    (upd H2 pd (dN P w pd (kvs ++ [(keyAt rs ms i, b, (kvs.length : Int))]))) fr = some (.lst ((markTo rs ms i).map V.int)) ∧ EntN (upd H2 pd (dN P w pd (kvs ++ [(keyAt rs ms i, b, (kvs.length : Int))]))) (kvs ++ [(keyAt rs ms i, b, (kvs.length : Int))]) ∧
      KeyN (upd H2 pd (dN P w pd (kvs ++ [(keyAt rs ms i, b, (kvs.length : Int))]))) b (keyAt rs ms i) ∧ valN (kvs ++ [(keyAt rs ms i, b, (kvs.length : Int))]) (keyAt rs ms i) = some (kvs.length : Int) := by
  have tu : ∀ a xs, H2 a = some (.tup xs) → (upd H2 pd (dN P w pd (kvs ++ [(keyAt rs ms i, b, (kvs.length : Int))]))) a = some (.tup xs) := fun a xs h => by
    rw [upd_ne (ne_of h c.dict (fun z => nomatch z))]
    exact h
  refine ⟨by rw [upd_ne (Ne.symm e3)]; exact c.fresh, fun e he => ?_, hb.mono tu, ?_⟩
  · rcases List.mem_append.mp he with he | he
    · exact (c.ent e he).mono tu
    · obtain rfl := List.mem_singleton.mp he
      exact hb.mono tu
  · have h0 := c.val (keyAt rs ms i)
    rw [if_neg hno] at h0
    unfold valN at h0 ⊢
    rw [List.find?_append]
    cases hf : kvs.find? fun e => decide (e.1 = keyAt rs ms i) with
    | none => simp
    | some e => rw [hf] at h0; cases h0
theorem keys_few (rs : List LRow) (ms : List Int) (i : Nat) : (once (keysTo rs ms i)).length ≤ i := by
  have := once_len (keysTo rs ms i)
  unfold keysTo at this
  rw [List.length_map, List.length_range] at this
  exact this
theorem markTo_len (rs : List LRow) (ms : List Int) (i : Nat) : (markTo rs ms i).length = i := by simp [markTo, keysTo]
theorem once_map_idx {rs : List LRow} {ms : List Int} : (once (markTo rs ms rs.length)).length = (once (keysTo rs ms rs.length)).length := by
  have e1 : markTo rs ms rs.length = (List.range rs.length).map fun p => (((once (keysTo rs ms rs.length)).idxOf (keyAt rs ms p) : Nat) : Int) := by
    unfold markTo keysTo
    rw [List.map_map]
    rfl
  have h1 := (finer (N := rs.length) (f := fun p => (((once (keysTo rs ms rs.length)).idxOf (keyAt rs ms p) : Nat) : Int)) (g := keyAt rs ms) fun p q _ _ e => by rw [e]).1
  have h2 := (finer (N := rs.length) (g := fun p => (((once (keysTo rs ms rs.length)).idxOf (keyAt rs ms p) : Nat) : Int)) (f := keyAt rs ms) fun p q hp hq e => idx_inj (key_mem hp) (key_mem hq) (by omega)).1
  rw [← e1] at h1 h2
  exact Nat.le_antisymm h1 h2
end Sg

namespace Sg
open PySem PySem.Spec PyProof.Rows L2
/-! the least looker by what is taken from each state -/
noncomputable def clo (n : Nat) : Nat → Nat → Met Lang → Met Lang
  | 0, _, acc => acc
  | f + 1, i, acc => match acc[i]? with
    | none => acc
    | some (a, p) => clo n f (i + 1) (expandTo der acc a p n)
noncomputable def rowIn (n : Nat) (acc : Met Lang) (e : Lang × List Nat) : LRow := (e.1 [], (List.range n).map fun x => (((acc.map Prod.fst).idxOf (der e.1 x) : Nat) : Int))
noncomputable def canon (n : Nat) (L : Lang) (f : Nat) : List LRow := (clo n f 0 [(L, [])]).map (rowIn n (clo n f 0 [(L, [])]))
theorem clo_end {n f i : Nat} {acc : Met Lang} (h : acc.length ≤ i) : clo n f i acc = acc := by
  cases f with
  | zero => rfl
  | succ f =>
    unfold clo
    rw [List.getElem?_eq_none h]
theorem clo_go {n f i : Nat} {acc : Met Lang} {a : Lang} {p : List Nat} (h : acc[i]? = some (a, p)) : clo n (f + 1) i acc = clo n f (i + 1) (expandTo der acc a p n) := by
  show (match acc[i]? with | none => acc | some (a, p) => clo n f (i + 1) (expandTo der acc a p n)) = _
  rw [h]
theorem clo_more {n : Nat} {L : Lang} {u : List Lang} (hs : L ∈ u) (hc : ∀ a ∈ u, ∀ x, x < n → der a x ∈ u) : ∀ {f g i : Nat} {acc : Met Lang}, MetOk n der L acc → u.length < f + i → u.length < g + i → clo n f i acc = clo n g i acc
  | 0, g, i, acc, h, hf, _ => by
    have := met_few h hs hc
    rw [clo_end (by omega), clo_end (by omega)]
  | f + 1, 0, i, acc, h, _, hg => by
    have := met_few h hs hc
    rw [clo_end (by omega), clo_end (by omega)]
  | f + 1, g + 1, i, acc, h, hf, hg => by
    by_cases hi : i < acc.length
    · obtain ⟨⟨a, q⟩, hap⟩ : ∃ ap, acc[i]? = some ap := ⟨_, List.getElem?_eq_getElem hi⟩
      rw [clo_go hap, clo_go hap]
      exact clo_more hs hc (met_expand h (List.mem_of_getElem? hap)) (by omega) (by omega)
    · rw [clo_end (by omega), clo_end (by omega)]
/-- the languages of a looker -/
def langs (rs : List LRow) : List Lang := (stR rs.length).map (lang rs)
theorem langs_len (rs : List LRow) : (langs rs).length = rs.length := by unfold langs; rw [List.length_map, stR_len]
theorem langs_mem {rs : List LRow} {p : Int} (h : InSt rs p) : lang rs p ∈ langs rs := List.mem_map.mpr ⟨p, mem_stR.mpr h, rfl⟩
theorem langs_step {n : Nat} {rs : List LRow} (ok : RowsOk n rs) : ∀ a ∈ langs rs, ∀ x, x < n → der a x ∈ langs rs := by
  intro a ha x hx
  obtain ⟨p, hp, rfl⟩ := List.mem_map.mp ha
  exact List.mem_map.mpr ⟨nxt rs p x, mem_stR.mpr (nxt_in ok (mem_stR.mp hp) hx), rfl⟩
theorem met_langs {n : Nat} {rs : List LRow} (ok : RowsOk n rs) {acc : Met Lang} (h : MetOk n der (lang rs 0) acc) : acc.length ≤ rs.length := by
  have := met_few h (langs_mem (in_zero ok)) (langs_step ok)
  rwa [langs_len] at this
theorem clo_met {n : Nat} {L : Lang} : ∀ {f i : Nat} {acc : Met Lang}, MetOk n der L acc → MetOk n der L (clo n f i acc)
  | 0, _, _, h => h
  | f + 1, i, acc, h => by
    by_cases hi : i < acc.length
    · obtain ⟨⟨a, q⟩, hap⟩ : ∃ ap, acc[i]? = some ap := ⟨_, List.getElem?_eq_getElem hi⟩
      rw [clo_go hap]
      exact clo_met (met_expand h (List.mem_of_getElem? hap))
    · rw [clo_end (by omega)]
      exact h
theorem clo_sub {n : Nat} : ∀ {f i : Nat} {acc : Met Lang}, ∃ more, clo n f i acc = acc ++ more
  | 0, _, acc => ⟨[], by rw [List.append_nil]; rfl⟩
  | f + 1, i, acc => by
    by_cases hi : i < acc.length
    · obtain ⟨⟨a, q⟩, hap⟩ : ∃ ap, acc[i]? = some ap := ⟨_, List.getElem?_eq_getElem hi⟩
      rw [clo_go hap]
      obtain ⟨m1, e1⟩ := expandTo_sub (stp := der) (acc := acc) (a := a) (p := q) n
      obtain ⟨m2, e2⟩ := clo_sub (n := n) (f := f) (i := i + 1) (acc := expandTo der acc a q n)
      exact ⟨m1 ++ m2, by rw [e2, e1, List.append_assoc]⟩
    · rw [clo_end (by omega)]
      exact ⟨[], by rw [List.append_nil]⟩
theorem expandTo_in {acc : Met Lang} {a : Lang} {p : List Nat} : ∀ k x, x < k → der a x ∈ (expandTo der acc a p k).map Prod.fst
  | k + 1, x, hx => by
    rw [expandTo_succ]
    by_cases c : x < k
    · obtain ⟨m, e⟩ := addStep_sub (stp := der) (a := a) (p := p) (acc := expandTo der acc a p k) (x := k)
      rw [e, List.map_append]
      exact List.mem_append_left _ (expandTo_in k x c)
    · have : x = k := by omega
      subst this
      unfold addStep
      by_cases c2 : der a x ∈ (expandTo der acc a p x).map Prod.fst
      · rw [if_pos c2]; exact c2
      · rw [if_neg c2, List.map_append]
        exact List.mem_append_right _ (by simp)
/-- all that is met leads to what is met -/
theorem clo_closed {n : Nat} {L : Lang} {u : List Lang} (hs : L ∈ u) (hc : ∀ a ∈ u, ∀ x, x < n → der a x ∈ u) : ∀ {f i : Nat} {acc : Met Lang}, MetOk n der L acc → u.length < f + i → (∀ e ∈ acc.take i, ∀ x, x < n → der e.1 x ∈ acc.map Prod.fst) →
    ∀ e ∈ clo n f i acc, ∀ x, x < n → der e.1 x ∈ (clo n f i acc).map Prod.fst
  | 0, i, acc, h, hf, hcl => by
    have := met_few h hs hc
    rw [clo_end (by omega)]
    rw [List.take_of_length_le (by omega)] at hcl
    exact hcl
  | f + 1, i, acc, h, hf, hcl => by
    by_cases hi : i < acc.length
    · obtain ⟨⟨a, q⟩, hap⟩ : ∃ ap, acc[i]? = some ap := ⟨_, List.getElem?_eq_getElem hi⟩
      rw [clo_go hap]
      refine clo_closed hs hc (met_expand h (List.mem_of_getElem? hap)) (by omega) fun e he x hx => ?_
      obtain ⟨m1, e1⟩ := expandTo_sub (stp := der) (acc := acc) (a := a) (p := q) n
      have ht : (expandTo der acc a q n).take (i + 1) = acc.take i ++ [(a, q)] := by
        rw [e1, List.take_append_of_le_length (by omega), List.take_add_one, hap]
        rfl
      rw [ht] at he
      rcases List.mem_append.mp he with he | he
      · rw [e1, List.map_append]
        exact List.mem_append_left _ (hcl e he x hx)
      · obtain rfl := List.mem_singleton.mp he
        exact expandTo_in n x hx
    · rw [clo_end (by omega)]
      rw [List.take_of_length_le (by omega)] at hcl
      exact hcl
theorem canon_same {n : Nat} {r1 r2 : List LRow} (o1 : RowsOk n r1) (o2 : RowsOk n r2) (h : lang r1 0 = lang r2 0) : canon n (lang r1 0) (r1.length + 1) = canon n (lang r2 0) (r2.length + 1) := by
  have e1 : clo n (r1.length + 1) 0 [(lang r1 0, [])] = clo n (r1.length + r2.length + 2) 0 [(lang r1 0, [])] :=
    clo_more (langs_mem (in_zero o1)) (langs_step o1) (met_start _ _ _) (by rw [langs_len]; omega) (by rw [langs_len]; omega)
  have e2 : clo n (r2.length + 1) 0 [(lang r2 0, [])] = clo n (r1.length + r2.length + 2) 0 [(lang r2 0, [])] :=
    clo_more (langs_mem (in_zero o2)) (langs_step o2) (met_start _ _ _) (by rw [langs_len]; omega) (by rw [langs_len]; omega)
  unfold canon
  rw [e1, e2, h]
/-- the least looker is one, and takes the same -/
theorem canon_ok {n : Nat} {rs : List LRow} (ok : RowsOk n rs) : RowsOk n (canon n (lang rs 0) (rs.length + 1)) ∧ lang (canon n (lang rs 0) (rs.length + 1)) 0 = lang rs 0 := by
  have hm : MetOk n der (lang rs 0) (clo n (rs.length + 1) 0 [(lang rs 0, [])]) := clo_met (met_start _ _ _)
  have hcl : ∀ e ∈ clo n (rs.length + 1) 0 [(lang rs 0, [])], ∀ x, x < n → der e.1 x ∈ (clo n (rs.length + 1) 0 [(lang rs 0, [])]).map Prod.fst :=
    clo_closed (langs_mem (in_zero ok)) (langs_step ok) (met_start _ _ _) (by rw [langs_len]; omega) (fun e he => by simp at he)
  have hsub : ∃ more, clo n (rs.length + 1) 0 [(lang rs 0, [])] = [(lang rs 0, [])] ++ more := clo_sub
  have hfew := met_langs ok hm
  have hst := met_closed hm (fun a => a ∈ langs rs) (langs_mem (in_zero ok)) (fun a x ha hx => langs_step ok a ha x hx)
  unfold canon
  generalize clo n (rs.length + 1) 0 [(lang rs 0, [])] = F at hm hcl hsub hfew hst
  obtain ⟨more, hF⟩ := hsub
  have hpos : 1 ≤ F.length := by rw [hF]; simp
  have h600 := ok.top
  have hidx : ∀ e ∈ F, ∀ x, x < n → (F.map Prod.fst).idxOf (der e.1 x) < F.length := fun e he x hx => by
    have := List.idxOf_lt_length_of_mem (hcl e he x hx)
    rwa [List.length_map] at this
  have rok : RowsOk n (F.map (rowIn n F)) := by
    refine ⟨by rw [List.length_map]; exact hpos, by rw [List.length_map]; omega, fun r hr => ?_, fun r hr => ?_, fun r hr q hq => ?_⟩
    · obtain ⟨e, he, rfl⟩ := List.mem_map.mp hr
      obtain ⟨p, hp, hpe⟩ := List.mem_map.mp (hst e he)
      show e.1 [] = 0 ∨ e.1 [] = 1
      rw [← hpe]
      exact endAt_bit ok (mem_stR.mp hp)
    · obtain ⟨e, he, rfl⟩ := List.mem_map.mp hr
      unfold rowIn
      simp
    · obtain ⟨e, he, rfl⟩ := List.mem_map.mp hr
      obtain ⟨x, hx, rfl⟩ := List.mem_map.mp hq
      have := hidx e he x (List.mem_range.mp hx)
      rw [List.length_map]
      omega
  refine ⟨rok, ?_⟩
  have la : ∀ (w : List Nat) (i : Nat) (e : Lang × List Nat), F[i]? = some e → lang (F.map (rowIn n F)) (i : Int) w = e.1 w := by
    intro w
    induction w with
    | nil =>
      intro i e he
      show endAt (F.map (rowIn n F)) (i : Int) = e.1 []
      unfold endAt rowOf
      rw [Int.toNat_natCast, List.getD_eq_getElem?_getD, List.getElem?_map, he]
      rfl
    | cons x w ih =>
      intro i e he
      have hem := List.mem_of_getElem? he
      have hi : i < F.length := (List.getElem?_eq_some_iff.mp he).1
      have hin : InSt (F.map (rowIn n F)) (i : Int) := ⟨by omega, by rw [List.length_map]; omega⟩
      show lang (F.map (rowIn n F)) (nxt (F.map (rowIn n F)) (i : Int) x) w = e.1 (x :: w)
      by_cases hx : x < n
      · have hn : nxt (F.map (rowIn n F)) (i : Int) x = (((F.map Prod.fst).idxOf (der e.1 x) : Nat) : Int) := by
          unfold nxt rowOf
          rw [Int.toNat_natCast, List.getD_eq_getElem?_getD, List.getD_eq_getElem?_getD, List.getElem?_map, he]
          show ((rowIn n F e).2[x]?).getD 0 = _
          unfold rowIn
          rw [List.getElem?_map, List.getElem?_range hx]
          rfl
        rw [hn]
        have hmem := hcl e hem x hx
        have h1 := List.getElem_idxOf (List.idxOf_lt_length_of_mem hmem)
        have h2 := hidx e hem x hx
        rw [ih _ _ (List.getElem?_eq_getElem h2)]
        rw [List.getElem_map] at h1
        exact congrFun h1 w
      · rw [nxt_far rok hin hx]
        have h0 : F[0]? = some (lang rs 0, []) := by rw [hF]; rfl
        have := ih 0 _ h0
        rw [show ((0 : Nat) : Int) = 0 from rfl] at this
        rw [this]
        obtain ⟨p, hp, hpe⟩ := List.mem_map.mp (hst e hem)
        rw [← hpe]
        show lang rs 0 w = lang rs (nxt rs p x) w
        rw [nxt_far ok (mem_stR.mp hp) hx]
  have h0 : F[0]? = some (lang rs 0, []) := by rw [hF]; rfl
  exact funext fun w => la w 0 _ h0
theorem idx_more {κ : Type} [BEq κ] [LawfulBEq κ] {l m : List κ} {a : κ} (h : a ∈ l) : (l ++ m).idxOf a = l.idxOf a := by
  rw [List.idxOf_append, if_pos h]
theorem rowIn_more {n : Nat} {acc more : Met Lang} {e : Lang × List Nat} (h : ∀ x, x < n → der e.1 x ∈ acc.map Prod.fst) : rowIn n (acc ++ more) e = rowIn n acc e := by
  unfold rowIn
  congr 1
  refine List.map_congr_left fun x hx => ?_
  rw [List.map_append, idx_more (h x (List.mem_range.mp hx))]
end Sg

namespace Sg
open PySem PySem.Spec PyProof.Rows L2
theorem tk_put {H : Hp} {D : Addr} {o : HO} (nt : ∀ ys, H D ≠ some (.tup ys)) (nf : ∀ q v, H D ≠ some (.frz q v)) : TK H (upd H D o) :=
  ⟨fun b xs h => by rw [upd_ne (fun z => nt xs (by rw [← z]; exact h))]; exact h, fun b q v h => by rw [upd_ne (fun z => nf q v (by rw [← z]; exact h))]; exact h⟩
/-- what the dict of numbers tells: the place at which a language was met -/
def NumOk (rs : List LRow) (ms : List Int) (acc : Met Lang) (nb : List (Key × V)) : Prop :=
  (∀ p, InSt rs p → lang rs p ∈ acc.map Prod.fst → valV nb (.inl (mk ms p)) = some (.int (((acc.map Prod.fst).idxOf (lang rs p) : Nat) : Int))) ∧ (∀ p, InSt rs p → lang rs p ∉ acc.map Prod.fst → valV nb (.inl (mk ms p)) = none) ∧ nb.length ≤ acc.length
structure LsH (K : PySem.W.Frag) (H : Hp) (l nd ch rr : Addr) (rs : List LRow) (ms : List Int) (acc : Met Lang) (H2 : Hp) (cs : List Int) (nb : List (Key × V)) (vs : List V) (rws : List LRow) : Prop where
  same : Same H H2
  n1 : H l = none
  n2 : H nd = none
  n3 : H ch = none
  n4 : H rr = none
  e1 : ch ≠ l
  e2 : ch ≠ rr
  e3 : l ≠ rr
  lm : H2 l = some (.lst (ms.map V.int))
  dict : H2 nd = some (.dK nb)
  num : NumOk rs ms acc nb
  chl : H2 ch = some (.lst (cs.map V.int))
  csl : cs.map (lang rs) = acc.map Prod.fst
  csi : ∀ c ∈ cs, InSt rs c
  rows : H2 rr = some (.lst vs)
  pr : Paired (RSt K H2) vs rws
section
variable {K : PySem.W.Frag} {H H2 : Hp} {l nd ch rr D : Addr} {rs : List LRow} {ms : List Int} {acc : Met Lang} {cs : List Int} {nb : List (Key × V)} {vs : List V} {rws : List LRow} {o : HO}
theorem LsH.put (h : LsH K H l nd ch rr rs ms acc H2 cs nb vs rws) (h0 : H D = none) (d1 : l ≠ D) (d2 : nd ≠ D) (d3 : ch ≠ D) (d4 : rr ≠ D) (nt : ∀ ys, H2 D ≠ some (.tup ys)) (nf : ∀ q v, H2 D ≠ some (.frz q v)) : LsH K H l nd ch rr rs ms acc (upd H2 D o) cs nb vs rws :=
  { h with
    same := fun b x hb => by rw [upd_ne (ne_of_none hb h0)]; exact h.same b x hb
    lm := by rw [upd_ne d1]; exact h.lm
    dict := by rw [upd_ne d2]; exact h.dict
    chl := by rw [upd_ne d3]; exact h.chl
    rows := by rw [upd_ne d4]; exact h.rows
    pr := pr_mono h.pr fun _ _ r => r.mono (tk_put nt nf) }
theorem LsH.free (h : LsH K H l nd ch rr rs ms acc H2 cs nb vs rws) (h0 : H2 D = none) : H D = none ∧ l ≠ D ∧ nd ≠ D ∧ ch ≠ D ∧ rr ≠ D :=
  ⟨Same.free h.same h0, ne_of_none h.lm h0, ne_of_none h.dict h0, ne_of_none h.chl h0, ne_of_none h.rows h0⟩
theorem LsH.other (h : LsH K H l nd ch rr rs ms acc H2 cs nb vs rws) (h0 : H2 D = none) : LsH K H l nd ch rr rs ms acc (upd H2 D o) cs nb vs rws := by
  obtain ⟨a, b, c, d, e⟩ := h.free h0
  exact h.put a b c d e (fun _ => by rw [h0]; nofun) (fun _ _ => by rw [h0]; nofun)
theorem LsH.cnt (h : LsH K H l nd ch rr rs ms acc H2 cs nb vs rws) : cs.length = acc.length := by
  have := congrArg List.length h.csl
  rwa [List.length_map, List.length_map] at this
/-- a language that was not met -/
theorem NumOk.add {rs : List LRow} {ms : List Int} {acc : Met Lang} {nb : List (Key × V)} (h : NumOk rs ms acc nb) (kn : Kern rs ms) {c : Int} (hc : InSt rs c) (hn : lang rs c ∉ acc.map Prod.fst) (q : List Nat) : NumOk rs ms (acc ++ [(lang rs c, q)]) (putK nb (.inl (mk ms c)) (.int (acc.length : Int))) := by
  obtain ⟨h1, h2, h3⟩ := h
  have key : ∀ p, InSt rs p → ((Sum.inl (mk ms p) : Key) = Sum.inl (mk ms c) ↔ lang rs p = lang rs c) := fun p hp => ⟨fun e => (kn p c hp hc).mp (Sum.inl.inj e), fun e => by rw [(kn p c hp hc).mpr e]⟩
  refine ⟨fun p hp hm => ?_, fun p hp hm => ?_, ?_⟩
  · rw [valV_put]
    by_cases e : lang rs p = lang rs c
    · rw [if_pos ((key p hp).mpr e), e, List.map_append, List.idxOf_append, if_neg hn]
      simp
    · rw [if_neg (fun z => e ((key p hp).mp z))]
      rw [List.map_append] at hm ⊢
      have hm2 : lang rs p ∈ acc.map Prod.fst := (List.mem_append.mp hm).elim id fun h => absurd (by simpa using h) e
      rw [idx_more hm2]
      exact h1 p hp hm2
  · rw [valV_put]
    rw [List.map_append] at hm
    have e : lang rs p ≠ lang rs c := fun e => hm (List.mem_append_right _ (by simp [e]))
    rw [if_neg (fun z => e ((key p hp).mp z))]
    exact h2 p hp fun h => hm (List.mem_append_left _ h)
  · have := length_putK nb (.inl (mk ms c)) (.int (acc.length : Int))
    rw [List.length_append]
    simp
    omega
theorem LsH.met (h : LsH K H l nd ch rr rs ms acc H2 cs nb vs rws) (kn : Kern rs ms) {c : Int} (hc : InSt rs c) (hn : lang rs c ∉ acc.map Prod.fst) (q : List Nat) :
    LsH K H l nd ch rr rs ms (acc ++ [(lang rs c, q)]) (upd (upd H2 nd (.dK (putK nb (.inl (Sg.mk ms c)) (.int (acc.length : Int))))) ch (.lst (cs.map V.int ++ [.int c]))) (cs ++ [c]) (putK nb (.inl (Sg.mk ms c)) (.int (acc.length : Int))) vs rws := by
  have a1 : l ≠ nd := ne_of h.lm h.dict (fun z => nomatch z)
  have a2 : ch ≠ nd := ne_of h.chl h.dict (fun z => nomatch z)
  have a3 : rr ≠ nd := ne_of h.rows h.dict (fun z => nomatch z)
  have hch : (upd H2 nd (.dK (putK nb (.inl (Sg.mk ms c)) (.int (acc.length : Int))))) ch = some (.lst (cs.map V.int)) := by rw [upd_ne a2]; exact h.chl
  refine ⟨fun b x hb => ?_, h.n1, h.n2, h.n3, h.n4, h.e1, h.e2, h.e3, ?_, ?_, h.num.add kn hc hn q, by rw [upd_same, List.map_append]; rfl, ?_, fun d hd => ?_, ?_, pr_mono h.pr fun _ _ r => r.mono ?_⟩
  · rw [upd_ne (ne_of_none hb h.n3), upd_ne (ne_of_none hb h.n2)]
    exact h.same b x hb
  · rw [upd_ne (Ne.symm h.e1), upd_ne a1]; exact h.lm
  · rw [upd_ne (Ne.symm a2), upd_same]
  · rw [List.map_append, List.map_append, h.csl]; rfl
  · rcases List.mem_append.mp hd with hd | hd
    · exact h.csi d hd
    · rw [List.mem_singleton.mp hd]; exact hc
  · rw [upd_ne (Ne.symm h.e2), upd_ne a3]; exact h.rows
  · exact (tk_put (fun _ => by rw [h.dict]; nofun) (fun _ _ => by rw [h.dict]; nofun)).trans (tk_put (fun _ => by rw [hch]; nofun) (fun _ _ => by rw [hch]; nofun))
/-- a row is told -/
theorem LsH.row (h : LsH K H l nd ch rr rs ms acc H2 cs nb vs rws) {T T1 : Addr} {r : LRow} (hT : H2 T = some (.tup [.int r.1, .ref T1])) (hT1 : H2 T1 = some (.tup (r.2.map V.int))) :
    LsH K H l nd ch rr rs ms acc (upd H2 rr (.lst (vs ++ [.ref T]))) cs nb (vs ++ [.ref T]) (rws ++ [r]) := by
  have a3 : nd ≠ rr := ne_of h.dict h.rows (fun z => nomatch z)
  have k : TK H2 (upd H2 rr (.lst (vs ++ [.ref T]))) := tk_put (fun _ => by rw [h.rows]; nofun) (fun _ _ => by rw [h.rows]; nofun)
  exact { h with
    same := fun b x hb => by rw [upd_ne (ne_of_none hb h.n4)]; exact h.same b x hb
    lm := by rw [upd_ne h.e3]; exact h.lm
    dict := by rw [upd_ne a3]; exact h.dict
    chl := by rw [upd_ne h.e2]; exact h.chl
    rows := upd_same
    pr := pr_snoc (pr_mono h.pr fun _ _ r => r.mono k) ⟨T, T1, rfl, k.sqT (.inl (.inl hT)), k.sqT (.inl (.inl hT1))⟩ }
end
end Sg
namespace Sg
open PySem PySem.Spec PyProof.Rows L2
theorem LsH.start {K : PySem.W.Frag} {H H1 H2 : Hp} {l nd ch rr : Addr} {n : Nat} {rs : List LRow} {ms : List Int} (ok : RowsOk n rs) (s1 : Same H H1) (kn : Kern rs ms) (hl0 : H l = none) (hl : H1 l = some (.lst (ms.map V.int))) (hnd : H1 nd = none)
    (e2 : H2 = upd (upd H1 nd (.dK [])) nd (.dK [(.inl (Sg.mk ms 0), .int 0)])) (hch : H2 ch = none) (hrr : (upd H2 ch (.lst [.int 0])) rr = none) :
    LsH K H l nd ch rr rs ms [(lang rs 0, [])] (upd (upd H2 ch (.lst [.int 0])) rr (.lst [])) [0] [(.inl (Sg.mk ms 0), .int 0)] [] [] := by
  have s2 : Same H1 H2 := fun b x hb => by rw [e2, upd_ne (ne_of_none hb hnd), upd_ne (ne_of_none hb hnd)]; exact hb
  have s3 : Same H2 (upd H2 ch (.lst [.int 0])) := same_upd hch
  have s4 : Same (upd H2 ch (.lst [.int 0])) (upd (upd H2 ch (.lst [.int 0])) rr (.lst [])) := same_upd hrr
  have k1 : H2 nd = some (.dK [(.inl (Sg.mk ms 0), .int 0)]) := by rw [e2, upd_same]
  have l2 := s2 _ _ hl
  have c1 : (upd H2 ch (.lst [.int 0])) ch = some (.lst [.int 0]) := upd_same
  refine ⟨Same.trans s1 (Same.trans s2 (Same.trans s3 s4)), hl0, Same.free s1 hnd, Same.free (Same.trans s1 s2) hch, Same.free (Same.trans s1 (Same.trans s2 s3)) hrr, Ne.symm (ne_of_none l2 hch), ne_of_none c1 hrr, ne_of_none (s3 _ _ l2) hrr, s4 _ _ (s3 _ _ l2), s4 _ _ (s3 _ _ k1), ⟨fun p hp hm => ?_, fun p hp hm => ?_, Nat.le_refl _⟩, s4 _ _ c1, rfl, fun c hc => ?_, upd_same, .nil⟩
  · have e : lang rs p = lang rs 0 := by simpa using hm
    have e3 := (kn p 0 hp (in_zero ok)).mpr e
    rw [e3, e]
    simp [valV]
  · have e : lang rs p ≠ lang rs 0 := fun e => hm (by simp [e])
    have e3 : Sg.mk ms 0 ≠ Sg.mk ms p := fun z => e ((kn p 0 hp (in_zero ok)).mp z.symm)
    simp [valV, e3]
  · rw [List.mem_singleton.mp hc]
    exact in_zero ok
end Sg
namespace Sg
open PySem PySem.Spec PyProof.Rows L2
theorem leads_succ (acc : Met Lang) (L : Lang) (p : List Nat) (x : Nat) :
    (List.range (x + 1)).map (fun y => ((((expandTo der acc L p (x + 1)).map Prod.fst).idxOf (der L y) : Nat) : Int)) =
      (List.range x).map (fun y => ((((expandTo der acc L p x).map Prod.fst).idxOf (der L y) : Nat) : Int)) ++ [((((expandTo der acc L p (x + 1)).map Prod.fst).idxOf (der L x) : Nat) : Int)] := by
  rw [List.range_succ, List.map_append, List.map_singleton]
  congr 1
  refine List.map_congr_left fun y hy => ?_
  rw [expandTo_succ]
  obtain ⟨m, e⟩ := addStep_sub (stp := der) (a := L) (p := p) (acc := expandTo der acc L p x) (x := x)
  rw [e, List.map_append, idx_more (expandTo_in x y (List.mem_range.mp hy))]
theorem step_old {acc : Met Lang} {L : Lang} {p : List Nat} {x : Nat} (h : der L x ∈ (expandTo der acc L p x).map Prod.fst) : expandTo der acc L p (x + 1) = expandTo der acc L p x := by
  rw [expandTo_succ]
  unfold addStep
  rw [if_pos h]
theorem step_new {acc : Met Lang} {L : Lang} {p : List Nat} {x : Nat} (h : der L x ∉ (expandTo der acc L p x).map Prod.fst) : expandTo der acc L p (x + 1) = expandTo der acc L p x ++ [(der L x, p ++ [x])] := by
  rw [expandTo_succ]
  unfold addStep
  rw [if_neg h]
theorem idx_last {l : List Lang} {a : Lang} (h : a ∉ l) : (l ++ [a]).idxOf a = l.length := by
  rw [List.idxOf_append, if_neg h]
  simp
end Sg

/-! lookers as data for == and repr -/
namespace Sg
open PySem PySem.Spec PyProof.Rows L2
structure GoodD (d : PyData) : Prop where
  lay : d.canLay0 = true
  show_ : d.showable = true
  deep : d.depth ≤ 50
  size : d.shown.length ≤ sizeLine
theorem GoodD.shaped {d : PyData} (h : GoodD d) : SeqAt.shaped d = true := by
  unfold SeqAt.shaped
  rw [h.lay, decide_eq_true (Nat.le_trans h.deep (by decide))]
  rfl
theorem GoodD.noDict {d : PyData} (h : GoodD d) : d.hasDict = false := PyData.hasDict_of_canLay d h.lay
theorem GoodD.refl {d : PyData} (h : GoodD d) : PyData.eqv d d = true := SeqAt.eqv_refl d h.lay
def rowD (r : LRow) : PyData := .tuple [.int r.1, .tuple (r.2.map PyData.int)]
def lkD (z : Str) (rs : List LRow) : PyData := .tuple [.str z, .tuple (rs.map rowD)]
theorem ints_dp {K : PySem.W.Frag} {H : Hp} : ∀ l : List Int, DpAll K H (l.map V.int) (l.map PyData.int)
  | [] => .nil
  | i :: l => .cons (.int i) (ints_dp l)
theorem rows_dp {K : PySem.W.Frag} {H : Hp} {vs : List V} {rs : List LRow} (h : Paired (RSt K H) vs rs) : DpAll K H vs (rs.map rowD) := by
  induction h with
  | nil => exact .nil
  | cons r _ ih =>
    obtain ⟨a, b, rfl, h1, h2⟩ := r
    exact .cons (.tup h1 (.cons (.int _) (.cons (.tup h2 (ints_dp _)) .nil))) ih
theorem RLk.dp {K : PySem.W.Frag} {H : Hp} {v : V} {z : Str} {rs : List LRow} (h : RLk K H v z rs) : Dp K H v (lkD z rs) := by
  obtain ⟨a, b, rfl, h1, vs, h2, h3⟩ := h
  exact .tup h1 (.cons (.str z) (.cons (.tup h2 (rows_dp h3)) .nil))
/-! how great -/
theorem int_short : ∀ n : Fin 600, (PyData.shown (.int (n.val : Int))).length ≤ 8 ∧ PyData.weight (.int (n.val : Int)) ≤ 10 ∧ PyData.showable (.int (n.val : Int)) = true := by decide +kernel
theorem int_ok {i : Int} (h0 : 0 ≤ i) (h1 : i < 600) : (PyData.shown (.int i)).length ≤ 8 ∧ PyData.weight (.int i) ≤ 10 ∧ PyData.showable (.int i) = true := by
  have := int_short ⟨i.toNat, by omega⟩
  have e : ((i.toNat : Nat) : Int) = i := by omega
  rwa [show ((⟨i.toNat, by omega⟩ : Fin 600).val : Int) = i from e] at this
structure ListOk (ds : List PyData) (w dp : Nat) : Prop where
  lay : PyData.canLayAll0 ds = true
  show_ : PyData.showableAll ds = true
  short : PyData.leavesShortAll 8 ds = true
  deep : PyData.depthAll ds ≤ dp
  wt : PyData.weightAll ds ≤ ds.length * w
theorem listOk_map {α : Type} {f : α → PyData} {w dp : Nat} : ∀ {l : List α}, (∀ a ∈ l, (f a).canLay0 = true ∧ (f a).showable = true ∧ (f a).leavesShort 8 = true ∧ (f a).depth ≤ dp ∧ (f a).weight + 1 ≤ w) → ListOk (l.map f) w dp
  | [], _ => ⟨rfl, rfl, rfl, Nat.zero_le _, Nat.zero_le _⟩
  | a :: l, h => by
    obtain ⟨h1, h2, h3, h4, h5⟩ := h a List.mem_cons_self
    have ih := listOk_map (w := w) (dp := dp) (l := l) fun b hb => h b (List.mem_cons_of_mem _ hb)
    refine ⟨?_, ?_, ?_, ?_, ?_⟩
    · show ((f a).canLay0 && PyData.canLayAll0 (l.map f)) = true
      rw [h1, ih.lay]; rfl
    · show ((f a).showable && PyData.showableAll (l.map f)) = true
      rw [h2, ih.show_]; rfl
    · show ((f a).leavesShort 8 && PyData.leavesShortAll 8 (l.map f)) = true
      rw [h3, ih.short]; rfl
    · show max (f a).depth (PyData.depthAll (l.map f)) ≤ dp
      have := ih.deep
      omega
    · show (f a).weight + 1 + PyData.weightAll (l.map f) ≤ (l.map f).length.succ * w
      have := ih.wt
      rw [Nat.succ_mul]
      omega
theorem row_good {n : Nat} {rs : List LRow} (ok : RowsOk n rs) (hn : n ≤ 5) : ∀ r ∈ rs, (rowD r).canLay0 = true ∧ (rowD r).showable = true ∧ (rowD r).leavesShort 8 = true ∧ (rowD r).depth ≤ 2 ∧ (rowD r).weight + 1 ≤ 80 := by
  intro r hr
  have h600 := ok.top
  have hb := ok.bit r hr
  obtain ⟨b1, b2, b3⟩ := int_ok (i := r.1) (by omega) (by omega)
  have hw := ok.wid r hr
  have L := listOk_map (f := PyData.int) (w := 11) (dp := 0) (l := r.2) fun q hq => by
    have ht := ok.to r hr q hq
    obtain ⟨c1, c2, c3⟩ := int_ok (i := q) ht.1 (by omega)
    exact ⟨rfl, c3, decide_eq_true c1, Nat.le_refl _, by omega⟩
  have hlen : (r.2.map PyData.int).length ≤ 5 := by rw [List.length_map]; omega
  have hwt : PyData.weightAll (r.2.map PyData.int) ≤ 55 := Nat.le_trans L.wt (by omega)
  refine ⟨?_, ?_, ?_, ?_, ?_⟩
  · show (true && (PyData.canLayAll0 (r.2.map PyData.int) && true)) = true
    rw [L.lay]; rfl
  · show (PyData.showable (.int r.1) && (PyData.showableAll (r.2.map PyData.int) && true)) = true
    rw [b3, L.show_]; rfl
  · show (decide ((PyData.shown (.int r.1)).length ≤ 8) && (PyData.leavesShortAll 8 (r.2.map PyData.int) && true)) = true
    rw [decide_eq_true b1, L.short]; rfl
  · show max 0 (max (PyData.depthAll (r.2.map PyData.int) + 1) 0) + 1 ≤ 2
    have := L.deep
    omega
  · show (PyData.weight (.int r.1) + 1 + (PyData.weightAll (r.2.map PyData.int) + 1 + 0)) + 1 ≤ 80
    omega
theorem lk_good {z : Str} {rs : List LRow} (hz : SignsOk z) (ok : RowsOk z.length rs) : GoodD (lkD z rs) := by
  have h600 := ok.top
  have hz5 := hz.top
  have L := listOk_map (f := rowD) (w := 80) (dp := 2) (l := rs) (row_good ok hz5)
  have hz1 : PyData.strOk z = true := by
    unfold PyData.strOk
    rw [Array.all_eq_true_iff_forall_mem]
    intro c hc
    have := hz.low c (Array.mem_toList_iff.mpr hc)
    exact decide_eq_true (Nat.lt_of_lt_of_le this (by decide))
  have hsh : (lkD z rs).leavesShort 8 = true := by
    show ((z.cps.toList.all fun c => decide (c < 16 ^ 8)) && (PyData.leavesShortAll 8 (rs.map rowD) && true)) = true
    rw [L.short, List.all_eq_true.mpr fun c hc => decide_eq_true (Nat.lt_of_lt_of_le (hz.low c hc) (by decide))]
    rfl
  have hwt : PyData.weightAll (rs.map rowD) ≤ 48000 := Nat.le_trans L.wt (by rw [List.length_map]; omega)
  refine ⟨?_, ?_, ?_, ?_⟩
  · show (PyData.strOk z && (PyData.canLayAll0 (rs.map rowD) && true)) = true
    rw [hz1, L.lay]; rfl
  · show (true && (PyData.showableAll (rs.map rowD) && true)) = true
    rw [L.show_]; rfl
  · show max 0 (max (PyData.depthAll (rs.map rowD) + 1) 0) + 1 ≤ 50
    have := L.deep
    omega
  · refine PyData.shown_fits (B := 8) (Nat.le_refl _) (by omega) hsh ?_
    show z.cps.size + 1 + (PyData.weightAll (rs.map rowD) + 1 + 0) ≤ 2 ^ 20
    have : z.cps.size = z.length := rfl
    have e : (2 : Nat) ^ 20 = 1048576 := by decide
    omega
/-! is, is not of two truth values -/
def rNotT : R2 := fun x y H Q => match x, y with
  | .bl c, .bl d => Q (.bl (c != d)) H
  | _, _ => False
theorem op_isnotB {X : Cx} : OpR X (compareOp .IsNot) rNotT := by
  intro pins s σ H x y v u Q I rx ry h
  match x, y, h with
  | .bl c, .bl d, q =>
    cases (show v = Value.bool c from rx)
    cases (show u = Value.bool d from ry)
    exact isnot_bool ⟨.bl (c != d), H, I, rfl, q⟩
end Sg

/-! raise of an own error with any one argument; lists told with things laid on the way; counts -/
namespace Sg
open PySem PySem.Spec PyProof.Rows L2
theorem pmk_ownE {X : Cx} {C : Addr} {bmB : List Value} {B newId initId : String} {x : Str} {e : Expr} {te : TE} {p pos : Pos} (F : ExcBaseFacts B newId initId bmB) (q : PySem.W.excIn X.K C bmB newId = true) (gC : X.mg x = some (.ref C)) (kC : PySem.W.keepIn X.K (.ref C) = true) (raises : Raises X (.ref C)) (he : PE X e te) (hg : Gl X x)
    (dbg : (x == ("__debug__" : Str)) = false := by decide) (st : starEach [e] X.env = (false, eval e X.env) :: starEach [] X.env := by rfl) (plain : (backTo pos (starEach [] X.env)).any (·.1) = false := by rfl) : PMk X (.Call (.Name x p) [e] [] pos) (fun σ H Q => te σ H fun _ H1 => Q (.ref C) none H1) := by
  intro pins s σ H Q I goal
  refine wpAny_Call_Name_kw (ld_glob I hg gC ?_ dbg)
  have ha : PA X [e] (tCons te tNil) := pa_cons he pa_nil (hs := st)
  refine PySem.W.callWith_K (h₀ := X.base) I.ok.mod.kin kC (thn (ha.run pos pins s σ H (fun vs H1 => match vs with | [_] => Q (.ref C) none H1 | _ => False) I goal) fun us s1 ⟨vs, H1, I1, r1, q1⟩ => ?_) st plain
  refine ⟨I1.kIn, ?_⟩
  match vs, q1, r1 with
  | [v], q1, r1 =>
  obtain ⟨u, rfl, _⟩ := vals1 r1
  obtain ⟨bm, N, nm, qn, bs, hdct, sn, sub, ab, col, dd, k0, k1, k2, k3, k5, mN, hC, hN, hni, T⟩ := exc_obj I1.kIn q
  refine wpAny_call_exc_subT F T hC hN hni (fun h' e hm => ?_) (by show 1 ≤ sizeLine; rw [sizeLine_eq]; omega)
  exact mk_of I1 hm raises q1 (I1.hok.gone hm.new)
end Sg

/-! a def called with keywords alone -/
namespace Sg
open PySem PySem.Spec PyProof.Rows L2
structure DkK (P : Program) (w : World) (K : PySem.W.Frag) (mg : Str → Option Value) (base : Heap) (k : Nat) (x : Str) (ps ks : List Str) (g : List Value → List Value → List Value) (gV : List V → List V → List V) (sp : Sp) : Prop where
  ok : ∃ fd, FnOk P w K mg base (L2.CX P w) k (He.ga K x) fd ps sp ∧ KBinds K fd ps ks g gV
  kp : PySem.W.keepIn K (.ref (He.ga K x)) = true
  gm : mg x = some (.ref (He.ga K x))
def tCallRK (sp : Sp) (gV : List V → List V → List V) (W : WX) (t : TA) : TE := fun σ H Q => t σ H fun zs H1 => sp (gV [] zs) H1 Q fun cls d H' => W cls d σ H'
theorem pe_callRK0 {X : Cx} {k : Nat} {x : Str} {ps ks : List Str} {g : List Value → List Value → List Value} {gV : List V → List V → List V} {sp : Sp} {W : WX} {kws : List Keyword} {t : TA} {p pos : Pos} (D : DkK X.prog X.w X.K X.mg X.base k x ps ks g gV sp) (hr : Room k X.A) (tk : Takes X W) (hkw : PK X kws t) (hg : Gl X x := by rfl)
    (hall : (backToKw pos (keywordEach kws X.env)).all (·.1.isSome) = true := by rfl) (hks : (backToKw pos (keywordEach kws X.env)).filterMap (·.1) = ks := by rfl)
    (hdb : (x == ("__debug__" : Str)) = false := by decide) (hpl : ((backTo pos (starEach [] X.env)).any (·.1) || (backToKw pos (keywordEach kws X.env)).any (·.1.isNone)) = false := by rfl) :
    PE X (.Call (.Name x p) [] kws pos) (tCallRK sp gV W t) := by
  obtain ⟨fd, F, B⟩ := D.ok
  refine ⟨fun pins s σ H Q I goal => wpAny_Call_Name_kw (ld_glob I hg D.gm ?_ hdb)⟩
  refine PySem.W.callWith_KW0 (h₀ := X.base) I.ok.mod.kin D.kp hall (thn (hkw.run pos pins s σ H _ I goal) fun ws s1 ⟨zs, H1, I1, rz, q⟩ => ⟨I1.kIn, ?_⟩) hpl
  rw [hks]
  have r2 := B.rel (vs := []) (us := []) .nil rz
  have hl : (g [] ws).length = ps.length := by rw [← r2.length]; exact F.len _ _ _ _ q
  refine wpAny_call (codeAny_mono (F.run X.A X.stack s1 H1 ⟨[], ks.zip ws⟩ (g [] ws) (gV [] zs) Q (fun cls d H' => W cls d σ H') hr I1.env0 (B.to s1 [] ws I1.kIn hl) r2 q) fun r s' hq => ?_)
  match r, hq with
  | .error e, he => exact passAt tk σ pins H1 s1 e s' I1 he
  | .ok (.ret u), he => exact I1.after he
  | .ok .next, he => exact False.elim he
  | .ok .brk, he => exact False.elim he
  | .ok .cont, he => exact False.elim he
/-- two keywords, the second parameter first -/
def swG (us ws : List Value) : List Value := match us, ws with
  | [], [b, a] => [a, b]
  | _, _ => []
def swV (vs zs : List V) : List V := match vs, zs with
  | [], [b, a] => [a, b]
  | _, _ => []
theorem sw_binds {K : PySem.W.Frag} {x qual : Str} {params : Arguments} {body : List Stmt} {scope : Scope} {kws : List (Str × V)} {f : Addr} {fd : FuncData} {p1 p2 : Str} (F : FunD K x qual params body scope [] kws f fd)
    (h : ∀ (kV doc pm : Value) (an : Option Addr) (cdv ct : Value) (a b : Value), bindArgs (PySem.W.fnOf x qual params body scope .none kV doc pm an cdv ct) ⟨[], [(p2, b), (p1, a)]⟩ = pure [(p1, a), (p2, b)]) : KBinds K fd [p1, p2] [p2, p1] swG swV := by
  obtain ⟨oc, od, dV, kV, doc, pm, an, cdv, ct, osl, rfl, lk, hcd, hD, hK⟩ := F.ex
  rcases hD with ⟨_, rfl⟩ | ⟨e, _⟩
  · refine ⟨fun s us ws _ hl => ?_, fun {vs us zs ws} r rz => ?_⟩
    · match us, ws, hl with
      | [], [b, a], _ => exact .of_eq (h kV doc pm an cdv ct a b)
    · cases r with
      | nil =>
        cases rz with
        | nil => exact .nil
        | cons r1 rz1 =>
          cases rz1 with
          | nil => exact .nil
          | cons r2 rz2 =>
            cases rz2 with
            | nil => exact .cons r2 (.cons r1 .nil)
            | cons _ _ => exact .nil
      | cons _ _ => exact .nil
  · exact absurd rfl e
end Sg

/-! text * int, text[::-1] -/
namespace Sg
open PySem PySem.Spec PyProof.Rows L2
def mulT (x : Str) (n : Nat) : Str := ⟨(List.replicate n x.cps).foldl (· ++ ·) #[]⟩
def rMulS : R2 := fun x y H Q => ∃ z, ∃ n : Nat, x = .str z ∧ y = .int (n : Int) ∧ 2 ≤ n ∧ n ≤ 1000 ∧ 1 ≤ z.length ∧ z.length ≤ 1000 ∧ Q (.str (mulT z n)) H
theorem foldl_cps (x : Array Nat) : ∀ (n : Nat) (acc : Array Nat), ((List.replicate n x).foldl (· ++ ·) acc).toList = acc.toList ++ (List.replicate n x.toList).flatten
  | 0, acc => by simp
  | n + 1, acc => by
    rw [List.replicate_succ, List.foldl_cons, foldl_cps x n, Array.toList_append, List.replicate_succ, List.flatten_cons, List.append_assoc]
theorem mulT_cps (x : Str) (n : Nat) : (mulT x n).cps.toList = (List.replicate n x.cps.toList).flatten := by
  show ((List.replicate n x.cps).foldl (· ++ ·) #[]).toList = _
  rw [foldl_cps]
  rfl
theorem mulT_len (x : Str) (n : Nat) : (mulT x n).length = n * x.length := by
  have h : (mulT x n).cps.toList.length = n * x.length := by
    rw [mulT_cps, List.length_flatten, List.map_replicate, List.sum_replicate_nat]
    rfl
  exact h
theorem op_mulS {X : Cx} : OpR X (binaryOp .Mult) rMulS := by
  intro pins s σ H x y v u Q I rx ry h
  obtain ⟨z, n, rfl, rfl, h2, h3, h4, h5, q⟩ := h
  obtain ⟨t, rfl⟩ := rx
  obtain ⟨t', rfl⟩ := ry
  have hz : (mulT z n).length ≤ 1000000 := by
    rw [mulT_len]
    exact Nat.mul_le_mul h3 h5
  have e1 : ¬ ((n : Int) < 1) := by omega
  have e2 : ((n : Int) == 1 || z.length == 0) = false := by
    have a : ((n : Int) == 1) = false := by simp; omega
    have b : (z.length == 0) = false := by simp; omega
    rw [a, b]
    rfl
  have hm : z.length * n ≤ 1000000 := by
    rw [Nat.mul_comm]
    exact Nat.mul_le_mul h3 h5
  have hm2 : (z.length : Int) * (n : Int) ≤ 1000000 := by
    rw [← Int.natCast_mul]
    omega
  refine PySem.P.mul_str (by rw [decide_eq_false (by omega), decide_eq_false (by omega)]; rfl) (fun _ _ => ?_) (fun _ _ => ?_) ?_
  · exact Int.not_lt.mpr ((Int.le_ediv_iff_mul_le (by omega)).mpr (by omega))
  · rw [Int.toNat_natCast]
    exact decide_eq_false (Nat.not_lt.mpr (szle hm))
  · rw [if_neg e1, if_neg (by rw [e2]; decide), Int.toNat_natCast]
    exact ⟨szle hz, .str _, H, I.tok _, ⟨_, rfl⟩, q⟩
def tRevS (te : TE) : TE := fun σ H Q => te σ H fun x H1 => ∃ z, x = .str z ∧ z.length ≤ 1000 ∧ ∀ y : Str, (∀ c ∈ y.cps.toList, c ∈ z.cps.toList) → y.length ≤ 1000 → Q (.str y) H1
theorem pe_revS {X : Cx} {e : Expr} {te : TE} {k : Nat} {p1 p2 p3 pos : Pos} (he : PE X e te) : PE X (.Subscript e (.Slice none none (some (.UnaryOp .USub (.Constant (.int 1) k p1) p2)) p3) pos) (tRevS te) := by
  refine ⟨fun pins s σ H Q I h => ?_⟩
  refine Subscript_ (thn (he.run pins s σ H _ I h) fun v s1 ⟨x, H1, I1, r1, q1⟩ => ?_)
  obtain ⟨z, ex, hz, q⟩ := q1
  subst ex
  obtain ⟨t, rfl⟩ := r1
  have hst : PO X (some (.UnaryOp .USub (.Constant (.int 1) k p1) p2)) (tPart (tUn (rU fun i => .int (-i)) (tC (.int 1)))) := po_some (pe_un un_neg pe_int)
  refine wpAny_Slice (thn (po_none.run pins s1 σ H1 (fun o H2 => o = none ∧ H2 = H1) I1 ⟨rfl, rfl⟩) fun vl s2 ⟨l, H2, I2, pl, el, e2⟩ => ?_)
  subst el e2
  refine thn (po_none.run pins s2 σ H2 (fun o H3 => o = none ∧ H3 = H2) I2 ⟨rfl, rfl⟩) fun vu s3 ⟨u, H3, I3, pu, eu, e3⟩ => ?_
  subst eu e3
  refine thn (hst.run pins s3 σ H3 (fun o H4 => o = some (-1) ∧ H4 = H3) I3 ⟨1, rfl, -1, rfl, rfl, rfl⟩) fun vs s4 ⟨o, H4, I4, ps, eo, e4⟩ => ?_
  subst eo e4
  have I5 : Inv X pins σ H4 { s4 with heap := s4.heap.push { cls := .type "slice", data := .fields #[vl, vu, vs] } } := I4.kept (t' := s4.toks) fun b ob q => Heap.get?_push_of_some _ q
  cases pl
  cases pu
  cases ps with
  | int _ tk =>
  refine tail_any (ops := [.str z t, .ref s4.heap.objs.size]) (typeIs_str _ z t) (PySem.F.slot_str_getitem.lookup) ?_ (by with_unfolding_all rfl)
  refine wpAny_getItem_str_slice (l := none) (u := none) (st := some (-1, tk)) ⟨_, Heap.get?_push_size _ rfl, rfl, rfl⟩ rfl ?_
  show Made.post (if ((-1 : Int) == 1 && (PySem.Builtin.Str.strSliceIndices none none (-1) z.length).length == z.length) = true then Made.val (.str z t)
    else Made.str ⟨((PySem.Builtin.Str.strSliceIndices none none (-1) z.length).filterMap (z.cps[·]?)).toArray⟩) (EP X pins σ Q) _
  rw [if_neg (by simp)]
  have len : (⟨((PySem.Builtin.Str.strSliceIndices none none (-1) z.length).filterMap (z.cps[·]?)).toArray⟩ : Str).length ≤ 1000 := by
    have h1 : ((PySem.Builtin.Str.strSliceIndices none none (-1) z.length).filterMap (z.cps[·]?)).length ≤ z.length := by
      refine Nat.le_trans (List.length_filterMap_le _ _) ?_
      show (sliceRange ((z.length : Int) - 1) (-1) (-1)).length ≤ _
      unfold sliceRange
      rw [List.length_map, List.length_range, if_neg (by decide)]
      split
      · rw [show (-(-1 : Int)) = 1 by rfl, Int.ediv_one]
        omega
      · exact Nat.zero_le _
    show (List.toArray _).size ≤ 1000
    rw [List.size_toArray]
    exact Nat.le_trans h1 hz
  refine ⟨szle (m := 1000) len, .str _, H4, I5.tok _, ⟨_, rfl⟩, q _ (fun c hc => ?_) len⟩
  obtain ⟨i, _, hi⟩ := List.mem_filterMap.mp (by simpa using hc)
  exact Array.mem_toList_iff.mpr (Array.mem_of_getElem? hi)
end Sg

/-! methods and instances; what is never run -/
namespace Sg
open PySem PySem.Spec PyProof.Rows L2
abbrev FnM (K : PySem.W.Frag) (C m q : Str) (st : Stmt) (dvs : List V) (fd : FuncData) : Prop := FunD K m q (defArgs st) (defBody st) (defScope st) dvs [] (He.ma K (He.ga K C) m) fd
def clsAt (st : Stmt) (j : Nat) : Stmt := match st with
  | .ClassDef (body := b) .. => b.getD j (.Pass ⟨0, 0, 0, 0⟩)
  | _ => .Pass ⟨0, 0, 0, 0⟩
structure DkM (P : Program) (w : World) (K : PySem.W.Frag) (mg : Str → Option Value) (base : Heap) (k : Nat) (C m : Str) (ps : List Str) (dvs : List V) (sp : Sp) : Prop where
  ok : ∃ fd ds, FnOk P w K mg base (L2.CX P w) k (He.ma K (He.ga K C) m) fd ps sp ∧ Binds K fd ps ds ∧ Vals dvs ds
def spNo : Sp := fun _ _ _ _ => False
theorem dk_no {P : Program} {w : World} {K : PySem.W.Frag} {mg : Str → Option Value} {base : Heap} {x : Str} {st : Stmt} {ps : List Str} {fd : FuncData} (F : FnP K x st (He.ga K x) fd) (B : Binds K fd ps []) (g : mg x = some (.ref (He.ga K x))) (k : Nat) : Dk P w K mg base k x ps spNo :=
  ⟨⟨fd, ⟨fun _ _ _ _ h => h.elim, fun _ _ _ _ _ _ _ _ _ _ _ _ _ h => h.elim⟩, B⟩, F.kp, g⟩
theorem dkM_no {P : Program} {w : World} {K : PySem.W.Frag} {mg : Str → Option Value} {base : Heap} {C m : Str} {ps : List Str} {fd : FuncData} (B : Binds K fd ps []) (k : Nat) : DkM P w K mg base k C m ps [] spNo :=
  ⟨fd, [], ⟨fun _ _ _ _ h => h.elim, fun _ _ _ _ _ _ _ _ _ _ _ _ _ h => h.elim⟩, B, .nil⟩
def EF : XK := fun _ _ _ => False
theorem passF {X : Cx} : Passes (L2.CX X.prog X.w) X EF := fun pins σ H s e s' I c => passAt (W := fun _ _ _ _ => False) takes0 σ pins H s e s' I c
def tMethR (K : PySem.W.Frag) (C m : Str) (sp : Sp) (dvs : List V) (ta : TE) (t : TA) : TE := tMeth (He.ga K C) m sp dvs EF ta t
def tMakeR (K : PySem.W.Frag) (C : Str) (sp : Sp) (dvs : List V) (t : TA) : TE := tMake (He.ga K C) sp dvs EF t
section
variable {X : Cx} {k : Nat} {C m : Str} {ps : List Str} {dvs : List V} {sp : Sp} {o e : Expr} {es : List Expr} {ta : TE} {t : TA} {pos apos p : Pos}
theorem pe_methR {pl : Sem Bool} (he : PE X o ta) (c : Cls X.K (He.ga X.K C)) (hm : Meth X.K (He.ga X.K C) m (He.ma X.K (He.ga X.K C) m)) (D : DkM X.prog X.w X.K X.mg X.base k C m ps dvs sp) (hr : Room k X.A) (ha : PA X (e :: es) t)
    (hst : starEach (e :: es) X.env = (false, eval e X.env) :: starEach es X.env := by rfl) (hpl : (backTo pos (starEach es X.env)).any (·.1) = false := by rfl)
    (ht : eval (.Call (.Attribute o m apos) (e :: es) [] pos) X.env = (do
      let ov ← eval o X.env
      standAt apos.atName
      let (f, first) ← holding [ov] (getMethod ov m pl)
      callWith pos f first (backTo pos (starEach (e :: es) X.env)) (backToKw pos (keywordEach [] X.env))) := by rfl) :
    PE X (.Call (.Attribute o m apos) (e :: es) [] pos) (tMethR X.K C m sp dvs ta t) := by
  obtain ⟨fd, ds, F, B, hd⟩ := D.ok
  exact pe_meth he c hm F hr B hd passF ha hst hpl ht
theorem pe_methR0 {pl : Sem Bool} (he : PE X o ta) (c : Cls X.K (He.ga X.K C)) (hm : Meth X.K (He.ga X.K C) m (He.ma X.K (He.ga X.K C) m)) (D : DkM X.prog X.w X.K X.mg X.base k C m ps dvs sp) (hr : Room k X.A)
    (ht : eval (.Call (.Attribute o m apos) [] [] pos) X.env = (do
      let ov ← eval o X.env
      standAt apos.atName
      let (f, first) ← holding [ov] (getMethod ov m pl)
      callWith pos f first (backTo pos (starEach [] X.env)) (backToKw pos (keywordEach [] X.env))) := by rfl) :
    PE X (.Call (.Attribute o m apos) [] [] pos) (tMethR X.K C m sp dvs ta tNil) := by
  obtain ⟨fd, ds, F, B, hd⟩ := D.ok
  exact pe_meth0 he c hm F hr B hd passF ht
theorem pe_makeR (M : Mk X.K (He.ga X.K C) (He.ma X.K (He.ga X.K C) "__init__")) (hm : X.mg C = some (.ref (He.ga X.K C))) (D : DkM X.prog X.w X.K X.mg X.base k C "__init__" ps dvs sp) (hr : Room (k + 1) X.A)
    (ha : PA X (e :: es) t) (hg : Gl X C := by rfl) (hdb : (C == ("__debug__" : Str)) = false := by decide) (he : starEach (e :: es) X.env = (false, eval e X.env) :: starEach es X.env := by rfl) (hpl : (backTo pos (starEach es X.env)).any (·.1) = false := by rfl) :
    PE X (.Call (.Name C p) (e :: es) [] pos) (tMakeR X.K C sp dvs t) := by
  obtain ⟨fd, ds, F, B, hd⟩ := D.ok
  exact pe_make M F hr hg hm B hd passF ha hdb he hpl
end
/-! what is never run -/
theorem pe_dead {X : Cx} {e : Expr} : PE X e (fun _ _ _ => False) := ⟨fun _ _ _ _ _ _ h => h.elim⟩
theorem pt_dead {X : Cx} {e : Expr} : PT X e (fun _ _ _ => False) := ⟨fun _ _ _ _ _ _ h => h.elim⟩
theorem ps_dead {X : Cx} {s : Stmt} : PS X s (fun _ _ _ => False) := ⟨fun _ _ _ _ _ _ h => h.elim⟩
theorem pss_dead {X : Cx} {s : List Stmt} : PSs X s (fun _ _ _ => False) := ⟨fun _ _ _ _ _ _ h => h.elim⟩
end Sg

/-! tuple * int, from once on; tuple(text) -/
namespace Sg
open PySem PySem.Spec PyProof.Rows L2
theorem tuple_mul1 (l : Addr) (items : Array Value) (n : Nat) (dd : Option Addr) (sl : Array (Option Value)) (u : Tok) :
    Meets (Builtin.«tuple.__mul__» ⟨[.ref l, .int 1 u], []⟩) (fun _ R s => s.heap.get? l = some { cls := .type "tuple", dict := dd, data := .seq items n, slots := sl } ∧ R (.ok (.ret (Value.ref l))) s) :=
  .of_wp fun prog w A R s h => by
    obtain ⟨hp, g, d, tk, os⟩ := s
    obtain ⟨hl, h⟩ := h
    have f1 := AutoSeq1.idx_int
    have c0 : (decide ((1 : Int) < -(2 ^ 63)) || decide ((1 : Int) ≥ 2 ^ 63)) = false := by decide
    have c1 : (items.isEmpty || (1 : Int) == 1) = true := by rw [show ((1 : Int) == 1) = true by decide, Bool.or_true]
    wp_walk using wpAny_loadPart' hl
    repeat (first
      | (refine wpAny_ite_false (decide_eq_false (by rw [c0]; exact Bool.false_ne_true)) ?_; wp_walk using wpAny_loadPart' hl)
      | (refine wpAny_ite_true (decide_eq_true c1) ?_; wp_walk using wpAny_loadPart' hl))
    exact ⟨_, rfl, h⟩
def rRepT1 (K : PySem.W.Frag) : R2 := fun x y H Q => ∃ l k xs, x = .ref l ∧ y = .int k ∧ SqT K H l xs ∧ xs ≠ [] ∧ 1 ≤ k ∧ k ≤ 1000 ∧ xs.length ≤ 1000 ∧ ∀ p H', Same H H' → H' p = some (.tup (List.replicate k.toNat xs).flatten) ∨ (H' = H ∧ p = l ∧ k = 1) → Q (.ref p) H'
theorem op_repT1 {X : Cx} : OpR X (binaryOp .Mult) (rRepT1 X.K) := by
  intro pins s σ H x y v u Q I rx ry h
  obtain ⟨l, k, xs, rfl, rfl, hT, hne, h1, h2, hz, q⟩ := h
  by_cases hk : k = 1
  · subst hk
    cases rx
    obtain ⟨t, rfl⟩ := ry
    obtain ⟨its, r, ⟨⟨cls, dd, data, sl⟩, ho, hc, n, hd⟩, hs⟩ := I.tuple hT
    simp only at hc hd
    subst hc hd
    refine wpAny_binaryOp_repeat_ref (T := "tuple") (U := "int") (by decide) ⟨_, ho, rfl⟩ (fun s' => typeIs_int s' 1 t) noFill_tuple_mul F.fills_int_mul F.slot_int_rmul repeat_tuple F.slot_int_index.lookup
      (call_meets F.slot_int_rmul (typeIs_int s 1 t) F.entry_int_rmul (F.args_int_rmul_2 _ _) (int_rmul_tuple 1 t l its.toArray n dd sl)
        ⟨ho, rfl, ⟨_, ho, rfl⟩, call_meets F.slot_tuple_mul ⟨_, ho, rfl⟩ F.entry_tuple_mul (F.args_tuple_mul_2 _ _) (tuple_mul1 l its.toArray n dd sl t) ⟨ho, ?_⟩⟩)
    exact ⟨.ref l, H, I, rfl, q l H (fun _ _ h => h) (.inr ⟨rfl, rfl, rfl⟩)⟩
  · exact op_repT pins s σ H _ _ v u Q I rx ry ⟨l, k, xs, rfl, rfl, hT, hne, by omega, h2, hz, fun p hp => q p _ (same_upd hp) (.inl upd_same)⟩
def rTupS : List V → Hp → VK → Prop := fun xs H Q => match xs with
  | [.str z] => z.cps.size ≤ sizeLine ∧ ∀ p, H p = none → Q (.ref p) (upd H p (.tup ((signsOf z).map V.str)))
  | _ => False
theorem call_tupS {X : Cx} (hc : X.calm = true) : CallR X (.type "tuple") rTupS := by
  intro pins s σ H xs us Q I r h
  match xs, h with
  | [.str z], ⟨hz, q⟩ =>
    obtain ⟨u, rfl, t, rfl⟩ := vals1 r
    refine call_tuple_str (I.ok.hd hc) z t (fun h' tk acc' kp hit => ?_) hz
    have hv := vals_signs hit
    have hlen : ((signsOf z).map V.str).length ≤ sizeLine := by
      rw [List.length_map]; unfold signsOf; rw [List.length_map, Array.length_toList]; exact hz
    have I2 := I.kept (t' := tk) kp
    refine ⟨.ref h'.objs.size, _, I2.laid (a := h'.objs.size) (o := .tup ((signsOf z).map V.str)) (t' := tk) (fun b ob q => Heap.get?_push_of_some _ q) (Nat.le_refl _) ?_, rfl, q _ (I2.hok.fresh (Nat.le_refl _))⟩
    exact ⟨hlen, acc'.toList, by simpa using hv, by simpa using IsTup.new _ _⟩
end Sg

/-! tables of the program's top: a dict of texts to data; the hook that sees them -/
namespace Sg
open PySem PySem.Spec PyProof.Rows L2
mutual
/-- the value is this data, in what is written -/
def datB (K : PySem.W.Frag) : PyData → Value → Bool
  | .none, .none => true
  | .bool b, .bool c => b == c
  | .int i, .int j _ => decide (i = j)
  | .str x, .str y _ => decide (x = y)
  | .tuple ds, .ref a => (match K.lookup a with
    | some ⟨.type c, _, .seq its _, _⟩ => decide (c = "tuple") && (decide (its.size ≤ sizeLine) && datsB K ds its.toList)
    | _ => false)
  | _, _ => false
def datsB (K : PySem.W.Frag) : List PyData → List Value → Bool
  | [], [] => true
  | d :: ds, u :: us => datB K d u && datsB K ds us
  | _, _ => false
end
/-- data of what is written, at any heap -/
def DatK (K : PySem.W.Frag) (x : V) (d : PyData) : Prop := ∀ H : Hp, Dp K H x d
def DatsK (K : PySem.W.Frag) (xs : List V) (ds : List PyData) : Prop := ∀ H : Hp, DpAll K H xs ds
mutual
theorem datB_ok {K : PySem.W.Frag} : ∀ (d : PyData) (u : Value), datB K d u = true → ∃ x, RelV x u ∧ DatK K x d
  | .none, u, h => by
    cases u with
    | none => exact ⟨.non, rfl, fun _ => .non⟩
    | _ => simp [datB] at h
  | .bool b, u, h => by
    cases u with
    | bool c =>
      have e : b = c := by simpa [datB] using h
      exact ⟨.bl b, by rw [e]; rfl, fun _ => .bl b⟩
    | _ => simp [datB] at h
  | .int i, u, h => by
    cases u with
    | int j t =>
      have e : i = j := by simpa [datB] using h
      exact ⟨.int i, ⟨t, by rw [e]⟩, fun _ => .int i⟩
    | _ => simp [datB] at h
  | .str x, u, h => by
    cases u with
    | str y t =>
      have e : x = y := by simpa [datB] using h
      exact ⟨.str x, ⟨t, by rw [e]⟩, fun _ => .str x⟩
    | _ => simp [datB] at h
  | .list ds, u, h => by simp [datB] at h
  | .dict ds, u, h => by simp [datB] at h
  | .tuple ds, u, h => by
    cases u with
    | ref a =>
      rw [datB] at h
      split at h
      · rename_i c od its n sl q
        rw [Bool.and_eq_true, Bool.and_eq_true] at h
        obtain ⟨xs, r, hd⟩ := datsB_ok ds its.toList h.2.2
        refine ⟨.ref a, rfl, fun H => .tup (.inr ⟨_, its, n, q, congrArg Value.type (of_decide_eq_true h.1), rfl, of_decide_eq_true h.2.1, r⟩) (hd H)⟩
      · cases h
    | _ => simp [datB] at h
theorem datsB_ok {K : PySem.W.Frag} : ∀ (ds : List PyData) (us : List Value), datsB K ds us = true → ∃ xs, Vals xs us ∧ DatsK K xs ds
  | [], us, h => by
    cases us with
    | nil => exact ⟨[], .nil, fun _ => .nil⟩
    | cons u us => simp [datsB] at h
  | d :: ds, us, h => by
    cases us with
    | nil => simp [datsB] at h
    | cons u us =>
      rw [datsB, Bool.and_eq_true] at h
      obtain ⟨x, r, hx⟩ := datB_ok d u h.1
      obtain ⟨xs, rs, hxs⟩ := datsB_ok ds us h.2
      exact ⟨x :: xs, .cons r rs, fun H => .cons (hx H) (hxs H)⟩
end
/-- a table's values -/
def tabB (K : PySem.W.Frag) (a : Addr) (kvs : List (Str × PyData)) : Bool := kvs.all fun q => match PySem.W.nsIn K a q.1 with
  | some (some u) => datB K q.2 u
  | _ => false
theorem tabB_ok {K : PySem.W.Frag} {a : Addr} {kvs : List (Str × PyData)} (h : tabB K a kvs = true) {q : Str × PyData} (hq : q ∈ kvs) : ∃ u x, PySem.W.nsIn K a q.1 = some (some u) ∧ RelV x u ∧ DatK K x q.2 := by
  have h2 := List.all_eq_true.mp h q hq
  cases e : PySem.W.nsIn K a q.1 with
  | none => rw [e] at h2; cases h2
  | some r =>
    rw [e] at h2
    cases r with
    | none => cases h2
    | some u =>
      obtain ⟨x, r, hx⟩ := datB_ok q.2 u h2
      exact ⟨u, x, rfl, r, hx⟩
theorem relV_ref {x : V} {a : Addr} (h : RelV x (.ref a)) : x = .ref a := by
  cases x with
  | ref b => cases h; rfl
  | int i => obtain ⟨t, e⟩ := (show ∃ t, Value.ref a = Value.int i t from h); cases e
  | str i => obtain ⟨t, e⟩ := (show ∃ t, Value.ref a = Value.str i t from h); cases e
  | byt i => obtain ⟨t, e⟩ := (show ∃ t, Value.ref a = Value.bytes i t from h); cases e
  | flt i => obtain ⟨t, e⟩ := (show ∃ t, Value.ref a = Value.float i t from h); cases e
  | _ => cases h
/-- D[k], D a dict of the text with text keys -/
def rKd (K : PySem.W.Frag) (d : Addr) : R2 := fun x y H Q => ∃ (z : Str) (u0 : Value) (v0 : V), x = .ref d ∧ y = .str z ∧ PySem.W.nsIn K d z = some (some u0) ∧ RelV v0 u0 ∧ Q v0 H
theorem ix_kd {X : Cx} {d : Addr} {es : Array DictEntry} {n : Nat} (D : KDict X.K X.w d es n) : IxR X (rKd X.K d) := by
  intro value slice pins s σ H x y v u Q I rx ry h hs
  have e : v = .ref d := by
    obtain ⟨z, u0, v0, rfl, _⟩ := h
    exact rx
  subst e
  exact tail_any (kd_type D I) PySem.F.slot_dict_getitem.lookup (op_item_kd D pins s σ H x y _ u Q I rx ry h) hs
/-! a dict laid by the top asks one row of the world's habits: both answers -/
def wB (w : World) (b : Bool) : World := { w with params := { w.params with followText := fun s => bif decide (s = "special-get-raises") then b else w.params.followText s } }
theorem wB_eq (w : World) : wB w (w.params.followText "special-get-raises") = w := by
  have h : (fun s : String => bif decide (s = "special-get-raises") then w.params.followText "special-get-raises" else w.params.followText s) = w.params.followText := funext fun s => by
    by_cases e : s = "special-get-raises"
    · rw [decide_eq_true e, e]
      rfl
    · rw [decide_eq_false e]
      rfl
  unfold wB
  rw [h]
/-! the hook with tables and one Bool more -/
/-- what is named within n steps of the globals, each once, told by the bits of a number -/
def addB (p : List Addr × Nat) (a : Addr) : List Addr × Nat := match Nat.beq (Nat.land (Nat.shiftRight p.2 a) 1) 1 with
  | true => p
  | false => (a :: p.1, Nat.lor p.2 (Nat.shiftLeft 1 a))
def addsB : List Addr → List Addr × Nat → List Addr × Nat
  | [], p => p
  | a :: l, p => addsB l (addB p a)
def nextB (g : Addr → Option Obj) : List Addr → List Addr × Nat → List Addr × Nat
  | [], p => p
  | a :: l, p => nextB g l (match g a with
    | some o => addsB (He.refsD o) p
    | none => p)
def bfsB (g : Addr → Option Obj) : Nat → List Addr → Nat → List Addr → List Addr
  | 0, _, _, all => all
  | n + 1, fr, m, all => match nextB g fr ([], m) with
    | (fr', m') => bfsB g n fr' m' (fr' ++ all)
def asB (g : Addr → Option Obj) (n : Nat) : List Addr := bfsB g n [mainGlobals] (Nat.shiftLeft 1 mainGlobals) [mainGlobals]
def obsY (ex : PySem.W.Frag → Bool) (fa : List He.Fa) (fn : List He.DefD) (ts : List He.Tab) (K : PySem.W.Frag) : Bool × He.AlT := (ex K, He.obsT fa fn ts K)
def obsYG (n : Nat) (ex : PySem.W.Frag → Bool) (fa : List He.Fa) (fn : List He.DefD) (ts : List He.Tab) (g : Addr → Option Obj) : Bool × He.AlT := obsY ex fa fn ts (He.frG g (asB g n))
def SaysY (ex : PySem.W.Frag → Bool) (fa : List He.Fa) (fn : List He.DefD) (ts : List He.Tab) (w : World) (K : PySem.W.Frag) : Prop := He.SaysT fa fn ts w K ∧ ex K = true
def hookY (n : Nat) (ex : PySem.W.Frag → Bool) (fa : List He.Fa) (fn : List He.DefD) (ts : List He.Tab) : PySem.W.Hook where
  α := Bool × He.AlT
  obs := fun s => obsYG n ex fa fn ts s.heap.get?
  val := fun w => (true, He.valT fn ts w)
  says := fun w h => ∃ K : PySem.W.Frag, K.In h ∧ SaysY ex fa fn ts w K
  of := fun _ _ e => ⟨_, He.frG_in, congrArg (fun z : Bool × He.AlT => z.2) e, congrArg (fun z : Bool × He.AlT => z.1) e⟩
  keeps := fun _ _ _ ⟨K, hK, c⟩ k => ⟨K, PySem.W.Frag.In.keeps hK k, c⟩
theorem obsYG_eq {n : Nat} {ex : PySem.W.Frag → Bool} {fa : List He.Fa} {fn : List He.DefD} {ts : List He.Tab} {g : Addr → Option Obj} {s : Shared} (h : ∀ a, g a = s.heap.get? a) : obsYG n ex fa fn ts g = (hookY n ex fa fn ts).obs s := by
  have e : g = s.heap.get? := funext h
  rw [e]; rfl
end Sg

/-! t[::-1] of a tuple; list.extend(tuple); del xs[a:] -/
namespace Sg
open PySem PySem.Spec PyProof.Rows L2
section
variable {prog : Program} {w : World} {A : Around} {E : Value → Shared → Prop} {s : Shared}
theorem fm_congr {α β : Type} {f g : α → Option β} : ∀ (l : List α), (∀ x ∈ l, f x = g x) → l.filterMap f = l.filterMap g
  | [], _ => rfl
  | a :: l, h => by rw [List.filterMap_cons, List.filterMap_cons, h a (List.mem_cons_self ..), fm_congr l fun x hx => h x (List.mem_cons_of_mem _ hx)]
theorem adjust_rev (n : Nat) : Builtin.Slice.sliceAdjust none none (-1) (n : Int) = ((n : Int) - 1, -1) := rfl
theorem places_rev (n : Nat) : Builtin.Slice.slicePlaces ((n : Int) - 1) (-1) (-1) = n := by
  unfold Builtin.Slice.slicePlaces
  have h1 : ¬ ((-1 : Int) > 0) := by decide
  simp only [h1, if_false, show (-(-1) : Int) = 1 by rfl, Int.ediv_one]
  split <;> omega
theorem pick_rev (xs : Array Value) : ((List.range xs.size).filterMap fun (m : Nat) => xs[((xs.size : Int) - 1 + (m : Int) * (-1)).toNat]?).toArray = xs.toList.reverse.toArray := by
  rw [← PySem.W.krv_pick]
  unfold slicePick
  rw [PySem.W.krv_bounds]
  show _ = ((sliceRange ((xs.size : Int) - 1) (-1) (-1)).filterMap (xs[·]?)).toArray
  rw [PySem.W.krv_sliceRange, List.filterMap_map]
  refine congrArg List.toArray (fm_congr _ fun m hm => ?_)
  have := List.mem_range.mp hm
  show xs[_]? = xs[_]?
  rw [show ((xs.size : Int) - 1 + (m : Int) * (-1)).toNat = xs.size - 1 - m by omega]
theorem getItem_tuple_rev {t sl : Addr} {items : Array Value} {vl vu vs : Value} {Q : Value → Shared → Prop} (ht : IsTup s.heap t items) (hs : s.heap.IsSliceOf sl vl vu vs) (pl : IsPart vl none) (pu : IsPart vu none) (ps : IsPart vs (some (-1)))
    (h : Q (.ref s.heap.objs.size) { s with heap := s.heap.push { cls := .type "tuple", data := .seq items.toList.reverse.toArray } }) (hsz : items.size ≤ sizeLine) : wpAny (model prog w) A (getItem (.ref t) (.ref sl)) Q E s := by
  have htake : sizeOk (.seq items.toList.reverse.toArray) := by
    show items.toList.reverse.toArray.size ≤ sizeLine
    rw [List.size_toArray, List.length_reverse, Array.length_toList]
    exact hsz
  obtain ⟨os, hos, hcs, hds⟩ := id hs
  have hTs : s.TypeIs (.ref sl) "slice" := ⟨os, hos, hcs⟩
  unfold getItem
  try with_reducible refine wpAny_holding ?_
  first | refine wpAny_bind (wpAny_pure ?_) | skip
  refine wpAny_bind (wpAny_sequenceKey ht.typeIs (by decide) ?_)
  refine wpAny_bind (wpAny_callSpecial?_slot (name := Str.ofString "__getitem__") ht.typeIs PyProof.Rows.slot_tuple_getitem
    (wpAny_call_entry PyProof.Rows.slot_tuple_getitem ht.typeIs entry_tuple_getitem ?_ (args_tuple_getitem _ _)))
  show wpAny _ _ (Builtin.Tuple.tupleItemsOf (.ref t) >>= _) _ _ s
  refine wpAny_bind (tupleItemsOf_ ht ?_)
  refine wpAny_bind (wpAny_typeOf hTs ?_)
  rw [if_pos (by decide)]
  unfold Builtin.Slice.sliceApplied Builtin.Slice.sliceFields
  refine wpAny_bind (wpAny_bind (wpAny_bind (wpAny_field hos hds (x := vl) rfl (wpAny_bind (wpAny_field hos hds (x := vu) rfl (wpAny_bind (wpAny_field hos hds (x := vs) rfl (wpAny_pure ?_))))))))
  refine wpAny_bind (HT.slicePart_ ps ?_)
  show wpAny _ _ (if ((-1 : Int) == 0) = true then _ else _) _ _ s
  rw [if_neg (by decide)]
  refine wpAny_bind (HT.slicePart_ pl (wpAny_bind (HT.slicePart_ pu (wpAny_bind (wpAny_pure ?_)))))
  show wpAny _ _ (match Builtin.Slice.sliceAdjust none none (-1) (items.size : Int) with | (lo, hi) => pure (lo, (-1 : Int), Builtin.Slice.slicePlaces lo hi (-1))) _ _ s
  rw [adjust_rev]
  show wpAny _ _ (pure (((items.size : Int) - 1), (-1 : Int), Builtin.Slice.slicePlaces ((items.size : Int) - 1) (-1) (-1))) _ _ s
  rw [places_rev]
  refine wpAny_pure ?_
  show wpAny _ _ (if ((((items.size : Int) - 1) == 0 && (-1 : Int) == 1 && items.size == items.size) = true) then _ else _) _ _ s
  have hno : ¬ ((((items.size : Int) - 1) == 0 && (-1 : Int) == 1 && items.size == items.size) = true) := by
    rw [show ((-1 : Int) == 1) = false by decide, Bool.and_false, Bool.false_and]
    exact Bool.false_ne_true
  rw [if_neg hno, pick_rev]
  first
    | exact wpAny_bind (m := Builtin.Tuple.tupleExact _) (wpAny_newObj_type (wpAny_pure ⟨_, rfl, wpAny_pure h⟩) htake)
    | exact wpAny_bind (m := Builtin.Tuple.tupleExact _) (wpAny_newObj_type (wpAny_bind (wpAny_pure (wpAny_pure ⟨_, rfl, wpAny_pure h⟩))) htake)
    | exact wpAny_bind (wpAny_bind (m := Builtin.Tuple.tupleExact _) (wpAny_newObj_type (wpAny_pure (wpAny_pure ⟨_, rfl, wpAny_pure h⟩)) htake))
    | exact wpAny_bind (wpAny_bind (m := Builtin.Tuple.tupleExact _) (wpAny_newObj_type (wpAny_pure ⟨_, rfl, wpAny_pure h⟩) htake))
end
def tRevT (K : PySem.W.Frag) (te : TE) : TE := fun σ H Q => te σ H fun x H1 => ∃ a xs, x = .ref a ∧ SqT K H1 a xs ∧ ∀ p, H1 p = none → Q (.ref p) (upd H1 p (.tup xs.reverse))
theorem pe_revT {X : Cx} {e : Expr} {te : TE} {k : Nat} {p1 p2 p3 pos : Pos} (he : PE X e te) : PE X (.Subscript e (.Slice none none (some (.UnaryOp .USub (.Constant (.int 1) k p1) p2)) p3) pos) (tRevT X.K te) := by
  refine ⟨fun pins s σ H Q I h => ?_⟩
  refine Subscript_ (thn (he.run pins s σ H _ I h) fun v s1 ⟨x, H1, I1, r1, q1⟩ => ?_)
  obtain ⟨a, xs, ex, hx, q⟩ := q1
  subst ex
  cases r1
  have hst : PO X (some (.UnaryOp .USub (.Constant (.int 1) k p1) p2)) (tPart (tUn (rU fun i => .int (-i)) (tC (.int 1)))) := po_some (pe_un un_neg pe_int)
  refine wpAny_Slice (thn (po_none.run pins s1 σ H1 (fun o H2 => o = none ∧ H2 = H1) I1 ⟨rfl, rfl⟩) fun vl s2 ⟨l, H2, I2, pl, el, e2⟩ => ?_)
  subst el e2
  refine thn (po_none.run pins s2 σ H2 (fun o H3 => o = none ∧ H3 = H2) I2 ⟨rfl, rfl⟩) fun vu s3 ⟨u, H3, I3, pu, eu, e3⟩ => ?_
  subst eu e3
  refine thn (hst.run pins s3 σ H3 (fun o H4 => o = some (-1) ∧ H4 = H3) I3 ⟨1, rfl, -1, rfl, rfl, rfl⟩) fun vs s4 ⟨o, H4, I4, ps, eo, e4⟩ => ?_
  subst eo e4
  have I5 : Inv X pins σ H4 { s4 with heap := s4.heap.push { cls := .type "slice", data := .fields #[vl, vu, vs] } } := I4.kept (t' := s4.toks) fun b ob q => Heap.get?_push_of_some _ q
  obtain ⟨its, r, ht, hz⟩ := I5.tuple hx
  have hlen := r.length
  show wpAny (model X.prog X.w) X.A (subscriptTail e (.Slice none none (some (.UnaryOp .USub (.Constant (.int 1) k p1) p2)) p3) (.ref a) (.ref s4.heap.objs.size)) (EP X pins σ Q) X.xe { s4 with heap := s4.heap.push { cls := .type "slice", data := .fields #[vl, vu, vs] } }
  refine tail_any (ops := [.ref a, .ref s4.heap.objs.size]) ht.typeIs (PyProof.Rows.slot_tuple_getitem.lookup) ?_ (by with_unfolding_all rfl)
  refine getItem_tuple_rev ht (Heap.IsSliceOf.new _ vl vu vs) pl pu ps ?_ (by rw [List.size_toArray]; omega)
  refine ⟨.ref _, _, I5.laid (t' := s4.toks) (o := .tup xs.reverse) (fun b ob q => Heap.get?_push_of_some _ q) (Nat.le_refl _) ?_, rfl, q _ (I5.hok.fresh (Nat.le_refl _))⟩
  exact ⟨by rw [List.length_reverse]; exact hz, _, r.reverse, IsTup.new _ _⟩
theorem ext_tup (l : Addr) (items : Array Value) (n : Nat) (b : Addr) (items2 : Array Value) (n2 : Nat) (dd : Option Addr) (sl : Array (Option Value)) (hs0 : ¬(!items.isEmpty && Builtin.List.listTooLong (items.size + items2.size)) = true) (hs1 : items.size ≤ sizeLine) (hs2 : items.size + items2.size ≤ sizeLine + 1) :
    Meets (Builtin.«list.extend» ⟨[.ref l, .ref b], []⟩) (fun _ R s => s.heap.get? l = some { cls := .type "list", dict := none, data := .seq items n, slots := #[] } ∧ s.heap.get? b = some { cls := .type "tuple", dict := dd, data := .seq items2 n2, slots := sl } ∧ R (.ok (.ret Value.none)) { s with heap := s.heap.update l (Obj.mapSeq fun x => x ++ items2), toks := s.toks }) :=
  .of_wp fun prog w A R s h => by
    obtain ⟨hp, g, d, tk, os⟩ := s; obtain ⟨hl, hb, h⟩ := h; have f1 := AutoSeq1.idx_int; have f2 := AutoSeq1.sub_tuple_tuple; have f3 := AutoSeq1.sub_list_list; have f4 := AutoSeq1.sub_tuple_list; have f5 := AutoSeq1.sub_list_tuple;
    have hz' : (items ++ items2).size ≤ sizeLine + 1 := by rw [Array.size_append]; exact hs2
    wp_walk using (wpAny_updateSeq hl rfl (hz := hs1) (_hz' := hz')), wpAny_loadPart' hl, wpAny_loadPart' hb; exact ⟨_, rfl, h⟩
def rExtendT (K : PySem.W.Frag) : V → List V → Hp → VK → Prop := fun x vs H Q => ∃ l b xs zs, x = .ref l ∧ vs = [.ref b] ∧ H l = some (.lst xs) ∧ SqT K H b zs ∧ xs.length + zs.length ≤ sizeLine ∧ Q .non (upd H l (.lst (xs ++ zs)))
theorem mt_extendT {X : Cx} : MtM X "list.extend" (rExtendT X.K) := by
  intro pins s σ H x vs v us Q I rx rv h
  obtain ⟨l, b, xs, zs, rfl, rfl, hH, hB, hz, q⟩ := h
  cases rx
  obtain ⟨u, rfl, ru⟩ := rv.one
  cases ru
  obtain ⟨z, its, n, r, hl, e⟩ := I.lstM hH
  obtain ⟨its2, r2, ⟨⟨oc, od, odat, osl⟩, e2, ec, n2, ed⟩, hz2⟩ := I.tuple hB
  dsimp only at ec ed
  subst ec
  subst ed
  have hl2 := r2.length
  have hsz : its.toArray.size + its2.toArray.size ≤ sizeLine := by rw [List.size_toArray, List.size_toArray]; omega
  have hlong : ¬ (!its.toArray.isEmpty && Builtin.List.listTooLong (its.toArray.size + its2.toArray.size)) = true := by
    rw [notLongL hsz, Bool.and_false]
    exact Bool.false_ne_true
  refine call_meets F.slot_list_extend ⟨_, e, rfl⟩ F.entry_list_extend (F.args_list_extend_2 _ _)
    (ext_tup l its.toArray n b its2.toArray n2 od osl hlong (by rw [List.size_toArray]; omega) (by omega)) ⟨e, e2, ?_⟩
  refine ⟨.non, _, I.lset (its' := its ++ its2) hH e (by simp) (r.append r2) ?_, rfl, q⟩
  rw [List.length_append]
  omega
section
variable {prog : Program} {w : World} {A : Around} {E : Value → Shared → Prop} {s : Shared}
theorem bounds_from {a n : Nat} (h : a ≤ n) : sliceBounds (some (a : Int)) none none n = ((a : Int), (n : Int), 1) := by
  simp only [sliceBounds, Option.getD_none]
  have h1 : ¬ ((a : Int) < 0) := by omega
  simp only [h1, if_false, show (1 : Int) > 0 by decide, if_true]
  congr 1
  omega
theorem keep_pre (a n : Nat) : ∀ (xs : List Value) (k : Nat), k + xs.length = n → ((xs.zipIdx k).filterMap fun (p : Value × Nat) => if (decide ((a : Int) ≤ (p.2 : Int)) && decide ((p.2 : Int) < (n : Int)) && (((p.2 : Int) - (a : Int)) % 1 == 0)) = true then none else some p.1) = xs.take (a - k)
  | [], k, _ => by simp
  | x :: xs, k, h => by
    rw [List.length_cons] at h
    rw [List.zipIdx_cons, List.filterMap_cons, keep_pre a n xs (k + 1) (by omega)]
    have e1 : (((k : Int) - (a : Int)) % 1 == 0) = true := by rw [Int.emod_one]; rfl
    have e2 : decide ((k : Int) < (n : Int)) = true := decide_eq_true (by omega)
    simp only [e1, e2, Bool.and_true]
    by_cases hk : a ≤ k
    · rw [decide_eq_true (by omega : (a : Int) ≤ (k : Int)), if_pos rfl, show a - k = 0 by omega, show a - (k + 1) = 0 by omega]
      rfl
    · rw [decide_eq_false (by omega : ¬ (a : Int) ≤ (k : Int)), if_neg Bool.false_ne_true, show a - k = (a - (k + 1)) + 1 by omega, List.take_succ_cons]
theorem delItem_slice {l sl : Addr} {items : Array Value} {n : Nat} {vl : Value} {a : Nat} {Q : Unit → Shared → Prop}
    (e : s.heap.get? l = some { cls := .type "list", data := .seq items n }) (hs : s.heap.IsSliceOf sl vl .none .none) (pl : IsPart vl (some (a : Int))) (hc : a ≤ items.size)
    (hsz : items.size ≤ sizeLine) (h : ∀ f : Array Value → Array Value, f items = (items.toList.take a).toArray → Q () { s with heap := s.heap.update l (Obj.mapSeq f) }) :
    wpAny (model prog w) A (delItem (.ref l) (.ref sl)) Q E s := by
  have hl : s.heap.IsList l items := PySem.IsL.isList e
  obtain ⟨os, hos, hcs, hds⟩ := id hs
  have hTs : s.TypeIs (.ref sl) "slice" := ⟨os, hos, hcs⟩
  have hstep : ¬ ((rawPart none == rawInt 0) = true) := Bool.false_ne_true
  refine wpAny_delItem_slot hl.typeIs (by decide) F.slot_list_delitem (wpAny_call_entry F.slot_list_delitem hl.typeIs F.entry_list_delitem ?_ (F.args_list_delitem_2 _ _))
  show wpAny _ _ (Builtin.List.listSubscript? (.ref sl) >>= _) _ _ s
  refine wpAny_bind ?_
  unfold Builtin.List.listSubscript?
  refine wpAny_bind (wpAny_specialOf hTs slice_no_index ?_)
  simp only [Option.isNone_none, if_true]
  refine wpAny_pure ?_
  show wpAny _ _ (typeOf (.ref sl) >>= _) _ _ s
  refine wpAny_bind (wpAny_typeOf hTs ?_)
  first
    | rw [if_neg (by decide)]
    | refine PySem.W.KFB.if_not (by decide) ?_
  rw [listSliceParts_eq]
  refine wpAny_bind (wpAny_bind (wpAny_field hos hds (x := .none) rfl (wpAny_bind (wpAny_listPart .none ?_))))
  rw [if_neg hstep]
  refine wpAny_bind (wpAny_field hos hds (x := vl) rfl (wpAny_bind (wpAny_listPart pl ?_)))
  refine wpAny_bind (wpAny_field hos hds (x := .none) rfl (wpAny_bind (wpAny_listPart .none (wpAny_pure ?_))))
  refine wpAny_bind ?_
  unfold Builtin.List.listItems
  refine wpAny_bind (wpAny_seqItems e rfl (wpAny_pure ?_))
  refine wpAny_bind (wpAny_of_eq ((sliceIndices_raw (some (a : Int)) none none items.size (by simp)).trans (congrArg (pure : Int × Int × Int → Sem (Int × Int × Int)) (bounds_from hc))) ?_)
  refine wpAny_bind (wpAny_rule ?_)
  have key := keep_pre a items.size items.toList 0 (by rw [Array.length_toList, Nat.zero_add])
  rw [Nat.sub_zero] at key
  refine wpAny_bind (wpAny_updateSeq (hz := hsz) (_hz' := ?_) e rfl ?_)
  · refine wpAny_bind (wpAny_letGo ?_)
    exact wpAny_pure ⟨.none, rfl, h _ (congrArg List.toArray key)⟩
  · refine Nat.le_trans ?_ (Nat.le_succ_of_le hsz)
    rw [List.size_toArray]
    exact Nat.le_trans (List.length_filterMap_le _ _) (by rw [List.length_zipIdx, Array.length_toList]; exact Nat.le_refl _)
end
section
variable {X : Cx}
/-- del xs[e:] -/
def tDelFrom (to ti : TE) : TS := fun D σ H => to σ H fun x H1 => ti σ H1 fun y H2 => ∃ (l : Addr) (xs : List V) (a : Nat), x = .ref l ∧ y = .int a ∧ H2 l = some (.lst xs) ∧ a ≤ xs.length ∧ D.nx σ (upd H2 l (.lst (xs.take a)))
theorem ps_delFrom {o i : Expr} {to ti : TE} {p2 tpos pos : Pos} (ho : PE X o to) (hi : PE X i ti) : PS X (.Delete [.Subscript o (.Slice (some i) none none p2) tpos] pos) (tDelFrom to ti) := by
  refine ⟨fun pins s σ H D I h => ?_⟩
  refine wpAny_Delete (wpAny_deleteEach_cons (wpAny_delete_Subscript (thn (ho.run pins s σ H _ I h) fun u s1 ⟨x, H1, I1, rx, q1⟩ => ?_)))
  refine wpAny_Slice ?_
  rw [evalPart_some]
  refine thn (hi.run pins s1 σ H1 _ I1 q1) fun vl s2 ⟨y, H2, I2, ry, q2⟩ => ?_
  obtain ⟨l, xs, a, ex, ey, hH, ha, q⟩ := q2
  subst ex
  subst ey
  cases rx
  obtain ⟨t, rfl⟩ := (show ∃ t, vl = Value.int a t from ry)
  rw [evalPart_none]
  refine wpAny_pure ?_
  refine wpAny_pure ?_
  have I4 : Inv X pins σ H2 { s2 with heap := s2.heap.push { cls := .type "slice", data := .fields #[.int a t, .none, .none] } } := I2.kept (t' := s2.toks) fun b ob q => Heap.get?_push_of_some _ q
  obtain ⟨z, its, n, r, hl, e⟩ := I4.lstM hH
  refine delItem_slice (a := a) e (Heap.IsSliceOf.new _ _ _ _) (.int _ _) (by rw [List.size_toArray]; omega) (by rw [List.size_toArray]; omega) fun f hf => ?_
  refine wpAny_deleteEach_nil ⟨σ, _, I4.lset (its' := its.take a) (t' := s2.toks) hH e hf (r.take a) (by rw [List.length_take]; omega), q⟩
end
section
variable {X : Cx} {k : Nat} {C : Str} {ps : List Str} {dvs : List V} {sp : Sp} {p pos : Pos}
theorem pe_makeR0 (M : Mk X.K (He.ga X.K C) (He.ma X.K (He.ga X.K C) "__init__")) (hm : X.mg C = some (.ref (He.ga X.K C))) (D : DkM X.prog X.w X.K X.mg X.base k C "__init__" ps dvs sp) (hr : Room (k + 1) X.A)
    (hg : Gl X C := by rfl) (hdb : (C == ("__debug__" : Str)) = false := by decide) :
    PE X (.Call (.Name C p) [] [] pos) (tMakeR X.K C sp dvs tNil) := by
  obtain ⟨fd, ds, F, B, hd⟩ := D.ok
  exact pe_make0 M F hr hg hm B hd passF hdb
end
end Sg

/-! powers of great whole numbers -/
namespace Sg
open PySem PySem.Spec PyProof.Rows L2
def CPowB (i j : Int) : Prop := 0 ≤ j ∧ (Builtin.Int.intBits i : Int) * j ≤ 2 ^ 27
theorem op_powB {X : Cx} : OpR X (binaryOp .Pow) (rI CPowB fun i j => .int (i ^ j.toNat)) := opI fun _ _ _ _ _ _ _ hc q => pow_int hc.1 hc.2 q
/-- f() of a def with a contract -/
theorem pe_callR0 {X : Cx} {k : Nat} {x : Str} {ps : List Str} {sp : Sp} {W : WX} {p pos : Pos} (D : Dk X.prog X.w X.K X.mg X.base k x ps sp) (hr : Room k X.A) (tk : Takes X W) (hg : Gl X x := by rfl)
    (hdb : (x == ("__debug__" : Str)) = false := by decide) : PE X (.Call (.Name x p) [] [] pos) (tCallR sp W tNil) := by
  obtain ⟨fd, F, B⟩ := D.ok
  refine ⟨fun pins s σ H Q I h => ?_⟩
  refine wpAny_Call_Name_kw (ld_glob I hg D.gm ?_ hdb)
  exact PySem.W.callWith_K0 I.kIn D.kp (run_fnS (us := []) F hr B (passAt tk σ) I .nil h)
end Sg

/-! an own error whose __init__ says super().__init__(..) first -/
namespace Sg
open PySem PySem.Spec PyProof.Rows L2 NdefX

/-- what the written part says of the cell, the code, the class -/
structure SupC (K : PySem.W.Frag) (main : Str) (f cc cda C : Addr) (qual : Str) : Prop where
  cell : ∃ cl cld csl, K.lookup cc = some ⟨cl, cld, .cell (some (.ref C)), csl⟩
  code : ∃ ccl cdd vs ccs, K.lookup cda = some ⟨ccl, cdd, .fields vs, ccs⟩ ∧ ∃ file tf, vs[2]? = some (Value.str file tf) ∧ (main == file) = true
  cdq : PySem.W.codeIn K (.ref cda) qual = true
  sup : PySem.W.ks_superIn K C C "__init__" = some (some (.builtin "ValueError.__init__"))
  ve : PySem.W.subIn K (.ref C) (.type "ValueError") = some true
  me : PySem.W.subIn K (.ref C) (.ref C) = some true
  any : PySem.W.nsIn K cStatics "thirdparty.any" = some none

def supB (K : PySem.W.Frag) (main : Str) (f cc cda C : Addr) (qual : Str) : Bool :=
  (match K.lookup cc with | some ⟨_, _, .cell (some v), _⟩ => decide (v = .ref C) | _ => false) &&
  (match K.lookup cda with | some ⟨_, _, .fields vs, _⟩ => (match vs[2]? with | some (Value.str file _) => main == file | _ => false) | _ => false) &&
  PySem.W.codeIn K (.ref cda) qual && decide (PySem.W.ks_superIn K C C "__init__" = some (some (.builtin "ValueError.__init__"))) &&
  decide (PySem.W.subIn K (.ref C) (.type "ValueError") = some true) && decide (PySem.W.subIn K (.ref C) (.ref C) = some true) && decide (PySem.W.nsIn K cStatics "thirdparty.any" = some none)
theorem supB_ok {K : PySem.W.Frag} {main : Str} {f cc cda C : Addr} {qual : Str} (h : supB K main f cc cda C qual = true) : SupC K main f cc cda C qual := by
  unfold supB at h
  simp only [Bool.and_eq_true, decide_eq_true_eq] at h
  obtain ⟨⟨⟨⟨⟨⟨h1, h2⟩, h3⟩, h4⟩, h5⟩, h6⟩, h7⟩ := h
  refine ⟨?_, ?_, h3, h4, h5, h6, h7⟩
  · split at h1
    · rename_i a b v c e
      exact ⟨a, b, c, by rw [e, of_decide_eq_true h1]⟩
    · cases h1
  · split at h2
    · rename_i a b v c e
      refine ⟨a, b, v, c, e, ?_⟩
      split at h2
      · rename_i file tf e2
        exact ⟨file, tf, e2, h2⟩
      · cases h2
    · cases h2

section
variable {CX : CXT} {P : Program} {w : World} {K : PySem.W.Frag} {mg : Str → Option Value} {base : Heap} {N ps : List Str} {f cc cda C : Addr} {k : Nat} {sp : Sp} {name qual : Str} {params : Arguments} {body : List Stmt} {scope : Scope} {dV kV doc pm ct oc : Value} {an od : Option Addr} {osl : Array (Option Value)}
abbrev supF (name qual : Str) (params : Arguments) (body : List Stmt) (scope : Scope) (cc cda : Addr) : NF := ⟨name, qual, params, body, scope, [("__class__", cc)], cda⟩

theorem sup_cells {A : Around} {outer : List Env} {s : Shared} {H : Hp} (S : SupC K P.main.file f cc cda C qual) (e0 : Env0 P w K mg base A outer s H) : CellsAt [("__class__", cc)] ["__class__"] [none] s.heap H := by
  obtain ⟨cl, cld, csl, hc⟩ := S.cell
  have hb := e0.bs cc _ (e0.mod.kin _ _ hc)
  have hl : ∀ y c, List.lookup y [(("__class__" : Str), cc)] = some c → y = "__class__" ∧ c = cc := fun y c e => by
    have q := PySem.mem_of_lookup e
    simp only [List.mem_singleton, Prod.mk.injEq] at q
    exact q
  refine ⟨rfl, fun y c e => ?_, fun x y c e1 e2 => by rw [(hl x c e1).1, (hl y c e2).1], fun i y hi => ?_⟩
  · rw [(hl y c e).2]
    exact ⟨hb.2, _, _, hb.1, rfl⟩
  · match i, hi with
    | 0, hi =>
      have hi : some ("__class__" : Str) = some y := hi
      cases hi
      refine ⟨cc, rfl, fun v hv => ?_⟩
      have hv : some (none : Option V) = some (some v) := hv
      cases hv
    | i + 1, hi =>
      have hi : ([] : List Str)[i]? = some y := hi
      simp at hi

/-- super().__init__(..) -/
theorem sup_call {X : Cx} {pins : List (Addr × Obj)} {σ : L2.St} {H : Hp} {s : Shared} {a : Addr} {ar : Arg} {bd : List Stmt} {es : List Expr} {e : Expr} {p0 p1 p2 pos pos' : Pos} {ta : TA} {Q : Flow → Shared → Prop}
    (I : Inv X pins σ H s) (S : SupC X.K X.prog.main.file f cc cda C qual) (T : OexC X.K C)
    (henv : X.env = envF (supF name qual params body scope cc cda) f X.env.locals)
    (lk : X.K.lookup f = some ⟨oc, od, .func (PySem.W.fnX name qual params body scope [("__class__", cc)] dV kV doc pm an (.ref cda) ct), osl⟩)
    (hp : (params.posonlyargs ++ params.args).head? = some ar) (hself : X.N[0]? = some ar.arg) (hs0 : σ[0]? = some (some (.ref a)))
    (hks : scope.names.lookup ("super" : Str) = some .globalImplicit) (hkc : scope.names.lookup ("__class__" : Str) = some .free) (hka : scope.names.lookup ar.arg = some .local)
    (hmg : X.mg "super" = none) (htop : (X.prog.main.scope.names.lookup ("super" : Str)).isSome = false) (hboot : bootBuiltins "super" = some (.type "super"))
    (hpa : PA X (e :: es) ta) (he0 : H a = some (exo a C none))
    (he : starEach (e :: es) X.env = (false, eval e X.env) :: starEach es X.env) (hpl : (backTo pos (starEach es X.env)).any (·.1) = false)
    {R : List V → Hp → Prop} (h : ta σ H R) (hR : ∀ ws H1, R ws H1 → ws.length ≤ 1000 ∧ H1 a = some (exo a C none) ∧ ∀ s', Inv X pins σ H1 s' → Q .next s')
    (hsw : swapsWith (.Call (.Attribute (.Call (.Name "super" p0) [] [] p1) "__init__" p2) (e :: es) [] pos) none pos'.line X.env = pure false) (hq : interactive X.env = false) (pl : Sem Bool)
    (hcall : eval (.Call (.Attribute (.Call (.Name "super" p0) [] [] p1) "__init__" p2) (e :: es) [] pos) X.env = (do
      let ov ← attributeBase (.Call (.Name "super" p0) [] [] p1) "__init__" X.env (eval (.Call (.Name "super" p0) [] [] p1) X.env)
      standAt p2.atName
      let (f, first) ← holding [ov] (getMethod ov "__init__" pl)
      callWith pos f first (backTo pos (starEach (e :: es) X.env)) [])) :
    _root_.PySem.wpAt (model X.prog X.w) X.A (.func bd X.env) (exec (.Expr (.Call (.Attribute (.Call (.Name "super" p0) [] [] p1) "__init__" p2) (e :: es) [] pos) pos') X.env) Q X.xe s := by
  obtain ⟨cl, cld, csl, hc⟩ := S.cell
  obtain ⟨ccl, cdd, vs, ccs, hcode, file, tf, hvs, hfile⟩ := S.code
  obtain ⟨nm, q, Nn, bs, bm, sn, sub, ab, col, dd, k0, k1, k2, k3, k5, hC, hbm⟩ := T.cls
  have X0 := I.kIn
  obtain ⟨t1, ho⟩ := exo_at I.hok he0
  obtain ⟨m, hns, hloc⟩ := I.loc
  have hka' : X.env.kindOf ar.arg = some .local := by rw [henv]; exact hka
  have hm : m ar.arg = some (.ref a) := by
    obtain ⟨u, ru, l⟩ := hloc 0 ar.arg _ hself hs0 (.inl hka')
    obtain rfl : u = Value.ref a := ru
    rcases l with ⟨_, z⟩ | ⟨z, _⟩
    · exact z
    · rw [hka'] at z
      rcases z with z | z <;> cases z
  obtain ⟨mb, b1, b2⟩ := I.mod.blt
  refine ks_wpAt_Expr_any ?_ hq hsw
  refine ks_wpAt_MethodCall (pl := pl) ?_ hcall
  have hk : X.env.scope.kind = .function := I.ok.kind
  refine ks_wpAt_super_base (f := f) (cc := cda) (ar := ar) (by rw [henv]; exact hks) (by rw [henv]; exact hkc) (by decide) (by rw [henv]) (X0 _ _ lk) rfl hp (by rw [henv]) (X0 _ _ hcode) rfl hvs hfile htop ?_
  have hsup : X.env.kindOf "super" = some .globalImplicit := by rw [henv]; exact hks
  refine PySem.W.ks_loadName_global hk hsup (Calls.loadGlobal_builtin (by rw [I.ok.glob]; exact I.mod.glob.keeps I.bk) hmg (by rw [I.ok.blt]; exact b1.keeps I.bk) ((b2 _ (by decide)).trans hboot) ⟨rfl, ?_⟩)
  refine wpAny_loadName_free (c := cc) hk (by rw [henv]; exact hkc) (by rw [henv]; rfl) ⟨_, X0 _ _ hc, rfl⟩ ?_
  refine wpAny_loadName_local hk hka' hns hm ?_
  obtain ⟨hh, g, d, t, os⟩ := s
  refine ks_wpAny_isType_cls (X0 _ _ hC) rfl ⟨rfl, ?_⟩
  refine ks_wpAny_call_super (X0 _ _ hC) rfl ho rfl (fun c z => nomatch z) (PySem.W.looks_subIn X0 S.me) (fun h1 e1 kp1 => ?_)
  have I1 : Inv X pins σ H ⟨h1, g, d, t, os⟩ := I.kept (t' := t) kp1
  have ho1 := kp1 _ _ ho
  have X1 : X.K.In h1 := I1.kIn
  cases hcl : PySem.W.clsIn X.K C with
  | none =>
    exfalso
    have z := S.sup
    unfold PySem.W.ks_superIn at z
    rw [hcl] at z
    cases z
  | some cd =>
  have hsp := S.sup
  unfold PySem.W.ks_superIn at hsp
  rw [hcl] at hsp
  have IA : PySem.W.InstAt h1 a _ C none := ⟨ho1, rfl, rfl, trivial⟩
  have hI : PySem.W.Looks (model X.prog X.w) h1 (isInstance (.ref a) (.type "ValueError")) true := IA.type.andThen (PySem.W.looks_subIn X1 S.ve)
  refine PySem.W.kxs_getMethod PySem.W.kxs_ValueError (D := C) (x := a) (C := C) (l₀ := cd.mro) e1 (PySem.W.looks_opaque X1 S.any) (fun A Q E s k q => wpAny_bind ((PySem.W.looks_clsIn X1 hcl) A _ E s k (wpAny_pure q))) rfl X1 hsp hI (PySem.W.ks_ne X1 IA hcl) (by decide) ?_
  have kp2 : ∀ b o, h1.get? b = some o → (h1.push (PySem.W.kxs_mw "ValueError.__init__" a)).get? b = some o := fun b o z => Heap.get?_push_of_some _ z
  have hu : (h1.push (PySem.W.kxs_mw "ValueError.__init__" a)).get? h1.objs.size = some (PySem.W.kxs_mw "ValueError.__init__" a) := Heap.get?_push_size _ rfl
  have I2 : Inv X pins σ H ⟨h1.push (PySem.W.kxs_mw "ValueError.__init__" a), g, d, t + 1, os⟩ := I1.kept (t' := t + 1) kp2
  have hfr : H h1.objs.size = none := I1.hok.fresh (Nat.le_refl _)
  have I3 : Inv X ((h1.objs.size, PySem.W.kxs_mw "ValueError.__init__" a) :: pins) σ H ⟨h1.push (PySem.W.kxs_mw "ValueError.__init__" a), g, d, t + 1, os⟩ := I2.pins_of fun p hp => by
    rcases List.mem_cons.mp hp with rfl | hp
    · refine ⟨hu, hfr, Nat.ne_of_gt I1.lt, I1.nofs (Nat.le_refl _), fun v z => nomatch z⟩
    · exact I2.pin p (List.mem_append_right _ hp)
  rw [he]
  refine PySem.W.kxs_callWith (i := "ValueError.__init__") (x := a) (by show (false || (backTo pos (starEach es X.env)).any (·.1)) = false; rw [hpl]; rfl) ?_
  refine Calls.evalArgs_plain ?_
  have hpr := hpa.run pos _ _ σ H _ I3 h
  rw [he] at hpr
  refine thn hpr fun us s1 ⟨ws, H1, J, r, qR⟩ => ?_
  obtain ⟨hl, ea, q⟩ := hR ws H1 qR
  have hpin := J.pin (h1.objs.size, PySem.W.kxs_mw "ValueError.__init__" a) (List.mem_append_right _ List.mem_cons_self)
  refine ⟨hpin.1, ?_⟩
  have J0 : Inv X pins σ H1 s1 := J.pins_of fun p hp => J.pin p (List.mem_append_right _ (List.mem_cons_of_mem _ hp))
  obtain ⟨t2, ho2⟩ := exo_at J.hok ea
  have hlen : us.length ≤ sizeLine := by
    rw [← Paired.length r, sizeLine_eq]
    omega
  have XJ := J.kIn
  obtain ⟨hh2, g2, d2, tk2, os2⟩ := s1
  refine wpAny_call (codeAny_of_tree ?_)
  show wpAny _ X.A.in1 (callAny (.ref h1.objs.size) ⟨us, []⟩) _ _ _
  simp only [callAny]
  refine wpAny_bind (wpAny_load hpin.1 ?_)
  simp only [PySem.W.kxs_mw, show (Value.type "method-wrapper" == Value.type "method" || Value.type "method-wrapper" == Value.type "builtin_function_or_method" || Value.type "method-wrapper" == Value.type "method-wrapper") = true by decide, if_true]
  refine PySem.W.KFB.if_so (by decide) ?_
  refine wpAny_bind (PySem.W.check_bound_init F.excBase_ValueError.toExcCallFacts (XJ _ _ hC) ho2 rfl ?_)
  refine wpAny_bind (wpAny_pure (wpAny_pure ?_))
  refine ⟨plainId_quiet F.excBase_ValueError.init.plain _, codeAny_builtin F.excBase_ValueError.initEntry ?_⟩
  refine PySem.W.exc_init_tree (cls := .ref C) (t0 := t2) (dv := none) (c2 := .none) (c3 := .none) (b4 := .bool false) ho2 hlen fun h' k' hx ht => ?_
  have Jw := J0.write (t' := tk2) (x := a) (e := a) (o := exo a C none) (by rw [ea]; exact True.intro) (.inl rfl) k' ⟨_, hx⟩ (exo_ok hx)
  have eu : upd H1 a (exo a C none) = H1 := by
    funext b
    by_cases hb : b = a
    · rw [hb, upd_same, ea]
    · rw [upd_ne hb]
  rw [eu] at Jw
  exact q _ Jw

/-- THE RULE: a method whose first statement is super().__init__(..) -/
theorem fn_sup {rest : List Stmt} {e : Expr} {es : List Expr} {p0 p1 p2 pos pos' : Pos} {ar : Arg}
    (lk : K.lookup f = some ⟨oc, od, .func (PySem.W.fnX name qual params body scope [("__class__", cc)] dV kV doc pm an (.ref cda) ct), osl⟩)
    (hb0 : body = .Expr (.Call (.Attribute (.Call (.Name "super" p0) [] [] p1) "__init__" p2) (e :: es) [] pos) pos' :: rest)
    (S : SupC K P.main.file f cc cda C qual) (T : OexC K C) (NS : NScope N ps ["__class__"] scope)
    (hp : (params.posonlyargs ++ params.args).head? = some ar) (hself : N[0]? = some ar.arg) (hpar : ar.arg ∈ ps)
    (hks : scope.names.lookup ("super" : Str) = some .globalImplicit) (hmg : mg "super" = none) (htop : (P.main.scope.names.lookup ("super" : Str)).isSome = false) (hboot : bootBuiltins "super" = some (.type "super"))
    (he : ∀ L, starEach (e :: es) (envF (supF name qual params body scope cc cda) f L) = (false, eval e (envF (supF name qual params body scope cc cda) f L)) :: starEach es (envF (supF name qual params body scope cc cda) f L))
    (hpl : ∀ L, (backTo pos (starEach es (envF (supF name qual params body scope cc cda) f L))).any (·.1) = false)
    (hsw : ∀ L, swapsWith (.Call (.Attribute (.Call (.Name "super" p0) [] [] p1) "__init__" p2) (e :: es) [] pos) none pos'.line (envF (supF name qual params body scope cc cda) f L) = pure false)
    (hcall : ∀ L, ∃ pl : Sem Bool, eval (.Call (.Attribute (.Call (.Name "super" p0) [] [] p1) "__init__" p2) (e :: es) [] pos) (envF (supF name qual params body scope cc cda) f L) = (do
      let ov ← attributeBase (.Call (.Name "super" p0) [] [] p1) "__init__" (envF (supF name qual params body scope cc cda) f L) (eval (.Call (.Name "super" p0) [] [] p1) (envF (supF name qual params body scope cc cda) f L))
      standAt p2.atName
      let (fv, first) ← holding [ov] (getMethod ov "__init__" pl)
      callWith pos fv first (backTo pos (starEach (e :: es) (envF (supF name qual params body scope cc cda) f L))) []))
    (len : ∀ vs H Q E, sp vs H Q E → vs.length = ps.length)
    (hbody : ∀ (A : Around) (outer : List Env) (s : Shared) (H : Hp) (vs : List V) (Q : VK) (E : XK), Room k (A.deeper (envF (supF name qual params body scope cc cda) f s.heap.objs.size)) → sp vs H Q E →
      ∃ (ta : TA) (t : TS) (a : Addr), PA (ncx CX P w K mg base N (supF name qual params body scope cc cda) f A outer s H E) (e :: es) ta ∧ PSs (ncx CX P w K mg base N (supF name qual params body scope cc cda) f A outer s H E) rest t ∧ vs[0]? = some (.ref a) ∧ H a = some (exo a C none) ∧
        ta (startF N vs [none]) H fun ws H1 => ws.length ≤ 1000 ∧ H1 a = some (exo a C none) ∧ t { nx := fun _ H' => Q .non H', rt := Q } (startF N vs [none]) H1) :
    FnOk P w K mg base CX (k + 1) f (PySem.W.fnX name qual params body scope [("__class__", cc)] dV kV doc pm an (.ref cda) ct) ps sp := by
  refine ⟨len, fun A outer s H args us vs Q E hr e0 hb r hsp => ?_⟩
  have hl := len _ _ _ _ hsp
  have KX : K.In s.heap := e0.mod.kin.keeps fun b o e => (e0.bs b o e).1
  have lim : s.heap.NoLimit := e0.mod.nolimit.keeps fun b o e => (e0.bs b o e).1
  refine codeAny_call_function hr.depth (KX _ _ lk) rfl NS.co NS.gen rfl (PySem.W.codeRec_of KX S.cdq) (hb _ _ _ _ ?_)
  refine wpAny_newFunctionEnv NS.nocell (fun ⟨n, _⟩ hy => NS.par n (List.of_mem_zip hy).1) (fun h₁ hns hsb => ⟨lim.fresh _ hsb, ?_⟩) NS.kind
  show codeAny _ _ (.func body (envF (supF name qual params body scope cc cda) f s.heap.objs.size)) _ _
  refine ks_codeAny_funcAt ?_
  have kp : ∀ b o, s.heap.get? b = some o → h₁.get? b = some o := fun b o e => hsb.extBut b o (Nat.ne_of_lt (Heap.lt_size e)) (Heap.get?_push_of_some _ e)
  obtain ⟨ta, t, a, hta, ht, ev, ea, hq⟩ := hbody A outer s H vs Q E (hr.deeper _) hsp
  have I : Inv (ncx CX P w K mg base N (supF name qual params body scope cc cda) f A outer s H E) [] (startF N vs [none]) H { s with heap := h₁, toks := s.toks + (ps.zip us).length } := inv_startN NS hr.hd e0 hl r (sup_cells S e0) hns kp
  have fin : ∀ {s' : Shared} {σ' : L2.St} {H' : Hp} {v : V} {u : Value}, Inv (ncx CX P w K mg base N (supF name qual params body scope cc cda) f A outer s H E) [] σ' H' s' → L2.RelV v u → Q v H' → CE outer P w H s Q u s' :=
    fun {s' σ' H' v u} J rv q => ⟨v, H', J.os, J.bare, J.base, J.hok, rv, q⟩
  obtain ⟨pl, hc⟩ := hcall s.heap.objs.size
  have e1 : execs body (envF (supF name qual params body scope cc cda) f s.heap.objs.size) = execs (.Expr (.Call (.Attribute (.Call (.Name "super" p0) [] [] p1) "__init__" p2) (e :: es) [] pos) pos' :: rest) (envF (supF name qual params body scope cc cda) f s.heap.objs.size) := congrArg (fun b => execs b _) hb0
  rw [e1]
  refine ks_wpAt_execs_cons ?_
  have hs0 : (startF N vs [none])[0]? = some (some (.ref a)) := by
    unfold startF
    cases vs with
    | nil => cases ev
    | cons v vs =>
      cases ev
      rfl
  have hk1 : scope.names.lookup ("__class__" : Str) = some .free := NS.frk _ List.mem_cons_self
  refine sup_call (X := ncx CX P w K mg base N (supF name qual params body scope cc cda) f A outer s H E) (σ := startF N vs [none]) I S T rfl lk hp hself hs0 hks hk1 (NS.par _ hpar) hmg htop hboot hta ea (he _) (hpl _) hq (fun ws H1 hh => ⟨hh.1, hh.2.1, fun s1 J => ?_⟩) (hsw _) I.quiet pl hc
  exact wpAt_of_wpAny (wpAny_mono (ht.run [] s1 _ H1 _ J hh.2.2) (fun fl s' hs => by
    cases fl with
    | ret u =>
      obtain ⟨v, σ', H', J, rv, q⟩ := hs
      exact fin J rv q
    | next =>
      obtain ⟨σ', H', J, q⟩ := hs
      exact fin (v := V.non) (u := Value.none) J rfl q
    | brk =>
      obtain ⟨_, _, _, q⟩ := hs
      exact False.elim q
    | cont =>
      obtain ⟨_, _, _, q⟩ := hs
      exact False.elim q) fun e s' hs => hs)
end
end Sg

/-! own errors whose __init__ says super().__init__: the hook's facts of them, their raising; methods that let errors out -/
namespace Sg
open PySem PySem.Spec PyProof.Rows L2 NdefX
structure SupD where
  cls : Str
  qual : Str
  params : Arguments
  body : List Stmt
  scope : Scope
  fs : List Str
abbrev SupW : Type := Option (Str × Str × Arguments × FuncBody × Scope × Addr × List Str × Addr)
def supW (K : PySem.W.Frag) (d : SupD) : SupW := match K.lookup (He.ma K (He.ga K d.cls) "__init__") with
  | some ⟨_, _, .func fd, _⟩ => some (fd.name, fd.qualname, fd.params, fd.body, fd.scope, fd.globals, fd.closure.map (·.1), fd.builtins)
  | _ => none
def SupD.val (d : SupD) : SupW := some ("__init__", d.qual, d.params, .stmts d.body, d.scope, mainGlobals, ["__class__"], builtinsNs)
def oexB (K : PySem.W.Frag) (C : Addr) : Bool := (match K.lookup C with
  | some ⟨.type t, _, .cls cd, sl⟩ => (match cd.mro, sl.toList with
    | .ref C' :: bm, [_, _, _, _, some (.builtin n), _] => decide (t = "type") && (decide (C' = C) && (decide (n = "ValueError.__new__") && (!cd.hasDel && (cd.hasDict && PySem.HandSPX.refsVE bm))))
    | _, _ => false)
  | _ => false) && (He.eqO (PySem.W.findIn K (.ref C) "__setattr__") (some (some (.builtin "object.__setattr__"))) && (decide (PySem.W.subIn K (.ref C) (.type "BaseException") = some true) && (decide (PySem.W.typeIn K (.ref C) = some (.type "type")) && PySem.W.keepIn K (.ref C))))
theorem oexB_ok {K : PySem.W.Frag} {C : Addr} (h : oexB K C = true) : OexC K C := by
  obtain ⟨h1, h⟩ := He.ba h
  obtain ⟨h2, h⟩ := He.ba h
  obtain ⟨h3, h⟩ := He.ba h
  obtain ⟨h4, h5⟩ := He.ba h
  refine ⟨?_, He.eqO_ok h2, of_decide_eq_true h3, of_decide_eq_true h4, h5⟩
  split at h1
  · rename_i t dd cd sl e
    split at h1
    · rename_i C' bm k0 k1 k2 k3 n k5 em es
      obtain ⟨a0, h1⟩ := He.ba h1
      obtain ⟨a1, h1⟩ := He.ba h1
      obtain ⟨a2, h1⟩ := He.ba h1
      obtain ⟨a3, h1⟩ := He.ba h1
      obtain ⟨a4, a5⟩ := He.ba h1
      obtain ⟨nm, bs, mro, ns, qn, hd, sn, sub, ab, col, del⟩ := cd
      have a0 := of_decide_eq_true a0
      have a1 := of_decide_eq_true a1
      have a2 := of_decide_eq_true a2
      dsimp only at em a3 a4 a5
      rw [Bool.not_eq_true'] at a3
      subst a0 a1 a2 em a3 a4
      obtain ⟨sa⟩ := sl
      dsimp only at es
      subst es
      exact ⟨nm, qn, ns, bs, bm, sn, sub, ab, col, dd, k0, k1, k2, k3, k5, e, a5⟩
    · cases h1
  · cases h1
def supOk (K : PySem.W.Frag) (main : Str) (d : SupD) : Bool := (match K.lookup (He.ma K (He.ga K d.cls) "__init__") with
  | some ⟨_, _, .func fd, _⟩ => (match fd.closure, fd.code with
    | [(n, cc)], .ref cda => decide (fd.defaults = .none) && supB K main 0 cc cda (He.ga K d.cls) d.qual
    | _, _ => false)
  | _ => false) && (oexB K (He.ga K d.cls) && (He.eqO (PySem.W.findIn K (.ref (He.ga K d.cls)) "__init__") (some (some (.ref (He.ma K (He.ga K d.cls) "__init__")))) &&
    (decide (PySem.W.typeIn K (.ref (He.ma K (He.ga K d.cls) "__init__")) = some (.type "function")) && ((d.fs.all fun n => He.eqO (PySem.W.findIn K (.ref (He.ga K d.cls)) n) (some none)) && xfB K (He.ga K d.cls)))))
/-- what is known of such an error -/
structure SupT (K : PySem.W.Frag) (mg : Str → Option Value) (main : Str) (d : SupD) : Prop where
  gm : mg d.cls = some (.ref (He.ga K d.cls))
  su : mg "super" = none
  lk : ∃ oc od kV doc pm an ct osl cc cda, K.lookup (He.ma K (He.ga K d.cls) "__init__") = some ⟨oc, od, .func (PySem.W.fnX "__init__" d.qual d.params d.body d.scope [("__class__", cc)] .none kV doc pm an (.ref cda) ct), osl⟩ ∧ SupC K main (He.ma K (He.ga K d.cls) "__init__") cc cda (He.ga K d.cls) d.qual
  ox : OexC K (He.ga K d.cls)
  it : PySem.W.findIn K (.ref (He.ga K d.cls)) "__init__" = some (some (.ref (He.ma K (He.ga K d.cls) "__init__")))
  ft : PySem.W.typeIn K (.ref (He.ma K (He.ga K d.cls) "__init__")) = some (.type "function")
  nf : ∀ n ∈ d.fs, PySem.W.findIn K (.ref (He.ga K d.cls)) n = some none
  xf : XfC K (He.ga K d.cls)
theorem supT_mk {K : PySem.W.Frag} {mg : Str → Option Value} {main : Str} {d : SupD} (gm : mg d.cls = some (.ref (He.ga K d.cls))) (su : mg "super" = none) (e : supW K d = d.val) (h : supOk K main d = true) : SupT K mg main d := by
  obtain ⟨h1, h⟩ := He.ba h
  obtain ⟨h2, h⟩ := He.ba h
  obtain ⟨h3, h⟩ := He.ba h
  obtain ⟨h4, h⟩ := He.ba h
  obtain ⟨h5, h6⟩ := He.ba h
  refine ⟨gm, su, ?_, oexB_ok h2, He.eqO_ok h3, of_decide_eq_true h4, fun n hn => He.eqO_ok (List.all_eq_true.mp h5 n hn), xfB_ok h6⟩
  unfold supW at e
  cases q : K.lookup (He.ma K (He.ga K d.cls) "__init__") with
  | none =>
    rw [q] at h1
    cases h1
  | some o =>
    obtain ⟨oc, od, dt, osl⟩ := o
    rw [q] at h1 e
    cases dt with
    | func fd =>
      obtain ⟨n1, n2, n3, n4, n5, n6, n7, n8, n9, n10, n11, n12, n13, n14, n15⟩ := fd
      have e2 : (some (n1, n2, n3, n4, n5, n6, n7.map (·.1), n15) : SupW) = some (("__init__" : Str), d.qual, d.params, FuncBody.stmts d.body, d.scope, mainGlobals, [("__class__" : Str)], builtinsNs) := e
      simp only [Option.some.injEq, Prod.mk.injEq] at e2
      obtain ⟨g1, g2, g3, g4, g5, g6, g7, g8⟩ := e2
      subst g1 g2 g3 g4 g5 g6 g8
      dsimp only at h1
      match n7, n13, h1, g7 with
      | [(n, cc)], .ref cda, h1, g7 =>
        obtain ⟨b1, b2⟩ := He.ba h1
        have b1 := of_decide_eq_true b1
        subst b1
        simp only [List.map_cons, List.map_nil, List.cons.injEq, and_true] at g7
        subst g7
        have S := supB_ok b2
        exact ⟨oc, od, n9, n10, n11, n12, n14, osl, cc, cda, rfl, S.cell, S.code, S.cdq, S.sup, S.ve, S.me, S.any⟩
    | _ => cases h1
/-! the hook -/
def obsZ (ex : PySem.W.Frag → Bool) (fa : List He.Fa) (fn : List He.DefD) (ts : List He.Tab) (su : List SupD) (K : PySem.W.Frag) : (Bool × He.AlT) × List SupW := (obsY ex fa fn ts K, su.map (supW K))
def obsZG (n : Nat) (ex : PySem.W.Frag → Bool) (fa : List He.Fa) (fn : List He.DefD) (ts : List He.Tab) (su : List SupD) (g : Addr → Option Obj) : (Bool × He.AlT) × List SupW := obsZ ex fa fn ts su (He.frG g (cStatics :: asB g n))
structure SaysZ (ex : PySem.W.Frag → Bool) (fa : List He.Fa) (fn : List He.DefD) (ts : List He.Tab) (su : List SupD) (w : World) (K : PySem.W.Frag) : Prop where
  y : SaysY ex fa fn ts w K
  s : su.map (supW K) = su.map SupD.val
def hookZ (n : Nat) (ex : PySem.W.Frag → Bool) (fa : List He.Fa) (fn : List He.DefD) (ts : List He.Tab) (su : List SupD) : PySem.W.Hook where
  α := (Bool × He.AlT) × List SupW
  obs := fun s => obsZG n ex fa fn ts su s.heap.get?
  val := fun w => ((true, He.valT fn ts w), su.map SupD.val)
  says := fun w h => ∃ K : PySem.W.Frag, K.In h ∧ SaysZ ex fa fn ts su w K
  of := fun _ _ e => ⟨_, He.frG_in, ⟨congrArg (fun z : (Bool × He.AlT) × List SupW => z.1.2) e, congrArg (fun z : (Bool × He.AlT) × List SupW => z.1.1) e⟩, congrArg (fun z : (Bool × He.AlT) × List SupW => z.2) e⟩
  keeps := fun _ _ _ ⟨K, hK, c⟩ k => ⟨K, PySem.W.Frag.In.keeps hK k, c⟩
theorem obsZG_eq {n : Nat} {ex : PySem.W.Frag → Bool} {fa : List He.Fa} {fn : List He.DefD} {ts : List He.Tab} {su : List SupD} {g : Addr → Option Obj} {s : Shared} (h : ∀ a, g a = s.heap.get? a) : obsZG n ex fa fn ts su g = (hookZ n ex fa fn ts su).obs s := by
  have e : g = s.heap.get? := funext h
  rw [e]; rfl
theorem SaysZ.sup {ex : PySem.W.Frag → Bool} {fa : List He.Fa} {fn : List He.DefD} {ts : List He.Tab} {su : List SupD} {w : World} {K : PySem.W.Frag} (c : SaysZ ex fa fn ts su w K) (i : Nat) {d : SupD} (h : su[i]? = some d := by rfl) : supW K d = d.val := by
  have e : (su.map (supW K))[i]? = (su.map SupD.val)[i]? := by rw [c.s]
  rw [List.getElem?_map, List.getElem?_map, h] at e
  exact Option.some.inj e
/-! raising -/
structure DkO (P : Program) (w : World) (K : PySem.W.Frag) (mg : Str → Option Value) (base : Heap) (k : Nat) (x : Str) (ps : List Str) (sp : Sp) : Prop where
  ok : ∃ fd, FnOk P w K mg base (L2.CX P w) k (He.ma K (He.ga K x) "__init__") fd ps sp ∧ Binds K fd ps []
theorem pmk_oexR {X : Cx} {x main : Str} {d : SupD} {k : Nat} {ps : List Str} {sp : Sp} {e : Expr} {es : List Expr} {ta : TA} {p pos : Pos} (T : SupT X.K X.mg main d) (D : DkO X.prog X.w X.K X.mg X.base k x ps sp) (hr : Room (k + 1) X.A) (ha : PA X (e :: es) ta) (hg : Gl X x := by rfl) (ex : d.cls = x := by rfl)
    (hdb : (x == ("__debug__" : Str)) = false := by decide) (he : starEach (e :: es) X.env = (false, eval e X.env) :: starEach es X.env := by rfl) (hpl : (backTo pos (starEach es X.env)).any (·.1) = false := by rfl) :
    PMk X (.Call (.Name x p) (e :: es) [] pos) (tMkO (He.ga X.K x) sp [] ta) := by
  subst ex
  obtain ⟨fd, F, B⟩ := D.ok
  exact pmk_oex T.ox T.it T.ft F hr B .nil passF hg T.gm ha hdb he hpl
/-- the fields of an error made with two fields -/
theorem oex_two {H : Hp} {a d C : Addr} {f1 f2 : Str} {y1 y2 : V} (ha : H a = none) (hd : upd H a (exo a C none) d = none) (hn : d ≠ a) :
    upd (del (upd (upd (upd (upd H a (exo a C none)) d (exd d [(f1, y1)])) a (exo a C (some d))) d (exd d [(f2, y2), (f1, y1)])) a) d (.xd [(f2, y2), (f1, y1)]) = upd H d (.xd [(f2, y2), (f1, y1)]) := by
  funext b
  by_cases hb : b = d
  · rw [hb, upd_same, upd_same]
  · rw [upd_ne hb, upd_ne hb]
    by_cases h2 : b = a
    · rw [h2, del_same, ha]
    · rw [del_ne h2, upd_ne hb, upd_ne h2, upd_ne hb, upd_ne h2]
theorem oex_one {H : Hp} {a d C : Addr} {f1 : Str} {y1 : V} (ha : H a = none) (hd : upd H a (exo a C none) d = none) (hn : d ≠ a) :
    upd (del (upd (upd (upd H a (exo a C none)) d (exd d [(f1, y1)])) a (exo a C (some d))) a) d (.xd [(f1, y1)]) = upd H d (.xd [(f1, y1)]) := by
  funext b
  by_cases hb : b = d
  · rw [hb, upd_same, upd_same]
  · rw [upd_ne hb, upd_ne hb]
    by_cases h2 : b = a
    · rw [h2, del_same, ha]
    · rw [del_ne h2, upd_ne h2, upd_ne hb, upd_ne h2]
/-! methods that let errors out: E is the running def's own wish -/
theorem passE {X : Cx} {E : XK} (tk : Takes X (fun cls d _ H => E cls d H)) : Passes (L2.CX X.prog X.w) X E := fun pins σ H s e s' I c => passAt (W := fun cls d _ H => E cls d H) tk σ pins H s e s' I c
def tMethE (K : PySem.W.Frag) (C m : Str) (sp : Sp) (dvs : List V) (E : XK) (ta : TE) (t : TA) : TE := tMeth (He.ga K C) m sp dvs E ta t
section
variable {X : Cx} {k : Nat} {C m : Str} {ps : List Str} {dvs : List V} {sp : Sp} {E : XK} {o e : Expr} {es : List Expr} {ta : TE} {t : TA} {pos apos p : Pos}
theorem pe_methE {pl : Sem Bool} (tk : Takes X (fun cls d _ H => E cls d H)) (he : PE X o ta) (c : Cls X.K (He.ga X.K C)) (hm : Meth X.K (He.ga X.K C) m (He.ma X.K (He.ga X.K C) m)) (D : DkM X.prog X.w X.K X.mg X.base k C m ps dvs sp) (hr : Room k X.A) (ha : PA X (e :: es) t)
    (hst : starEach (e :: es) X.env = (false, eval e X.env) :: starEach es X.env := by rfl) (hpl : (backTo pos (starEach es X.env)).any (·.1) = false := by rfl)
    (ht : eval (.Call (.Attribute o m apos) (e :: es) [] pos) X.env = (do
      let ov ← eval o X.env
      standAt apos.atName
      let (f, first) ← holding [ov] (getMethod ov m pl)
      callWith pos f first (backTo pos (starEach (e :: es) X.env)) (backToKw pos (keywordEach [] X.env))) := by rfl) :
    PE X (.Call (.Attribute o m apos) (e :: es) [] pos) (tMethE X.K C m sp dvs E ta t) := by
  obtain ⟨fd, ds, F, B, hd⟩ := D.ok
  exact pe_meth he c hm F hr B hd (passE tk) ha hst hpl ht
theorem pe_methE0 {pl : Sem Bool} (tk : Takes X (fun cls d _ H => E cls d H)) (he : PE X o ta) (c : Cls X.K (He.ga X.K C)) (hm : Meth X.K (He.ga X.K C) m (He.ma X.K (He.ga X.K C) m)) (D : DkM X.prog X.w X.K X.mg X.base k C m ps dvs sp) (hr : Room k X.A)
    (ht : eval (.Call (.Attribute o m apos) [] [] pos) X.env = (do
      let ov ← eval o X.env
      standAt apos.atName
      let (f, first) ← holding [ov] (getMethod ov m pl)
      callWith pos f first (backTo pos (starEach [] X.env)) (backToKw pos (keywordEach [] X.env))) := by rfl) :
    PE X (.Call (.Attribute o m apos) [] [] pos) (tMethE X.K C m sp dvs E ta tNil) := by
  obtain ⟨fd, ds, F, B, hd⟩ := D.ok
  exact pe_meth0 he c hm F hr B hd (passE tk) ht
end
end Sg

namespace K02
open PySem PySem.Spec PyProof.Rows L2 Sg
def topS (i : Nat) : Stmt := PySem.Challenge.pw_signwright_k01_quotes_and_remarks.main.body.getD i (.Pass ⟨0, 0, 0, 0⟩)
def dd (i : Nat) (x : Str) : He.DefD := ⟨(x, none), x, x, defArgs (topS i), defBody (topS i), defScope (topS i), [], []⟩
def fns0 : List He.DefD := [dd 7 "is_printable", dd 8 "is_digit", dd 9 "is_small", dd 10 "is_great", dd 11 "is_row_char", dd 12 "is_row", dd 13 "is_fun_name", dd 14 "is_set_name", dd 15 "is_number_row", dd 24 "word_kind", dd 25 "quoted_end", dd 26 "row_end", dd 27 "remark_end", dd 28 "row_token", dd 33 "way_of", dd 38 "read", dd 39 "read_work", dd 41 "_law_bag", dd 42 "_law_take", dd 43 "_law_same", dd 44 "_law_quoted", dd 45 "_law_place", dd 46 "_law_printable", dd 47 "_law_remark", dd 48 "_law_refused", dd 49 "law", ⟨("Token", some "__init__"), "__init__", "Token.__init__", defArgs (clsAt (topS 23) 0), defBody (clsAt (topS 23) 0), defScope (clsAt (topS 23) 0), [], []⟩, ⟨("Tokens", some "__init__"), "__init__", "Tokens.__init__", defArgs (clsAt (topS 29) 0), defBody (clsAt (topS 29) 0), defScope (clsAt (topS 29) 0), [], []⟩, ⟨("Tokens", some "skip_blanks"), "skip_blanks", "Tokens.skip_blanks", defArgs (clsAt (topS 29) 1), defBody (clsAt (topS 29) 1), defScope (clsAt (topS 29) 1), [], []⟩, ⟨("Tokens", some "column"), "column", "Tokens.column", defArgs (clsAt (topS 29) 2), defBody (clsAt (topS 29) 2), defScope (clsAt (topS 29) 2), [], []⟩]
def fns1 : List He.DefD := [⟨("Tokens", some "read_token"), "read_token", "Tokens.read_token", defArgs (clsAt (topS 29) 3), defBody (clsAt (topS 29) 3), defScope (clsAt (topS 29) 3), [], []⟩, ⟨("Tokens", some "read_quoted"), "read_quoted", "Tokens.read_quoted", defArgs (clsAt (topS 29) 4), defBody (clsAt (topS 29) 4), defScope (clsAt (topS 29) 4), [], []⟩, ⟨("Worths", some "__init__"), "__init__", "Worths.__init__", defArgs (clsAt (topS 36) 0), defBody (clsAt (topS 36) 0), defScope (clsAt (topS 36) 0), [], []⟩, ⟨("Worths", some "keep"), "keep", "Worths.keep", defArgs (clsAt (topS 36) 1), defBody (clsAt (topS 36) 1), defScope (clsAt (topS 36) 1), [], []⟩, ⟨("Worths", some "take"), "take", "Worths.take", defArgs (clsAt (topS 36) 2), defBody (clsAt (topS 36) 2), defScope (clsAt (topS 36) 2), [], []⟩, ⟨("Worths", some "make"), "make", "Worths.make", defArgs (clsAt (topS 36) 3), defBody (clsAt (topS 36) 3), defScope (clsAt (topS 36) 3), [], []⟩, ⟨("Worths", some "do"), "do", "Worths.do", defArgs (clsAt (topS 36) 4), defBody (clsAt (topS 36) 4), defScope (clsAt (topS 36) 4), [], []⟩, ⟨("Reading", some "__init__"), "__init__", "Reading.__init__", defArgs (clsAt (topS 37) 0), defBody (clsAt (topS 37) 0), defScope (clsAt (topS 37) 0), [], []⟩, ⟨("Reading", some "refuse"), "refuse", "Reading.refuse", defArgs (clsAt (topS 37) 1), defBody (clsAt (topS 37) 1), defScope (clsAt (topS 37) 1), [], []⟩, ⟨("Reading", some "match"), "match", "Reading.match", defArgs (clsAt (topS 37) 2), defBody (clsAt (topS 37) 2), defScope (clsAt (topS 37) 2), [], []⟩, ⟨("Reading", some "choose"), "choose", "Reading.choose", defArgs (clsAt (topS 37) 3), defBody (clsAt (topS 37) 3), defScope (clsAt (topS 37) 3), [], []⟩, ⟨("Reading", some "read_all"), "read_all", "Reading.read_all", defArgs (clsAt (topS 37) 4), defBody (clsAt (topS 37) 4), defScope (clsAt (topS 37) 4), [], []⟩]
def fns : List He.DefD := fns0 ++ (fns1)
def fas0 : List He.Fa := [.glo "is_printable", .glo "is_digit", .glo "is_small", .glo "is_great", .glo "is_row_char", .glo "is_row", .glo "is_fun_name", .glo "is_set_name", .glo "is_number_row", .glo "word_kind", .glo "quoted_end", .glo "row_end", .glo "remark_end", .glo "row_token", .glo "way_of", .glo "read", .glo "read_work", .glo "_law_bag", .glo "_law_take", .glo "_law_same", .glo "_law_quoted", .glo "_law_place", .glo "_law_printable", .glo "_law_remark", .glo "_law_refused", .glo "law", .free "all", .free "isinstance", .free "str", .free "len"]
def fas1 : List He.Fa := [.free "int", .free "tuple", .free "bool", .free "range", .glo "SignError", .glo "BadText", .glo "Token", .glo "Tokens", .glo "Worths", .glo "Reading", .exc "SignError", .glo "RESERVED", .str "MARKS" "()[]{};:,=>|&-*+?", .int "MOST_DIGITS" 2, .str "END" "end of the text", .str "STRANGE" "no token", .str "QUOTED" "quoted", .str "FUN_NAME" "name", .str "SET_NAME" "Name", .str "NUMBER" "number", .glo "ATOM_KINDS", .glo "RULES", .glo "KEPT_KINDS", .cls "Token", .mkr "Token", .noat "Token" "kind", .noat "Token" "worth", .noat "Token" "line", .noat "Token" "column", .cls "Tokens"]
def fas2 : List He.Fa := [.mkr "Tokens", .noat "Tokens" "source", .noat "Tokens" "at", .noat "Tokens" "line", .noat "Tokens" "line_start", .meth "Tokens" "skip_blanks", .meth "Tokens" "column", .meth "Tokens" "read_token", .meth "Tokens" "read_quoted", .cls "Worths", .mkr "Worths", .noat "Worths" "kept", .meth "Worths" "keep", .meth "Worths" "take", .meth "Worths" "make", .meth "Worths" "do", .cls "Reading", .mkr "Reading", .noat "Reading" "tokens", .noat "Reading" "token", .noat "Reading" "worths", .meth "Reading" "refuse", .meth "Reading" "match", .meth "Reading" "choose", .meth "Reading" "read_all", .free "super", .exm "BadText" "BadText" true]
def fas : List He.Fa := fas0 ++ (fas1 ++ (fas2))
def loose0 : List PySem.Str := ["SignError", "BadText", "Token", "Tokens", "Worths", "Reading", "RESERVED", "MARKS", "MOST_DIGITS", "END", "STRANGE", "QUOTED", "FUN_NAME", "SET_NAME", "NUMBER", "ATOM_KINDS", "RULES", "KEPT_KINDS", "is_printable", "is_digit", "is_small", "is_great", "is_row_char", "is_row", "is_fun_name", "is_set_name", "is_number_row", "word_kind", "quoted_end", "row_end"]
def loose1 : List PySem.Str := ["remark_end", "row_token", "way_of", "read", "read_work", "_law_bag", "_law_take", "_law_same", "_law_quoted", "_law_place", "_law_printable", "_law_remark", "_law_refused"]
def loose : List PySem.Str := loose0 ++ (loose1)
abbrev R : PySem.W.OpenRow := PySem.W.OpenLaw.row PySem.Challenge.rw_signwright_k01_quotes_and_remarks
def dat_RESERVED : PyData := .tuple [.str "adds", .str "ahead", .str "any", .str "behind", .str "by", .str "claim", .str "each", .str "else", .str "fun", .str "gives", .str "head", .str "if", .str "less", .str "longest", .str "none", .str "on", .str "only", .str "put", .str "same", .str "set", .str "settles", .str "shortest", .str "signs", .str "skip", .str "takes", .str "turn", .str "undoes"]
def dat_ATOM_KINDS : PyData := .tuple [.str "quoted", .str "Name", .str "=any", .str "=none", .str "=("]
def dat_RULES_0 : Str × PyData := ("<program>", .tuple [.tuple [.tuple [], .tuple [.str "=signs", .str "quoted", .str "=;", .str "!open", .str "<items>", .str "!close", .str "!pair"]]])
def dat_RULES_1 : Str × PyData := ("<items>", .tuple [.tuple [.tuple [.str "=set"], .tuple [.str "=set", .str "Name", .str "==", .str "<sets>", .str "=;", .tuple [.str "set", .int 2], .str "!add", .str "<items>"]], .tuple [.tuple [.str "=fun"], .tuple [.str "=fun", .str "name", .str "==", .str "<work>", .str "=;", .tuple [.str "fun", .int 2], .str "!add", .str "<items>"]], .tuple [.tuple [.str "=claim"], .tuple [.str "=claim", .str "name", .str "<claim>", .str "=;", .str "!add", .str "<items>"]], .tuple [.tuple [], .tuple []]])
def dat_RULES_2 : Str × PyData := ("<claim>", .tuple [.tuple [.tuple [.str "=takes"], .tuple [.str "=takes", .str "<sets>", .tuple [.str "claim", .str "takes", .int 1]]], .tuple [.tuple [.str "=gives"], .tuple [.str "=gives", .str "<sets>", .str "=on", .str "<sets>", .tuple [.str "claim", .str "gives", .int 2]]], .tuple [.tuple [.str "=same"], .tuple [.str "=same", .str "name", .str "=on", .str "<sets>", .tuple [.str "claim", .str "same", .int 2]]], .tuple [.tuple [.str "=undoes"], .tuple [.str "=undoes", .str "name", .str "=on", .str "<sets>", .tuple [.str "claim", .str "undoes", .int 2]]], .tuple [.tuple [.str "=settles"], .tuple [.str "=settles", .str "=on", .str "<sets>", .tuple [.str "claim", .str "settles", .int 1]]], .tuple [.tuple [.str "=adds"], .tuple [.str "=adds", .str "number", .str "=on", .str "<sets>", .tuple [.str "claim", .str "adds", .int 2]]]])
def dat_RULES_3 : Str × PyData := ("<sets>", .tuple [.tuple [.tuple [], .tuple [.str "<both>", .str "<more sets>"]]])
def dat_RULES_4 : Str × PyData := ("<more sets>", .tuple [.tuple [.tuple [.str "=|"], .tuple [.str "=|", .str "<both>", .tuple [.str "or", .int 2], .str "<more sets>"]], .tuple [.tuple [], .tuple []]])
def dat_RULES_5 : Str × PyData := ("<both>", .tuple [.tuple [.tuple [], .tuple [.str "<row>", .str "<more both>"]]])
def dat_RULES_6 : Str × PyData := ("<more both>", .tuple [.tuple [.tuple [.str "=&"], .tuple [.str "=&", .str "<row>", .tuple [.str "and", .int 2], .str "<more both>"]], .tuple [.tuple [.str "=-"], .tuple [.str "=-", .str "<row>", .tuple [.str "less", .int 2], .str "<more both>"]], .tuple [.tuple [], .tuple []]])
def dat_RULES_7 : Str × PyData := ("<row>", .tuple [.tuple [.tuple [], .tuple [.str "<piece>", .str "<more row>"]]])
def dat_RULES_8 : Str × PyData := ("<more row>", .tuple [.tuple [.tuple [.str "quoted", .str "Name", .str "=any", .str "=none", .str "=("], .tuple [.str "<piece>", .tuple [.str "row", .int 2], .str "<more row>"]], .tuple [.tuple [], .tuple []]])
def dat_RULES_9 : Str × PyData := ("<piece>", .tuple [.tuple [.tuple [], .tuple [.str "<atom>", .str "<more piece>"]]])
def dat_RULES_10 : Str × PyData := ("<more piece>", .tuple [.tuple [.tuple [.str "=*"], .tuple [.str "=*", .tuple [.str "many", .int 1], .str "<more piece>"]], .tuple [.tuple [.str "=+"], .tuple [.str "=+", .tuple [.str "more", .int 1], .str "<more piece>"]], .tuple [.tuple [.str "=?"], .tuple [.str "=?", .tuple [.str "maybe", .int 1], .str "<more piece>"]], .tuple [.tuple [], .tuple []]])
def dat_RULES_11 : Str × PyData := ("<atom>", .tuple [.tuple [.tuple [.str "quoted"], .tuple [.str "quoted", .tuple [.str "text", .int 1]]], .tuple [.tuple [.str "Name"], .tuple [.str "Name", .tuple [.str "name", .int 1]]], .tuple [.tuple [.str "=any"], .tuple [.str "=any", .tuple [.str "any", .int 0]]], .tuple [.tuple [.str "=none"], .tuple [.str "=none", .tuple [.str "none", .int 0]]], .tuple [.tuple [.str "=("], .tuple [.str "=(", .str "<sets>", .str "=)"]]])
def dat_RULES_12 : Str × PyData := ("<work>", .tuple [.tuple [.tuple [], .tuple [.str "<step>", .str "<more work>"]]])
def dat_RULES_13 : Str × PyData := ("<more work>", .tuple [.tuple [.tuple [.str "=>"], .tuple [.str "=>", .str "<step>", .tuple [.str "then", .int 2], .str "<more work>"]], .tuple [.tuple [], .tuple []]])
def dat_RULES_14 : Str × PyData := ("<step>", .tuple [.tuple [.tuple [.str "=same"], .tuple [.str "=same", .tuple [.str "same", .int 0]]], .tuple [.tuple [.str "=put"], .tuple [.str "=put", .str "quoted", .tuple [.str "put", .int 1]]], .tuple [.tuple [.str "=ahead"], .tuple [.str "=ahead", .str "quoted", .tuple [.str "ahead", .int 1]]], .tuple [.tuple [.str "=behind"], .tuple [.str "=behind", .str "quoted", .tuple [.str "behind", .int 1]]], .tuple [.tuple [.str "=head"], .tuple [.str "=head", .str "number", .tuple [.str "head", .int 1]]], .tuple [.tuple [.str "=skip"], .tuple [.str "=skip", .str "number", .tuple [.str "skip", .int 1]]], .tuple [.tuple [.str "=less"], .tuple [.str "=less", .str "number", .tuple [.str "less", .int 1]]], .tuple [.tuple [.str "=only"], .tuple [.str "=only", .str "<in sets>", .tuple [.str "only", .int 1]]], .tuple [.tuple [.str "=turn"], .tuple [.str "=turn", .str "={", .str "!open", .str "<pair>", .str "<more pairs>", .str "=}", .str "!close", .tuple [.str "turn", .int 1]]], .tuple [.tuple [.str "=each"], .tuple [.str "=each", .str "<in sets>", .str "<way>", .str "=by", .str "<step>", .tuple [.str "each", .int 3]]], .tuple [.tuple [.str "=if"], .tuple [.str "=if", .str "<in sets>", .str "<step>", .str "=else", .str "<step>", .tuple [.str "if", .int 3]]], .tuple [.tuple [.str "name"], .tuple [.str "name", .tuple [.str "fun", .int 1]]], .tuple [.tuple [.str "=("], .tuple [.str "=(", .str "<work>", .str "=)"]]])
def dat_RULES_15 : Str × PyData := ("<in sets>", .tuple [.tuple [.tuple [], .tuple [.str "=[", .str "<sets>", .str "=]"]]])
def dat_RULES_16 : Str × PyData := ("<pair>", .tuple [.tuple [.tuple [], .tuple [.str "quoted", .str "=:", .str "quoted", .str "!pair", .str "!add"]]])
def dat_RULES_17 : Str × PyData := ("<more pairs>", .tuple [.tuple [.tuple [.str "=,"], .tuple [.str "=,", .str "<pair>", .str "<more pairs>"]], .tuple [.tuple [], .tuple []]])
def dat_RULES_18 : Str × PyData := ("<way>", .tuple [.tuple [.tuple [.str "=longest"], .tuple [.str "=longest", .str "'longest"]], .tuple [.tuple [.str "=shortest"], .tuple [.str "=shortest", .str "'shortest"]]])
def tab_RULES : List (Str × PyData) := [dat_RULES_0, dat_RULES_1, dat_RULES_2, dat_RULES_3, dat_RULES_4, dat_RULES_5, dat_RULES_6, dat_RULES_7, dat_RULES_8, dat_RULES_9, dat_RULES_10, dat_RULES_11, dat_RULES_12, dat_RULES_13, dat_RULES_14, dat_RULES_15, dat_RULES_16, dat_RULES_17, dat_RULES_18]
def dat_KEPT_KINDS : PyData := .tuple [.str "quoted", .str "name", .str "Name", .str "number"]
def tabs : List He.Tab := [(fun K => He.ga K "RULES", ["<program>", "<items>", "<claim>", "<sets>", "<more sets>", "<both>", "<more both>", "<row>", "<more row>", "<piece>", "<more piece>", "<atom>", "<work>", "<more work>", "<step>", "<in sets>", "<pair>", "<more pairs>", "<way>"])]
def mainF : PySem.Str := PySem.Challenge.pw_signwright_k01_quotes_and_remarks.main.file
/-- what is asked of the program besides -/
class PF (P : Program) : Prop where
  file : P.main.file = mainF
  nosup : (P.main.scope.names.lookup ("super" : PySem.Str)).isSome = false
def sup_BadText : SupD := ⟨"BadText", "BadText.__init__", defArgs (clsAt (topS 2) 0), defBody (clsAt (topS 2) 0), defScope (clsAt (topS 2) 0), ["line", "column"]⟩
def sups : List SupD := [sup_BadText]
def exL (K : PySem.W.Frag) : List Bool := [excCB K (He.ga K "BadText"), datB K dat_RESERVED (.ref (He.ga K "RESERVED")), datB K dat_ATOM_KINDS (.ref (He.ga K "ATOM_KINDS")), tabB K (He.ga K "RULES") tab_RULES, datB K dat_KEPT_KINDS (.ref (He.ga K "KEPT_KINDS")), supOk K mainF sup_BadText]
def exB (K : PySem.W.Frag) : Bool := (exL K).all id
abbrev hk : PySem.W.Hook := hookZ 5 exB fas fns tabs sups
def ob (s : PySem.W.SharedT) : (Bool × He.AlT) × List SupW := obsZG 5 exB fas fns tabs sups (HandSHeadRun.getT s)
theorem ob_eq (s : PySem.W.SharedT) : ob s = hk.obs s.abs := obsZG_eq (HandSHeadRun.getT_eq s)
theorem run_f (w : World) : HandSHeadRun.RunEq R (PySem.W.view R.prog [49]) hk ob 6000 loose (wB w false) := by
  intro os
  kernel_rfl
theorem run_t (w : World) : HandSHeadRun.RunEq R (PySem.W.view R.prog [49]) hk ob 6000 loose (wB w true) := by
  intro os
  kernel_rfl
theorem run (w : World) : HandSHeadRun.RunEq R (PySem.W.view R.prog [49]) hk ob 6000 loose w := by
  have k : HandSHeadRun.RunEq R (PySem.W.view R.prog [49]) hk ob 6000 loose (wB w (w.params.followText "special-get-raises")) := by
    cases w.params.followText "special-get-raises" with
    | false => exact run_f w
    | true => exact run_t w
  rwa [wB_eq] at k
structure Tx (w : World) (K : PySem.W.Frag) (mg : Str → Option Value) : Prop where
  g_is_printable : mg "is_printable" = some (.ref (He.ga K "is_printable"))
  g_is_digit : mg "is_digit" = some (.ref (He.ga K "is_digit"))
  g_is_small : mg "is_small" = some (.ref (He.ga K "is_small"))
  g_is_great : mg "is_great" = some (.ref (He.ga K "is_great"))
  g_is_row_char : mg "is_row_char" = some (.ref (He.ga K "is_row_char"))
  g_is_row : mg "is_row" = some (.ref (He.ga K "is_row"))
  g_is_fun_name : mg "is_fun_name" = some (.ref (He.ga K "is_fun_name"))
  g_is_set_name : mg "is_set_name" = some (.ref (He.ga K "is_set_name"))
  g_is_number_row : mg "is_number_row" = some (.ref (He.ga K "is_number_row"))
  g_word_kind : mg "word_kind" = some (.ref (He.ga K "word_kind"))
  g_quoted_end : mg "quoted_end" = some (.ref (He.ga K "quoted_end"))
  g_row_end : mg "row_end" = some (.ref (He.ga K "row_end"))
  g_remark_end : mg "remark_end" = some (.ref (He.ga K "remark_end"))
  g_row_token : mg "row_token" = some (.ref (He.ga K "row_token"))
  g_way_of : mg "way_of" = some (.ref (He.ga K "way_of"))
  g_read : mg "read" = some (.ref (He.ga K "read"))
  g_read_work : mg "read_work" = some (.ref (He.ga K "read_work"))
  g__law_bag : mg "_law_bag" = some (.ref (He.ga K "_law_bag"))
  g__law_take : mg "_law_take" = some (.ref (He.ga K "_law_take"))
  g__law_same : mg "_law_same" = some (.ref (He.ga K "_law_same"))
  g__law_quoted : mg "_law_quoted" = some (.ref (He.ga K "_law_quoted"))
  g__law_place : mg "_law_place" = some (.ref (He.ga K "_law_place"))
  g__law_printable : mg "_law_printable" = some (.ref (He.ga K "_law_printable"))
  g__law_remark : mg "_law_remark" = some (.ref (He.ga K "_law_remark"))
  g__law_refused : mg "_law_refused" = some (.ref (He.ga K "_law_refused"))
  g_law : mg "law" = some (.ref (He.ga K "law"))
  f_all : mg "all" = none
  f_isinstance : mg "isinstance" = none
  f_str : mg "str" = none
  f_len : mg "len" = none
  f_int : mg "int" = none
  f_tuple : mg "tuple" = none
  f_bool : mg "bool" = none
  f_range : mg "range" = none
  g_Token : mg "Token" = some (.ref (He.ga K "Token"))
  g_Tokens : mg "Tokens" = some (.ref (He.ga K "Tokens"))
  g_Worths : mg "Worths" = some (.ref (He.ga K "Worths"))
  g_Reading : mg "Reading" = some (.ref (He.ga K "Reading"))
  e_SignError : ExcF K mg "SignError"
  c_MARKS : ∃ t, mg "MARKS" = some (.str "()[]{};:,=>|&-*+?" t)
  c_MOST_DIGITS : ∃ t, mg "MOST_DIGITS" = some (.int 2 t)
  c_END : ∃ t, mg "END" = some (.str "end of the text" t)
  c_STRANGE : ∃ t, mg "STRANGE" = some (.str "no token" t)
  c_QUOTED : ∃ t, mg "QUOTED" = some (.str "quoted" t)
  c_FUN_NAME : ∃ t, mg "FUN_NAME" = some (.str "name" t)
  c_SET_NAME : ∃ t, mg "SET_NAME" = some (.str "Name" t)
  c_NUMBER : ∃ t, mg "NUMBER" = some (.str "number" t)
  cl_Token : Cls K (He.ga K "Token")
  mk_Token : Mk K (He.ga K "Token") (He.ma K (He.ga K "Token") "__init__")
  na_Token_kind : NoAttr K (He.ga K "Token") "kind"
  na_Token_worth : NoAttr K (He.ga K "Token") "worth"
  na_Token_line : NoAttr K (He.ga K "Token") "line"
  na_Token_column : NoAttr K (He.ga K "Token") "column"
  cl_Tokens : Cls K (He.ga K "Tokens")
  mk_Tokens : Mk K (He.ga K "Tokens") (He.ma K (He.ga K "Tokens") "__init__")
  na_Tokens_source : NoAttr K (He.ga K "Tokens") "source"
  na_Tokens_at : NoAttr K (He.ga K "Tokens") "at"
  na_Tokens_line : NoAttr K (He.ga K "Tokens") "line"
  na_Tokens_line_start : NoAttr K (He.ga K "Tokens") "line_start"
  m_Tokens_skip_blanks : Meth K (He.ga K "Tokens") "skip_blanks" (He.ma K (He.ga K "Tokens") "skip_blanks")
  m_Tokens_column : Meth K (He.ga K "Tokens") "column" (He.ma K (He.ga K "Tokens") "column")
  m_Tokens_read_token : Meth K (He.ga K "Tokens") "read_token" (He.ma K (He.ga K "Tokens") "read_token")
  m_Tokens_read_quoted : Meth K (He.ga K "Tokens") "read_quoted" (He.ma K (He.ga K "Tokens") "read_quoted")
  cl_Worths : Cls K (He.ga K "Worths")
  mk_Worths : Mk K (He.ga K "Worths") (He.ma K (He.ga K "Worths") "__init__")
  na_Worths_kept : NoAttr K (He.ga K "Worths") "kept"
  m_Worths_keep : Meth K (He.ga K "Worths") "keep" (He.ma K (He.ga K "Worths") "keep")
  m_Worths_take : Meth K (He.ga K "Worths") "take" (He.ma K (He.ga K "Worths") "take")
  m_Worths_make : Meth K (He.ga K "Worths") "make" (He.ma K (He.ga K "Worths") "make")
  m_Worths_do : Meth K (He.ga K "Worths") "do" (He.ma K (He.ga K "Worths") "do")
  cl_Reading : Cls K (He.ga K "Reading")
  mk_Reading : Mk K (He.ga K "Reading") (He.ma K (He.ga K "Reading") "__init__")
  na_Reading_tokens : NoAttr K (He.ga K "Reading") "tokens"
  na_Reading_token : NoAttr K (He.ga K "Reading") "token"
  na_Reading_worths : NoAttr K (He.ga K "Reading") "worths"
  m_Reading_refuse : Meth K (He.ga K "Reading") "refuse" (He.ma K (He.ga K "Reading") "refuse")
  m_Reading_match : Meth K (He.ga K "Reading") "match" (He.ma K (He.ga K "Reading") "match")
  m_Reading_choose : Meth K (He.ga K "Reading") "choose" (He.ma K (He.ga K "Reading") "choose")
  m_Reading_read_all : Meth K (He.ga K "Reading") "read_all" (He.ma K (He.ga K "Reading") "read_all")
  f_super : mg "super" = none
  x_BadText_BadText : PySem.W.exmOne K (.ref (He.ga K "BadText")) (.ref (He.ga K "BadText")) = some true
  d_is_printable : ∃ fd, FnP K "is_printable" (topS 7) (He.ga K "is_printable") fd
  d_is_digit : ∃ fd, FnP K "is_digit" (topS 8) (He.ga K "is_digit") fd
  d_is_small : ∃ fd, FnP K "is_small" (topS 9) (He.ga K "is_small") fd
  d_is_great : ∃ fd, FnP K "is_great" (topS 10) (He.ga K "is_great") fd
  d_is_row_char : ∃ fd, FnP K "is_row_char" (topS 11) (He.ga K "is_row_char") fd
  d_is_row : ∃ fd, FnP K "is_row" (topS 12) (He.ga K "is_row") fd
  d_is_fun_name : ∃ fd, FnP K "is_fun_name" (topS 13) (He.ga K "is_fun_name") fd
  d_is_set_name : ∃ fd, FnP K "is_set_name" (topS 14) (He.ga K "is_set_name") fd
  d_is_number_row : ∃ fd, FnP K "is_number_row" (topS 15) (He.ga K "is_number_row") fd
  d_word_kind : ∃ fd, FnP K "word_kind" (topS 24) (He.ga K "word_kind") fd
  d_quoted_end : ∃ fd, FnP K "quoted_end" (topS 25) (He.ga K "quoted_end") fd
  d_row_end : ∃ fd, FnP K "row_end" (topS 26) (He.ga K "row_end") fd
  d_remark_end : ∃ fd, FnP K "remark_end" (topS 27) (He.ga K "remark_end") fd
  d_row_token : ∃ fd, FnP K "row_token" (topS 28) (He.ga K "row_token") fd
  d_way_of : ∃ fd, FnP K "way_of" (topS 33) (He.ga K "way_of") fd
  d_read : ∃ fd, FnP K "read" (topS 38) (He.ga K "read") fd
  d_read_work : ∃ fd, FnP K "read_work" (topS 39) (He.ga K "read_work") fd
  d__law_bag : ∃ fd, FnP K "_law_bag" (topS 41) (He.ga K "_law_bag") fd
  d__law_take : ∃ fd, FnP K "_law_take" (topS 42) (He.ga K "_law_take") fd
  d__law_same : ∃ fd, FnP K "_law_same" (topS 43) (He.ga K "_law_same") fd
  d__law_quoted : ∃ fd, FnP K "_law_quoted" (topS 44) (He.ga K "_law_quoted") fd
  d__law_place : ∃ fd, FnP K "_law_place" (topS 45) (He.ga K "_law_place") fd
  d__law_printable : ∃ fd, FnP K "_law_printable" (topS 46) (He.ga K "_law_printable") fd
  d__law_remark : ∃ fd, FnP K "_law_remark" (topS 47) (He.ga K "_law_remark") fd
  d__law_refused : ∃ fd, FnP K "_law_refused" (topS 48) (He.ga K "_law_refused") fd
  d_law : ∃ fd, FnP K "law" (topS 49) (He.ga K "law") fd
  d_Token_m___init__ : ∃ fd, FnM K "Token" "__init__" "Token.__init__" (clsAt (topS 23) 0) [] fd
  d_Tokens_m___init__ : ∃ fd, FnM K "Tokens" "__init__" "Tokens.__init__" (clsAt (topS 29) 0) [] fd
  d_Tokens_m_skip_blanks : ∃ fd, FnM K "Tokens" "skip_blanks" "Tokens.skip_blanks" (clsAt (topS 29) 1) [] fd
  d_Tokens_m_column : ∃ fd, FnM K "Tokens" "column" "Tokens.column" (clsAt (topS 29) 2) [] fd
  d_Tokens_m_read_token : ∃ fd, FnM K "Tokens" "read_token" "Tokens.read_token" (clsAt (topS 29) 3) [] fd
  d_Tokens_m_read_quoted : ∃ fd, FnM K "Tokens" "read_quoted" "Tokens.read_quoted" (clsAt (topS 29) 4) [] fd
  d_Worths_m___init__ : ∃ fd, FnM K "Worths" "__init__" "Worths.__init__" (clsAt (topS 36) 0) [] fd
  d_Worths_m_keep : ∃ fd, FnM K "Worths" "keep" "Worths.keep" (clsAt (topS 36) 1) [] fd
  d_Worths_m_take : ∃ fd, FnM K "Worths" "take" "Worths.take" (clsAt (topS 36) 2) [] fd
  d_Worths_m_make : ∃ fd, FnM K "Worths" "make" "Worths.make" (clsAt (topS 36) 3) [] fd
  d_Worths_m_do : ∃ fd, FnM K "Worths" "do" "Worths.do" (clsAt (topS 36) 4) [] fd
  d_Reading_m___init__ : ∃ fd, FnM K "Reading" "__init__" "Reading.__init__" (clsAt (topS 37) 0) [] fd
  d_Reading_m_refuse : ∃ fd, FnM K "Reading" "refuse" "Reading.refuse" (clsAt (topS 37) 1) [] fd
  d_Reading_m_match : ∃ fd, FnM K "Reading" "match" "Reading.match" (clsAt (topS 37) 2) [] fd
  d_Reading_m_choose : ∃ fd, FnM K "Reading" "choose" "Reading.choose" (clsAt (topS 37) 3) [] fd
  d_Reading_m_read_all : ∃ fd, FnM K "Reading" "read_all" "Reading.read_all" (clsAt (topS 37) 4) [] fd
  q_BadText : ExcC K (He.ga K "BadText")
  t_RESERVED : mg "RESERVED" = some (.ref (He.ga K "RESERVED"))
  u_RESERVED : DatK K (.ref (He.ga K "RESERVED")) dat_RESERVED
  t_ATOM_KINDS : mg "ATOM_KINDS" = some (.ref (He.ga K "ATOM_KINDS"))
  u_ATOM_KINDS : DatK K (.ref (He.ga K "ATOM_KINDS")) dat_ATOM_KINDS
  t_RULES : mg "RULES" = some (.ref (He.ga K "RULES"))
  u_RULES : ∀ q ∈ tab_RULES, ∃ u x, PySem.W.nsIn K (He.ga K "RULES") q.1 = some (some u) ∧ RelV x u ∧ DatK K x q.2
  kd_RULES : ∃ es n, KDict K w (He.ga K "RULES") es n
  t_KEPT_KINDS : mg "KEPT_KINDS" = some (.ref (He.ga K "KEPT_KINDS"))
  u_KEPT_KINDS : DatK K (.ref (He.ga K "KEPT_KINDS")) dat_KEPT_KINDS
  s_BadText : SupT K mg mainF sup_BadText
theorem tx_mk {w : World} {K : PySem.W.Frag} {h : Heap} {mg : Str → Option Value} (X : K.In h) (G : h.Ns mainGlobals mg) (ct : He.SaysT fas fns tabs w K) (cx : exB K = true) (cs : ∀ (i : Nat) {d : SupD} (h : sups[i]? = some d := by rfl), supW K d = d.val) : Tx w K mg where
  g_is_printable := He.glo_ok X G (ct.d.fact 0 (f := .glo "is_printable") rfl)
  g_is_digit := He.glo_ok X G (ct.d.fact 1 (f := .glo "is_digit") rfl)
  g_is_small := He.glo_ok X G (ct.d.fact 2 (f := .glo "is_small") rfl)
  g_is_great := He.glo_ok X G (ct.d.fact 3 (f := .glo "is_great") rfl)
  g_is_row_char := He.glo_ok X G (ct.d.fact 4 (f := .glo "is_row_char") rfl)
  g_is_row := He.glo_ok X G (ct.d.fact 5 (f := .glo "is_row") rfl)
  g_is_fun_name := He.glo_ok X G (ct.d.fact 6 (f := .glo "is_fun_name") rfl)
  g_is_set_name := He.glo_ok X G (ct.d.fact 7 (f := .glo "is_set_name") rfl)
  g_is_number_row := He.glo_ok X G (ct.d.fact 8 (f := .glo "is_number_row") rfl)
  g_word_kind := He.glo_ok X G (ct.d.fact 9 (f := .glo "word_kind") rfl)
  g_quoted_end := He.glo_ok X G (ct.d.fact 10 (f := .glo "quoted_end") rfl)
  g_row_end := He.glo_ok X G (ct.d.fact 11 (f := .glo "row_end") rfl)
  g_remark_end := He.glo_ok X G (ct.d.fact 12 (f := .glo "remark_end") rfl)
  g_row_token := He.glo_ok X G (ct.d.fact 13 (f := .glo "row_token") rfl)
  g_way_of := He.glo_ok X G (ct.d.fact 14 (f := .glo "way_of") rfl)
  g_read := He.glo_ok X G (ct.d.fact 15 (f := .glo "read") rfl)
  g_read_work := He.glo_ok X G (ct.d.fact 16 (f := .glo "read_work") rfl)
  g__law_bag := He.glo_ok X G (ct.d.fact 17 (f := .glo "_law_bag") rfl)
  g__law_take := He.glo_ok X G (ct.d.fact 18 (f := .glo "_law_take") rfl)
  g__law_same := He.glo_ok X G (ct.d.fact 19 (f := .glo "_law_same") rfl)
  g__law_quoted := He.glo_ok X G (ct.d.fact 20 (f := .glo "_law_quoted") rfl)
  g__law_place := He.glo_ok X G (ct.d.fact 21 (f := .glo "_law_place") rfl)
  g__law_printable := He.glo_ok X G (ct.d.fact 22 (f := .glo "_law_printable") rfl)
  g__law_remark := He.glo_ok X G (ct.d.fact 23 (f := .glo "_law_remark") rfl)
  g__law_refused := He.glo_ok X G (ct.d.fact 24 (f := .glo "_law_refused") rfl)
  g_law := He.glo_ok X G (ct.d.fact 25 (f := .glo "law") rfl)
  f_all := He.free_ok X G (ct.d.fact 26 (f := .free "all") rfl)
  f_isinstance := He.free_ok X G (ct.d.fact 27 (f := .free "isinstance") rfl)
  f_str := He.free_ok X G (ct.d.fact 28 (f := .free "str") rfl)
  f_len := He.free_ok X G (ct.d.fact 29 (f := .free "len") rfl)
  f_int := He.free_ok X G (ct.d.fact 30 (f := .free "int") rfl)
  f_tuple := He.free_ok X G (ct.d.fact 31 (f := .free "tuple") rfl)
  f_bool := He.free_ok X G (ct.d.fact 32 (f := .free "bool") rfl)
  f_range := He.free_ok X G (ct.d.fact 33 (f := .free "range") rfl)
  g_Token := He.glo_ok X G (ct.d.fact 36 (f := .glo "Token") rfl)
  g_Tokens := He.glo_ok X G (ct.d.fact 37 (f := .glo "Tokens") rfl)
  g_Worths := He.glo_ok X G (ct.d.fact 38 (f := .glo "Worths") rfl)
  g_Reading := He.glo_ok X G (ct.d.fact 39 (f := .glo "Reading") rfl)
  e_SignError := excF_mk (He.glo_ok X G (ct.d.fact 34 (f := .glo "SignError") rfl)) (ct.d.fact 40 (f := .exc "SignError") rfl)
  c_MARKS := He.str_ok X G (ct.d.fact 42 (f := .str "MARKS" "()[]{};:,=>|&-*+?") rfl)
  c_MOST_DIGITS := He.int_ok X G (ct.d.fact 43 (f := .int "MOST_DIGITS" 2) rfl)
  c_END := He.str_ok X G (ct.d.fact 44 (f := .str "END" "end of the text") rfl)
  c_STRANGE := He.str_ok X G (ct.d.fact 45 (f := .str "STRANGE" "no token") rfl)
  c_QUOTED := He.str_ok X G (ct.d.fact 46 (f := .str "QUOTED" "quoted") rfl)
  c_FUN_NAME := He.str_ok X G (ct.d.fact 47 (f := .str "FUN_NAME" "name") rfl)
  c_SET_NAME := He.str_ok X G (ct.d.fact 48 (f := .str "SET_NAME" "Name") rfl)
  c_NUMBER := He.str_ok X G (ct.d.fact 49 (f := .str "NUMBER" "number") rfl)
  cl_Token := He.cls_ok (ct.d.fact 53 (f := .cls "Token") rfl)
  mk_Token := He.mkr_ok (ct.d.fact 54 (f := .mkr "Token") rfl)
  na_Token_kind := He.noat_ok (ct.d.fact 55 (f := .noat "Token" "kind") rfl)
  na_Token_worth := He.noat_ok (ct.d.fact 56 (f := .noat "Token" "worth") rfl)
  na_Token_line := He.noat_ok (ct.d.fact 57 (f := .noat "Token" "line") rfl)
  na_Token_column := He.noat_ok (ct.d.fact 58 (f := .noat "Token" "column") rfl)
  cl_Tokens := He.cls_ok (ct.d.fact 59 (f := .cls "Tokens") rfl)
  mk_Tokens := He.mkr_ok (ct.d.fact 60 (f := .mkr "Tokens") rfl)
  na_Tokens_source := He.noat_ok (ct.d.fact 61 (f := .noat "Tokens" "source") rfl)
  na_Tokens_at := He.noat_ok (ct.d.fact 62 (f := .noat "Tokens" "at") rfl)
  na_Tokens_line := He.noat_ok (ct.d.fact 63 (f := .noat "Tokens" "line") rfl)
  na_Tokens_line_start := He.noat_ok (ct.d.fact 64 (f := .noat "Tokens" "line_start") rfl)
  m_Tokens_skip_blanks := He.meth_ok (ct.d.fact 65 (f := .meth "Tokens" "skip_blanks") rfl)
  m_Tokens_column := He.meth_ok (ct.d.fact 66 (f := .meth "Tokens" "column") rfl)
  m_Tokens_read_token := He.meth_ok (ct.d.fact 67 (f := .meth "Tokens" "read_token") rfl)
  m_Tokens_read_quoted := He.meth_ok (ct.d.fact 68 (f := .meth "Tokens" "read_quoted") rfl)
  cl_Worths := He.cls_ok (ct.d.fact 69 (f := .cls "Worths") rfl)
  mk_Worths := He.mkr_ok (ct.d.fact 70 (f := .mkr "Worths") rfl)
  na_Worths_kept := He.noat_ok (ct.d.fact 71 (f := .noat "Worths" "kept") rfl)
  m_Worths_keep := He.meth_ok (ct.d.fact 72 (f := .meth "Worths" "keep") rfl)
  m_Worths_take := He.meth_ok (ct.d.fact 73 (f := .meth "Worths" "take") rfl)
  m_Worths_make := He.meth_ok (ct.d.fact 74 (f := .meth "Worths" "make") rfl)
  m_Worths_do := He.meth_ok (ct.d.fact 75 (f := .meth "Worths" "do") rfl)
  cl_Reading := He.cls_ok (ct.d.fact 76 (f := .cls "Reading") rfl)
  mk_Reading := He.mkr_ok (ct.d.fact 77 (f := .mkr "Reading") rfl)
  na_Reading_tokens := He.noat_ok (ct.d.fact 78 (f := .noat "Reading" "tokens") rfl)
  na_Reading_token := He.noat_ok (ct.d.fact 79 (f := .noat "Reading" "token") rfl)
  na_Reading_worths := He.noat_ok (ct.d.fact 80 (f := .noat "Reading" "worths") rfl)
  m_Reading_refuse := He.meth_ok (ct.d.fact 81 (f := .meth "Reading" "refuse") rfl)
  m_Reading_match := He.meth_ok (ct.d.fact 82 (f := .meth "Reading" "match") rfl)
  m_Reading_choose := He.meth_ok (ct.d.fact 83 (f := .meth "Reading" "choose") rfl)
  m_Reading_read_all := He.meth_ok (ct.d.fact 84 (f := .meth "Reading" "read_all") rfl)
  f_super := He.free_ok X G (ct.d.fact 85 (f := .free "super") rfl)
  x_BadText_BadText := He.exm_ok (ct.d.fact 86 (f := .exm "BadText" "BadText" true) rfl)
  d_is_printable := ct.d.def_ 0 (d := dd 7 "is_printable") rfl
  d_is_digit := ct.d.def_ 1 (d := dd 8 "is_digit") rfl
  d_is_small := ct.d.def_ 2 (d := dd 9 "is_small") rfl
  d_is_great := ct.d.def_ 3 (d := dd 10 "is_great") rfl
  d_is_row_char := ct.d.def_ 4 (d := dd 11 "is_row_char") rfl
  d_is_row := ct.d.def_ 5 (d := dd 12 "is_row") rfl
  d_is_fun_name := ct.d.def_ 6 (d := dd 13 "is_fun_name") rfl
  d_is_set_name := ct.d.def_ 7 (d := dd 14 "is_set_name") rfl
  d_is_number_row := ct.d.def_ 8 (d := dd 15 "is_number_row") rfl
  d_word_kind := ct.d.def_ 9 (d := dd 24 "word_kind") rfl
  d_quoted_end := ct.d.def_ 10 (d := dd 25 "quoted_end") rfl
  d_row_end := ct.d.def_ 11 (d := dd 26 "row_end") rfl
  d_remark_end := ct.d.def_ 12 (d := dd 27 "remark_end") rfl
  d_row_token := ct.d.def_ 13 (d := dd 28 "row_token") rfl
  d_way_of := ct.d.def_ 14 (d := dd 33 "way_of") rfl
  d_read := ct.d.def_ 15 (d := dd 38 "read") rfl
  d_read_work := ct.d.def_ 16 (d := dd 39 "read_work") rfl
  d__law_bag := ct.d.def_ 17 (d := dd 41 "_law_bag") rfl
  d__law_take := ct.d.def_ 18 (d := dd 42 "_law_take") rfl
  d__law_same := ct.d.def_ 19 (d := dd 43 "_law_same") rfl
  d__law_quoted := ct.d.def_ 20 (d := dd 44 "_law_quoted") rfl
  d__law_place := ct.d.def_ 21 (d := dd 45 "_law_place") rfl
  d__law_printable := ct.d.def_ 22 (d := dd 46 "_law_printable") rfl
  d__law_remark := ct.d.def_ 23 (d := dd 47 "_law_remark") rfl
  d__law_refused := ct.d.def_ 24 (d := dd 48 "_law_refused") rfl
  d_law := ct.d.def_ 25 (d := dd 49 "law") rfl
  d_Token_m___init__ := ct.d.def_ 26 (d := ⟨("Token", some "__init__"), "__init__", "Token.__init__", defArgs (clsAt (topS 23) 0), defBody (clsAt (topS 23) 0), defScope (clsAt (topS 23) 0), [], []⟩) rfl
  d_Tokens_m___init__ := ct.d.def_ 27 (d := ⟨("Tokens", some "__init__"), "__init__", "Tokens.__init__", defArgs (clsAt (topS 29) 0), defBody (clsAt (topS 29) 0), defScope (clsAt (topS 29) 0), [], []⟩) rfl
  d_Tokens_m_skip_blanks := ct.d.def_ 28 (d := ⟨("Tokens", some "skip_blanks"), "skip_blanks", "Tokens.skip_blanks", defArgs (clsAt (topS 29) 1), defBody (clsAt (topS 29) 1), defScope (clsAt (topS 29) 1), [], []⟩) rfl
  d_Tokens_m_column := ct.d.def_ 29 (d := ⟨("Tokens", some "column"), "column", "Tokens.column", defArgs (clsAt (topS 29) 2), defBody (clsAt (topS 29) 2), defScope (clsAt (topS 29) 2), [], []⟩) rfl
  d_Tokens_m_read_token := ct.d.def_ 30 (d := ⟨("Tokens", some "read_token"), "read_token", "Tokens.read_token", defArgs (clsAt (topS 29) 3), defBody (clsAt (topS 29) 3), defScope (clsAt (topS 29) 3), [], []⟩) rfl
  d_Tokens_m_read_quoted := ct.d.def_ 31 (d := ⟨("Tokens", some "read_quoted"), "read_quoted", "Tokens.read_quoted", defArgs (clsAt (topS 29) 4), defBody (clsAt (topS 29) 4), defScope (clsAt (topS 29) 4), [], []⟩) rfl
  d_Worths_m___init__ := ct.d.def_ 32 (d := ⟨("Worths", some "__init__"), "__init__", "Worths.__init__", defArgs (clsAt (topS 36) 0), defBody (clsAt (topS 36) 0), defScope (clsAt (topS 36) 0), [], []⟩) rfl
  d_Worths_m_keep := ct.d.def_ 33 (d := ⟨("Worths", some "keep"), "keep", "Worths.keep", defArgs (clsAt (topS 36) 1), defBody (clsAt (topS 36) 1), defScope (clsAt (topS 36) 1), [], []⟩) rfl
  d_Worths_m_take := ct.d.def_ 34 (d := ⟨("Worths", some "take"), "take", "Worths.take", defArgs (clsAt (topS 36) 2), defBody (clsAt (topS 36) 2), defScope (clsAt (topS 36) 2), [], []⟩) rfl
  d_Worths_m_make := ct.d.def_ 35 (d := ⟨("Worths", some "make"), "make", "Worths.make", defArgs (clsAt (topS 36) 3), defBody (clsAt (topS 36) 3), defScope (clsAt (topS 36) 3), [], []⟩) rfl
  d_Worths_m_do := ct.d.def_ 36 (d := ⟨("Worths", some "do"), "do", "Worths.do", defArgs (clsAt (topS 36) 4), defBody (clsAt (topS 36) 4), defScope (clsAt (topS 36) 4), [], []⟩) rfl
  d_Reading_m___init__ := ct.d.def_ 37 (d := ⟨("Reading", some "__init__"), "__init__", "Reading.__init__", defArgs (clsAt (topS 37) 0), defBody (clsAt (topS 37) 0), defScope (clsAt (topS 37) 0), [], []⟩) rfl
  d_Reading_m_refuse := ct.d.def_ 38 (d := ⟨("Reading", some "refuse"), "refuse", "Reading.refuse", defArgs (clsAt (topS 37) 1), defBody (clsAt (topS 37) 1), defScope (clsAt (topS 37) 1), [], []⟩) rfl
  d_Reading_m_match := ct.d.def_ 39 (d := ⟨("Reading", some "match"), "match", "Reading.match", defArgs (clsAt (topS 37) 2), defBody (clsAt (topS 37) 2), defScope (clsAt (topS 37) 2), [], []⟩) rfl
  d_Reading_m_choose := ct.d.def_ 40 (d := ⟨("Reading", some "choose"), "choose", "Reading.choose", defArgs (clsAt (topS 37) 3), defBody (clsAt (topS 37) 3), defScope (clsAt (topS 37) 3), [], []⟩) rfl
  d_Reading_m_read_all := ct.d.def_ 41 (d := ⟨("Reading", some "read_all"), "read_all", "Reading.read_all", defArgs (clsAt (topS 37) 4), defBody (clsAt (topS 37) 4), defScope (clsAt (topS 37) 4), [], []⟩) rfl
  q_BadText := excCB_ok (exAt cx (l := exL K) (i := 0) rfl)
  t_RESERVED := He.glo_ok X G (ct.d.fact 41 (f := .glo "RESERVED") rfl)
  u_RESERVED := by
    obtain ⟨x, r, h⟩ := datB_ok _ _ (exAt cx (l := exL K) (i := 1) rfl)
    cases relV_ref r
    exact h
  t_ATOM_KINDS := He.glo_ok X G (ct.d.fact 50 (f := .glo "ATOM_KINDS") rfl)
  u_ATOM_KINDS := by
    obtain ⟨x, r, h⟩ := datB_ok _ _ (exAt cx (l := exL K) (i := 2) rfl)
    cases relV_ref r
    exact h
  t_RULES := He.glo_ok X G (ct.d.fact 51 (f := .glo "RULES") rfl)
  u_RULES := fun q hq => tabB_ok (exAt cx (l := exL K) (i := 3) rfl) hq
  kd_RULES := He.SaysT.tab ct 0
  t_KEPT_KINDS := He.glo_ok X G (ct.d.fact 52 (f := .glo "KEPT_KINDS") rfl)
  u_KEPT_KINDS := by
    obtain ⟨x, r, h⟩ := datB_ok _ _ (exAt cx (l := exL K) (i := 4) rfl)
    cases relV_ref r
    exact h
  s_BadText := supT_mk (He.glo_ok X G (ct.d.fact 35 (f := .glo "BadText") rfl)) (He.free_ok X G (ct.d.fact 85 (f := .free "super") rfl)) (cs 0) (exAt cx (l := exL K) (i := 5) rfl)
end K02

namespace K02
open PySem PySem.Spec PyProof.Rows L2 Sg
section
variable {P : Program} {w : World} {K : PySem.W.Frag} {mg : Str → Option Value} {base : Heap}
def btw (a b c : Nat) : Bool := decide (a ≤ c) && decide (c ≤ b)
def rcB (c : Nat) : Bool := btw 97 122 c || (btw 65 90 c || (btw 48 57 c || decide (c = 95)))
theorem le_cps {x y : Str} {a b : Nat} (hx : x.cps.toList = [a]) (hy : y.cps.toList = [b]) : (!decide (y.cps.toList < x.cps.toList)) = decide (a ≤ b) := by
  rw [hx, hy]
  have e : (([b] : List Nat) < [a]) ↔ b < a := by
    rw [List.cons_lt_cons_iff]
    constructor
    · rintro (h | ⟨_, h⟩)
      · exact h
      · exact absurd h (List.not_lt_nil _)
    · exact .inl
  by_cases h : a ≤ b
  · rw [decide_eq_true h, decide_eq_false fun z => absurd (e.mp z) (by omega)]
    rfl
  · rw [decide_eq_false h, decide_eq_true (e.mpr (by omega))]
    rfl
theorem ch_q {lo hi c : Nat} {l h : Str} {Q : VK} {H : Hp} (hl : l.cps.toList = [lo]) (hh : h.cps.toList = [hi]) (q : Q (.bl (btw lo hi c)) H) :
    if (!decide ((sgn c).cps.toList < l.cps.toList)) = true then Q (.bl !decide (h.cps.toList < (sgn c).cps.toList)) H else Q (.bl false) H := by
  have hc : (sgn c).cps.toList = [c] := rfl
  rw [le_cps hl hc, le_cps hc hh]
  unfold btw at q
  by_cases e : lo ≤ c
  · rw [decide_eq_true e, if_pos rfl]
    rwa [decide_eq_true e, Bool.true_and] at q
  · rw [decide_eq_false e, if_neg Bool.false_ne_true]
    rwa [decide_eq_false e, Bool.false_and] at q
def spCh (f : Nat → Bool) : Sp := fun vs H Q _ => ∃ c : Nat, vs = [.str (sgn c)] ∧ Q (.bl (f c)) H
theorem sc_is_printable : FnScope ["char"] ["char"] (defScope (topS 7)) := ⟨rfl, rfl, rfl, by decide +kernel, rfl, by decide +kernel, by decide +kernel⟩
theorem bd_is_printable {K : PySem.W.Frag} {f : Addr} {fd : FuncData} (F : FnP K "is_printable" (topS 7) f fd) : Binds K fd ["char"] [] := F.bindsN fun _ _ _ _ _ _ us hl => match us, hl with | [_], _ => rfl
theorem ok_is_printable (T : Tx w K mg) : Dk P w K mg base 1 "is_printable" ["char"] (spCh (btw 32 126)) := by
  obtain ⟨fd, F⟩ := T.d_is_printable
  refine ⟨⟨fd, F.ok sc_is_printable (fun vs H Q E h => ?_) (fun cdv A outer s H vs Q E hr h => ?_), bd_is_printable F⟩, F.kp, T.g_is_printable⟩
  · obtain ⟨c, rfl, _⟩ := h
    rfl
  · obtain ⟨c, rfl, q⟩ := h
    refine ⟨_, PSs.nox (pss_one (ps_ret (pe_chain op_le_str op_le_str pe_str (pv 0) pe_str))), ?_⟩
    simp only [cxOf, tYes, eq_self, if_true, if_false, wipe, rLenQ, rIxTQ, rIxLQ, rIxSQ, rInt1Q, rTupQ, rAppQ, rPopQ, rPopAtQ, rRevQ, rListS, rReprP, tLenSetT, tChain, tRetN, tRet, tSeq, tAsg, gName, tVar, tC, tCons, tNil, tCB, tOp, rI0, rI, tAndV, tOrV, tNotV, tIf, tTest, tB, tNot, tAnd, tOr, tIfS, tNext, tCallR, rIsK, rEq, rNe, tDrop, L2.start, List.map_cons, List.map_nil, List.length_cons, List.length_nil, Nat.reduceAdd, Nat.reduceSub, Nat.sub_self, List.replicate_zero, List.replicate_succ, List.append_nil, List.cons_append, List.nil_append, List.getElem?_cons_zero, List.getElem?_cons_succ, List.set_cons_zero, List.set_cons_succ, Option.some.injEq, List.cons.injEq, and_true, true_and, exists_eq_left, exists_eq_left', exists_eq_right, V.ty.injEq, V.int.injEq, V.bl.injEq, V.str.injEq, V.ref.injEq, exists_and_left, exists_const, reduceIte, reduceCtorEq, false_and, and_false, exists_false, or_false, false_or, Bool.not_true, Bool.not_false, Bool.false_eq_true, String.reduceEq, true_or, or_true, rNotT, tNNew, tNNotIn, tNGet, sNPut, tLenSetN, tPar, tAug, ipI, tDNotIn, sDPut, tDGet, tTup, tLst, tBM, tBM0]
    exact ch_q rfl rfl q
theorem sc_is_digit : FnScope ["char"] ["char"] (defScope (topS 8)) := ⟨rfl, rfl, rfl, by decide +kernel, rfl, by decide +kernel, by decide +kernel⟩
theorem bd_is_digit {K : PySem.W.Frag} {f : Addr} {fd : FuncData} (F : FnP K "is_digit" (topS 8) f fd) : Binds K fd ["char"] [] := F.bindsN fun _ _ _ _ _ _ us hl => match us, hl with | [_], _ => rfl
theorem ok_is_digit (T : Tx w K mg) : Dk P w K mg base 1 "is_digit" ["char"] (spCh (btw 48 57)) := by
  obtain ⟨fd, F⟩ := T.d_is_digit
  refine ⟨⟨fd, F.ok sc_is_digit (fun vs H Q E h => ?_) (fun cdv A outer s H vs Q E hr h => ?_), bd_is_digit F⟩, F.kp, T.g_is_digit⟩
  · obtain ⟨c, rfl, _⟩ := h
    rfl
  · obtain ⟨c, rfl, q⟩ := h
    refine ⟨_, PSs.nox (pss_one (ps_ret (pe_chain op_le_str op_le_str pe_str (pv 0) pe_str))), ?_⟩
    simp only [cxOf, tYes, eq_self, if_true, if_false, wipe, rLenQ, rIxTQ, rIxLQ, rIxSQ, rInt1Q, rTupQ, rAppQ, rPopQ, rPopAtQ, rRevQ, rListS, rReprP, tLenSetT, tChain, tRetN, tRet, tSeq, tAsg, gName, tVar, tC, tCons, tNil, tCB, tOp, rI0, rI, tAndV, tOrV, tNotV, tIf, tTest, tB, tNot, tAnd, tOr, tIfS, tNext, tCallR, rIsK, rEq, rNe, tDrop, L2.start, List.map_cons, List.map_nil, List.length_cons, List.length_nil, Nat.reduceAdd, Nat.reduceSub, Nat.sub_self, List.replicate_zero, List.replicate_succ, List.append_nil, List.cons_append, List.nil_append, List.getElem?_cons_zero, List.getElem?_cons_succ, List.set_cons_zero, List.set_cons_succ, Option.some.injEq, List.cons.injEq, and_true, true_and, exists_eq_left, exists_eq_left', exists_eq_right, V.ty.injEq, V.int.injEq, V.bl.injEq, V.str.injEq, V.ref.injEq, exists_and_left, exists_const, reduceIte, reduceCtorEq, false_and, and_false, exists_false, or_false, false_or, Bool.not_true, Bool.not_false, Bool.false_eq_true, String.reduceEq, true_or, or_true, rNotT, tNNew, tNNotIn, tNGet, sNPut, tLenSetN, tPar, tAug, ipI, tDNotIn, sDPut, tDGet, tTup, tLst, tBM, tBM0]
    exact ch_q rfl rfl q
theorem sc_is_small : FnScope ["char"] ["char"] (defScope (topS 9)) := ⟨rfl, rfl, rfl, by decide +kernel, rfl, by decide +kernel, by decide +kernel⟩
theorem bd_is_small {K : PySem.W.Frag} {f : Addr} {fd : FuncData} (F : FnP K "is_small" (topS 9) f fd) : Binds K fd ["char"] [] := F.bindsN fun _ _ _ _ _ _ us hl => match us, hl with | [_], _ => rfl
theorem ok_is_small (T : Tx w K mg) : Dk P w K mg base 1 "is_small" ["char"] (spCh (btw 97 122)) := by
  obtain ⟨fd, F⟩ := T.d_is_small
  refine ⟨⟨fd, F.ok sc_is_small (fun vs H Q E h => ?_) (fun cdv A outer s H vs Q E hr h => ?_), bd_is_small F⟩, F.kp, T.g_is_small⟩
  · obtain ⟨c, rfl, _⟩ := h
    rfl
  · obtain ⟨c, rfl, q⟩ := h
    refine ⟨_, PSs.nox (pss_one (ps_ret (pe_chain op_le_str op_le_str pe_str (pv 0) pe_str))), ?_⟩
    simp only [cxOf, tYes, eq_self, if_true, if_false, wipe, rLenQ, rIxTQ, rIxLQ, rIxSQ, rInt1Q, rTupQ, rAppQ, rPopQ, rPopAtQ, rRevQ, rListS, rReprP, tLenSetT, tChain, tRetN, tRet, tSeq, tAsg, gName, tVar, tC, tCons, tNil, tCB, tOp, rI0, rI, tAndV, tOrV, tNotV, tIf, tTest, tB, tNot, tAnd, tOr, tIfS, tNext, tCallR, rIsK, rEq, rNe, tDrop, L2.start, List.map_cons, List.map_nil, List.length_cons, List.length_nil, Nat.reduceAdd, Nat.reduceSub, Nat.sub_self, List.replicate_zero, List.replicate_succ, List.append_nil, List.cons_append, List.nil_append, List.getElem?_cons_zero, List.getElem?_cons_succ, List.set_cons_zero, List.set_cons_succ, Option.some.injEq, List.cons.injEq, and_true, true_and, exists_eq_left, exists_eq_left', exists_eq_right, V.ty.injEq, V.int.injEq, V.bl.injEq, V.str.injEq, V.ref.injEq, exists_and_left, exists_const, reduceIte, reduceCtorEq, false_and, and_false, exists_false, or_false, false_or, Bool.not_true, Bool.not_false, Bool.false_eq_true, String.reduceEq, true_or, or_true, rNotT, tNNew, tNNotIn, tNGet, sNPut, tLenSetN, tPar, tAug, ipI, tDNotIn, sDPut, tDGet, tTup, tLst, tBM, tBM0]
    exact ch_q rfl rfl q
theorem sc_is_great : FnScope ["char"] ["char"] (defScope (topS 10)) := ⟨rfl, rfl, rfl, by decide +kernel, rfl, by decide +kernel, by decide +kernel⟩
theorem bd_is_great {K : PySem.W.Frag} {f : Addr} {fd : FuncData} (F : FnP K "is_great" (topS 10) f fd) : Binds K fd ["char"] [] := F.bindsN fun _ _ _ _ _ _ us hl => match us, hl with | [_], _ => rfl
theorem ok_is_great (T : Tx w K mg) : Dk P w K mg base 1 "is_great" ["char"] (spCh (btw 65 90)) := by
  obtain ⟨fd, F⟩ := T.d_is_great
  refine ⟨⟨fd, F.ok sc_is_great (fun vs H Q E h => ?_) (fun cdv A outer s H vs Q E hr h => ?_), bd_is_great F⟩, F.kp, T.g_is_great⟩
  · obtain ⟨c, rfl, _⟩ := h
    rfl
  · obtain ⟨c, rfl, q⟩ := h
    refine ⟨_, PSs.nox (pss_one (ps_ret (pe_chain op_le_str op_le_str pe_str (pv 0) pe_str))), ?_⟩
    simp only [cxOf, tYes, eq_self, if_true, if_false, wipe, rLenQ, rIxTQ, rIxLQ, rIxSQ, rInt1Q, rTupQ, rAppQ, rPopQ, rPopAtQ, rRevQ, rListS, rReprP, tLenSetT, tChain, tRetN, tRet, tSeq, tAsg, gName, tVar, tC, tCons, tNil, tCB, tOp, rI0, rI, tAndV, tOrV, tNotV, tIf, tTest, tB, tNot, tAnd, tOr, tIfS, tNext, tCallR, rIsK, rEq, rNe, tDrop, L2.start, List.map_cons, List.map_nil, List.length_cons, List.length_nil, Nat.reduceAdd, Nat.reduceSub, Nat.sub_self, List.replicate_zero, List.replicate_succ, List.append_nil, List.cons_append, List.nil_append, List.getElem?_cons_zero, List.getElem?_cons_succ, List.set_cons_zero, List.set_cons_succ, Option.some.injEq, List.cons.injEq, and_true, true_and, exists_eq_left, exists_eq_left', exists_eq_right, V.ty.injEq, V.int.injEq, V.bl.injEq, V.str.injEq, V.ref.injEq, exists_and_left, exists_const, reduceIte, reduceCtorEq, false_and, and_false, exists_false, or_false, false_or, Bool.not_true, Bool.not_false, Bool.false_eq_true, String.reduceEq, true_or, or_true, rNotT, tNNew, tNNotIn, tNGet, sNPut, tLenSetN, tPar, tAug, ipI, tDNotIn, sDPut, tDGet, tTup, tLst, tBM, tBM0]
    exact ch_q rfl rfl q
theorem sc_is_row_char : FnScope ["char"] ["char"] (defScope (topS 11)) := ⟨rfl, rfl, rfl, by decide +kernel, rfl, by decide +kernel, by decide +kernel⟩
theorem bd_is_row_char {K : PySem.W.Frag} {f : Addr} {fd : FuncData} (F : FnP K "is_row_char" (topS 11) f fd) : Binds K fd ["char"] [] := F.bindsN fun _ _ _ _ _ _ us hl => match us, hl with | [_], _ => rfl
theorem ok_is_row_char (T : Tx w K mg) : Dk P w K mg base 2 "is_row_char" ["char"] (spCh rcB) := by
  have D_is_small := ok_is_small (P := P) (w := w) (base := base) T
  have D_is_great := ok_is_great (P := P) (w := w) (base := base) T
  have D_is_digit := ok_is_digit (P := P) (w := w) (base := base) T
  obtain ⟨fd, F⟩ := T.d_is_row_char
  refine ⟨⟨fd, F.ok sc_is_row_char (fun vs H Q E h => ?_) (fun cdv A outer s H vs Q E hr h => ?_), bd_is_row_char F⟩, F.kp, T.g_is_row_char⟩
  · obtain ⟨c, rfl, _⟩ := h
    rfl
  · obtain ⟨c, rfl, q⟩ := h
    refine ⟨_, PSs.nox (pss_one (ps_ret (pe_or (pe_callR D_is_small (hr.mono (by decide)) takes0 (pa_cons (pv 0) pa_nil)) (pe_or (pe_callR D_is_great (hr.mono (by decide)) takes0 (pa_cons (pv 0) pa_nil)) (pe_or (pe_callR D_is_digit (hr.mono (by decide)) takes0 (pa_cons (pv 0) pa_nil)) (pe_one (pe_cmpR op_eq (pv 0) pe_str (nomark _)))))))), ?_⟩
    simp only [cxOf, tYes, eq_self, if_true, if_false, wipe, rLenQ, rIxTQ, rIxLQ, rIxSQ, rInt1Q, rTupQ, rAppQ, rPopQ, rPopAtQ, rRevQ, rListS, rReprP, tLenSetT, tChain, tRetN, tRet, tSeq, tAsg, gName, tVar, tC, tCons, tNil, tCB, tOp, rI0, rI, tAndV, tOrV, tNotV, tIf, tTest, tB, tNot, tAnd, tOr, tIfS, tNext, tCallR, rIsK, rEq, rNe, tDrop, L2.start, List.map_cons, List.map_nil, List.length_cons, List.length_nil, Nat.reduceAdd, Nat.reduceSub, Nat.sub_self, List.replicate_zero, List.replicate_succ, List.append_nil, List.cons_append, List.nil_append, List.getElem?_cons_zero, List.getElem?_cons_succ, List.set_cons_zero, List.set_cons_succ, Option.some.injEq, List.cons.injEq, and_true, true_and, exists_eq_left, exists_eq_left', exists_eq_right, V.ty.injEq, V.int.injEq, V.bl.injEq, V.str.injEq, V.ref.injEq, exists_and_left, exists_const, reduceIte, reduceCtorEq, false_and, and_false, exists_false, or_false, false_or, Bool.not_true, Bool.not_false, Bool.false_eq_true, String.reduceEq, true_or, or_true, rNotT, tNNew, tNNotIn, tNGet, sNPut, tLenSetN, tPar, tAug, ipI, tDNotIn, sDPut, tDGet, tTup, tLst, tBM, tBM0]
    unfold rcB at q
    refine ⟨c, rfl, _, rfl, ?_⟩
    cases e1 : btw 97 122 c with
    | true => rw [e1] at q; exact ifT rfl q
    | false =>
      rw [e1] at q
      refine ifF rfl ⟨c, rfl, _, rfl, ?_⟩
      cases e2 : btw 65 90 c with
      | true => rw [e2] at q; exact ifT rfl q
      | false =>
        rw [e2] at q
        refine ifF rfl ⟨c, rfl, _, rfl, ?_⟩
        cases e3 : btw 48 57 c with
        | true => rw [e3] at q; exact ifT rfl q
        | false =>
          rw [e3] at q
          refine ifF rfl ⟨rfl, ?_⟩
          have e : decide (sgn c = Str.ofString "_") = decide (c = 95) := by
            refine decide_eq_decide.mpr ⟨fun h => ?_, fun h => by rw [h]; rfl⟩
            have h2 : [c] = [95] := congrArg (fun x : Str => x.cps.toList) h
            exact (List.cons.inj h2).1
          rw [e]
          exact q
theorem sc_word_kind : FnScope ["word"] ["word"] (defScope (topS 24)) := ⟨rfl, rfl, rfl, by decide +kernel, rfl, by decide +kernel, by decide +kernel⟩
theorem bd_word_kind {K : PySem.W.Frag} {f : Addr} {fd : FuncData} (F : FnP K "word_kind" (topS 24) f fd) : Binds K fd ["word"] [] := F.bindsN fun _ _ _ _ _ _ us hl => match us, hl with | [_], _ => rfl
def spWk : Sp := fun vs H Q _ => ∃ z : Str, vs = [.str z] ∧ z.length ≤ 1000 ∧ Q (.str (Str.ofString "=" ++ z)) H
theorem ok_word_kind (T : Tx w K mg) : Dk P w K mg base 1 "word_kind" ["word"] spWk := by
  obtain ⟨fd, F⟩ := T.d_word_kind
  refine ⟨⟨fd, F.ok sc_word_kind (fun vs H Q E h => ?_) (fun cdv A outer s H vs Q E hr h => ?_), bd_word_kind F⟩, F.kp, T.g_word_kind⟩
  · obtain ⟨z, rfl, _⟩ := h
    rfl
  · obtain ⟨z, rfl, hz, q⟩ := h
    refine ⟨_, PSs.nox (pss_one (ps_ret (pe_op op_add_str pe_str (pv 0)))), ?_⟩
    simp only [cxOf, tYes, eq_self, if_true, if_false, wipe, rLenQ, rIxTQ, rIxLQ, rIxSQ, rInt1Q, rTupQ, rAppQ, rPopQ, rPopAtQ, rRevQ, rListS, rReprP, tLenSetT, tChain, tRetN, tRet, tSeq, tAsg, gName, tVar, tC, tCons, tNil, tCB, tOp, rI0, rI, tAndV, tOrV, tNotV, tIf, tTest, tB, tNot, tAnd, tOr, tIfS, tNext, tCallR, rIsK, rEq, rNe, tDrop, L2.start, List.map_cons, List.map_nil, List.length_cons, List.length_nil, Nat.reduceAdd, Nat.reduceSub, Nat.sub_self, List.replicate_zero, List.replicate_succ, List.append_nil, List.cons_append, List.nil_append, List.getElem?_cons_zero, List.getElem?_cons_succ, List.set_cons_zero, List.set_cons_succ, Option.some.injEq, List.cons.injEq, and_true, true_and, exists_eq_left, exists_eq_left', exists_eq_right, V.ty.injEq, V.int.injEq, V.bl.injEq, V.str.injEq, V.ref.injEq, exists_and_left, exists_const, reduceIte, reduceCtorEq, false_and, and_false, exists_false, or_false, false_or, Bool.not_true, Bool.not_false, Bool.false_eq_true, String.reduceEq, true_or, or_true, rNotT, tNNew, tNNotIn, tNGet, sNPut, tLenSetN, tPar, tAug, ipI, tDNotIn, sDPut, tDGet, tTup, tLst, tBM, tBM0]
    exact ⟨szle (m := 2000) (by show 1 + z.length ≤ 2000; omega), q⟩
theorem sc_row_end : FnScope ["text", "at", "place"] ["text", "at"] (defScope (topS 26)) := ⟨rfl, rfl, rfl, by decide +kernel, rfl, by decide +kernel, by decide +kernel⟩
theorem bd_row_end {K : PySem.W.Frag} {f : Addr} {fd : FuncData} (F : FnP K "row_end" (topS 26) f fd) : Binds K fd ["text", "at"] [] := F.bindsN fun _ _ _ _ _ _ us hl => match us, hl with | [_, _], _ => rfl
def runL (f : Nat → Bool) (l : List Nat) : Nat := (l.takeWhile f).length
theorem run_cons {f : Nat → Bool} {c : Nat} {l : List Nat} : runL f (c :: l) = if f c = true then runL f l + 1 else 0 := by
  unfold runL
  rw [List.takeWhile_cons]
  cases f c <;> rfl
theorem drop_cons {α : Type} {l : List α} {p : Nat} {c : α} (h : l[p]? = some c) : l.drop p = c :: l.drop (p + 1) := by
  obtain ⟨hp, e⟩ := List.getElem?_eq_some_iff.mp h
  rw [← e]
  exact List.drop_eq_getElem_cons hp
def spEnd (f : Nat → Bool) : Sp := fun vs H Q _ => ∃ (z : Str) (n : Nat), vs = [.str z, .int n] ∧ n ≤ z.length ∧ z.length ≤ 1000000 ∧ Q (.int ((n + runL f (z.cps.toList.drop n) : Nat) : Int)) H
theorem ok_row_end (T : Tx w K mg) : Dk P w K mg base 3 "row_end" ["text", "at"] (spEnd rcB) := by
  have D_is_row_char := ok_is_row_char (P := P) (w := w) (base := base) T
  obtain ⟨fd, F⟩ := T.d_row_end
  refine ⟨⟨fd, F.ok sc_row_end (fun vs H Q E h => ?_) (fun cdv A outer s H vs Q E hr h => ?_), bd_row_end F⟩, F.kp, T.g_row_end⟩
  · obtain ⟨z, n, rfl, _⟩ := h
    rfl
  · obtain ⟨z, n, rfl, hn, hz, q⟩ := h
    refine ⟨_, PSs.nox (pss_cons (ps_set (i := 2) sc_row_end.nd rfl (.inl rfl) (pv 1))
      (pss_cons (ps_while PassesOwn.never (PW.pt (pw_and (pt_cmpR op_lt (pv 2) (pe_callB call_lenQ (by rfl) T.f_len PySem.boot_len (pa_cons (pv 0) pa_nil)) (nomark _)) (pw_and1 (pt_val (pe_callR D_is_row_char (hr.mono (by decide)) takes0 (pa_cons (pe_ix ix_strQ (pv 0) (pv 2) (fun _ _ => rfl)) pa_nil)))))) (pss_one (ps_aug (i := 2) sc_row_end.nd rfl (.inl rfl) pe_int ip_add)))
      (pss_one (ps_ret (pv 2))))), ?_⟩
    simp only [cxOf, tYes, eq_self, if_true, if_false, wipe, rLenQ, rIxTQ, rIxLQ, rIxSQ, rInt1Q, rTupQ, rAppQ, rPopQ, rPopAtQ, rRevQ, rListS, rReprP, tLenSetT, tChain, tRetN, tRet, tSeq, tAsg, gName, tVar, tC, tCons, tNil, tCB, tOp, rI0, rI, tAndV, tOrV, tNotV, tIf, tTest, tB, tNot, tAnd, tOr, tIfS, tNext, tCallR, rIsK, rEq, rNe, tDrop, L2.start, List.map_cons, List.map_nil, List.length_cons, List.length_nil, Nat.reduceAdd, Nat.reduceSub, Nat.sub_self, List.replicate_zero, List.replicate_succ, List.append_nil, List.cons_append, List.nil_append, List.getElem?_cons_zero, List.getElem?_cons_succ, List.set_cons_zero, List.set_cons_succ, Option.some.injEq, List.cons.injEq, and_true, true_and, exists_eq_left, exists_eq_left', exists_eq_right, V.ty.injEq, V.int.injEq, V.bl.injEq, V.str.injEq, V.ref.injEq, exists_and_left, exists_const, reduceIte, reduceCtorEq, false_and, and_false, exists_false, or_false, false_or, Bool.not_true, Bool.not_false, Bool.false_eq_true, String.reduceEq, true_or, or_true, rNotT, tNNew, tNNotIn, tNGet, sNPut, tLenSetN, tPar, tAug, ipI, tDNotIn, sDPut, tDGet, tTup, tLst, tBM, tBM0]
    have hl : z.cps.toList.length = z.length := Array.length_toList
    refine ⟨fun m σ H' => H' = H ∧ ∃ p : Nat, p ≤ z.length ∧ m = z.length - p ∧ n + runL rcB (z.cps.toList.drop n) = p + runL rcB (z.cps.toList.drop p) ∧ σ = [some (.str z), some (.int n), some (.int p)], ⟨_, rfl, n, hn, rfl, rfl, rfl⟩, ?_⟩
    rintro m σ H' ⟨rfl, p, hp, rfl, e, rfl⟩
    simp only [cxOf, tYes, eq_self, if_true, if_false, wipe, rLenQ, rIxTQ, rIxLQ, rIxSQ, rInt1Q, rTupQ, rAppQ, rPopQ, rPopAtQ, rRevQ, rListS, rReprP, tLenSetT, tChain, tRetN, tRet, tSeq, tAsg, gName, tVar, tC, tCons, tNil, tCB, tOp, rI0, rI, tAndV, tOrV, tNotV, tIf, tTest, tB, tNot, tAnd, tOr, tIfS, tNext, tCallR, rIsK, rEq, rNe, tDrop, L2.start, List.map_cons, List.map_nil, List.length_cons, List.length_nil, Nat.reduceAdd, Nat.reduceSub, Nat.sub_self, List.replicate_zero, List.replicate_succ, List.append_nil, List.cons_append, List.nil_append, List.getElem?_cons_zero, List.getElem?_cons_succ, List.set_cons_zero, List.set_cons_succ, Option.some.injEq, List.cons.injEq, and_true, true_and, exists_eq_left, exists_eq_left', exists_eq_right, V.ty.injEq, V.int.injEq, V.bl.injEq, V.str.injEq, V.ref.injEq, exists_and_left, exists_const, reduceIte, reduceCtorEq, false_and, and_false, exists_false, or_false, false_or, Bool.not_true, Bool.not_false, Bool.false_eq_true, String.reduceEq, true_or, or_true, rNotT, tNNew, tNNotIn, tNGet, sNPut, tLenSetN, tPar, tAug, ipI, tDNotIn, sDPut, tDGet, tTup, tLst, tBM, tBM0]
    refine ⟨szle hz, ?_⟩
    by_cases lt : p < z.length
    · obtain ⟨c, hc⟩ : ∃ c, z.cps.toList[p]? = some c := ⟨_, List.getElem?_eq_getElem (by omega)⟩
      have hd : z.cps.toList.drop p = c :: z.cps.toList.drop (p + 1) := drop_cons hc
      rw [hd, run_cons] at e
      refine ifT (decide_eq_true (by omega)) ⟨szle hz, c, atI_nat hc, c, rfl, _, rfl, ?_⟩
      cases hf : rcB c with
      | true =>
        rw [hf, if_pos rfl] at e
        exact ifT rfl ⟨fun σ' H'' => H'' = H' ∧ σ' = [some (.str z), some (.int n), some (.int ((p : Int) + 1))], fun σ' H'' h => ⟨z.length - (p + 1), by omega, h.1, p + 1, by omega, rfl, by omega, h.2⟩, rfl, rfl⟩
      | false =>
        rw [hf, if_neg Bool.false_ne_true] at e
        refine ifF rfl ?_
        rwa [e] at q
    · have hd : z.cps.toList.drop p = [] := List.drop_eq_nil_iff.mpr (by omega)
      rw [hd] at e
      refine ifF (decide_eq_false (by omega)) ?_
      rwa [e] at q
theorem sc_is_row : FnScope ["word", "char"] ["word"] (defScope (topS 12)) := ⟨rfl, rfl, rfl, by decide +kernel, rfl, by decide +kernel, by decide +kernel⟩
theorem bd_is_row {K : PySem.W.Frag} {f : Addr} {fd : FuncData} (F : FnP K "is_row" (topS 12) f fd) : Binds K fd ["word"] [] := F.bindsN fun _ _ _ _ _ _ us hl => match us, hl with | [_], _ => rfl
def spRwd : Sp := fun vs H Q _ => ∃ z : Str, vs = [.str z] ∧ z.length ≤ 1000 ∧ ∀ H', Same H H' → Q (.bl (decide (1 ≤ z.length) && z.cps.toList.all rcB)) H'
theorem ok_is_row (T : Tx w K mg) : Dk P w K mg base 3 "is_row" ["word"] spRwd := by
  have D_is_row_char := ok_is_row_char (P := P) (w := w) (base := base) T
  obtain ⟨fd, F⟩ := T.d_is_row
  refine ⟨⟨fd, F.ok sc_is_row (fun vs H Q E h => ?_) (fun cdv A outer s H vs Q E hr h => ?_), bd_is_row F⟩, F.kp, T.g_is_row⟩
  · obtain ⟨z, rfl, _⟩ := h
    rfl
  · obtain ⟨z, rfl, hz, q⟩ := h
    refine ⟨_, PSs.nox (pss_one (ps_ret (pe_and (pe_cmpR op_ne (pv 0) pe_str (nomark _)) (pe_one (pe_callB (cr_all rfl) (by rfl) T.f_all (by decide +kernel) (pa_cons (pe_lc (own := [("char", 1)]) rfl sc_is_row.nd (pi_str (pv 0)) (blkOk_by (own := [("char", 1)]) (N := ["word", "char"]) (sc := defScope (topS 12)) (by decide +kernel)) (fun _ _ _ _ _ => (pg_name (i := 1) sc_is_row.nd rfl (.inl rfl))) (fun _ _ _ _ _ => pts_nil) (fun _ _ _ _ _ => (pe_callR D_is_row_char (hr.mono (by decide)) takes0 (pa_cons (pv 1) pa_nil)))) pa_nil)))))), ?_⟩
    simp only [cxOf, tYes, eq_self, if_true, if_false, wipe, rLenQ, rIxTQ, rIxLQ, rIxSQ, rInt1Q, rTupQ, rAppQ, rPopQ, rPopAtQ, rRevQ, rListS, rReprP, tLenSetT, tChain, tRetN, tRet, tSeq, tAsg, gName, tVar, tC, tCons, tNil, tCB, tOp, rI0, rI, tAndV, tOrV, tNotV, tIf, tTest, tB, tNot, tAnd, tOr, tIfS, tNext, tCallR, rIsK, rEq, rNe, tDrop, L2.start, List.map_cons, List.map_nil, List.length_cons, List.length_nil, Nat.reduceAdd, Nat.reduceSub, Nat.sub_self, List.replicate_zero, List.replicate_succ, List.append_nil, List.cons_append, List.nil_append, List.getElem?_cons_zero, List.getElem?_cons_succ, List.set_cons_zero, List.set_cons_succ, Option.some.injEq, List.cons.injEq, and_true, true_and, exists_eq_left, exists_eq_left', exists_eq_right, V.ty.injEq, V.int.injEq, V.bl.injEq, V.str.injEq, V.ref.injEq, exists_and_left, exists_const, reduceIte, reduceCtorEq, false_and, and_false, exists_false, or_false, false_or, Bool.not_true, Bool.not_false, Bool.false_eq_true, String.reduceEq, true_or, or_true, rNotT, tNNew, tNNotIn, tNGet, sNPut, tLenSetN, tPar, tAug, ipI, tDNotIn, sDPut, tDGet, tTup, tLst, tBM, tBM0]
    refine ⟨rfl, ?_⟩
    by_cases h1 : 1 ≤ z.length
    case neg =>
      have e : z = Str.ofString "" := by
        refine str_ext ?_
        have hl : z.cps.toList.length = z.length := Array.length_toList
        exact List.length_eq_zero_iff.mp (by omega)
      refine ifF (by rw [decide_eq_true e]; rfl) ?_
      have := q H fun _ _ h => h
      rwa [decide_eq_false h1, Bool.false_and] at this
    have hne : ¬ z = Str.ofString "" := fun e => by rw [e] at h1; exact absurd h1 (by decide)
    refine ifT (by rw [decide_eq_false hne]; rfl) ⟨_, rfl, z, rfl, fun D hD => ?_⟩
    refine lc_gen (n := z.cps.size) (fun i H' => Same H H' ∧ H' D = some (.lst ((z.cps.toList.take i).map fun c => V.bl (rcB c)))) ⟨same_upd hD, upd_same⟩ (fun i H' hi _ => hi) (fun H' _ => Nat.le_refl _) ?_ ?_
    · rintro i x H1 H2 hi ⟨s1, e1⟩ ⟨rfl, c, hc, rfl⟩
      have hc2 : z.cps.toList[i]? = some c := by rw [Array.getElem?_toList]; exact hc
      refine ⟨rfl, ?_⟩
      simp only [cxOf, tYes, eq_self, if_true, if_false, wipe, rLenQ, rIxTQ, rIxLQ, rIxSQ, rInt1Q, rTupQ, rAppQ, rPopQ, rPopAtQ, rRevQ, rListS, rReprP, tLenSetT, tChain, tRetN, tRet, tSeq, tAsg, gName, tVar, tC, tCons, tNil, tCB, tOp, rI0, rI, tAndV, tOrV, tNotV, tIf, tTest, tB, tNot, tAnd, tOr, tIfS, tNext, tCallR, rIsK, rEq, rNe, tDrop, L2.start, List.map_cons, List.map_nil, List.length_cons, List.length_nil, Nat.reduceAdd, Nat.reduceSub, Nat.sub_self, List.replicate_zero, List.replicate_succ, List.append_nil, List.cons_append, List.nil_append, List.getElem?_cons_zero, List.getElem?_cons_succ, List.set_cons_zero, List.set_cons_succ, Option.some.injEq, List.cons.injEq, and_true, true_and, exists_eq_left, exists_eq_left', exists_eq_right, V.ty.injEq, V.int.injEq, V.bl.injEq, V.str.injEq, V.ref.injEq, exists_and_left, exists_const, reduceIte, reduceCtorEq, false_and, and_false, exists_false, or_false, false_or, Bool.not_true, Bool.not_false, Bool.false_eq_true, String.reduceEq, true_or, or_true, rNotT, tNNew, tNNotIn, tNGet, sNPut, tLenSetN, tPar, tAug, ipI, tDNotIn, sDPut, tDGet, tTup, tLst, tBM, tBM0]
      refine ⟨c, rfl, _, e1, ?_, ?_, ?_⟩
      · rw [List.length_map, List.length_take]
        exact szlt (m := 1000) (by have : z.cps.toList.length = z.length := Array.length_toList; omega)
      · exact fun b o hb => by rw [upd_ne (ne_of_none hb hD)]; exact s1 b o hb
      · rw [upd_same, List.take_add_one, hc2, List.map_append]
        rfl
    · rintro H1 ⟨s1, e1⟩
      have ee : z.cps.toList.take z.cps.size = z.cps.toList := List.take_of_length_le (by simp)
      rw [ee] at e1
      refine ⟨D, z.cps.toList.map rcB, rfl, .inl (.inl ?_), ?_⟩
      · rw [e1, List.map_map]
        rfl
      · have e2 : (z.cps.toList.map rcB).all id = z.cps.toList.all rcB := by
          rw [List.all_map]
          rfl
        rw [e2]
        have := q H1 s1
        rwa [decide_eq_true h1, Bool.true_and] at this
end
end K02

namespace K02
open PySem PySem.Spec PyProof.Rows L2 Sg
section
variable {P : Program} {w : World} {K : PySem.W.Frag} {mg : Str → Option Value} {base : Heap}
theorem sc_remark_end : FnScope ["text", "at", "place"] ["text", "at"] (defScope (topS 27)) := ⟨rfl, rfl, rfl, by decide +kernel, rfl, by decide +kernel, by decide +kernel⟩
theorem bd_remark_end {K : PySem.W.Frag} {f : Addr} {fd : FuncData} (F : FnP K "remark_end" (topS 27) f fd) : Binds K fd ["text", "at"] [] := F.bindsN fun _ _ _ _ _ _ us hl => match us, hl with | [_, _], _ => rfl
theorem ok_remark_end (T : Tx w K mg) : Dk P w K mg base 2 "remark_end" ["text", "at"] (spEnd (btw 32 126)) := by
  have D_is_printable := ok_is_printable (P := P) (w := w) (base := base) T
  obtain ⟨fd, F⟩ := T.d_remark_end
  refine ⟨⟨fd, F.ok sc_remark_end (fun vs H Q E h => ?_) (fun cdv A outer s H vs Q E hr h => ?_), bd_remark_end F⟩, F.kp, T.g_remark_end⟩
  · obtain ⟨z, n, rfl, _⟩ := h
    rfl
  · obtain ⟨z, n, rfl, hn, hz, q⟩ := h
    refine ⟨_, PSs.nox (pss_cons (ps_set (i := 2) sc_remark_end.nd rfl (.inl rfl) (pv 1))
      (pss_cons (ps_while PassesOwn.never (PW.pt (pw_and (pt_cmpR op_lt (pv 2) (pe_callB call_lenQ (by rfl) T.f_len PySem.boot_len (pa_cons (pv 0) pa_nil)) (nomark _)) (pw_and1 (pt_val (pe_callR D_is_printable (hr.mono (by decide)) takes0 (pa_cons (pe_ix ix_strQ (pv 0) (pv 2) (fun _ _ => rfl)) pa_nil)))))) (pss_one (ps_aug (i := 2) sc_remark_end.nd rfl (.inl rfl) pe_int ip_add)))
      (pss_one (ps_ret (pv 2))))), ?_⟩
    simp only [cxOf, tYes, eq_self, if_true, if_false, wipe, rLenQ, rIxTQ, rIxLQ, rIxSQ, rInt1Q, rTupQ, rAppQ, rPopQ, rPopAtQ, rRevQ, rListS, rReprP, tLenSetT, tChain, tRetN, tRet, tSeq, tAsg, gName, tVar, tC, tCons, tNil, tCB, tOp, rI0, rI, tAndV, tOrV, tNotV, tIf, tTest, tB, tNot, tAnd, tOr, tIfS, tNext, tCallR, rIsK, rEq, rNe, tDrop, L2.start, List.map_cons, List.map_nil, List.length_cons, List.length_nil, Nat.reduceAdd, Nat.reduceSub, Nat.sub_self, List.replicate_zero, List.replicate_succ, List.append_nil, List.cons_append, List.nil_append, List.getElem?_cons_zero, List.getElem?_cons_succ, List.set_cons_zero, List.set_cons_succ, Option.some.injEq, List.cons.injEq, and_true, true_and, exists_eq_left, exists_eq_left', exists_eq_right, V.ty.injEq, V.int.injEq, V.bl.injEq, V.str.injEq, V.ref.injEq, exists_and_left, exists_const, reduceIte, reduceCtorEq, false_and, and_false, exists_false, or_false, false_or, Bool.not_true, Bool.not_false, Bool.false_eq_true, String.reduceEq, true_or, or_true, rNotT, tNNew, tNNotIn, tNGet, sNPut, tLenSetN, tPar, tAug, ipI, tDNotIn, sDPut, tDGet, tTup, tLst, tBM, tBM0]
    have hl : z.cps.toList.length = z.length := Array.length_toList
    refine ⟨fun m σ H' => H' = H ∧ ∃ p : Nat, p ≤ z.length ∧ m = z.length - p ∧ n + runL (btw 32 126) (z.cps.toList.drop n) = p + runL (btw 32 126) (z.cps.toList.drop p) ∧ σ = [some (.str z), some (.int n), some (.int p)], ⟨_, rfl, n, hn, rfl, rfl, rfl⟩, ?_⟩
    rintro m σ H' ⟨rfl, p, hp, rfl, e, rfl⟩
    simp only [cxOf, tYes, eq_self, if_true, if_false, wipe, rLenQ, rIxTQ, rIxLQ, rIxSQ, rInt1Q, rTupQ, rAppQ, rPopQ, rPopAtQ, rRevQ, rListS, rReprP, tLenSetT, tChain, tRetN, tRet, tSeq, tAsg, gName, tVar, tC, tCons, tNil, tCB, tOp, rI0, rI, tAndV, tOrV, tNotV, tIf, tTest, tB, tNot, tAnd, tOr, tIfS, tNext, tCallR, rIsK, rEq, rNe, tDrop, L2.start, List.map_cons, List.map_nil, List.length_cons, List.length_nil, Nat.reduceAdd, Nat.reduceSub, Nat.sub_self, List.replicate_zero, List.replicate_succ, List.append_nil, List.cons_append, List.nil_append, List.getElem?_cons_zero, List.getElem?_cons_succ, List.set_cons_zero, List.set_cons_succ, Option.some.injEq, List.cons.injEq, and_true, true_and, exists_eq_left, exists_eq_left', exists_eq_right, V.ty.injEq, V.int.injEq, V.bl.injEq, V.str.injEq, V.ref.injEq, exists_and_left, exists_const, reduceIte, reduceCtorEq, false_and, and_false, exists_false, or_false, false_or, Bool.not_true, Bool.not_false, Bool.false_eq_true, String.reduceEq, true_or, or_true, rNotT, tNNew, tNNotIn, tNGet, sNPut, tLenSetN, tPar, tAug, ipI, tDNotIn, sDPut, tDGet, tTup, tLst, tBM, tBM0]
    refine ⟨szle hz, ?_⟩
    by_cases lt : p < z.length
    · obtain ⟨c, hc⟩ : ∃ c, z.cps.toList[p]? = some c := ⟨_, List.getElem?_eq_getElem (by omega)⟩
      have hd : z.cps.toList.drop p = c :: z.cps.toList.drop (p + 1) := drop_cons hc
      rw [hd, run_cons] at e
      refine ifT (decide_eq_true (by omega)) ⟨szle hz, c, atI_nat hc, c, rfl, _, rfl, ?_⟩
      cases hf : btw 32 126 c with
      | true =>
        rw [hf, if_pos rfl] at e
        exact ifT rfl ⟨fun σ' H'' => H'' = H' ∧ σ' = [some (.str z), some (.int n), some (.int ((p : Int) + 1))], fun σ' H'' h => ⟨z.length - (p + 1), by omega, h.1, p + 1, by omega, rfl, by omega, h.2⟩, rfl, rfl⟩
      | false =>
        rw [hf, if_neg Bool.false_ne_true] at e
        refine ifF rfl ?_
        rwa [e] at q
    · have hd : z.cps.toList.drop p = [] := List.drop_eq_nil_iff.mpr (by omega)
      rw [hd] at e
      refine ifF (decide_eq_false (by omega)) ?_
      rwa [e] at q
/-- a row of letters, figures, _ that begins with a letter -/
structure WordOk (z : Str) : Prop where
  pos : 1 ≤ z.length
  top : z.length ≤ 1000
  all : z.cps.toList.all rcB = true
  one : ∃ c, z.cps.toList[0]? = some c ∧ (btw 97 122 c = true ∨ (btw 97 122 c = false ∧ btw 65 90 c = true))
structure RowOk (z : Str) : Prop where
  pos : 1 ≤ z.length
  top : z.length ≤ 1000
  all : z.cps.toList.all rcB = true
theorem WordOk.rowOk {z : Str} (h : WordOk z) : RowOk z := ⟨h.pos, h.top, h.all⟩
theorem RowOk.one {z : Str} (h : RowOk z) : ∃ c, z.cps.toList[0]? = some c ∧ z.cps.toList.getD 0 0 = c := by
  have hl : 0 < z.cps.toList.length := by rw [Array.length_toList]; exact h.pos
  exact ⟨_, List.getElem?_eq_getElem hl, by rw [List.getD_eq_getElem?_getD, List.getElem?_eq_getElem hl]; rfl⟩
/-- what a token bears -/
inductive Wo where
  | s (x : Str)
  | n (i : Nat)
def Wo.V : Wo → L2.V
  | .s x => .str x
  | .n i => .int (i : Int)
def Wo.D : Wo → PyData
  | .s x => .str x
  | .n i => .int (i : Int)
theorem Wo.dp (v : Wo) (H : Hp) : Dp K H v.V v.D := by
  cases v with
  | s x => exact .str x
  | n i => exact .int _
def numS (n : Nat) : Str := Str.ofString (toString (n : Int))
def greatB (z : Str) : Bool := btw 65 90 (z.cps.toList.getD 0 0)
def smallB (z : Str) : Bool := btw 97 122 (z.cps.toList.getD 0 0)
def strsOf : PyData → List Str
  | .tuple ds => ds.filterMap fun d => match d with
    | .str x => some x
    | _ => none
  | _ => []
def resB (z : Str) : Bool := (strsOf dat_RESERVED).any fun y => decide (y = z)
theorem dpAll_strs {H : Hp} : ∀ {l : List Str} {xs : List V}, DpAll K H xs (l.map PyData.str) → xs = l.map V.str
  | [], xs, h => by cases h; rfl
  | y :: l, xs, h => by
    cases h with
    | cons h1 h2 =>
      cases h1
      rw [dpAll_strs h2]
      rfl
theorem strs_seq {H : Hp} {a : Addr} {l : List Str} (h : Dp K H (.ref a) (.tuple (l.map PyData.str))) : SqT K H a (l.map V.str) := by
  cases h with
  | tup h1 h2 => rwa [dpAll_strs h2] at h1
theorem in_strs {z : Str} {l : List Str} : inV (.str z) (l.map V.str) = l.any fun y => decide (y = z) := by
  unfold inV
  rw [List.any_map]
  rfl
theorem flat_strs {l : List Str} : (l.map V.str).all flatV = true := by
  rw [List.all_map]
  exact List.all_eq_true.mpr fun _ _ => rfl
theorem res_seq (T : Tx w K mg) (H : Hp) : SqT K H (He.ga K "RESERVED") ((strsOf dat_RESERVED).map V.str) := strs_seq (T.u_RESERVED H)
theorem sc_is_fun_name : FnScope ["value"] ["value"] (defScope (topS 13)) := ⟨rfl, rfl, rfl, by decide +kernel, rfl, by decide +kernel, by decide +kernel⟩
theorem bd_is_fun_name {K : PySem.W.Frag} {f : Addr} {fd : FuncData} (F : FnP K "is_fun_name" (topS 13) f fd) : Binds K fd ["value"] [] := F.bindsN fun _ _ _ _ _ _ us hl => match us, hl with | [_], _ => rfl
def spFn : Sp := fun vs H Q _ => ∃ z : Str, vs = [.str z] ∧ RowOk z ∧ resB z = false ∧ ∀ H', Same H H' → Q (.bl (smallB z)) H'
theorem ok_is_fun_name (T : Tx w K mg) : Dk P w K mg base 4 "is_fun_name" ["value"] spFn := by
  have D_is_row := ok_is_row (P := P) (w := w) (base := base) T
  have D_is_small := ok_is_small (P := P) (w := w) (base := base) T
  obtain ⟨fd, F⟩ := T.d_is_fun_name
  refine ⟨⟨fd, F.ok sc_is_fun_name (fun vs H Q E h => ?_) (fun cdv A outer s H vs Q E hr h => ?_), bd_is_fun_name F⟩, F.kp, T.g_is_fun_name⟩
  · obtain ⟨z, rfl, _⟩ := h
    rfl
  · obtain ⟨z, rfl, hz, hres, q⟩ := h
    refine ⟨_, PSs.nox (pss_cons (ps_if (PW.pt (pw_or (pt_not (pt_val (pe_callB call_isK (by rfl) T.f_isinstance PyProof.Rows.boot_isinstance (pa_cons (pv 0) (pa_cons (pe_bltn (v := .ty "str") (by rfl) T.f_str PyProof.Rows.boot_str rfl) pa_nil))))) (pw_or1 (pt_not (pt_val (pe_callR D_is_row (hr.mono (by decide)) takes0 (pa_cons (pv 0) pa_nil))))))) (pss_one (ps_ret pe_bl)) pss_nil)
      (pss_one (ps_ret (pe_and (pe_callR D_is_small (hr.mono (by decide)) takes0 (pa_cons (pe_ix ix_strQ (pv 0) pe_int (fun _ _ => rfl)) pa_nil)) (pe_one (pe_cmpR (show OpR _ _ (rIn K true) by exact op_notIn_seq) (pv 0) (pe_glob (v := .ref (He.ga K "RESERVED")) (by rfl) T.t_RESERVED rfl) rfl)))))), ?_⟩
    simp only [cxOf, tYes, eq_self, if_true, if_false, wipe, rLenQ, rIxTQ, rIxLQ, rIxSQ, rInt1Q, rTupQ, rAppQ, rPopQ, rPopAtQ, rRevQ, rListS, rReprP, tLenSetT, tChain, tRetN, tRet, tSeq, tAsg, gName, tVar, tC, tCons, tNil, tCB, tOp, rI0, rI, tAndV, tOrV, tNotV, tIf, tTest, tB, tNot, tAnd, tOr, tIfS, tNext, tCallR, rIsK, rEq, rNe, tDrop, L2.start, List.map_cons, List.map_nil, List.length_cons, List.length_nil, Nat.reduceAdd, Nat.reduceSub, Nat.sub_self, List.replicate_zero, List.replicate_succ, List.append_nil, List.cons_append, List.nil_append, List.getElem?_cons_zero, List.getElem?_cons_succ, List.set_cons_zero, List.set_cons_succ, Option.some.injEq, List.cons.injEq, and_true, true_and, exists_eq_left, exists_eq_left', exists_eq_right, V.ty.injEq, V.int.injEq, V.bl.injEq, V.str.injEq, V.ref.injEq, exists_and_left, exists_const, reduceIte, reduceCtorEq, false_and, and_false, exists_false, or_false, false_or, Bool.not_true, Bool.not_false, Bool.false_eq_true, String.reduceEq, true_or, or_true, rNotT, tNNew, tNNotIn, tNGet, sNPut, tLenSetN, tPar, tAug, ipI, tDNotIn, sDPut, tDGet, tTup, tLst, tBM, tBM0]
    obtain ⟨c, hc, e0⟩ := hz.one
    refine ⟨.str z, ifF (by simp [isaB]) ⟨z, rfl, hz.top, fun H1 s1 => ⟨_, rfl, ?_⟩⟩⟩
    rw [decide_eq_true hz.pos, hz.all]
    refine ifF rfl ⟨szle hz.top, c, atI_nat (j := 0) hc, c, rfl, _, rfl, ?_⟩
    unfold smallB at q
    rw [e0] at q
    cases e1 : btw 97 122 c with
    | false =>
      rw [e1] at q
      exact ifF rfl (q H1 s1)
    | true =>
      rw [e1] at q
      refine ifT rfl ⟨_, _, rfl, .inr (res_seq T H1), rfl, flat_strs, ?_⟩
      rw [in_strs]
      have e3 : ((strsOf dat_RESERVED).any fun y => decide (y = z)) = false := hres
      rw [e3]
      exact q H1 s1
theorem sc_is_set_name : FnScope ["value"] ["value"] (defScope (topS 14)) := ⟨rfl, rfl, rfl, by decide +kernel, rfl, by decide +kernel, by decide +kernel⟩
theorem bd_is_set_name {K : PySem.W.Frag} {f : Addr} {fd : FuncData} (F : FnP K "is_set_name" (topS 14) f fd) : Binds K fd ["value"] [] := F.bindsN fun _ _ _ _ _ _ us hl => match us, hl with | [_], _ => rfl
def spSn : Sp := fun vs H Q _ => ∃ z : Str, vs = [.str z] ∧ RowOk z ∧ ∀ H', Same H H' → Q (.bl (greatB z)) H'
theorem ok_is_set_name (T : Tx w K mg) : Dk P w K mg base 4 "is_set_name" ["value"] spSn := by
  have D_is_row := ok_is_row (P := P) (w := w) (base := base) T
  have D_is_great := ok_is_great (P := P) (w := w) (base := base) T
  obtain ⟨fd, F⟩ := T.d_is_set_name
  refine ⟨⟨fd, F.ok sc_is_set_name (fun vs H Q E h => ?_) (fun cdv A outer s H vs Q E hr h => ?_), bd_is_set_name F⟩, F.kp, T.g_is_set_name⟩
  · obtain ⟨z, rfl, _⟩ := h
    rfl
  · obtain ⟨z, rfl, hz, q⟩ := h
    refine ⟨_, PSs.nox (pss_one (ps_ret (pe_and (pe_callB call_isK (by rfl) T.f_isinstance PyProof.Rows.boot_isinstance (pa_cons (pv 0) (pa_cons (pe_bltn (v := .ty "str") (by rfl) T.f_str PyProof.Rows.boot_str rfl) pa_nil))) (pe_and (pe_callR D_is_row (hr.mono (by decide)) takes0 (pa_cons (pv 0) pa_nil)) (pe_one (pe_callR D_is_great (hr.mono (by decide)) takes0 (pa_cons (pe_ix ix_strQ (pv 0) pe_int (fun _ _ => rfl)) pa_nil))))))), ?_⟩
    simp only [cxOf, tYes, eq_self, if_true, if_false, wipe, rLenQ, rIxTQ, rIxLQ, rIxSQ, rInt1Q, rTupQ, rAppQ, rPopQ, rPopAtQ, rRevQ, rListS, rReprP, tLenSetT, tChain, tRetN, tRet, tSeq, tAsg, gName, tVar, tC, tCons, tNil, tCB, tOp, rI0, rI, tAndV, tOrV, tNotV, tIf, tTest, tB, tNot, tAnd, tOr, tIfS, tNext, tCallR, rIsK, rEq, rNe, tDrop, L2.start, List.map_cons, List.map_nil, List.length_cons, List.length_nil, Nat.reduceAdd, Nat.reduceSub, Nat.sub_self, List.replicate_zero, List.replicate_succ, List.append_nil, List.cons_append, List.nil_append, List.getElem?_cons_zero, List.getElem?_cons_succ, List.set_cons_zero, List.set_cons_succ, Option.some.injEq, List.cons.injEq, and_true, true_and, exists_eq_left, exists_eq_left', exists_eq_right, V.ty.injEq, V.int.injEq, V.bl.injEq, V.str.injEq, V.ref.injEq, exists_and_left, exists_const, reduceIte, reduceCtorEq, false_and, and_false, exists_false, or_false, false_or, Bool.not_true, Bool.not_false, Bool.false_eq_true, String.reduceEq, true_or, or_true, rNotT, tNNew, tNNotIn, tNGet, sNPut, tLenSetN, tPar, tAug, ipI, tDNotIn, sDPut, tDGet, tTup, tLst, tBM, tBM0]
    obtain ⟨c, hc, e0⟩ := hz.one
    refine ⟨.str z, ifT (by simp [isaB]) ⟨z, rfl, hz.top, fun H1 s1 => ⟨_, rfl, ?_⟩⟩⟩
    rw [decide_eq_true hz.pos, hz.all]
    refine ifT rfl ⟨szle hz.top, c, atI_nat (j := 0) hc, c, rfl, ?_⟩
    have := q H1 s1
    unfold greatB at this
    rwa [e0] at this
theorem sc_is_number_row : FnScope ["word", "char"] ["word"] (defScope (topS 15)) := ⟨rfl, rfl, rfl, by decide +kernel, rfl, by decide +kernel, by decide +kernel⟩
theorem bd_is_number_row {K : PySem.W.Frag} {f : Addr} {fd : FuncData} (F : FnP K "is_number_row" (topS 15) f fd) : Binds K fd ["word"] [] := F.bindsN fun _ _ _ _ _ _ us hl => match us, hl with | [_], _ => rfl
theorem num_facts : ∀ n, n < 100 → (decide (1 ≤ (numS n).length) && decide ((numS n).length ≤ 2) && (numS n).cps.toList.all (btw 48 57) && (numS n).cps.toList.all rcB && !resB (numS n) && !smallB (numS n) && !greatB (numS n) && (decide (numS n = Str.ofString "0") || !decide ((numS n).cps.toList.getD 0 0 = 48)) && decide (PySem.intText? (numS n) = some (n : Int))) = true := by decide +kernel
/-- a row that is a number -/
def numB (z : Str) : Bool := decide (z.length ≤ 2) && (z.cps.toList.all (btw 48 57) && (decide (z = Str.ofString "0") || !decide (z.cps.toList.getD 0 0 = 48)))
def spNr : Sp := fun vs H Q _ => ∃ z : Str, vs = [.str z] ∧ RowOk z ∧ ∀ H', Same H H' → Q (.bl (numB z)) H'
theorem ok_is_number_row (T : Tx w K mg) : Dk P w K mg base 2 "is_number_row" ["word"] spNr := by
  have D_is_digit := ok_is_digit (P := P) (w := w) (base := base) T
  obtain ⟨fd, F⟩ := T.d_is_number_row
  refine ⟨⟨fd, F.ok sc_is_number_row (fun vs H Q E h => ?_) (fun cdv A outer s H vs Q E hr h => ?_), bd_is_number_row F⟩, F.kp, T.g_is_number_row⟩
  · obtain ⟨z, rfl, _⟩ := h
    rfl
  · obtain ⟨z, rfl, hz, q⟩ := h
    obtain ⟨_, c_MOST_DIGITS⟩ := T.c_MOST_DIGITS
    refine ⟨_, PSs.nox (pss_cons (ps_if (PW.pt (pw_or (pt_cmpR op_eq (pv 0) pe_str (nomark _)) (pw_or1 (pt_cmpR op_gt (pe_callB call_lenQ (by rfl) T.f_len PySem.boot_len (pa_cons (pv 0) pa_nil)) (pe_glob (v := .int 2) (by rfl) c_MOST_DIGITS ⟨_, rfl⟩) (nomark _))))) (pss_one (ps_ret pe_bl)) pss_nil)
      (pss_cons (ps_if (pt_not (pt_val (pe_callB (cr_all rfl) (by rfl) T.f_all (by decide +kernel) (pa_cons (pe_lc (own := [("char", 1)]) rfl sc_is_number_row.nd (pi_str (pv 0)) (blkOk_by (own := [("char", 1)]) (N := ["word", "char"]) (sc := defScope (topS 15)) (by decide +kernel)) (fun _ _ _ _ _ => (pg_name (i := 1) sc_is_number_row.nd rfl (.inl rfl))) (fun _ _ _ _ _ => pts_nil) (fun _ _ _ _ _ => (pe_callR D_is_digit (hr.mono (by decide)) takes0 (pa_cons (pv 1) pa_nil)))) pa_nil)))) (pss_one (ps_ret pe_bl)) pss_nil)
      (pss_one (ps_ret (pe_or (pe_cmpR op_eq (pv 0) pe_str (nomark _)) (pe_one (pe_cmpR op_ne (pe_ix ix_strQ (pv 0) pe_int (fun _ _ => rfl)) pe_str (nomark _)))))))), ?_⟩
    simp only [cxOf, tYes, eq_self, if_true, if_false, wipe, rLenQ, rIxTQ, rIxLQ, rIxSQ, rInt1Q, rTupQ, rAppQ, rPopQ, rPopAtQ, rRevQ, rListS, rReprP, tLenSetT, tChain, tRetN, tRet, tSeq, tAsg, gName, tVar, tC, tCons, tNil, tCB, tOp, rI0, rI, tAndV, tOrV, tNotV, tIf, tTest, tB, tNot, tAnd, tOr, tIfS, tNext, tCallR, rIsK, rEq, rNe, tDrop, L2.start, List.map_cons, List.map_nil, List.length_cons, List.length_nil, Nat.reduceAdd, Nat.reduceSub, Nat.sub_self, List.replicate_zero, List.replicate_succ, List.append_nil, List.cons_append, List.nil_append, List.getElem?_cons_zero, List.getElem?_cons_succ, List.set_cons_zero, List.set_cons_succ, Option.some.injEq, List.cons.injEq, and_true, true_and, exists_eq_left, exists_eq_left', exists_eq_right, V.ty.injEq, V.int.injEq, V.bl.injEq, V.str.injEq, V.ref.injEq, exists_and_left, exists_const, reduceIte, reduceCtorEq, false_and, and_false, exists_false, or_false, false_or, Bool.not_true, Bool.not_false, Bool.false_eq_true, String.reduceEq, true_or, or_true, rNotT, tNNew, tNNotIn, tNGet, sNPut, tLenSetN, tPar, tAug, ipI, tDNotIn, sDPut, tDGet, tTup, tLst, tBM, tBM0]
    have hl : z.cps.toList.length = z.length := Array.length_toList
    have a1 := hz.pos
    have a0 := hz.top
    unfold numB at q
    refine ⟨rfl, ifF (decide_eq_false fun e => by rw [e] at a1; exact absurd a1 (by decide)) ⟨szle a0, ?_⟩⟩
    by_cases a2 : z.length ≤ 2
    case neg =>
      rw [decide_eq_false a2, Bool.false_and] at q
      exact ifT (decide_eq_true (by omega)) (q H fun _ _ h => h)
    rw [decide_eq_true a2, Bool.true_and] at q
    refine ifF (decide_eq_false (by omega)) ?_
    refine ⟨_, rfl, z, rfl, fun D hD => ?_⟩
    refine lc_gen (n := z.cps.size) (fun i H' => Same H H' ∧ H' D = some (.lst ((z.cps.toList.take i).map fun c => V.bl (btw 48 57 c)))) ⟨same_upd hD, upd_same⟩ (fun i H' hi _ => hi) (fun H' _ => Nat.le_refl _) ?_ ?_
    · rintro i x H1 H2 hi ⟨s1, e1⟩ ⟨rfl, c, hc, rfl⟩
      have hc2 : z.cps.toList[i]? = some c := by rw [Array.getElem?_toList]; exact hc
      refine ⟨rfl, ?_⟩
      simp only [cxOf, tYes, eq_self, if_true, if_false, wipe, rLenQ, rIxTQ, rIxLQ, rIxSQ, rInt1Q, rTupQ, rAppQ, rPopQ, rPopAtQ, rRevQ, rListS, rReprP, tLenSetT, tChain, tRetN, tRet, tSeq, tAsg, gName, tVar, tC, tCons, tNil, tCB, tOp, rI0, rI, tAndV, tOrV, tNotV, tIf, tTest, tB, tNot, tAnd, tOr, tIfS, tNext, tCallR, rIsK, rEq, rNe, tDrop, L2.start, List.map_cons, List.map_nil, List.length_cons, List.length_nil, Nat.reduceAdd, Nat.reduceSub, Nat.sub_self, List.replicate_zero, List.replicate_succ, List.append_nil, List.cons_append, List.nil_append, List.getElem?_cons_zero, List.getElem?_cons_succ, List.set_cons_zero, List.set_cons_succ, Option.some.injEq, List.cons.injEq, and_true, true_and, exists_eq_left, exists_eq_left', exists_eq_right, V.ty.injEq, V.int.injEq, V.bl.injEq, V.str.injEq, V.ref.injEq, exists_and_left, exists_const, reduceIte, reduceCtorEq, false_and, and_false, exists_false, or_false, false_or, Bool.not_true, Bool.not_false, Bool.false_eq_true, String.reduceEq, true_or, or_true, rNotT, tNNew, tNNotIn, tNGet, sNPut, tLenSetN, tPar, tAug, ipI, tDNotIn, sDPut, tDGet, tTup, tLst, tBM, tBM0]
      refine ⟨c, rfl, _, e1, ?_, ?_, ?_⟩
      · rw [List.length_map, List.length_take]
        exact szlt (m := 1000) (by omega)
      · exact fun b o hb => by rw [upd_ne (ne_of_none hb hD)]; exact s1 b o hb
      · rw [upd_same, List.take_add_one, hc2, List.map_append]
        rfl
    · rintro H1 ⟨s1, e1⟩
      have ee : z.cps.toList.take z.cps.size = z.cps.toList := List.take_of_length_le (by simp)
      rw [ee] at e1
      refine ⟨D, z.cps.toList.map (btw 48 57), rfl, .inl (.inl ?_), ?_⟩
      · rw [e1, List.map_map]
        rfl
      · have e2 : (z.cps.toList.map (btw 48 57)).all id = z.cps.toList.all (btw 48 57) := by
          rw [List.all_map]
          rfl
        rw [e2]
        cases ha : z.cps.toList.all (btw 48 57) with
        | false =>
          rw [ha, Bool.false_and] at q
          exact ⟨false, rfl, ifT rfl (q H1 s1)⟩
        | true =>
        rw [ha, Bool.true_and] at q
        refine ⟨true, rfl, ifF rfl ⟨rfl, ?_⟩⟩
        by_cases h0 : z = Str.ofString "0"
        · rw [decide_eq_true h0, Bool.true_or] at q
          exact ifT (decide_eq_true h0) (q H1 s1)
        · rw [decide_eq_false h0, Bool.false_or] at q
          refine ifF (decide_eq_false h0) ⟨szle (m := 2) a2, ?_⟩
          have hpos : 0 < z.cps.toList.length := by omega
          refine ⟨_, atI_nat (j := 0) (List.getElem?_eq_getElem hpos), rfl, ?_⟩
          have e9 : decide (sgn z.cps.toList[0] = Str.ofString "0") = decide (z.cps.toList.getD 0 0 = 48) := by
            rw [List.getD_eq_getElem?_getD, List.getElem?_eq_getElem hpos]
            refine decide_eq_decide.mpr ⟨fun e => ?_, fun e => ?_⟩
            · exact congrArg (fun x : Str => x.cps.toList.getD 0 0) e
            · have e : z.cps.toList[0] = 48 := e
              rw [e]
              rfl
          rw [e9]
          exact q H1 s1
theorem sc_Token_m___init__ : FnScope ["self", "kind", "worth", "line", "column"] ["self", "kind", "worth", "line", "column"] (defScope (clsAt (topS 23) 0)) := ⟨rfl, rfl, rfl, by decide +kernel, rfl, by decide +kernel, by decide +kernel⟩
theorem bd_Token_m___init__ {K : PySem.W.Frag} {fd : FuncData} (F : FnM K "Token" "__init__" "Token.__init__" (clsAt (topS 23) 0) [] fd) : Binds K fd ["self", "kind", "worth", "line", "column"] [] := F.bindsN fun _ _ _ _ _ _ us hl => match us, hl with | [_, _, _, _, _], _ => rfl
def tokF (k v l c : V) : List (Str × V) := putF "column" c (putF "line" l (putF "worth" v (putF "kind" k [])))
def TokH (K : PySem.W.Frag) (H : Hp) (a : Addr) (k v l c : V) : Prop := ∃ dx, H a = some (.ins (He.ga K "Token") dx (tokF k v l c))
theorem pl {f : Str} {y : V} {fs : List (Str × V)} {k : Nat} (h : fs.length ≤ k) : (putF f y fs).length ≤ k + 1 := Nat.le_trans (length_putF f y fs) (Nat.succ_le_succ h)
def spTi (K : PySem.W.Frag) : Sp := fun vs H Q _ => ∃ x dx k v l c, vs = [.ref x, k, v, l, c] ∧ H x = some (.ins (He.ga K "Token") dx []) ∧ Q .non (upd H x (.ins (He.ga K "Token") dx (tokF k v l c)))
theorem upd_twice {H : Hp} {x : Addr} {a b : HO} : upd (upd H x a) x b = upd H x b := by
  funext y
  by_cases e : y = x
  · rw [e, upd_same, upd_same]
  · rw [upd_ne e, upd_ne e, upd_ne e]
theorem ok_Token_m___init__ (T : Tx w K mg) : DkM P w K mg base 1 "Token" "__init__" ["self", "kind", "worth", "line", "column"] [] (spTi K) := by
  obtain ⟨fd, F⟩ := T.d_Token_m___init__
  refine ⟨⟨fd, [], F.ok sc_Token_m___init__ (fun vs H Q E h => ?_) (fun cdv A outer s H vs Q E hr h => ?_), bd_Token_m___init__ F, .nil⟩⟩
  · obtain ⟨x, dx, k, v, l, c, rfl, _⟩ := h
    rfl
  · obtain ⟨x, dx, k, v, l, c, rfl, h1, q⟩ := h
    refine ⟨_, PSs.nox (pss_cons (ps_fld (pv 0) (pv 1) rfl)
      (pss_cons (ps_fld (pv 0) (pv 2) rfl)
      (pss_cons (ps_fld (pv 0) (pv 3) rfl)
      (pss_one (ps_fld (pv 0) (pv 4) rfl))))), ?_⟩
    simp only [cxOf, tYes, eq_self, if_true, if_false, wipe, rLenQ, rIxTQ, rIxLQ, rIxSQ, rInt1Q, rTupQ, rAppQ, rPopQ, rPopAtQ, rRevQ, rListS, rReprP, tLenSetT, tChain, tRetN, tRet, tSeq, tAsg, gName, tVar, tC, tCons, tNil, tCB, tOp, rI0, rI, tAndV, tOrV, tNotV, tIf, tTest, tB, tNot, tAnd, tOr, tIfS, tNext, tCallR, rIsK, rEq, rNe, tDrop, L2.start, List.map_cons, List.map_nil, List.length_cons, List.length_nil, Nat.reduceAdd, Nat.reduceSub, Nat.sub_self, List.replicate_zero, List.replicate_succ, List.append_nil, List.cons_append, List.nil_append, List.getElem?_cons_zero, List.getElem?_cons_succ, List.set_cons_zero, List.set_cons_succ, Option.some.injEq, List.cons.injEq, and_true, true_and, exists_eq_left, exists_eq_left', exists_eq_right, V.ty.injEq, V.int.injEq, V.bl.injEq, V.str.injEq, V.ref.injEq, exists_and_left, exists_const, reduceIte, reduceCtorEq, false_and, and_false, exists_false, or_false, false_or, Bool.not_true, Bool.not_false, Bool.false_eq_true, String.reduceEq, true_or, or_true, rNotT, tNNew, tNNotIn, tNGet, sNPut, tLenSetN, tPar, tAug, ipI, tDNotIn, sDPut, tDGet, tTup, tLst, tBM, tBM0]
    refine ⟨_, rfl, _, rfl, x, _, dx, [], rfl, h1, T.cl_Token, T.na_Token_kind, by decide, ?_⟩
    refine ⟨_, rfl, _, rfl, x, _, dx, _, rfl, upd_same, T.cl_Token, T.na_Token_worth, Nat.lt_of_le_of_lt (pl (Nat.zero_le 0)) (by decide), ?_⟩
    refine ⟨_, rfl, _, rfl, x, _, dx, _, rfl, upd_same, T.cl_Token, T.na_Token_line, Nat.lt_of_le_of_lt (pl (pl (Nat.zero_le 0))) (by decide), ?_⟩
    refine ⟨_, rfl, _, rfl, x, _, dx, _, rfl, upd_same, T.cl_Token, T.na_Token_column, Nat.lt_of_le_of_lt (pl (pl (pl (Nat.zero_le 0)))) (by decide), ?_⟩
    rw [upd_twice, upd_twice, upd_twice]
    exact q
theorem tok_made {H : Hp} {x dx : Addr} {o1 o2 o3 : HO} (hx : H x = none) (hd : H dx = none) : Same H (upd (upd (upd H dx o1) x o2) x o3) := fun b o hb => by
  rw [upd_ne (ne_of_none hb hx), upd_ne (ne_of_none hb hx), upd_ne (ne_of_none hb hd)]
  exact hb
theorem sc_row_token : FnScope ["word", "line", "column"] ["word", "line", "column"] (defScope (topS 28)) := ⟨rfl, rfl, rfl, by decide +kernel, rfl, by decide +kernel, by decide +kernel⟩
theorem bd_row_token {K : PySem.W.Frag} {f : Addr} {fd : FuncData} (F : FnP K "row_token" (topS 28) f fd) : Binds K fd ["word", "line", "column"] [] := F.bindsN fun _ _ _ _ _ _ us hl => match us, hl with | [_, _, _], _ => rfl
def rowK (z : Str) : Str := if resB z = true then Str.ofString "=" ++ z else if smallB z = true then Str.ofString "name" else Str.ofString "Name"
/-- a row as it is read: its kind, and what it bears -/
inductive RowT : Str → Str → Wo → Prop
  | word {z : Str} : WordOk z → RowT z (rowK z) (.s z)
  | num {n : Nat} : n < 100 → RowT (numS n) (Str.ofString "number") (.n n)
  | bad {z : Str} : RowOk z → resB z = false → smallB z = false → greatB z = false → numB z = false → RowT z (Str.ofString "no token") (.s z)
theorem num_ok {n : Nat} (h : n < 100) : RowOk (numS n) ∧ resB (numS n) = false ∧ smallB (numS n) = false ∧ greatB (numS n) = false := by
  have := num_facts n h
  simp only [Bool.and_eq_true, decide_eq_true_eq, Bool.not_eq_true'] at this
  obtain ⟨⟨⟨⟨⟨⟨⟨⟨a1, a2⟩, a3⟩, a4⟩, a5⟩, a6⟩, a7⟩, a8⟩, a9⟩ := this
  exact ⟨⟨a1, by omega, a4⟩, a5, a6, a7⟩
theorem num_num {n : Nat} (h : n < 100) : numB (numS n) = true := by
  have := num_facts n h
  simp only [Bool.and_eq_true, decide_eq_true_eq, Bool.not_eq_true'] at this
  obtain ⟨⟨⟨⟨⟨⟨⟨⟨a1, a2⟩, a3⟩, a4⟩, a5⟩, a6⟩, a7⟩, a8⟩, a9⟩ := this
  unfold numB
  rw [decide_eq_true a2, a3, Bool.true_and, Bool.true_and]
  exact a8
theorem RowT.ok {z k : Str} {v : Wo} (h : RowT z k v) : RowOk z := by
  cases h with
  | word h => exact h.rowOk
  | num h => exact (num_ok h).1
  | bad h => exact h
def spRt (K : PySem.W.Frag) : Sp := fun vs H Q _ => ∃ (z k : Str) (v : Wo) (l c : V), vs = [.str z, l, c] ∧ RowT z k v ∧ ∀ a H', Same H H' → TokH K H' a (.str k) v.V l c → Q (.ref a) H'
theorem ok_row_token (T : Tx w K mg) : Dk P w K mg base 5 "row_token" ["word", "line", "column"] (spRt K) := by
  have D_word_kind := ok_word_kind (P := P) (w := w) (base := base) T
  have D_is_fun_name := ok_is_fun_name (P := P) (w := w) (base := base) T
  have D_is_set_name := ok_is_set_name (P := P) (w := w) (base := base) T
  have D_is_number_row := ok_is_number_row (P := P) (w := w) (base := base) T
  have D_Token_m___init__ := ok_Token_m___init__ (P := P) (w := w) (base := base) T
  obtain ⟨fd, F⟩ := T.d_row_token
  refine ⟨⟨fd, F.ok sc_row_token (fun vs H Q E h => ?_) (fun cdv A outer s H vs Q E hr h => ?_), bd_row_token F⟩, F.kp, T.g_row_token⟩
  · obtain ⟨z, k, v, l, c, rfl, _⟩ := h
    rfl
  · obtain ⟨z, k, v, l, c, rfl, hrt, q⟩ := h
    obtain ⟨_, c_FUN_NAME⟩ := T.c_FUN_NAME
    obtain ⟨_, c_SET_NAME⟩ := T.c_SET_NAME
    obtain ⟨_, c_NUMBER⟩ := T.c_NUMBER
    obtain ⟨_, c_STRANGE⟩ := T.c_STRANGE
    refine ⟨_, PSs.nox (pss_cons (ps_if (pt_cmpR (show OpR _ _ (rIn K false) by exact op_in_seq) (pv 0) (pe_glob (v := .ref (He.ga K "RESERVED")) (by rfl) T.t_RESERVED rfl) rfl) (pss_one (ps_ret (pe_makeR T.mk_Token T.g_Token D_Token_m___init__ (hr.mono (by decide)) (pa_cons (pe_callR D_word_kind (hr.mono (by decide)) takes0 (pa_cons (pv 0) pa_nil)) (pa_cons (pv 0) (pa_cons (pv 1) (pa_cons (pv 2) pa_nil))))))) pss_nil)
      (pss_cons (ps_if (pt_val (pe_callR D_is_fun_name (hr.mono (by decide)) takes0 (pa_cons (pv 0) pa_nil))) (pss_one (ps_ret (pe_makeR T.mk_Token T.g_Token D_Token_m___init__ (hr.mono (by decide)) (pa_cons (pe_glob (v := .str "name") (by rfl) c_FUN_NAME ⟨_, rfl⟩) (pa_cons (pv 0) (pa_cons (pv 1) (pa_cons (pv 2) pa_nil))))))) pss_nil)
      (pss_cons (ps_if (pt_val (pe_callR D_is_set_name (hr.mono (by decide)) takes0 (pa_cons (pv 0) pa_nil))) (pss_one (ps_ret (pe_makeR T.mk_Token T.g_Token D_Token_m___init__ (hr.mono (by decide)) (pa_cons (pe_glob (v := .str "Name") (by rfl) c_SET_NAME ⟨_, rfl⟩) (pa_cons (pv 0) (pa_cons (pv 1) (pa_cons (pv 2) pa_nil))))))) pss_nil)
      (pss_cons (ps_if (pt_val (pe_callR D_is_number_row (hr.mono (by decide)) takes0 (pa_cons (pv 0) pa_nil))) (pss_one (ps_ret (pe_makeR T.mk_Token T.g_Token D_Token_m___init__ (hr.mono (by decide)) (pa_cons (pe_glob (v := .str "number") (by rfl) c_NUMBER ⟨_, rfl⟩) (pa_cons (pe_callTy call_int_str (by rfl) T.f_int PyProof.Rows.boot_int (pa_cons (pv 0) pa_nil)) (pa_cons (pv 1) (pa_cons (pv 2) pa_nil))))))) pss_nil)
      (pss_one (ps_ret (pe_makeR T.mk_Token T.g_Token D_Token_m___init__ (hr.mono (by decide)) (pa_cons (pe_glob (v := .str "no token") (by rfl) c_STRANGE ⟨_, rfl⟩) (pa_cons (pv 0) (pa_cons (pv 1) (pa_cons (pv 2) pa_nil))))))))))), ?_⟩
    simp only [cxOf, tYes, eq_self, if_true, if_false, wipe, rLenQ, rIxTQ, rIxLQ, rIxSQ, rInt1Q, rTupQ, rAppQ, rPopQ, rPopAtQ, rRevQ, rListS, rReprP, tLenSetT, tChain, tRetN, tRet, tSeq, tAsg, gName, tVar, tC, tCons, tNil, tCB, tOp, rI0, rI, tAndV, tOrV, tNotV, tIf, tTest, tB, tNot, tAnd, tOr, tIfS, tNext, tCallR, rIsK, rEq, rNe, tDrop, L2.start, List.map_cons, List.map_nil, List.length_cons, List.length_nil, Nat.reduceAdd, Nat.reduceSub, Nat.sub_self, List.replicate_zero, List.replicate_succ, List.append_nil, List.cons_append, List.nil_append, List.getElem?_cons_zero, List.getElem?_cons_succ, List.set_cons_zero, List.set_cons_succ, Option.some.injEq, List.cons.injEq, and_true, true_and, exists_eq_left, exists_eq_left', exists_eq_right, V.ty.injEq, V.int.injEq, V.bl.injEq, V.str.injEq, V.ref.injEq, exists_and_left, exists_const, reduceIte, reduceCtorEq, false_and, and_false, exists_false, or_false, false_or, Bool.not_true, Bool.not_false, Bool.false_eq_true, String.reduceEq, true_or, or_true, rNotT, tNNew, tNNotIn, tNGet, sNPut, tLenSetN, tPar, tAug, ipI, tDNotIn, sDPut, tDGet, tTup, tLst, tBM, tBM0]
    have mk : ∀ (H' : Hp), Same H H' → ∀ x dx, H' x = none → H' dx = none → dx ≠ x → spTi K (.ref x :: ([.str k, v.V, l, c] ++ [])) (upd (upd H' dx (.own x)) x (.ins (He.ga K "Token") dx [])) (fun v H2 => v = .non ∧ Q (.ref x) H2) EF := fun H' s' x dx hx hd hne =>
      ⟨x, dx, _, _, l, c, rfl, upd_same, rfl, q x _ (Same.trans s' (tok_made hx hd)) ⟨dx, upd_same⟩⟩
    refine ⟨_, _, rfl, .inr (res_seq T H), rfl, flat_strs, ?_⟩
    rw [in_strs]
    cases hrt with
    | num hn =>
      rename_i n
      obtain ⟨a1, a2, a3, a4⟩ := num_ok hn
      have a9 := num_facts n hn
      simp only [Bool.and_eq_true, decide_eq_true_eq, Bool.not_eq_true'] at a9
      refine ⟨false, congrArg V.bl a2, ifF rfl ⟨numS n, rfl, a1, a2, fun H1 s1 => ⟨_, rfl, ?_⟩⟩⟩
      rw [a3]
      refine ifF rfl ⟨numS n, rfl, a1, fun H2 s2 => ⟨_, rfl, ?_⟩⟩
      rw [a4]
      refine ifF rfl ⟨numS n, rfl, a1, fun H3 s3 => ⟨true, congrArg V.bl (num_num hn), ifT rfl ?_⟩⟩
      exact ⟨_, rfl, _, rfl, (n : Int), a9.2, by have := a9.1.1.1.1.1.1.1.2; omega, _, rfl, _, rfl, mk H3 (s1.trans (s2.trans s3))⟩
    | bad hz a2 a3 a4 a5 =>
      refine ⟨false, congrArg V.bl a2, ifF rfl ⟨z, rfl, hz, a2, fun H1 s1 => ⟨_, rfl, ?_⟩⟩⟩
      rw [a3]
      refine ifF rfl ⟨z, rfl, hz, fun H2 s2 => ⟨_, rfl, ?_⟩⟩
      rw [a4]
      refine ifF rfl ⟨z, rfl, hz, fun H3 s3 => ⟨false, congrArg V.bl a5, ifF rfl ?_⟩⟩
      exact ⟨_, rfl, _, rfl, _, rfl, mk H3 (s1.trans (s2.trans s3))⟩
    | word hz =>
    cases hres : (strsOf dat_RESERVED).any fun y => decide (y = z) with
    | true =>
      have e : rowK z = Str.ofString "=" ++ z := by unfold rowK resB; rw [hres, if_pos rfl]
      rw [e] at mk
      exact ⟨true, rfl, ifT rfl ⟨_, rfl, z, rfl, hz.top, _, rfl, _, rfl, _, rfl, mk H fun _ _ h => h⟩⟩
    | false =>
      have e : rowK z = if smallB z = true then Str.ofString "name" else Str.ofString "Name" := by unfold rowK resB; rw [hres, if_neg Bool.false_ne_true]
      rw [e] at mk
      refine ⟨false, rfl, ifF rfl ⟨z, rfl, hz.rowOk, hres, fun H1 s1 => ⟨_, rfl, ?_⟩⟩⟩
      cases hs : smallB z with
      | true =>
        rw [hs, if_pos rfl] at mk
        exact ifT rfl ⟨_, rfl, _, rfl, _, rfl, mk H1 s1⟩
      | false =>
        rw [hs, if_neg Bool.false_ne_true] at mk
        have hg : greatB z = true := by
          obtain ⟨c0, hc, h1⟩ := hz.one
          have e0 : z.cps.toList.getD 0 0 = c0 := by rw [List.getD_eq_getElem?_getD, hc]; rfl
          unfold smallB at hs
          unfold greatB
          rw [e0] at hs ⊢
          rcases h1 with h1 | h1
          · rw [hs] at h1; cases h1
          · exact h1.2
        refine ifF rfl ⟨z, rfl, hz.rowOk, fun H2 s2 => ⟨true, congrArg V.bl hg, ifT rfl ⟨_, rfl, _, rfl, _, rfl, mk H2 (Same.trans s1 s2)⟩⟩⟩
end
end K02

namespace K02
open PySem PySem.Spec PyProof.Rows L2 Sg
section
variable {P : Program} {w : World} {K : PySem.W.Frag} {mg : Str → Option Value} {base : Heap}
theorem sgn_eq {c d : Nat} {y : Str} (hy : y.cps.toList = [d]) : decide (sgn c = y) = decide (c = d) := by
  refine decide_eq_decide.mpr ⟨fun h => ?_, fun h => str_ext ?_⟩
  · have h2 : [c] = [d] := by rw [← hy]; exact congrArg (fun x : Str => x.cps.toList) h
    exact (List.cons.inj h2).1
  · rw [hy, h]
    rfl
theorem sc_quoted_end : FnScope ["text", "at", "place"] ["text", "at"] (defScope (topS 25)) := ⟨rfl, rfl, rfl, by decide +kernel, rfl, by decide +kernel, by decide +kernel⟩
theorem bd_quoted_end {K : PySem.W.Frag} {f : Addr} {fd : FuncData} (F : FnP K "quoted_end" (topS 25) f fd) : Binds K fd ["text", "at"] [] := F.bindsN fun _ _ _ _ _ _ us hl => match us, hl with | [_, _], _ => rfl
/-- what follows is no closed text -/
def Open (r : List Nat) : Prop := r = [] ∨ ∃ c t, r = c :: t ∧ btw 32 126 c = false
def spQe : Sp := fun vs H Q _ => ∃ (z : Str) (n : Nat) (u r : List Nat), vs = [.str z, .int n] ∧ z.length ≤ 1000000 ∧ n + 1 ≤ z.length ∧ z.cps.toList.drop (n + 1) = u ++ r ∧ (∀ c ∈ u, btw 32 126 c = true ∧ c ≠ 34) ∧
  ((∃ t, r = 34 :: t ∧ Q (.int ((n + 1 + u.length : Nat) : Int)) H) ∨ (Open r ∧ Q (.int (-1)) H))
theorem ok_quoted_end (T : Tx w K mg) : Dk P w K mg base 2 "quoted_end" ["text", "at"] spQe := by
  have D_is_printable := ok_is_printable (P := P) (w := w) (base := base) T
  obtain ⟨fd, F⟩ := T.d_quoted_end
  refine ⟨⟨fd, F.ok sc_quoted_end (fun vs H Q E h => ?_) (fun cdv A outer s H vs Q E hr h => ?_), bd_quoted_end F⟩, F.kp, T.g_quoted_end⟩
  · obtain ⟨z, n, u, r, rfl, _⟩ := h
    rfl
  · obtain ⟨z, n, u, r, rfl, hz, hn, hd, hu, q⟩ := h
    refine ⟨_, PSs.nox (pss_cons (ps_set (i := 2) sc_quoted_end.nd rfl (.inl rfl) (pe_op op_add (pv 1) pe_int))
      (pss_cons (ps_while PassesOwn.never (pt_cmpR op_lt (pv 2) (pe_callB call_lenQ (by rfl) T.f_len PySem.boot_len (pa_cons (pv 0) pa_nil)) (nomark _)) (pss_cons (ps_if (pt_cmpR op_eq (pe_ix ix_strQ (pv 0) (pv 2) (fun _ _ => rfl)) pe_str (nomark _)) (pss_one (ps_ret (pv 2))) pss_nil)
      (pss_cons (ps_if (pt_not (pt_val (pe_callR D_is_printable (hr.mono (by decide)) takes0 (pa_cons (pe_ix ix_strQ (pv 0) (pv 2) (fun _ _ => rfl)) pa_nil)))) (pss_one (ps_ret (pe_un un_neg pe_int))) pss_nil)
      (pss_one (ps_aug (i := 2) sc_quoted_end.nd rfl (.inl rfl) pe_int ip_add)))))
      (pss_one (ps_ret (pe_un un_neg pe_int))))), ?_⟩
    simp only [cxOf, tYes, eq_self, if_true, if_false, wipe, rLenQ, rIxTQ, rIxLQ, rIxSQ, rInt1Q, rTupQ, rAppQ, rPopQ, rPopAtQ, rRevQ, rListS, rReprP, tLenSetT, tChain, tRetN, tRet, tSeq, tAsg, gName, tVar, tC, tCons, tNil, tCB, tOp, rI0, rI, tAndV, tOrV, tNotV, tIf, tTest, tB, tNot, tAnd, tOr, tIfS, tNext, tCallR, rIsK, rEq, rNe, tDrop, L2.start, List.map_cons, List.map_nil, List.length_cons, List.length_nil, Nat.reduceAdd, Nat.reduceSub, Nat.sub_self, List.replicate_zero, List.replicate_succ, List.append_nil, List.cons_append, List.nil_append, List.getElem?_cons_zero, List.getElem?_cons_succ, List.set_cons_zero, List.set_cons_succ, Option.some.injEq, List.cons.injEq, and_true, true_and, exists_eq_left, exists_eq_left', exists_eq_right, V.ty.injEq, V.int.injEq, V.bl.injEq, V.str.injEq, V.ref.injEq, exists_and_left, exists_const, reduceIte, reduceCtorEq, false_and, and_false, exists_false, or_false, false_or, Bool.not_true, Bool.not_false, Bool.false_eq_true, String.reduceEq, true_or, or_true, rNotT, tNNew, tNNotIn, tNGet, sNPut, tLenSetN, tPar, tAug, ipI, tDNotIn, sDPut, tDGet, tTup, tLst, tBM, tBM0]
    have hl : z.cps.toList.length = z.length := Array.length_toList
    refine ⟨fun m σ H' => H' = H ∧ ∃ i : Nat, i ≤ u.length ∧ m = u.length - i ∧ σ = [some (.str z), some (.int n), some (.int ((n + 1 + i : Nat) : Int))], ⟨_, rfl, 0, Nat.zero_le _, rfl, rfl⟩, ?_⟩
    rintro m σ H' ⟨rfl, i, hi, rfl, rfl⟩
    simp only [cxOf, tYes, eq_self, if_true, if_false, wipe, rLenQ, rIxTQ, rIxLQ, rIxSQ, rInt1Q, rTupQ, rAppQ, rPopQ, rPopAtQ, rRevQ, rListS, rReprP, tLenSetT, tChain, tRetN, tRet, tSeq, tAsg, gName, tVar, tC, tCons, tNil, tCB, tOp, rI0, rI, tAndV, tOrV, tNotV, tIf, tTest, tB, tNot, tAnd, tOr, tIfS, tNext, tCallR, rIsK, rEq, rNe, tDrop, L2.start, List.map_cons, List.map_nil, List.length_cons, List.length_nil, Nat.reduceAdd, Nat.reduceSub, Nat.sub_self, List.replicate_zero, List.replicate_succ, List.append_nil, List.cons_append, List.nil_append, List.getElem?_cons_zero, List.getElem?_cons_succ, List.set_cons_zero, List.set_cons_succ, Option.some.injEq, List.cons.injEq, and_true, true_and, exists_eq_left, exists_eq_left', exists_eq_right, V.ty.injEq, V.int.injEq, V.bl.injEq, V.str.injEq, V.ref.injEq, exists_and_left, exists_const, reduceIte, reduceCtorEq, false_and, and_false, exists_false, or_false, false_or, Bool.not_true, Bool.not_false, Bool.false_eq_true, String.reduceEq, true_or, or_true, rNotT, tNNew, tNNotIn, tNGet, sNPut, tLenSetN, tPar, tAug, ipI, tDNotIn, sDPut, tDGet, tTup, tLst, tBM, tBM0]
    have hlen : n + 1 + u.length + r.length = z.length := by
      have := congrArg List.length hd
      rw [List.length_drop, List.length_append] at this
      omega
    have hat : z.cps.toList[n + 1 + i]? = (u ++ r)[i]? := by rw [← hd, List.getElem?_drop]
    refine ⟨szle hz, ?_⟩
    by_cases lt : i < u.length
    · refine ifT (decide_eq_true (by omega)) ⟨fun σ' H'' => H'' = H' ∧ i < u.length ∧ σ' = [some (.str z), some (.int n), some (.int (((n + 1 + i : Nat) : Int) + 1))], fun σ' H'' h => ⟨u.length - (i + 1), by omega, h.1, i + 1, by omega, rfl, h.2.2⟩, szle hz, ?_⟩
      have hc : z.cps.toList[n + 1 + i]? = some u[i] := by rw [hat, List.getElem?_append_left lt, List.getElem?_eq_getElem lt]
      have hp := hu u[i] (List.getElem_mem lt)
      refine ⟨u[i], atI_nat hc, rfl, ?_⟩
      rw [sgn_eq (d := 34) rfl, decide_eq_false hp.2]
      refine ifF rfl ⟨szle hz, u[i], atI_nat hc, u[i], rfl, _, rfl, ?_⟩
      rw [hp.1]
      exact ifF rfl ⟨rfl, lt, rfl⟩
    · have ei : i = u.length := by omega
      have hne : ∀ c t, r = c :: t → z.cps.toList[n + 1 + i]? = some c := fun c t e => by rw [hat, ei, List.getElem?_append_right (Nat.le_refl _), Nat.sub_self, e]; rfl
      rcases q with ⟨t, rfl, q⟩ | ⟨rfl | ⟨c, t, rfl, hb⟩, q⟩
      · rw [List.length_cons] at hlen
        refine ifT (decide_eq_true (by omega)) ⟨fun σ' H'' => H'' = H' ∧ i < u.length ∧ σ' = [some (.str z), some (.int n), some (.int (((n + 1 + i : Nat) : Int) + 1))], fun σ' H'' h => ⟨u.length - (i + 1), by omega, h.1, i + 1, by omega, rfl, h.2.2⟩, szle hz, ?_⟩
        refine ⟨34, atI_nat (hne _ _ rfl), rfl, ?_⟩
        rw [sgn_eq (d := 34) rfl, decide_eq_true rfl]
        refine ifT rfl ?_
        rw [ei]
        exact q
      · rw [List.length_nil] at hlen
        exact ifF (decide_eq_false (by omega)) ⟨1, rfl, q⟩
      · rw [List.length_cons] at hlen
        refine ifT (decide_eq_true (by omega)) ⟨fun σ' H'' => H'' = H' ∧ i < u.length ∧ σ' = [some (.str z), some (.int n), some (.int (((n + 1 + i : Nat) : Int) + 1))], fun σ' H'' h => ⟨u.length - (i + 1), by omega, h.1, i + 1, by omega, rfl, h.2.2⟩, szle hz, ?_⟩
        have h34 : ¬ c = 34 := fun e => by rw [e] at hb; exact absurd hb (by decide)
        refine ⟨c, atI_nat (hne _ _ rfl), rfl, ?_⟩
        rw [sgn_eq (d := 34) rfl, decide_eq_false h34]
        refine ifF rfl ⟨szle hz, c, atI_nat (hne _ _ rfl), c, rfl, _, rfl, ?_⟩
        rw [hb]
        exact ifT rfl ⟨1, rfl, q⟩
theorem sc_Tokens_m___init__ : FnScope ["self", "text"] ["self", "text"] (defScope (clsAt (topS 29) 0)) := ⟨rfl, rfl, rfl, by decide +kernel, rfl, by decide +kernel, by decide +kernel⟩
theorem bd_Tokens_m___init__ {K : PySem.W.Frag} {fd : FuncData} (F : FnM K "Tokens" "__init__" "Tokens.__init__" (clsAt (topS 29) 0) [] fd) : Binds K fd ["self", "text"] [] := F.bindsN fun _ _ _ _ _ _ us hl => match us, hl with | [_, _], _ => rfl
def tsF (z : Str) (n l s : Nat) : List (Str × V) := putF "line_start" (.int s) (putF "line" (.int l) (putF "at" (.int n) (putF "source" (.str z) [])))
theorem ts_len {z : Str} {n l s : Nat} : (tsF z n l s).length ≤ 4 := pl (pl (pl (pl (Nat.zero_le 0))))
def spTsI (K : PySem.W.Frag) : Sp := fun vs H Q _ => ∃ x dx z, vs = [.ref x, .str z] ∧ H x = some (.ins (He.ga K "Tokens") dx []) ∧ Q .non (upd H x (.ins (He.ga K "Tokens") dx (tsF z 0 1 0)))
theorem ok_Tokens_m___init__ (T : Tx w K mg) : DkM P w K mg base 1 "Tokens" "__init__" ["self", "text"] [] (spTsI K) := by
  obtain ⟨fd, F⟩ := T.d_Tokens_m___init__
  refine ⟨⟨fd, [], F.ok sc_Tokens_m___init__ (fun vs H Q E h => ?_) (fun cdv A outer s H vs Q E hr h => ?_), bd_Tokens_m___init__ F, .nil⟩⟩
  · obtain ⟨x, dx, z, rfl, _⟩ := h
    rfl
  · obtain ⟨x, dx, z, rfl, h1, q⟩ := h
    refine ⟨_, PSs.nox (pss_cons (ps_fld (pv 0) (pv 1) rfl)
      (pss_cons (ps_fld (pv 0) pe_int rfl)
      (pss_cons (ps_fld (pv 0) pe_int rfl)
      (pss_one (ps_fld (pv 0) pe_int rfl))))), ?_⟩
    simp only [cxOf, tYes, eq_self, if_true, if_false, wipe, rLenQ, rIxTQ, rIxLQ, rIxSQ, rInt1Q, rTupQ, rAppQ, rPopQ, rPopAtQ, rRevQ, rListS, rReprP, tLenSetT, tChain, tRetN, tRet, tSeq, tAsg, gName, tVar, tC, tCons, tNil, tCB, tOp, rI0, rI, tAndV, tOrV, tNotV, tIf, tTest, tB, tNot, tAnd, tOr, tIfS, tNext, tCallR, rIsK, rEq, rNe, tDrop, L2.start, List.map_cons, List.map_nil, List.length_cons, List.length_nil, Nat.reduceAdd, Nat.reduceSub, Nat.sub_self, List.replicate_zero, List.replicate_succ, List.append_nil, List.cons_append, List.nil_append, List.getElem?_cons_zero, List.getElem?_cons_succ, List.set_cons_zero, List.set_cons_succ, Option.some.injEq, List.cons.injEq, and_true, true_and, exists_eq_left, exists_eq_left', exists_eq_right, V.ty.injEq, V.int.injEq, V.bl.injEq, V.str.injEq, V.ref.injEq, exists_and_left, exists_const, reduceIte, reduceCtorEq, false_and, and_false, exists_false, or_false, false_or, Bool.not_true, Bool.not_false, Bool.false_eq_true, String.reduceEq, true_or, or_true, rNotT, tNNew, tNNotIn, tNGet, sNPut, tLenSetN, tPar, tAug, ipI, tDNotIn, sDPut, tDGet, tTup, tLst, tBM, tBM0]
    refine ⟨_, rfl, _, rfl, x, _, dx, [], rfl, h1, T.cl_Tokens, T.na_Tokens_source, by decide, ?_⟩
    refine ⟨_, rfl, x, _, dx, _, rfl, upd_same, T.cl_Tokens, T.na_Tokens_at, Nat.lt_of_le_of_lt (pl (Nat.zero_le 0)) (by decide), ?_⟩
    refine ⟨_, rfl, x, _, dx, _, rfl, upd_same, T.cl_Tokens, T.na_Tokens_line, Nat.lt_of_le_of_lt (pl (pl (Nat.zero_le 0))) (by decide), ?_⟩
    refine ⟨_, rfl, x, _, dx, _, rfl, upd_same, T.cl_Tokens, T.na_Tokens_line_start, Nat.lt_of_le_of_lt (pl (pl (pl (Nat.zero_le 0)))) (by decide), ?_⟩
    rw [upd_twice, upd_twice, upd_twice]
    exact q
theorem sc_Tokens_m_skip_blanks : FnScope ["self", "char"] ["self"] (defScope (clsAt (topS 29) 1)) := ⟨rfl, rfl, rfl, by decide +kernel, rfl, by decide +kernel, by decide +kernel⟩
theorem bd_Tokens_m_skip_blanks {K : PySem.W.Frag} {fd : FuncData} (F : FnM K "Tokens" "skip_blanks" "Tokens.skip_blanks" (clsAt (topS 29) 1) [] fd) : Binds K fd ["self"] [] := F.bindsN fun _ _ _ _ _ _ us hl => match us, hl with | [_], _ => rfl
def skipF (z : List Nat) : Nat → Nat → Nat → Nat → Nat × Nat × Nat
  | 0, n, l, s => (n, l, s)
  | k + 1, n, l, s => if z[n]? = some 10 then skipF z k (n + 1) (l + 1) (n + 1) else if z[n]? = some 32 then skipF z k (n + 1) l s else if z[n]? = some 35 then skipF z k (n + runL (btw 32 126) (z.drop n)) l s else (n, l, s)
def TsO (K : PySem.W.Frag) (dx : Addr) (z : Str) (n l s : Nat) : HO := .ins (He.ga K "Tokens") dx (tsF z n l s)
def spSk (K : PySem.W.Frag) : Sp := fun vs H Q _ => ∃ x dx z n l s, vs = [.ref x] ∧ H x = some (TsO K dx z n l s) ∧ n ≤ z.length ∧ z.length ≤ 1000000 ∧ ∀ n' l' s', skipF z.cps.toList (z.length - n) n l s = (n', l', s') → n' ≤ z.length → Q .non (upd H x (TsO K dx z n' l' s'))
theorem skip_end {z : List Nat} {k n l s : Nat} (h : z.length ≤ n) : skipF z k n l s = (n, l, s) := by
  cases k with
  | zero => rfl
  | succ k =>
    have e : z[n]? = none := List.getElem?_eq_none_iff.mpr h
    rw [skipF, e, if_neg (by simp), if_neg (by simp), if_neg (by simp)]
theorem upd_self {H : Hp} {x : Addr} {o : HO} (h : H x = some o) : upd H x o = H := by
  funext y
  by_cases e : y = x
  · rw [e, upd_same, h]
  · rw [upd_ne e]
theorem ok_Tokens_m_skip_blanks (T : Tx w K mg) : DkM P w K mg base 3 "Tokens" "skip_blanks" ["self"] [] (spSk K) := by
  have D_remark_end := ok_remark_end (P := P) (w := w) (base := base) T
  obtain ⟨fd, F⟩ := T.d_Tokens_m_skip_blanks
  refine ⟨⟨fd, [], F.ok sc_Tokens_m_skip_blanks (fun vs H Q E h => ?_) (fun cdv A outer s H vs Q E hr h => ?_), bd_Tokens_m_skip_blanks F, .nil⟩⟩
  · obtain ⟨x, dx, z, n, l, s, rfl, _⟩ := h
    rfl
  · obtain ⟨x, dx, z, n, l, s, rfl, h1, hn, hz, q⟩ := h
    refine ⟨_, PSs.nox (pss_one (ps_while PassesOwn.never (pt_cmpR op_lt (pe_fld (pv 0) rfl) (pe_callB call_lenQ (by rfl) T.f_len PySem.boot_len (pa_cons (pe_fld (pv 0) rfl) pa_nil)) (nomark _)) (pss_cons (ps_set (i := 1) sc_Tokens_m_skip_blanks.nd rfl (.inl rfl) (pe_ix ix_strQ (pe_fld (pv 0) rfl) (pe_fld (pv 0) rfl) (fun _ _ => rfl)))
      (pss_one (ps_if (pt_cmpR op_eq (pv 1) pe_str (nomark _)) (pss_cons (ps_fldaug (pv 0) pe_int in_add)
      (pss_cons (ps_fldaug (pv 0) pe_int in_add)
      (pss_one (ps_fld (pv 0) (pe_fld (pv 0) rfl) rfl)))) (pss_one (ps_if (pt_cmpR op_eq (pv 1) pe_str (nomark _)) (pss_one (ps_fldaug (pv 0) pe_int in_add)) (pss_one (ps_if (pt_cmpR op_eq (pv 1) pe_str (nomark _)) (pss_one (ps_fld (pv 0) (pe_callR D_remark_end (hr.mono (by decide)) takes0 (pa_cons (pe_fld (pv 0) rfl) (pa_cons (pe_fld (pv 0) rfl) pa_nil))) rfl)) (pss_one ps_retN)))))))))), ?_⟩
    simp only [cxOf, tYes, eq_self, if_true, if_false, wipe, rLenQ, rIxTQ, rIxLQ, rIxSQ, rInt1Q, rTupQ, rAppQ, rPopQ, rPopAtQ, rRevQ, rListS, rReprP, tLenSetT, tChain, tRetN, tRet, tSeq, tAsg, gName, tVar, tC, tCons, tNil, tCB, tOp, rI0, rI, tAndV, tOrV, tNotV, tIf, tTest, tB, tNot, tAnd, tOr, tIfS, tNext, tCallR, rIsK, rEq, rNe, tDrop, L2.start, List.map_cons, List.map_nil, List.length_cons, List.length_nil, Nat.reduceAdd, Nat.reduceSub, Nat.sub_self, List.replicate_zero, List.replicate_succ, List.append_nil, List.cons_append, List.nil_append, List.getElem?_cons_zero, List.getElem?_cons_succ, List.set_cons_zero, List.set_cons_succ, Option.some.injEq, List.cons.injEq, and_true, true_and, exists_eq_left, exists_eq_left', exists_eq_right, V.ty.injEq, V.int.injEq, V.bl.injEq, V.str.injEq, V.ref.injEq, exists_and_left, exists_const, reduceIte, reduceCtorEq, false_and, and_false, exists_false, or_false, false_or, Bool.not_true, Bool.not_false, Bool.false_eq_true, String.reduceEq, true_or, or_true, rNotT, tNNew, tNNotIn, tNGet, sNPut, tLenSetN, tPar, tAug, ipI, tDNotIn, sDPut, tDGet, tTup, tLst, tBM, tBM0]
    refine ⟨fun m σ H' => ∃ n1 l1 s1 x1, H' = upd H x (TsO K dx z n1 l1 s1) ∧ n1 ≤ z.length ∧ z.length - n1 ≤ m ∧ skipF z.cps.toList (z.length - n) n l s = skipF z.cps.toList m n1 l1 s1 ∧ σ = [some (.ref x), x1], ⟨z.length - n, n, l, s, none, (upd_self h1).symm, hn, Nat.le_refl _, rfl, rfl⟩, ?_⟩
    rintro m σ H' ⟨n1, l1, s1, x1, rfl, hn1, hm, he, rfl⟩
    simp only [cxOf, tYes, eq_self, if_true, if_false, wipe, rLenQ, rIxTQ, rIxLQ, rIxSQ, rInt1Q, rTupQ, rAppQ, rPopQ, rPopAtQ, rRevQ, rListS, rReprP, tLenSetT, tChain, tRetN, tRet, tSeq, tAsg, gName, tVar, tC, tCons, tNil, tCB, tOp, rI0, rI, tAndV, tOrV, tNotV, tIf, tTest, tB, tNot, tAnd, tOr, tIfS, tNext, tCallR, rIsK, rEq, rNe, tDrop, L2.start, List.map_cons, List.map_nil, List.length_cons, List.length_nil, Nat.reduceAdd, Nat.reduceSub, Nat.sub_self, List.replicate_zero, List.replicate_succ, List.append_nil, List.cons_append, List.nil_append, List.getElem?_cons_zero, List.getElem?_cons_succ, List.set_cons_zero, List.set_cons_succ, Option.some.injEq, List.cons.injEq, and_true, true_and, exists_eq_left, exists_eq_left', exists_eq_right, V.ty.injEq, V.int.injEq, V.bl.injEq, V.str.injEq, V.ref.injEq, exists_and_left, exists_const, reduceIte, reduceCtorEq, false_and, and_false, exists_false, or_false, false_or, Bool.not_true, Bool.not_false, Bool.false_eq_true, String.reduceEq, true_or, or_true, rNotT, tNNew, tNNotIn, tNGet, sNPut, tLenSetN, tPar, tAug, ipI, tDNotIn, sDPut, tDGet, tTup, tLst, tBM, tBM0]
    have hl : z.cps.toList.length = z.length := Array.length_toList
    refine ⟨_, rfl, x, _, dx, _, .int n1, rfl, upd_same, T.cl_Tokens, T.na_Tokens_at, rfl, _, rfl, x, _, dx, _, .str z, rfl, upd_same, T.cl_Tokens, T.na_Tokens_source, rfl, szle hz, n1, rfl, ?_⟩
    by_cases lt : n1 < z.length
    case neg =>
      refine ifF (decide_eq_false (by omega)) (q n1 l1 s1 ?_ hn1)
      rw [he]
      exact skip_end (by omega)
    obtain ⟨k, rfl⟩ : ∃ k, m = k + 1 := ⟨m - 1, by omega⟩
    obtain ⟨c, hc⟩ : ∃ c, z.cps.toList[n1]? = some c := ⟨_, List.getElem?_eq_getElem (by omega)⟩
    have hd : z.cps.toList.drop n1 = c :: z.cps.toList.drop (n1 + 1) := drop_cons hc
    rw [skipF, hc] at he
    refine ifT (decide_eq_true (by omega)) ⟨fun σ' H' => ∃ m', m' < k + 1 ∧ ∃ n1 l1 s1, H' = upd H x (TsO K dx z n1 l1 s1) ∧ n1 ≤ z.length ∧ z.length - n1 ≤ m' ∧ skipF z.cps.toList (z.length - n) n l s = skipF z.cps.toList m' n1 l1 s1 ∧ ∃ x_3, σ' = [some (V.ref x), x_3], fun _ _ h => h, ?_⟩
    refine ⟨_, rfl, x, _, dx, _, .str z, rfl, upd_same, T.cl_Tokens, T.na_Tokens_source, rfl, _, rfl, x, _, dx, _, .int n1, rfl, upd_same, T.cl_Tokens, T.na_Tokens_at, rfl, szle hz, c, atI_nat hc, rfl, ?_⟩
    rw [sgn_eq (d := 10) rfl, sgn_eq (d := 32) rfl, sgn_eq (d := 35) rfl]
    by_cases c10 : c = 10
    · rw [if_pos (by rw [c10])] at he
      refine ifT (decide_eq_true c10) ?_
      refine ⟨_, rfl, x, _, dx, _, .int n1, rfl, upd_same, T.cl_Tokens, T.na_Tokens_at, rfl, ?_⟩
      refine ⟨_, _, rfl, rfl, dx, _, upd_same, Nat.lt_of_le_of_lt ts_len (by decide), ?_⟩
      refine ⟨_, rfl, x, _, dx, _, .int l1, rfl, upd_same, T.cl_Tokens, T.na_Tokens_line, rfl, ?_⟩
      refine ⟨_, _, rfl, rfl, dx, _, upd_same, Nat.lt_of_le_of_lt (pl ts_len) (by decide), ?_⟩
      refine ⟨_, rfl, x, _, dx, _, .int ((n1 : Int) + 1), rfl, upd_same, T.cl_Tokens, T.na_Tokens_at, rfl, _, rfl, x, _, dx, _, rfl, upd_same, T.cl_Tokens, T.na_Tokens_line_start, Nat.lt_of_le_of_lt (pl (pl ts_len)) (by decide), ?_⟩
      refine ⟨k, Nat.lt_succ_self k, n1 + 1, l1 + 1, n1 + 1, ?_, by omega, by omega, he, _, rfl⟩
      rw [upd_twice, upd_twice, upd_twice]
      rfl
    rw [if_neg (fun e => c10 (Option.some.inj e))] at he
    refine ifF (decide_eq_false c10) ⟨rfl, ?_⟩
    by_cases c32 : c = 32
    · rw [if_pos (by rw [c32])] at he
      refine ifT (decide_eq_true c32) ?_
      refine ⟨_, rfl, x, _, dx, _, .int n1, rfl, upd_same, T.cl_Tokens, T.na_Tokens_at, rfl, _, _, rfl, rfl, dx, _, upd_same, Nat.lt_of_le_of_lt ts_len (by decide), ?_⟩
      refine ⟨k, Nat.lt_succ_self k, n1 + 1, l1, s1, ?_, by omega, by omega, he, _, rfl⟩
      rw [upd_twice]
      rfl
    rw [if_neg (fun e => c32 (Option.some.inj e))] at he
    refine ifF (decide_eq_false c32) ⟨rfl, ?_⟩
    by_cases c35 : c = 35
    · rw [if_pos (by rw [c35])] at he
      refine ifT (decide_eq_true c35) ?_
      have h1' : 1 ≤ runL (btw 32 126) (z.cps.toList.drop n1) := by
        rw [hd, run_cons, c35]
        exact Nat.succ_le_succ (Nat.zero_le _)
      have h2' : runL (btw 32 126) (z.cps.toList.drop n1) ≤ z.length - n1 := by
        unfold runL
        refine Nat.le_trans (List.takeWhile_sublist _).length_le ?_
        rw [List.length_drop]
        omega
      refine ⟨_, rfl, x, _, dx, _, .str z, rfl, upd_same, T.cl_Tokens, T.na_Tokens_source, rfl, _, rfl, x, _, dx, _, .int n1, rfl, upd_same, T.cl_Tokens, T.na_Tokens_at, rfl, z, n1, rfl, hn1, hz, ?_⟩
      refine ⟨_, rfl, x, _, dx, _, rfl, upd_same, T.cl_Tokens, T.na_Tokens_at, Nat.lt_of_le_of_lt ts_len (by decide), ?_⟩
      refine ⟨k, Nat.lt_succ_self k, n1 + runL (btw 32 126) (z.cps.toList.drop n1), l1, s1, ?_, by omega, by omega, he, _, rfl⟩
      rw [upd_twice]
      rfl
    rw [if_neg (fun e => c35 (Option.some.inj e))] at he
    exact ifF (decide_eq_false c35) (q n1 l1 s1 he hn1)
theorem sc_Tokens_m_column : FnScope ["self"] ["self"] (defScope (clsAt (topS 29) 2)) := ⟨rfl, rfl, rfl, by decide +kernel, rfl, by decide +kernel, by decide +kernel⟩
theorem bd_Tokens_m_column {K : PySem.W.Frag} {fd : FuncData} (F : FnM K "Tokens" "column" "Tokens.column" (clsAt (topS 29) 2) [] fd) : Binds K fd ["self"] [] := F.bindsN fun _ _ _ _ _ _ us hl => match us, hl with | [_], _ => rfl
def spCo (K : PySem.W.Frag) : Sp := fun vs H Q _ => ∃ x dx z n l s, vs = [.ref x] ∧ H x = some (TsO K dx z n l s) ∧ Q (.int ((n : Int) - s + 1)) H
theorem ok_Tokens_m_column (T : Tx w K mg) : DkM P w K mg base 1 "Tokens" "column" ["self"] [] (spCo K) := by
  obtain ⟨fd, F⟩ := T.d_Tokens_m_column
  refine ⟨⟨fd, [], F.ok sc_Tokens_m_column (fun vs H Q E h => ?_) (fun cdv A outer s H vs Q E hr h => ?_), bd_Tokens_m_column F, .nil⟩⟩
  · obtain ⟨x, dx, z, n, l, s, rfl, _⟩ := h
    rfl
  · obtain ⟨x, dx, z, n, l, s, rfl, h1, q⟩ := h
    refine ⟨_, PSs.nox (pss_one (ps_ret (pe_op op_add (pe_op op_sub (pe_fld (pv 0) rfl) (pe_fld (pv 0) rfl)) pe_int))), ?_⟩
    simp only [cxOf, tYes, eq_self, if_true, if_false, wipe, rLenQ, rIxTQ, rIxLQ, rIxSQ, rInt1Q, rTupQ, rAppQ, rPopQ, rPopAtQ, rRevQ, rListS, rReprP, tLenSetT, tChain, tRetN, tRet, tSeq, tAsg, gName, tVar, tC, tCons, tNil, tCB, tOp, rI0, rI, tAndV, tOrV, tNotV, tIf, tTest, tB, tNot, tAnd, tOr, tIfS, tNext, tCallR, rIsK, rEq, rNe, tDrop, L2.start, List.map_cons, List.map_nil, List.length_cons, List.length_nil, Nat.reduceAdd, Nat.reduceSub, Nat.sub_self, List.replicate_zero, List.replicate_succ, List.append_nil, List.cons_append, List.nil_append, List.getElem?_cons_zero, List.getElem?_cons_succ, List.set_cons_zero, List.set_cons_succ, Option.some.injEq, List.cons.injEq, and_true, true_and, exists_eq_left, exists_eq_left', exists_eq_right, V.ty.injEq, V.int.injEq, V.bl.injEq, V.str.injEq, V.ref.injEq, exists_and_left, exists_const, reduceIte, reduceCtorEq, false_and, and_false, exists_false, or_false, false_or, Bool.not_true, Bool.not_false, Bool.false_eq_true, String.reduceEq, true_or, or_true, rNotT, tNNew, tNNotIn, tNGet, sNPut, tLenSetN, tPar, tAug, ipI, tDNotIn, sDPut, tDGet, tTup, tLst, tBM, tBM0]
    refine ⟨_, rfl, x, _, dx, _, .int n, rfl, h1, T.cl_Tokens, T.na_Tokens_at, rfl, _, rfl, x, _, dx, _, .int s, rfl, h1, T.cl_Tokens, T.na_Tokens_line_start, rfl, ?_⟩
    exact ⟨_, rfl, _, rfl, q⟩
end
end K02

namespace K02
open PySem PySem.Spec PyProof.Rows L2 Sg
section
variable {P : Program} {w : World} {K : PySem.W.Frag} {mg : Str → Option Value} {base : Heap}
theorem mk_tok {H0 H : Hp} {y : Addr} {k v l c : V} {R : Addr → Hp → Prop} (b : But y H0 H) (hy : ∃ o, H y = some o) (q : ∀ a H', But y H0 H' → H' y = H y → TokH K H' a k v l c → R a H') :
    ∀ x dx, H x = none → H dx = none → dx ≠ x → spTi K (.ref x :: ([k, v, l, c] ++ [])) (upd (upd H dx (.own x)) x (.ins (He.ga K "Token") dx [])) (fun v H2 => v = .non ∧ R x H2) EF := fun x dx hx hd hne => by
  obtain ⟨o, ho⟩ := hy
  have s := tok_made (o1 := .own x) (o2 := .ins (He.ga K "Token") dx []) (o3 := .ins (He.ga K "Token") dx (tokF k v l c)) hx hd
  exact ⟨x, dx, k, v, l, c, rfl, upd_same, rfl, q x _ (b.trans (But.of_same s)) ((s _ _ ho).trans ho.symm) ⟨dx, upd_same⟩⟩
theorem cut_mid {z : Str} {n : Nat} {u r : List Nat} (h : z.cps.toList.drop n = u ++ r) : cutS z (some (n : Int)) (some ((n + u.length : Nat) : Int)) = ⟨u.toArray⟩ := by
  have hl : z.cps.toList.length = z.length := Array.length_toList
  refine str_ext ?_
  unfold cutS
  rw [HT.sIx_nat, HT.sIx_nat]
  by_cases hn : n ≤ z.length
  · have hlen := congrArg List.length h
    rw [List.length_drop, List.length_append] at hlen
    rw [Nat.min_eq_left hn, Nat.min_eq_left (by omega)]
    show ((z.cps.toList.drop n).take (n + u.length - n)) = u.toArray.toList
    rw [h, Nat.add_sub_cancel_left, List.take_append_of_le_length (Nat.le_refl _), List.take_length]
  · have : z.cps.toList.drop n = [] := List.drop_eq_nil_iff.mpr (by omega)
    rw [this] at h
    have hu : u = [] := (List.append_eq_nil_iff.mp h.symm).1
    subst hu
    have e0 : z.cps.toList.drop (min n z.length) = [] := List.drop_eq_nil_iff.mpr (by omega)
    show (z.cps.toList.drop (min n z.length)).take _ = []
    rw [e0]
    exact List.take_nil
theorem run_app {f : Nat → Bool} {r : List Nat} (hr : ∀ c t, r = c :: t → f c = false) : ∀ {u : List Nat}, u.all f = true → runL f (u ++ r) = u.length
  | [], _ => by
    cases r with
    | nil => rfl
    | cons c t =>
      rw [List.nil_append, run_cons, hr c t rfl]
      rfl
  | c :: u, h => by
    rw [List.all_cons, Bool.and_eq_true] at h
    rw [List.cons_append, run_cons, if_pos h.1, run_app hr h.2]
    rfl
theorem sc_Tokens_m_read_quoted : FnScope ["self", "line", "column", "start", "stop"] ["self", "line", "column"] (defScope (clsAt (topS 29) 4)) := ⟨rfl, rfl, rfl, by decide +kernel, rfl, by decide +kernel, by decide +kernel⟩
theorem bd_Tokens_m_read_quoted {K : PySem.W.Frag} {fd : FuncData} (F : FnM K "Tokens" "read_quoted" "Tokens.read_quoted" (clsAt (topS 29) 4) [] fd) : Binds K fd ["self", "line", "column"] [] := F.bindsN fun _ _ _ _ _ _ us hl => match us, hl with | [_, _, _], _ => rfl
def spRq (K : PySem.W.Frag) : Sp := fun vs H Q _ => ∃ x dx z n l s, ∃ (vl vc : V) (u r : List Nat), vs = [.ref x, vl, vc] ∧ H x = some (TsO K dx z n l s) ∧ z.length ≤ 1000000 ∧ n + 1 ≤ z.length ∧ z.cps.toList.drop (n + 1) = u ++ r ∧ (∀ c ∈ u, btw 32 126 c = true ∧ c ≠ 34) ∧
  ((∃ t, r = 34 :: t ∧ ∀ a H', But x H H' → H' x = some (TsO K dx z (n + u.length + 2) l s) → TokH K H' a (.str (Str.ofString "quoted")) (.str ⟨u.toArray⟩) vl vc → Q (.ref a) H') ∨
   (Open r ∧ ∀ a H', But x H H' → H' x = some (TsO K dx z (n + 1) l s) → TokH K H' a (.str (Str.ofString "no token")) (.str (Str.ofString "\"")) vl vc → Q (.ref a) H'))
theorem ok_Tokens_m_read_quoted (T : Tx w K mg) : DkM P w K mg base 3 "Tokens" "read_quoted" ["self", "line", "column"] [] (spRq K) := by
  have D_quoted_end := ok_quoted_end (P := P) (w := w) (base := base) T
  have D_Token_m___init__ := ok_Token_m___init__ (P := P) (w := w) (base := base) T
  obtain ⟨fd, F⟩ := T.d_Tokens_m_read_quoted
  refine ⟨⟨fd, [], F.ok sc_Tokens_m_read_quoted (fun vs H Q E h => ?_) (fun cdv A outer s H vs Q E hr h => ?_), bd_Tokens_m_read_quoted F, .nil⟩⟩
  · obtain ⟨x, dx, z, n, l, s, vl, vc, u, r, rfl, _⟩ := h
    rfl
  · obtain ⟨x, dx, z, n, l, s, vl, vc, u, r, rfl, h1, hz, hn1, hd, hu, q⟩ := h
    obtain ⟨_, c_QUOTED⟩ := T.c_QUOTED
    obtain ⟨_, c_STRANGE⟩ := T.c_STRANGE
    refine ⟨_, PSs.nox (pss_cons (ps_set (i := 3) sc_Tokens_m_read_quoted.nd rfl (.inl rfl) (pe_fld (pv 0) rfl))
      (pss_cons (ps_set (i := 4) sc_Tokens_m_read_quoted.nd rfl (.inl rfl) (pe_callR D_quoted_end (hr.mono (by decide)) takes0 (pa_cons (pe_fld (pv 0) rfl) (pa_cons (pv 3) pa_nil))))
      (pss_cons (ps_if (pt_cmpR op_eq (pv 4) (pe_un un_neg pe_int) (nomark _)) (pss_cons (ps_fldaug (pv 0) pe_int in_add)
      (pss_one (ps_ret (pe_makeR T.mk_Token T.g_Token D_Token_m___init__ (hr.mono (by decide)) (pa_cons (pe_glob (v := .str "no token") (by rfl) c_STRANGE ⟨_, rfl⟩) (pa_cons pe_str (pa_cons (pv 1) (pa_cons (pv 2) pa_nil)))))))) pss_nil)
      (pss_cons (ps_fld (pv 0) (pe_op op_add (pv 4) pe_int) rfl)
      (pss_one (ps_ret (pe_makeR T.mk_Token T.g_Token D_Token_m___init__ (hr.mono (by decide)) (pa_cons (pe_glob (v := .str "quoted") (by rfl) c_QUOTED ⟨_, rfl⟩) (pa_cons (pe_slice sl_str (pe_fld (pv 0) rfl) (po_some (pe_op op_add (pv 3) pe_int)) (po_some (pv 4))) (pa_cons (pv 1) (pa_cons (pv 2) pa_nil))))))))))), ?_⟩
    simp only [cxOf, tYes, eq_self, if_true, if_false, wipe, rLenQ, rIxTQ, rIxLQ, rIxSQ, rInt1Q, rTupQ, rAppQ, rPopQ, rPopAtQ, rRevQ, rListS, rReprP, tLenSetT, tChain, tRetN, tRet, tSeq, tAsg, gName, tVar, tC, tCons, tNil, tCB, tOp, rI0, rI, tAndV, tOrV, tNotV, tIf, tTest, tB, tNot, tAnd, tOr, tIfS, tNext, tCallR, rIsK, rEq, rNe, tDrop, L2.start, List.map_cons, List.map_nil, List.length_cons, List.length_nil, Nat.reduceAdd, Nat.reduceSub, Nat.sub_self, List.replicate_zero, List.replicate_succ, List.append_nil, List.cons_append, List.nil_append, List.getElem?_cons_zero, List.getElem?_cons_succ, List.set_cons_zero, List.set_cons_succ, Option.some.injEq, List.cons.injEq, and_true, true_and, exists_eq_left, exists_eq_left', exists_eq_right, V.ty.injEq, V.int.injEq, V.bl.injEq, V.str.injEq, V.ref.injEq, exists_and_left, exists_const, reduceIte, reduceCtorEq, false_and, and_false, exists_false, or_false, false_or, Bool.not_true, Bool.not_false, Bool.false_eq_true, String.reduceEq, true_or, or_true, rNotT, tNNew, tNNotIn, tNGet, sNPut, tLenSetN, tPar, tAug, ipI, tDNotIn, sDPut, tDGet, tTup, tLst, tBM, tBM0]
    refine ⟨_, rfl, x, _, dx, _, .int n, rfl, h1, T.cl_Tokens, T.na_Tokens_at, rfl, ?_⟩
    simp only [cxOf, tYes, eq_self, if_true, if_false, wipe, rLenQ, rIxTQ, rIxLQ, rIxSQ, rInt1Q, rTupQ, rAppQ, rPopQ, rPopAtQ, rRevQ, rListS, rReprP, tLenSetT, tChain, tRetN, tRet, tSeq, tAsg, gName, tVar, tC, tCons, tNil, tCB, tOp, rI0, rI, tAndV, tOrV, tNotV, tIf, tTest, tB, tNot, tAnd, tOr, tIfS, tNext, tCallR, rIsK, rEq, rNe, tDrop, L2.start, List.map_cons, List.map_nil, List.length_cons, List.length_nil, Nat.reduceAdd, Nat.reduceSub, Nat.sub_self, List.replicate_zero, List.replicate_succ, List.append_nil, List.cons_append, List.nil_append, List.getElem?_cons_zero, List.getElem?_cons_succ, List.set_cons_zero, List.set_cons_succ, Option.some.injEq, List.cons.injEq, and_true, true_and, exists_eq_left, exists_eq_left', exists_eq_right, V.ty.injEq, V.int.injEq, V.bl.injEq, V.str.injEq, V.ref.injEq, exists_and_left, exists_const, reduceIte, reduceCtorEq, false_and, and_false, exists_false, or_false, false_or, Bool.not_true, Bool.not_false, Bool.false_eq_true, String.reduceEq, true_or, or_true, rNotT, tNNew, tNNotIn, tNGet, sNPut, tLenSetN, tPar, tAug, ipI, tDNotIn, sDPut, tDGet, tTup, tLst, tBM, tBM0]
    have hne : ¬ V.int ((n + 1 + u.length : Nat) : Int) = V.int (-1) := fun e => by
      have := V.int.inj e
      omega
    refine ⟨_, rfl, x, _, dx, _, .str z, rfl, h1, T.cl_Tokens, T.na_Tokens_source, rfl, z, n, u, r, rfl, hz, hn1, hd, hu, ?_⟩
    rcases q with ⟨t, rfl, q⟩ | ⟨ho, q⟩
    case inr =>
      refine .inr ⟨ho, 1, rfl, rfl, ifT (decide_eq_true rfl) ?_⟩
      refine ⟨_, rfl, x, _, dx, _, .int n, rfl, h1, T.cl_Tokens, T.na_Tokens_at, rfl, _, _, rfl, rfl, dx, _, h1, Nat.lt_of_le_of_lt ts_len (by decide), ?_⟩
      refine ⟨_, rfl, _, rfl, ?_⟩
      refine mk_tok (v := .str (Str.ofString "\"")) (R := fun a H' => Q (.ref a) H') But.upd ⟨_, upd_same⟩ fun a H' b he ht => q a H' b ?_ ht
      rw [he, upd_same]
      rfl
    refine .inl ⟨t, rfl, 1, rfl, rfl, ifF (decide_eq_false hne) ?_⟩
    refine ⟨_, rfl, _, _, rfl, rfl, _, rfl, x, _, dx, _, rfl, h1, T.cl_Tokens, T.na_Tokens_at, Nat.lt_of_le_of_lt ts_len (by decide), ?_⟩
    refine ⟨_, rfl, x, _, dx, _, .str z, rfl, upd_same, T.cl_Tokens, T.na_Tokens_source, rfl, _, rfl, _, _, rfl, rfl, _, rfl, _, rfl, _, rfl, z, rfl, szle hz, _, rfl, _, rfl, ?_⟩
    have ec : cutS z (some ((n : Int) + 1)) (some ((n + 1 + u.length : Nat) : Int)) = ⟨u.toArray⟩ := cut_mid hd
    rw [show n + u.length + 2 = n + 1 + u.length + 1 by omega] at q
    refine mk_tok (R := fun a H' => Q (.ref a) H') But.upd ⟨_, upd_same⟩ fun a H' b he ht => q a H' b ?_ ?_
    · rw [he, upd_same]
      rfl
    · rw [← ec]
      exact ht
theorem sc_Tokens_m_read_token : FnScope ["self", "line", "column", "char", "start"] ["self"] (defScope (clsAt (topS 29) 3)) := ⟨rfl, rfl, rfl, by decide +kernel, rfl, by decide +kernel, by decide +kernel⟩
theorem bd_Tokens_m_read_token {K : PySem.W.Frag} {fd : FuncData} (F : FnM K "Tokens" "read_token" "Tokens.read_token" (clsAt (topS 29) 3) [] fd) : Binds K fd ["self"] [] := F.bindsN fun _ _ _ _ _ _ us hl => match us, hl with | [_], _ => rfl
inductive LexC (z : Str) (n : Nat) : Str → Wo → Nat → Prop
  | fin : n = z.length → LexC z n (Str.ofString "end of the text") (.s (Str.ofString "")) n
  | quo (u r : List Nat) : z.cps.toList[n]? = some 34 → z.cps.toList.drop (n + 1) = u ++ 34 :: r → (∀ c ∈ u, btw 32 126 c = true ∧ c ≠ 34) → LexC z n (Str.ofString "quoted") (.s ⟨u.toArray⟩) (n + u.length + 2)
  | badq (u r : List Nat) : z.cps.toList[n]? = some 34 → z.cps.toList.drop (n + 1) = u ++ r → (∀ c ∈ u, btw 32 126 c = true ∧ c ≠ 34) → Open r → LexC z n (Str.ofString "no token") (.s (Str.ofString "\"")) (n + 1)
  | row (u k : Str) (v : Wo) (r : List Nat) : RowT u k v → z.cps.toList.drop n = u.cps.toList ++ r → (∀ c t, r = c :: t → rcB c = false) → LexC z n k v (n + u.length)
  | mark (c : Nat) : z.cps.toList[n]? = some c → c ≠ 34 → rcB c = false → c ∈ (Str.ofString "()[]{};:,=>|&-*+?").cps.toList → LexC z n (Str.ofString "=" ++ sgn c) (.s (sgn c)) (n + 1)
def spRk (K : PySem.W.Frag) : Sp := fun vs H Q _ => ∃ x dx z n l s n1 l1 s1 k v n', vs = [.ref x] ∧ H x = some (TsO K dx z n l s) ∧ n ≤ z.length ∧ z.length ≤ 1000000 ∧ skipF z.cps.toList (z.length - n) n l s = (n1, l1, s1) ∧ LexC z n1 k v n' ∧
  ∀ a H', But x H H' → H' x = some (TsO K dx z n' l1 s1) → TokH K H' a (.str k) v.V (.int l1) (.int ((n1 : Int) - s1 + 1)) → Q (.ref a) H'
theorem ok_Tokens_m_read_token (T : Tx w K mg) : DkM P w K mg base 6 "Tokens" "read_token" ["self"] [] (spRk K) := by
  have D_Tokens_m_skip_blanks := ok_Tokens_m_skip_blanks (P := P) (w := w) (base := base) T
  have D_Tokens_m_column := ok_Tokens_m_column (P := P) (w := w) (base := base) T
  have D_Tokens_m_read_quoted := ok_Tokens_m_read_quoted (P := P) (w := w) (base := base) T
  have D_is_row_char := ok_is_row_char (P := P) (w := w) (base := base) T
  have D_row_end := ok_row_end (P := P) (w := w) (base := base) T
  have D_row_token := ok_row_token (P := P) (w := w) (base := base) T
  have D_word_kind := ok_word_kind (P := P) (w := w) (base := base) T
  have D_Token_m___init__ := ok_Token_m___init__ (P := P) (w := w) (base := base) T
  obtain ⟨fd, F⟩ := T.d_Tokens_m_read_token
  refine ⟨⟨fd, [], F.ok sc_Tokens_m_read_token (fun vs H Q E h => ?_) (fun cdv A outer s H vs Q E hr h => ?_), bd_Tokens_m_read_token F, .nil⟩⟩
  · obtain ⟨x, dx, z, n, l, s, n1, l1, s1, k, v, n', rfl, _⟩ := h
    rfl
  · obtain ⟨x, dx, z, n, l, s, n1, l1, s1, k, v, n', rfl, h1, hn, hz, hsk, hlex, q⟩ := h
    obtain ⟨_, c_END⟩ := T.c_END
    obtain ⟨_, c_MARKS⟩ := T.c_MARKS
    obtain ⟨_, c_STRANGE⟩ := T.c_STRANGE
    refine ⟨_, PSs.nox (pss_cons (ps_expr (pe_methR0 (pv 0) T.cl_Tokens T.m_Tokens_skip_blanks D_Tokens_m_skip_blanks (hr.mono (by decide))))
      (pss_cons (ps_set (i := 1) sc_Tokens_m_read_token.nd rfl (.inl rfl) (pe_fld (pv 0) rfl))
      (pss_cons (ps_set (i := 2) sc_Tokens_m_read_token.nd rfl (.inl rfl) (pe_methR0 (pv 0) T.cl_Tokens T.m_Tokens_column D_Tokens_m_column (hr.mono (by decide))))
      (pss_cons (ps_if (pt_cmpR op_eq (pe_fld (pv 0) rfl) (pe_callB call_lenQ (by rfl) T.f_len PySem.boot_len (pa_cons (pe_fld (pv 0) rfl) pa_nil)) (nomark _)) (pss_one (ps_ret (pe_makeR T.mk_Token T.g_Token D_Token_m___init__ (hr.mono (by decide)) (pa_cons (pe_glob (v := .str "end of the text") (by rfl) c_END ⟨_, rfl⟩) (pa_cons pe_str (pa_cons (pv 1) (pa_cons (pv 2) pa_nil))))))) pss_nil)
      (pss_cons (ps_set (i := 3) sc_Tokens_m_read_token.nd rfl (.inl rfl) (pe_ix ix_strQ (pe_fld (pv 0) rfl) (pe_fld (pv 0) rfl) (fun _ _ => rfl)))
      (pss_cons (ps_if (pt_cmpR op_eq (pv 3) pe_str (nomark _)) (pss_one (ps_ret (pe_methR (pv 0) T.cl_Tokens T.m_Tokens_read_quoted D_Tokens_m_read_quoted (hr.mono (by decide)) (pa_cons (pv 1) (pa_cons (pv 2) pa_nil))))) pss_nil)
      (pss_cons (ps_if (pt_val (pe_callR D_is_row_char (hr.mono (by decide)) takes0 (pa_cons (pv 3) pa_nil))) (pss_cons (ps_set (i := 4) sc_Tokens_m_read_token.nd rfl (.inl rfl) (pe_fld (pv 0) rfl))
      (pss_cons (ps_fld (pv 0) (pe_callR D_row_end (hr.mono (by decide)) takes0 (pa_cons (pe_fld (pv 0) rfl) (pa_cons (pv 4) pa_nil))) rfl)
      (pss_one (ps_ret (pe_callR D_row_token (hr.mono (by decide)) takes0 (pa_cons (pe_slice sl_str (pe_fld (pv 0) rfl) (po_some (pv 4)) (po_some (pe_fld (pv 0) rfl))) (pa_cons (pv 1) (pa_cons (pv 2) pa_nil)))))))) pss_nil)
      (pss_cons (ps_fldaug (pv 0) pe_int in_add)
      (pss_cons (ps_if (pt_cmpR op_in_sign (pv 3) (pe_glob (v := .str "()[]{};:,=>|&-*+?") (by rfl) c_MARKS ⟨_, rfl⟩) rfl) (pss_one (ps_ret (pe_makeR T.mk_Token T.g_Token D_Token_m___init__ (hr.mono (by decide)) (pa_cons (pe_callR D_word_kind (hr.mono (by decide)) takes0 (pa_cons (pv 3) pa_nil)) (pa_cons (pv 3) (pa_cons (pv 1) (pa_cons (pv 2) pa_nil))))))) pss_nil)
      (pss_one (ps_ret (pe_makeR T.mk_Token T.g_Token D_Token_m___init__ (hr.mono (by decide)) (pa_cons (pe_glob (v := .str "no token") (by rfl) c_STRANGE ⟨_, rfl⟩) (pa_cons (pv 3) (pa_cons (pv 1) (pa_cons (pv 2) pa_nil)))))))))))))))), ?_⟩
    simp only [cxOf, tYes, eq_self, if_true, if_false, wipe, rLenQ, rIxTQ, rIxLQ, rIxSQ, rInt1Q, rTupQ, rAppQ, rPopQ, rPopAtQ, rRevQ, rListS, rReprP, tLenSetT, tChain, tRetN, tRet, tSeq, tAsg, gName, tVar, tC, tCons, tNil, tCB, tOp, rI0, rI, tAndV, tOrV, tNotV, tIf, tTest, tB, tNot, tAnd, tOr, tIfS, tNext, tCallR, rIsK, rEq, rNe, tDrop, L2.start, List.map_cons, List.map_nil, List.length_cons, List.length_nil, Nat.reduceAdd, Nat.reduceSub, Nat.sub_self, List.replicate_zero, List.replicate_succ, List.append_nil, List.cons_append, List.nil_append, List.getElem?_cons_zero, List.getElem?_cons_succ, List.set_cons_zero, List.set_cons_succ, Option.some.injEq, List.cons.injEq, and_true, true_and, exists_eq_left, exists_eq_left', exists_eq_right, V.ty.injEq, V.int.injEq, V.bl.injEq, V.str.injEq, V.ref.injEq, exists_and_left, exists_const, reduceIte, reduceCtorEq, false_and, and_false, exists_false, or_false, false_or, Bool.not_true, Bool.not_false, Bool.false_eq_true, String.reduceEq, true_or, or_true, rNotT, tNNew, tNNotIn, tNGet, sNPut, tLenSetN, tPar, tAug, ipI, tDNotIn, sDPut, tDGet, tTup, tLst, tBM, tBM0]
    have hl : z.cps.toList.length = z.length := Array.length_toList
    refine ⟨_, rfl, x, dx, _, rfl, h1, rfl, x, dx, z, n, l, s, rfl, h1, hn, hz, fun n2 l2 s2 e2 hn2 => ?_⟩
    obtain ⟨rfl, rfl, rfl⟩ : n1 = n2 ∧ l1 = l2 ∧ s1 = s2 := by
      have e := hsk.symm.trans e2
      exact ⟨congrArg (·.1) e, congrArg (·.2.1) e, congrArg (·.2.2) e⟩
    have hx1 : (upd H x (TsO K dx z n1 l1 s1)) x = some (TsO K dx z n1 l1 s1) := upd_same
    have b1 : But x H (upd H x (TsO K dx z n1 l1 s1)) := But.upd
    generalize upd H x (TsO K dx z n1 l1 s1) = H1 at hx1 b1
    refine ⟨_, rfl, x, _, dx, _, .int l1, rfl, hx1, T.cl_Tokens, T.na_Tokens_line, rfl, _, rfl, x, dx, _, rfl, hx1, rfl, x, dx, z, n1, l1, s1, rfl, hx1, ?_⟩
    refine ⟨_, rfl, x, _, dx, _, .int n1, rfl, hx1, T.cl_Tokens, T.na_Tokens_at, rfl, _, rfl, x, _, dx, _, .str z, rfl, hx1, T.cl_Tokens, T.na_Tokens_source, rfl, szle hz, rfl, ?_⟩
    cases hlex with
    | fin e =>
      refine ifT (decide_eq_true (by rw [e])) ⟨_, rfl, _, rfl, ?_⟩
      exact mk_tok (R := fun a H' => Q (.ref a) H') b1 ⟨_, hx1⟩ fun a H' b he ht => q a H' b (he.trans hx1) ht
    | quo u r hc hd hu =>
      have lt : n1 < z.length := by have := (List.getElem?_eq_some_iff.mp hc).1; omega
      refine ifF (decide_eq_false (fun e => by have := V.int.inj e; omega)) ⟨_, rfl, x, _, dx, _, .str z, rfl, hx1, T.cl_Tokens, T.na_Tokens_source, rfl, _, rfl, x, _, dx, _, .int n1, rfl, hx1, T.cl_Tokens, T.na_Tokens_at, rfl, szle hz, 34, atI_nat hc, rfl, ?_⟩
      rw [sgn_eq (d := 34) rfl, decide_eq_true rfl]
      exact ifT rfl ⟨_, rfl, x, dx, _, rfl, hx1, rfl, _, rfl, _, rfl, x, dx, z, n1, l1, s1, _, _, u, 34 :: r, rfl, hx1, hz, by omega, hd, hu, .inl ⟨r, rfl, fun a H' b he ht => q a H' (b1.trans b) he ht⟩⟩
    | badq u r hc hd hu ho =>
      have lt : n1 < z.length := by have := (List.getElem?_eq_some_iff.mp hc).1; omega
      refine ifF (decide_eq_false (fun e => by have := V.int.inj e; omega)) ⟨_, rfl, x, _, dx, _, .str z, rfl, hx1, T.cl_Tokens, T.na_Tokens_source, rfl, _, rfl, x, _, dx, _, .int n1, rfl, hx1, T.cl_Tokens, T.na_Tokens_at, rfl, szle hz, 34, atI_nat hc, rfl, ?_⟩
      rw [sgn_eq (d := 34) rfl, decide_eq_true rfl]
      exact ifT rfl ⟨_, rfl, x, dx, _, rfl, hx1, rfl, _, rfl, _, rfl, x, dx, z, n1, l1, s1, _, _, u, r, rfl, hx1, hz, by omega, hd, hu, .inr ⟨ho, fun a H' b he ht => q a H' (b1.trans b) he ht⟩⟩
    | mark c hc h34 hrc hm =>
      have lt : n1 < z.length := by have := (List.getElem?_eq_some_iff.mp hc).1; omega
      refine ifF (decide_eq_false (fun e => by have := V.int.inj e; omega)) ⟨_, rfl, x, _, dx, _, .str z, rfl, hx1, T.cl_Tokens, T.na_Tokens_source, rfl, _, rfl, x, _, dx, _, .int n1, rfl, hx1, T.cl_Tokens, T.na_Tokens_at, rfl, szle hz, c, atI_nat hc, rfl, ?_⟩
      rw [sgn_eq (d := 34) rfl, decide_eq_false h34]
      refine ifF rfl ⟨c, rfl, _, rfl, ?_⟩
      rw [hrc]
      refine ifF rfl ?_
      refine ⟨_, rfl, x, _, dx, _, .int n1, rfl, hx1, T.cl_Tokens, T.na_Tokens_at, rfl, _, _, rfl, rfl, dx, _, hx1, Nat.lt_of_le_of_lt ts_len (by decide), ?_⟩
      simp only [cxOf, tYes, eq_self, if_true, if_false, wipe, rLenQ, rIxTQ, rIxLQ, rIxSQ, rInt1Q, rTupQ, rAppQ, rPopQ, rPopAtQ, rRevQ, rListS, rReprP, tLenSetT, tChain, tRetN, tRet, tSeq, tAsg, gName, tVar, tC, tCons, tNil, tCB, tOp, rI0, rI, tAndV, tOrV, tNotV, tIf, tTest, tB, tNot, tAnd, tOr, tIfS, tNext, tCallR, rIsK, rEq, rNe, tDrop, L2.start, List.map_cons, List.map_nil, List.length_cons, List.length_nil, Nat.reduceAdd, Nat.reduceSub, Nat.sub_self, List.replicate_zero, List.replicate_succ, List.append_nil, List.cons_append, List.nil_append, List.getElem?_cons_zero, List.getElem?_cons_succ, List.set_cons_zero, List.set_cons_succ, Option.some.injEq, List.cons.injEq, and_true, true_and, exists_eq_left, exists_eq_left', exists_eq_right, V.ty.injEq, V.int.injEq, V.bl.injEq, V.str.injEq, V.ref.injEq, exists_and_left, exists_const, reduceIte, reduceCtorEq, false_and, and_false, exists_false, or_false, false_or, Bool.not_true, Bool.not_false, Bool.false_eq_true, String.reduceEq, true_or, or_true, rNotT, tNNew, tNNotIn, tNGet, sNPut, tLenSetN, tPar, tAug, ipI, tDNotIn, sDPut, tDGet, tTup, tLst, tBM, tBM0]
      refine ⟨c, rfl, ifT (decide_eq_true hm) ⟨_, rfl, sgn c, rfl, (by decide : 1 ≤ 1000), _, rfl, _, rfl, _, rfl, ?_⟩⟩
      exact mk_tok (R := fun a H' => Q (.ref a) H') (b1.trans But.upd) ⟨_, upd_same⟩ fun a H' b he ht => q a H' b (he.trans upd_same) ht
    | row u _ _ r hrt hd hr2 =>
      have hu := hrt.ok
      have hup := hu.pos
      have hul : u.cps.toList.length = u.length := Array.length_toList
      obtain ⟨c, hc0, _⟩ := hu.one
      have hc : z.cps.toList[n1]? = some c := by
        have e : (z.cps.toList.drop n1)[0]? = some c := by rw [hd, List.getElem?_append_left (by omega)]; exact hc0
        rwa [List.getElem?_drop, Nat.add_zero] at e
      have lt : n1 < z.length := by have := (List.getElem?_eq_some_iff.mp hc).1; omega
      have hrc : rcB c = true := List.all_eq_true.mp hu.all c (List.mem_of_getElem? hc0)
      have h34 : ¬ c = 34 := fun e => by rw [e] at hrc; exact absurd hrc (by decide)
      refine ifF (decide_eq_false (fun e => by have := V.int.inj e; omega)) ⟨_, rfl, x, _, dx, _, .str z, rfl, hx1, T.cl_Tokens, T.na_Tokens_source, rfl, _, rfl, x, _, dx, _, .int n1, rfl, hx1, T.cl_Tokens, T.na_Tokens_at, rfl, szle hz, c, atI_nat hc, rfl, ?_⟩
      rw [sgn_eq (d := 34) rfl, decide_eq_false h34]
      refine ifF rfl ⟨c, rfl, _, rfl, ?_⟩
      rw [hrc]
      refine ifT rfl ?_
      have hrun : runL rcB (z.cps.toList.drop n1) = u.length := by rw [hd, run_app hr2 hu.all, hul]
      have hle : n1 + u.length ≤ z.length := by
        have := congrArg List.length hd
        rw [List.length_drop, List.length_append, hul] at this
        omega
      have ec : cutS z (some (n1 : Int)) (some ((n1 + u.length : Nat) : Int)) = u := by
        have e := cut_mid hd
        rw [hul] at e
        rw [e]
      refine ⟨_, rfl, x, _, dx, _, .int n1, rfl, hx1, T.cl_Tokens, T.na_Tokens_at, rfl, ?_⟩
      refine ⟨_, rfl, x, _, dx, _, .str z, rfl, hx1, T.cl_Tokens, T.na_Tokens_source, rfl, _, rfl, z, n1, rfl, hn2, hz, ?_⟩
      rw [hrun]
      refine ⟨_, rfl, x, _, dx, _, rfl, hx1, T.cl_Tokens, T.na_Tokens_at, Nat.lt_of_le_of_lt ts_len (by decide), ?_⟩
      refine ⟨_, rfl, x, _, dx, _, .str z, rfl, upd_same, T.cl_Tokens, T.na_Tokens_source, rfl, _, rfl, _, rfl, _, rfl, x, _, dx, _, _, rfl, upd_same, T.cl_Tokens, T.na_Tokens_at, rfl, _, rfl, z, rfl, szle hz, _, rfl, _, rfl, ?_⟩
      rw [ec]
      exact ⟨u, k, v, _, _, rfl, hrt, fun a H' s' ht => q a H' (b1.trans (But.upd.trans (But.of_same s'))) (s' _ _ upd_same) ht⟩
end
end K02

namespace K02
open PySem PySem.Spec PyProof.Rows L2 Sg
section
variable {P : Program} [PF P] {w : World} {K : PySem.W.Frag} {mg : Str → Option Value} {base : Heap}
/-- BadText.__init__ -/
def btF (l c : Int) : List (Str × V) := [("column", .int c), ("line", .int l)]
def smallI (i : Int) : Prop := 0 ≤ i ∧ i ≤ 1000000
theorem smallI.log {i : Int} (h : smallI i) : i.natAbs.log2 < 1920 := by
  have h1 : i.natAbs < 2 ^ 20 := by
    have := h.1
    have := h.2
    have e : (2 : Nat) ^ 20 = 1048576 := by decide
    rw [e]
    omega
  by_cases h0 : i.natAbs = 0
  · rw [h0]
    decide
  · exact Nat.lt_of_lt_of_le ((Nat.log2_lt h0).mpr h1) (by decide)
def spBt (K : PySem.W.Frag) : Sp := fun vs H Q _ => ∃ (a : Addr) (l c : Int), vs = [.ref a, .int l, .int c] ∧ smallI l ∧ smallI c ∧ H a = some (exo a (He.ga K "BadText") none) ∧
  ∀ d, H d = none → d ≠ a → Q .non (upd (upd (upd H d (exd d [("line", .int l)])) a (exo a (He.ga K "BadText") (some d))) d (exd d (btF l c)))
theorem ok_BadText (T : Tx w K mg) : DkO P w K mg base 1 "BadText" ["self", "line", "column"] (spBt K) := by
  obtain ⟨oc, od, kV, doc, pm, an, ct, osl, cc, cda, lk, S⟩ := T.s_BadText.lk
  have PFP : PF P := inferInstance
  rw [← PFP.file] at S
  refine ⟨_, fn_sup (N := ["self", "line", "column", "__class__"]) (k := 0) lk rfl S T.s_BadText.ox (NdefX.nscope_by (by decide +kernel)) (ar := _) rfl rfl (by decide) (by decide +kernel) T.s_BadText.su PFP.nosup (by decide +kernel)
    (fun _ => rfl) (fun _ => rfl) (fun _ => rfl) (fun _ => ⟨_, rfl⟩) (fun vs H Q E h => ?_) (fun A outer s H vs Q E hr h => ?_), .all fun us hl => ?_⟩
  · obtain ⟨a, l, c, rfl, _⟩ := h
    rfl
  · obtain ⟨a, l, c, rfl, hl, hc, ha, q⟩ := h
    refine ⟨_, _, a, pa_cons (pe_joined (PJ.cons pe_str (PJ.cons (pe_fmt (pv 1)) (PJ.cons pe_str (PJ.cons (pe_fmt (pv 2)) PJ.nil))))) pa_nil, pss_cons (ps_ost (pv 0) (pv 1)) (pss_one (ps_ost (pv 0) (pv 2))), rfl, ha, ?_⟩
    have l1 := int_text_len_1921 hl.log
    have l2 := int_text_len_1921 hc.log
    have c1 : (Str.ofString "no program goes on at line ").length = 27 := by decide
    have c2 : (Str.ofString ", column ").length = 9 := by decide
    have c0 : Str.empty.length = 0 := rfl
    have nf1 : PySem.W.findIn K (.ref (He.ga K "BadText")) "line" = some none := T.s_BadText.nf _ (List.mem_cons_self ..)
    have nf2 : PySem.W.findIn K (.ref (He.ga K "BadText")) "column" = some none := T.s_BadText.nf _ (List.mem_cons_of_mem _ (List.mem_cons_self ..))
    have fin : ∀ (x : Str) , tSeq
          (tOst K "line" (tVar 0) (tVar 1))
          (tOst K "column" (tVar 0) (tVar 2))
          { nx := fun _ H' => Q V.non H', rt := Q } [some (.ref a), some (.int l), some (.int c), none] H := fun _ =>
      ⟨.int l, rfl, .ref a, rfl, a, _, rfl, T.s_BadText.ox, nf1, .inl ⟨ha, fun dx hn ne => ⟨.int c, rfl, .ref a, rfl, a, _, rfl, T.s_BadText.ox, nf2, .inr ⟨dx, [("line", .int l)], upd_same, (upd_ne ne).trans upd_same, by simp, q dx hn ne⟩⟩⟩⟩
    refine ⟨_, rfl, ?_, .int l, rfl, .inr ⟨l, rfl, hl.log, _, rfl, ?_, _, rfl, ?_, .int c, rfl, .inr ⟨c, rfl, hc.log, _, rfl, ?_, by simp, ha, fin Str.empty⟩⟩⟩
    all_goals
      simp only [strLen_append]
      refine szle (m := 4000) ?_
      omega
  · match us, hl with
    | [_, _, _], _ => rfl
theorem upd_none2 {H : Hp} {a d : Addr} {o : HO} (h : upd H a o d = none) : d ≠ a ∧ H d = none := by
  by_cases e : d = a
  · rw [e, upd_same] at h
    cases h
  · exact ⟨e, by rw [← h, upd_ne e]⟩
/-- what stands behind a refusal at line l, column c -/
def BadE (K : PySem.W.Frag) (l c : Int) (H : Hp) (E : XK) : Prop := ∀ d, H d = none → E (.ref (He.ga K "BadText")) (some d) (upd H d (.xd (btF l c)))
theorem mk_bad {H : Hp} {E : XK} {l c : Int} (hl : smallI l) (hc : smallI c) (q : BadE K l c H E) : ∀ a, H a = none → spBt K (.ref a :: ([.int l, .int c] ++ [])) (upd H a (exo a (He.ga K "BadText") none))
    (fun v H2 => v = .non ∧ ∃ (d : Addr) (fs : List (Str × V)), H2 a = some (exo a (He.ga K "BadText") (some d)) ∧ H2 d = some (exd d fs) ∧ H d = none ∧ E (.ref (He.ga K "BadText")) (some d) (upd (del H2 a) d (.xd fs))) (fun _ _ _ => False) := fun a ha => by
  refine ⟨a, l, c, rfl, hl, hc, upd_same, fun d hd ne => ⟨rfl, d, btF l c, ?_, upd_same, (upd_none2 hd).2, ?_⟩⟩
  · rw [upd_ne (Ne.symm ne), upd_same]
  · have e := oex_two (f1 := "line") (f2 := "column") (y1 := .int l) (y2 := .int c) (C := He.ga K "BadText") ha hd ne
    have e2 := q d (upd_none2 hd).2
    rw [show btF l c = [(("column" : Str), V.int c), (("line" : Str), V.int l)] from rfl] at e2 ⊢
    rw [e]
    exact e2
end
end K02

namespace K02
open PySem PySem.Spec PyProof.Rows L2 Sg
section
variable {P : Program} {w : World} {K : PySem.W.Frag} {mg : Str → Option Value} {base : Heap}
def woF (l : Addr) : List (Str × V) := putF "kept" (.ref l) []
def WoO (K : PySem.W.Frag) (dx l : Addr) : HO := .ins (He.ga K "Worths") dx (woF l)
theorem cutL_drop {xs : List V} {n : Nat} (h : n ≤ xs.length) : cutV xs (some (n : Int)) none = xs.drop n := by
  unfold cutV
  rw [HT.sIx_nat, Nat.min_eq_left h]
  show (xs.drop n).take (xs.length - n) = xs.drop n
  exact List.take_of_length_le (by rw [List.length_drop]; exact Nat.le_refl _)
theorem szlt' {n : Nat} (h : n < 10000000) : n < sizeLine := by
  rw [sizeLine_eq]
  omega
theorem sc_Worths_m___init__ : FnScope ["self"] ["self"] (defScope (clsAt (topS 36) 0)) := ⟨rfl, rfl, rfl, by decide +kernel, rfl, by decide +kernel, by decide +kernel⟩
theorem bd_Worths_m___init__ {K : PySem.W.Frag} {fd : FuncData} (F : FnM K "Worths" "__init__" "Worths.__init__" (clsAt (topS 36) 0) [] fd) : Binds K fd ["self"] [] := F.bindsN fun _ _ _ _ _ _ us hl => match us, hl with | [_], _ => rfl
def spWi (K : PySem.W.Frag) : Sp := fun vs H Q _ => ∃ x dx, vs = [.ref x] ∧ H x = some (.ins (He.ga K "Worths") dx []) ∧ ∀ l, H l = none → Q .non (upd (upd H l (.lst [])) x (WoO K dx l))
theorem ok_Worths_m___init__ (T : Tx w K mg) : DkM P w K mg base 1 "Worths" "__init__" ["self"] [] (spWi K) := by
  obtain ⟨fd, F⟩ := T.d_Worths_m___init__
  refine ⟨⟨fd, [], F.ok sc_Worths_m___init__ (fun vs H Q E h => ?_) (fun cdv A outer s H vs Q E hr h => ?_), bd_Worths_m___init__ F, .nil⟩⟩
  · obtain ⟨x, dx, rfl, _⟩ := h
    rfl
  · obtain ⟨x, dx, rfl, h1, q⟩ := h
    refine ⟨_, PSs.nox (pss_one (ps_fld (pv 0) (pe_lst pa_nil) rfl)), ?_⟩
    simp only [cxOf, tYes, eq_self, if_true, if_false, wipe, rLenQ, rIxTQ, rIxLQ, rIxSQ, rInt1Q, rTupQ, rAppQ, rPopQ, rPopAtQ, rRevQ, rListS, rReprP, tLenSetT, tChain, tRetN, tRet, tSeq, tAsg, gName, tVar, tC, tCons, tNil, tCB, tOp, rI0, rI, tAndV, tOrV, tNotV, tIf, tTest, tB, tNot, tAnd, tOr, tIfS, tNext, tCallR, rIsK, rEq, rNe, tDrop, L2.start, List.map_cons, List.map_nil, List.length_cons, List.length_nil, Nat.reduceAdd, Nat.reduceSub, Nat.sub_self, List.replicate_zero, List.replicate_succ, List.append_nil, List.cons_append, List.nil_append, List.getElem?_cons_zero, List.getElem?_cons_succ, List.set_cons_zero, List.set_cons_succ, Option.some.injEq, List.cons.injEq, and_true, true_and, exists_eq_left, exists_eq_left', exists_eq_right, V.ty.injEq, V.int.injEq, V.bl.injEq, V.str.injEq, V.ref.injEq, exists_and_left, exists_const, reduceIte, reduceCtorEq, false_and, and_false, exists_false, or_false, false_or, Bool.not_true, Bool.not_false, Bool.false_eq_true, String.reduceEq, true_or, or_true, rNotT, tNNew, tNNotIn, tNGet, sNPut, tLenSetN, tPar, tAug, ipI, tDNotIn, sDPut, tDGet, tTup, tLst, tBM, tBM0]
    simp only [sFld, tLst, tNil]
    refine ⟨Nat.zero_le _, fun l hl => ?_⟩
    refine ⟨_, rfl, x, _, dx, [], rfl, ?_, T.cl_Worths, T.na_Worths_kept, by decide, q l hl⟩
    rw [upd_ne fun e => by rw [e, hl] at h1; cases h1]
    exact h1
theorem sc_Worths_m_keep : FnScope ["self", "worth"] ["self", "worth"] (defScope (clsAt (topS 36) 1)) := ⟨rfl, rfl, rfl, by decide +kernel, rfl, by decide +kernel, by decide +kernel⟩
theorem bd_Worths_m_keep {K : PySem.W.Frag} {fd : FuncData} (F : FnM K "Worths" "keep" "Worths.keep" (clsAt (topS 36) 1) [] fd) : Binds K fd ["self", "worth"] [] := F.bindsN fun _ _ _ _ _ _ us hl => match us, hl with | [_, _], _ => rfl
def spWkp (K : PySem.W.Frag) : Sp := fun vs H Q _ => ∃ x dx l xs v, vs = [.ref x, v] ∧ H x = some (WoO K dx l) ∧ H l = some (.lst xs) ∧ xs.length < sizeLine ∧ Q .non (upd H l (.lst (xs ++ [v])))
theorem ok_Worths_m_keep (T : Tx w K mg) : DkM P w K mg base 1 "Worths" "keep" ["self", "worth"] [] (spWkp K) := by
  obtain ⟨fd, F⟩ := T.d_Worths_m_keep
  refine ⟨⟨fd, [], F.ok sc_Worths_m_keep (fun vs H Q E h => ?_) (fun cdv A outer s H vs Q E hr h => ?_), bd_Worths_m_keep F, .nil⟩⟩
  · obtain ⟨x, dx, l, xs, v, rfl, _⟩ := h
    rfl
  · obtain ⟨x, dx, l, xs, v, rfl, h1, h2, hz, q⟩ := h
    refine ⟨_, PSs.nox (pss_one (ps_expr (pe_bm PySem.F.plainAttrs_list PySem.F.slot_list_append PySem.F.type_list_append mt_appQ (pe_fld (pv 0) rfl) (pa_cons (pv 1) pa_nil)))), ?_⟩
    simp only [cxOf, tYes, eq_self, if_true, if_false, wipe, rLenQ, rIxTQ, rIxLQ, rIxSQ, rInt1Q, rTupQ, rAppQ, rPopQ, rPopAtQ, rRevQ, rListS, rReprP, tLenSetT, tChain, tRetN, tRet, tSeq, tAsg, gName, tVar, tC, tCons, tNil, tCB, tOp, rI0, rI, tAndV, tOrV, tNotV, tIf, tTest, tB, tNot, tAnd, tOr, tIfS, tNext, tCallR, rIsK, rEq, rNe, tDrop, L2.start, List.map_cons, List.map_nil, List.length_cons, List.length_nil, Nat.reduceAdd, Nat.reduceSub, Nat.sub_self, List.replicate_zero, List.replicate_succ, List.append_nil, List.cons_append, List.nil_append, List.getElem?_cons_zero, List.getElem?_cons_succ, List.set_cons_zero, List.set_cons_succ, Option.some.injEq, List.cons.injEq, and_true, true_and, exists_eq_left, exists_eq_left', exists_eq_right, V.ty.injEq, V.int.injEq, V.bl.injEq, V.str.injEq, V.ref.injEq, exists_and_left, exists_const, reduceIte, reduceCtorEq, false_and, and_false, exists_false, or_false, false_or, Bool.not_true, Bool.not_false, Bool.false_eq_true, String.reduceEq, true_or, or_true, rNotT, tNNew, tNNotIn, tNGet, sNPut, tLenSetN, tPar, tAug, ipI, tDNotIn, sDPut, tDGet, tTup, tLst, tBM, tBM0]
    exact ⟨_, rfl, x, _, dx, _, .ref l, rfl, h1, T.cl_Worths, T.na_Worths_kept, rfl, lst_ty h2, xs, h2, hz, q⟩
theorem sc_Worths_m_take : FnScope ["self", "many", "first", "found"] ["self", "many"] (defScope (clsAt (topS 36) 2)) := ⟨rfl, rfl, rfl, by decide +kernel, rfl, by decide +kernel, by decide +kernel⟩
theorem bd_Worths_m_take {K : PySem.W.Frag} {fd : FuncData} (F : FnM K "Worths" "take" "Worths.take" (clsAt (topS 36) 2) [] fd) : Binds K fd ["self", "many"] [] := F.bindsN fun _ _ _ _ _ _ us hl => match us, hl with | [_, _], _ => rfl
def spWt (K : PySem.W.Frag) : Sp := fun vs H Q _ => ∃ x dx l xs ys, vs = [.ref x, .int ((ys.length : Nat) : Int)] ∧ H x = some (WoO K dx l) ∧ H l = some (.lst (xs ++ ys)) ∧ ∀ p, H p = none → Q (.ref p) (upd (upd H p (.lst ys)) l (.lst xs))
theorem ok_Worths_m_take (T : Tx w K mg) : DkM P w K mg base 1 "Worths" "take" ["self", "many"] [] (spWt K) := by
  obtain ⟨fd, F⟩ := T.d_Worths_m_take
  refine ⟨⟨fd, [], F.ok sc_Worths_m_take (fun vs H Q E h => ?_) (fun cdv A outer s H vs Q E hr h => ?_), bd_Worths_m_take F, .nil⟩⟩
  · obtain ⟨x, dx, l, xs, ys, rfl, _⟩ := h
    rfl
  · obtain ⟨x, dx, l, xs, ys, rfl, h1, h2, q⟩ := h
    refine ⟨_, PSs.nox (pss_cons (ps_set (i := 2) sc_Worths_m_take.nd rfl (.inl rfl) (pe_op op_sub (pe_callB call_lenQ (by rfl) T.f_len PySem.boot_len (pa_cons (pe_fld (pv 0) rfl) pa_nil)) (pv 1)))
      (pss_cons (ps_set (i := 3) sc_Worths_m_take.nd rfl (.inl rfl) (pe_slice sl_list (pe_fld (pv 0) rfl) (po_some (pv 2)) po_none))
      (pss_cons (ps_delFrom (pe_fld (pv 0) rfl) (pv 2))
      (pss_one (ps_ret (pv 3)))))), ?_⟩
    simp only [cxOf, tYes, eq_self, if_true, if_false, wipe, rLenQ, rIxTQ, rIxLQ, rIxSQ, rInt1Q, rTupQ, rAppQ, rPopQ, rPopAtQ, rRevQ, rListS, rReprP, tLenSetT, tChain, tRetN, tRet, tSeq, tAsg, gName, tVar, tC, tCons, tNil, tCB, tOp, rI0, rI, tAndV, tOrV, tNotV, tIf, tTest, tB, tNot, tAnd, tOr, tIfS, tNext, tCallR, rIsK, rEq, rNe, tDrop, L2.start, List.map_cons, List.map_nil, List.length_cons, List.length_nil, Nat.reduceAdd, Nat.reduceSub, Nat.sub_self, List.replicate_zero, List.replicate_succ, List.append_nil, List.cons_append, List.nil_append, List.getElem?_cons_zero, List.getElem?_cons_succ, List.set_cons_zero, List.set_cons_succ, Option.some.injEq, List.cons.injEq, and_true, true_and, exists_eq_left, exists_eq_left', exists_eq_right, V.ty.injEq, V.int.injEq, V.bl.injEq, V.str.injEq, V.ref.injEq, exists_and_left, exists_const, reduceIte, reduceCtorEq, false_and, and_false, exists_false, or_false, false_or, Bool.not_true, Bool.not_false, Bool.false_eq_true, String.reduceEq, true_or, or_true, rNotT, tNNew, tNNotIn, tNGet, sNPut, tLenSetN, tPar, tAug, ipI, tDNotIn, sDPut, tDGet, tTup, tLst, tBM, tBM0]
    refine ⟨_, rfl, x, _, dx, _, .ref l, rfl, h1, T.cl_Worths, T.na_Worths_kept, rfl, ?_⟩
    refine ⟨_, .inl (.inl (.inl h2)), ?_⟩
    refine ⟨_, rfl, x, _, dx, _, .ref l, rfl, h1, T.cl_Worths, T.na_Worths_kept, rfl, ?_⟩
    have e : ((xs ++ ys).length : Int) - ((ys.length : Nat) : Int) = ((xs.length : Nat) : Int) := by rw [List.length_append]; omega
    rw [e]
    simp only [tPart, tNoPart, tVar]
    refine ⟨_, rfl, _, rfl, l, xs ++ ys, rfl, .inl (.inl h2), fun p hp => ?_⟩
    rw [cutL_drop (by rw [List.length_append]; omega), List.drop_left]
    have hne : l ≠ p := fun e => by rw [e, hp] at h2; cases h2
    have hne2 : x ≠ p := fun e => by rw [e, hp] at h1; cases h1
    refine ⟨_, rfl, x, _, dx, _, .ref l, rfl, (upd_ne hne2).trans h1, T.cl_Worths, T.na_Worths_kept, rfl, _, rfl, l, xs ++ ys, xs.length, rfl, rfl, (upd_ne hne).trans h2, by rw [List.length_append]; omega, ?_⟩
    rw [List.take_left]
    exact ⟨_, rfl, q p hp⟩
theorem took {H : Hp} {x l p dx : Addr} {zs xs ys : List V} (h1 : H x = some (WoO K dx l)) (h2 : H l = some (.lst zs)) (hp : H p = none) :
    ∃ H2, upd (upd H p (.lst ys)) l (.lst xs) = H2 ∧ H2 x = some (WoO K dx l) ∧ H2 l = some (.lst xs) ∧ H2 p = some (.lst ys) ∧ But l H H2 ∧ p ≠ l := by
  have hpl : p ≠ l := fun e => by rw [← e, hp] at h2; cases h2
  have hpx : x ≠ p := fun e => by rw [e, hp] at h1; cases h1
  have hxl : x ≠ l := fun e => by rw [e, h2] at h1; cases h1
  exact ⟨_, rfl, (upd_ne hxl).trans ((upd_ne hpx).trans h1), upd_same, (upd_ne hpl).trans upd_same, (But.of_same (same_upd hp)).trans But.upd, hpl⟩
theorem laid_at {H : Hp} {x l p dx : Addr} {xs : List V} {o : HO} (h1 : H x = some (WoO K dx l)) (h2 : H l = some (.lst xs)) (hp : H p = none) :
    ∃ H2, upd H p o = H2 ∧ H2 x = some (WoO K dx l) ∧ H2 l = some (.lst xs) ∧ H2 p = some o ∧ Same H H2 ∧ p ≠ l := by
  have hpl : p ≠ l := fun e => by rw [← e, hp] at h2; cases h2
  have hpx : x ≠ p := fun e => by rw [e, hp] at h1; cases h1
  exact ⟨_, rfl, (upd_ne hpx).trans h1, (upd_ne (Ne.symm hpl)).trans h2, upd_same, same_upd hp, hpl⟩
theorem sc_Worths_m_make : FnScope ["self", "symbol", "word", "many", "_", "rest", "name"] ["self", "symbol"] (defScope (clsAt (topS 36) 3)) := ⟨rfl, rfl, rfl, by decide +kernel, rfl, by decide +kernel, by decide +kernel⟩
theorem bd_Worths_m_make {K : PySem.W.Frag} {fd : FuncData} (F : FnM K "Worths" "make" "Worths.make" (clsAt (topS 36) 3) [] fd) : Binds K fd ["self", "symbol"] [] := F.bindsN fun _ _ _ _ _ _ us hl => match us, hl with | [_, _], _ => rfl
def spWm (K : PySem.W.Frag) : Sp := fun vs H Q _ => ∃ x dx l xs ys t, vs = [.ref x, .ref t] ∧ H x = some (WoO K dx l) ∧ H l = some (.lst (xs ++ ys)) ∧ xs.length + ys.length < 10000000 ∧
  ((∃ wd : Str, SqT K H t [.str wd, .int ((ys.length : Nat) : Int)] ∧ ∀ p H', But l H H' → H' l = some (.lst (xs ++ [.ref p])) → H' p = some (.tup (.str wd :: ys)) → Q .non H') ∨
   (∃ (wd cl : Str) (f : V) (zs : List V), ys = f :: zs ∧ SqT K H t [.str cl, .str wd, .int ((zs.length : Nat) : Int)] ∧ ∀ p q H', But l H H' → H' l = some (.lst (xs ++ [.ref p])) → H' q = some (.tup zs) → H' p = some (.tup [.str (Str.ofString "claim"), .str wd, f, .ref q]) → Q .non H'))
theorem ok_Worths_m_make (T : Tx w K mg) : DkM P w K mg base 2 "Worths" "make" ["self", "symbol"] [] (spWm K) := by
  have D_Worths_m_keep := ok_Worths_m_keep (P := P) (w := w) (base := base) T
  have D_Worths_m_take := ok_Worths_m_take (P := P) (w := w) (base := base) T
  obtain ⟨fd, F⟩ := T.d_Worths_m_make
  refine ⟨⟨fd, [], F.ok sc_Worths_m_make (fun vs H Q E h => ?_) (fun cdv A outer s H vs Q E hr h => ?_), bd_Worths_m_make F, .nil⟩⟩
  · obtain ⟨x, dx, l, xs, ys, t, rfl, _⟩ := h
    rfl
  · obtain ⟨x, dx, l, xs, ys, t, rfl, h1, h2, hz, h⟩ := h
    refine ⟨_, PSs.nox (pss_cons (ps_if (pt_cmpR op_eq (pe_callB call_lenQ (by rfl) T.f_len PySem.boot_len (pa_cons (pv 1) pa_nil)) pe_int (nomark _)) (pss_cons (ps_asg (pv 1) (pg_tup (by rfl) (pgs_cons (pg_name (i := 2) sc_Worths_m_make.nd rfl (.inl rfl)) (pgs_cons (pg_name (i := 3) sc_Worths_m_make.nd rfl (.inl rfl)) pgs_nil))))
      (pss_cons (ps_expr (pe_methR (pv 0) T.cl_Worths T.m_Worths_keep D_Worths_m_keep (hr.mono (by decide)) (pa_cons (pe_tup (pa_cons (pv 2) (StX.pa_star (pe_methR (pv 0) T.cl_Worths T.m_Worths_take D_Worths_m_take (hr.mono (by decide)) (pa_cons (pv 3) pa_nil)) pa_nil))) pa_nil)))
      (pss_one ps_retN))) pss_nil)
      (pss_cons (ps_asg (pv 1) (pg_tup (by rfl) (pgs_cons (pg_name (i := 4) sc_Worths_m_make.nd rfl (.inl rfl)) (pgs_cons (pg_name (i := 2) sc_Worths_m_make.nd rfl (.inl rfl)) (pgs_cons (pg_name (i := 3) sc_Worths_m_make.nd rfl (.inl rfl)) pgs_nil)))))
      (pss_cons (ps_set (i := 5) sc_Worths_m_make.nd rfl (.inl rfl) (pe_callTy call_tupQ (by rfl) T.f_tuple PyProof.Rows.boot_tuple (pa_cons (pe_methR (pv 0) T.cl_Worths T.m_Worths_take D_Worths_m_take (hr.mono (by decide)) (pa_cons (pv 3) pa_nil)) pa_nil)))
      (pss_cons (ps_set (i := 6) sc_Worths_m_make.nd rfl (.inl rfl) (pe_ix ix_listQ (pe_methR (pv 0) T.cl_Worths T.m_Worths_take D_Worths_m_take (hr.mono (by decide)) (pa_cons pe_int pa_nil)) pe_int (fun _ _ => rfl)))
      (pss_one (ps_expr (pe_methR (pv 0) T.cl_Worths T.m_Worths_keep D_Worths_m_keep (hr.mono (by decide)) (pa_cons (pe_tup (pa_cons pe_str (pa_cons (pv 2) (pa_cons (pv 6) (pa_cons (pv 5) pa_nil))))) pa_nil)))))))), ?_⟩
    simp only [cxOf, tYes, eq_self, if_true, if_false, wipe, rLenQ, rIxTQ, rIxLQ, rIxSQ, rInt1Q, rTupQ, rAppQ, rPopQ, rPopAtQ, rRevQ, rListS, rReprP, tLenSetT, tChain, tRetN, tRet, tSeq, tAsg, gName, tVar, tC, tCons, tNil, tCB, tOp, rI0, rI, tAndV, tOrV, tNotV, tIf, tTest, tB, tNot, tAnd, tOr, tIfS, tNext, tCallR, rIsK, rEq, rNe, tDrop, L2.start, List.map_cons, List.map_nil, List.length_cons, List.length_nil, Nat.reduceAdd, Nat.reduceSub, Nat.sub_self, List.replicate_zero, List.replicate_succ, List.append_nil, List.cons_append, List.nil_append, List.getElem?_cons_zero, List.getElem?_cons_succ, List.set_cons_zero, List.set_cons_succ, Option.some.injEq, List.cons.injEq, and_true, true_and, exists_eq_left, exists_eq_left', exists_eq_right, V.ty.injEq, V.int.injEq, V.bl.injEq, V.str.injEq, V.ref.injEq, exists_and_left, exists_const, reduceIte, reduceCtorEq, false_and, and_false, exists_false, or_false, false_or, Bool.not_true, Bool.not_false, Bool.false_eq_true, String.reduceEq, true_or, or_true, rNotT, tNNew, tNNotIn, tNGet, sNPut, tLenSetN, tPar, tAug, ipI, tDNotIn, sDPut, tDGet, tTup, tLst, tBM, tBM0]
    rcases h with ⟨wd, ht, q⟩ | ⟨wd, cl, f, zs, rfl, ht, q⟩
    · refine ⟨_, .inr ht, rfl, ifT rfl ⟨t, _, rfl, ht, rfl, ?_⟩⟩
      simp only [gCons, gNil, tTup, StX.tStar, cxOf, tYes, eq_self, if_true, if_false, wipe, rLenQ, rIxTQ, rIxLQ, rIxSQ, rInt1Q, rTupQ, rAppQ, rPopQ, rPopAtQ, rRevQ, rListS, rReprP, tLenSetT, tChain, tRetN, tRet, tSeq, tAsg, gName, tVar, tC, tCons, tNil, tCB, tOp, rI0, rI, tAndV, tOrV, tNotV, tIf, tTest, tB, tNot, tAnd, tOr, tIfS, tNext, tCallR, rIsK, rEq, rNe, tDrop, L2.start, List.map_cons, List.map_nil, List.length_cons, List.length_nil, Nat.reduceAdd, Nat.reduceSub, Nat.sub_self, List.replicate_zero, List.replicate_succ, List.append_nil, List.cons_append, List.nil_append, List.getElem?_cons_zero, List.getElem?_cons_succ, List.set_cons_zero, List.set_cons_succ, Option.some.injEq, List.cons.injEq, and_true, true_and, exists_eq_left, exists_eq_left', exists_eq_right, V.ty.injEq, V.int.injEq, V.bl.injEq, V.str.injEq, V.ref.injEq, exists_and_left, exists_const, reduceIte, reduceCtorEq, false_and, and_false, exists_false, or_false, false_or, Bool.not_true, Bool.not_false, Bool.false_eq_true, String.reduceEq, true_or, or_true]
      refine ⟨_, _, ⟨rfl, rfl⟩, _, _, rfl, rfl, _, rfl, x, dx, _, rfl, h1, rfl, ?_⟩
      simp only [tCons, tNil, tTup, StX.tStar, tVar]
      refine ⟨_, rfl, _, rfl, x, dx, _, rfl, h1, rfl, _, rfl, x, dx, l, xs, ys, rfl, h1, h2, fun p hp => ?_⟩
      obtain ⟨H2, e2, g1, g2, g3, b2, hpl⟩ := took (xs := xs) (ys := ys) h1 h2 hp
      rw [e2]
      refine ⟨p, ys, rfl, .inr (.inl (.inl g3)), ?_⟩
      rw [List.append_nil]
      refine ⟨by rw [List.length_cons]; exact szlt' (by omega), fun q1 hq => ?_⟩
      obtain ⟨H3, e3, k1, k2, k3, s3, hq1⟩ := laid_at (o := .tup (.str wd :: ys)) g1 g2 hq
      rw [e3]
      have hk3 : upd H3 l (.lst (xs ++ [.ref q1])) q1 = some (.tup (.str wd :: ys)) := (upd_ne hq1).trans k3
      exact ⟨x, dx, l, xs, _, rfl, k1, k2, szlt' (by omega), q q1 _ ((b2.trans (But.of_same s3)).trans But.upd) upd_same hk3⟩
    · refine ⟨_, .inr ht, rfl, ifF rfl ⟨t, _, rfl, ht, rfl, ?_⟩⟩
      simp only [gCons, gNil, tTup, StX.tStar, cxOf, tYes, eq_self, if_true, if_false, wipe, rLenQ, rIxTQ, rIxLQ, rIxSQ, rInt1Q, rTupQ, rAppQ, rPopQ, rPopAtQ, rRevQ, rListS, rReprP, tLenSetT, tChain, tRetN, tRet, tSeq, tAsg, gName, tVar, tC, tCons, tNil, tCB, tOp, rI0, rI, tAndV, tOrV, tNotV, tIf, tTest, tB, tNot, tAnd, tOr, tIfS, tNext, tCallR, rIsK, rEq, rNe, tDrop, L2.start, List.map_cons, List.map_nil, List.length_cons, List.length_nil, Nat.reduceAdd, Nat.reduceSub, Nat.sub_self, List.replicate_zero, List.replicate_succ, List.append_nil, List.cons_append, List.nil_append, List.getElem?_cons_zero, List.getElem?_cons_succ, List.set_cons_zero, List.set_cons_succ, Option.some.injEq, List.cons.injEq, and_true, true_and, exists_eq_left, exists_eq_left', exists_eq_right, V.ty.injEq, V.int.injEq, V.bl.injEq, V.str.injEq, V.ref.injEq, exists_and_left, exists_const, reduceIte, reduceCtorEq, false_and, and_false, exists_false, or_false, false_or, Bool.not_true, Bool.not_false, Bool.false_eq_true, String.reduceEq, true_or, or_true]
      refine ⟨_, _, ⟨rfl, rfl⟩, _, _, rfl, _, _, rfl, rfl, ?_⟩
      rw [show xs ++ f :: zs = (xs ++ [f]) ++ zs by rw [List.append_assoc]; rfl] at h2
      rw [List.length_cons] at hz
      refine ⟨_, rfl, x, dx, _, rfl, h1, rfl, _, rfl, x, dx, l, xs ++ [f], zs, rfl, h1, h2, fun p hp => ?_⟩
      obtain ⟨H2, e2, g1, g2, g3, b2, hpl⟩ := took (xs := xs ++ [f]) (ys := zs) h1 h2 hp
      rw [e2]
      refine ⟨zs, .inl (.inl g3), fun q1 hq => ?_⟩
      obtain ⟨H3, e3, k1, k2, k3, s3, hq1⟩ := laid_at (o := .tup zs) g1 g2 hq
      rw [e3]
      refine ⟨_, rfl, x, dx, _, rfl, k1, rfl, x, dx, l, xs, [f], rfl, k1, k2, fun p4 hp4 => ?_⟩
      obtain ⟨H4, e4, j1, j2, j3, b4, hp4l⟩ := took (xs := xs) (ys := [f]) k1 k2 hp4
      rw [e4]
      refine ⟨[f], .inl (.inl j3), f, rfl, _, rfl, x, dx, _, rfl, j1, rfl, ?_⟩
      simp only [tCons, tNil, tTup, tVar, tC]
      refine ⟨_, rfl, _, rfl, _, rfl, szle (m := 4) (Nat.le_refl 4), fun p5 hp5 => ?_⟩
      obtain ⟨H5, e5, i1, i2, i3, s5, hp5l⟩ := laid_at (o := .tup [.str (Str.ofString "claim"), .str wd, f, .ref q1]) j1 j2 hp5
      rw [e5]
      have hk3 : upd H5 l (.lst (xs ++ [.ref p5])) p5 = some (.tup [.str (Str.ofString "claim"), .str wd, f, .ref q1]) := (upd_ne hp5l).trans i3
      have hq3 : upd H5 l (.lst (xs ++ [.ref p5])) q1 = some (.tup zs) := (upd_ne hq1).trans (s5 _ _ (b4 q1 _ hq1 k3))
      exact ⟨x, dx, l, xs, _, rfl, i1, i2, szlt' (by omega), q p5 q1 _ (((((b2.trans (But.of_same s3)).trans b4).trans (But.of_same s5))).trans But.upd) upd_same hq3 hk3⟩
theorem sc_Worths_m_do : FnScope ["self", "deed", "row", "worth"] ["self", "deed"] (defScope (clsAt (topS 36) 4)) := ⟨rfl, rfl, rfl, by decide +kernel, rfl, by decide +kernel, by decide +kernel⟩
theorem bd_Worths_m_do {K : PySem.W.Frag} {fd : FuncData} (F : FnM K "Worths" "do" "Worths.do" (clsAt (topS 36) 4) [] fd) : Binds K fd ["self", "deed"] [] := F.bindsN fun _ _ _ _ _ _ us hl => match us, hl with | [_, _], _ => rfl
def spWd (K : PySem.W.Frag) : Sp := fun vs H Q _ => ∃ x dx l z, vs = [.ref x, .str z] ∧ H x = some (WoO K dx l) ∧
  ((z = Str.ofString "!open" ∧ ∃ xs, H l = some (.lst xs) ∧ xs.length < 10000000 ∧ ∀ p H', But l H H' → H' l = some (.lst (xs ++ [.ref p])) → H' p = some (.lst []) → H p = none → Q .non H') ∨
   (z = Str.ofString "!add" ∧ ∃ xs a rs v, H l = some (.lst (xs ++ [.ref a, v])) ∧ H a = some (.lst rs) ∧ a ≠ l ∧ xs.length < 10000000 ∧ rs.length < 10000000 ∧ ∀ H', (∀ b o, b ≠ l → b ≠ a → H b = some o → H' b = some o) → H' l = some (.lst (xs ++ [.ref a])) → H' a = some (.lst (rs ++ [v])) → Q .non H') ∨
   (z = Str.ofString "!close" ∧ ∃ xs a rs, H l = some (.lst (xs ++ [.ref a])) ∧ H a = some (.lst rs) ∧ a ≠ l ∧ xs.length < 10000000 ∧ ∀ p H', But l H H' → H' l = some (.lst (xs ++ [.ref p])) → H' p = some (.tup rs) → Q .non H') ∨
   (z = Str.ofString "!pair" ∧ ∃ xs u v, H l = some (.lst (xs ++ [u, v])) ∧ xs.length < 10000000 ∧ ∀ p H', But l H H' → H' l = some (.lst (xs ++ [.ref p])) → H' p = some (.tup [u, v]) → Q .non H'))
theorem ok_Worths_m_do (T : Tx w K mg) : DkM P w K mg base 2 "Worths" "do" ["self", "deed"] [] (spWd K) := by
  have D_Worths_m_keep := ok_Worths_m_keep (P := P) (w := w) (base := base) T
  have D_Worths_m_take := ok_Worths_m_take (P := P) (w := w) (base := base) T
  obtain ⟨fd, F⟩ := T.d_Worths_m_do
  refine ⟨⟨fd, [], F.ok sc_Worths_m_do (fun vs H Q E h => ?_) (fun cdv A outer s H vs Q E hr h => ?_), bd_Worths_m_do F, .nil⟩⟩
  · obtain ⟨x, dx, l, z, rfl, _⟩ := h
    rfl
  · obtain ⟨x, dx, l, z, rfl, h1, h⟩ := h
    refine ⟨_, PSs.nox (pss_one (ps_if (pt_cmpR op_eq (pv 1) pe_str (nomark _)) (pss_one (ps_expr (pe_methR (pv 0) T.cl_Worths T.m_Worths_keep D_Worths_m_keep (hr.mono (by decide)) (pa_cons (pe_lst pa_nil) pa_nil)))) (pss_one (ps_if (pt_cmpR op_eq (pv 1) pe_str (nomark _)) (pss_cons (ps_asg (pe_methR (pv 0) T.cl_Worths T.m_Worths_take D_Worths_m_take (hr.mono (by decide)) (pa_cons pe_int pa_nil)) (pg_unl (by rfl) (pgs_cons (pg_name (i := 2) sc_Worths_m_do.nd rfl (.inl rfl)) (pgs_cons (pg_name (i := 3) sc_Worths_m_do.nd rfl (.inl rfl)) pgs_nil))))
      (pss_cons (ps_expr (pe_bm PySem.F.plainAttrs_list PySem.F.slot_list_append PySem.F.type_list_append mt_appQ (pv 2) (pa_cons (pv 3) pa_nil)))
      (pss_one (ps_expr (pe_methR (pv 0) T.cl_Worths T.m_Worths_keep D_Worths_m_keep (hr.mono (by decide)) (pa_cons (pv 2) pa_nil)))))) (pss_one (ps_if (pt_cmpR op_eq (pv 1) pe_str (nomark _)) (pss_cons (ps_set (i := 2) sc_Worths_m_do.nd rfl (.inl rfl) (pe_ix ix_listQ (pe_methR (pv 0) T.cl_Worths T.m_Worths_take D_Worths_m_take (hr.mono (by decide)) (pa_cons pe_int pa_nil)) pe_int (fun _ _ => rfl)))
      (pss_one (ps_expr (pe_methR (pv 0) T.cl_Worths T.m_Worths_keep D_Worths_m_keep (hr.mono (by decide)) (pa_cons (pe_callTy call_tupQ (by rfl) T.f_tuple PyProof.Rows.boot_tuple (pa_cons (pv 2) pa_nil)) pa_nil))))) (pss_one (ps_expr (pe_methR (pv 0) T.cl_Worths T.m_Worths_keep D_Worths_m_keep (hr.mono (by decide)) (pa_cons (pe_callTy call_tupQ (by rfl) T.f_tuple PyProof.Rows.boot_tuple (pa_cons (pe_methR (pv 0) T.cl_Worths T.m_Worths_take D_Worths_m_take (hr.mono (by decide)) (pa_cons pe_int pa_nil)) pa_nil)) pa_nil)))))))))), ?_⟩
    simp only [cxOf, tYes, eq_self, if_true, if_false, wipe, rLenQ, rIxTQ, rIxLQ, rIxSQ, rInt1Q, rTupQ, rAppQ, rPopQ, rPopAtQ, rRevQ, rListS, rReprP, tLenSetT, tChain, tRetN, tRet, tSeq, tAsg, gName, tVar, tC, tCons, tNil, tCB, tOp, rI0, rI, tAndV, tOrV, tNotV, tIf, tTest, tB, tNot, tAnd, tOr, tIfS, tNext, tCallR, rIsK, rEq, rNe, tDrop, L2.start, List.map_cons, List.map_nil, List.length_cons, List.length_nil, Nat.reduceAdd, Nat.reduceSub, Nat.sub_self, List.replicate_zero, List.replicate_succ, List.append_nil, List.cons_append, List.nil_append, List.getElem?_cons_zero, List.getElem?_cons_succ, List.set_cons_zero, List.set_cons_succ, Option.some.injEq, List.cons.injEq, and_true, true_and, exists_eq_left, exists_eq_left', exists_eq_right, V.ty.injEq, V.int.injEq, V.bl.injEq, V.str.injEq, V.ref.injEq, exists_and_left, exists_const, reduceIte, reduceCtorEq, false_and, and_false, exists_false, or_false, false_or, Bool.not_true, Bool.not_false, Bool.false_eq_true, String.reduceEq, true_or, or_true, rNotT, tNNew, tNNotIn, tNGet, sNPut, tLenSetN, tPar, tAug, ipI, tDNotIn, sDPut, tDGet, tTup, tLst, tBM, tBM0]
    rcases h with ⟨rfl, h⟩ | ⟨rfl, h⟩ | ⟨rfl, h⟩ | ⟨rfl, h⟩
    · obtain ⟨xs, h2, hz, q⟩ := h
      refine ⟨rfl, ifT rfl ?_⟩
      refine ⟨_, rfl, x, dx, _, rfl, h1, rfl, ?_⟩
      simp only [tCons, tNil, tLst]
      refine ⟨Nat.zero_le _, fun p hp => ?_⟩
      have hne : l ≠ p := fun e => by rw [e, hp] at h2; cases h2
      have hne2 : x ≠ p := fun e => by rw [e, hp] at h1; cases h1
      refine ⟨x, dx, l, xs, _, rfl, (upd_ne hne2).trans h1, (upd_ne hne).trans h2, szlt' hz, q p _ ((But.of_same (same_upd hp)).trans But.upd) upd_same ((upd_ne (Ne.symm hne)).trans upd_same) hp⟩
    · obtain ⟨xs, a, rs, v, h2, h3, hne, hz, hz2, q⟩ := h
      refine ⟨rfl, ifF rfl ⟨rfl, ifT rfl ?_⟩⟩
      refine ⟨_, rfl, x, dx, _, rfl, h1, rfl, x, dx, l, xs, [.ref a, v], rfl, h1, h2, fun p hp => ?_⟩
      obtain ⟨H2, e2, g1, g2, g3, b2, hpl⟩ := took (xs := xs) (ys := [.ref a, v]) h1 h2 hp
      rw [e2]
      have ga : H2 a = some (.lst rs) := b2 a _ hne h3
      refine ⟨p, _, rfl, .inl (.inl g3), rfl, ?_⟩
      simp only [gCons, gNil, cxOf, tYes, eq_self, if_true, if_false, wipe, rLenQ, rIxTQ, rIxLQ, rIxSQ, rInt1Q, rTupQ, rAppQ, rPopQ, rPopAtQ, rRevQ, rListS, rReprP, tLenSetT, tChain, tRetN, tRet, tSeq, tAsg, gName, tVar, tC, tCons, tNil, tCB, tOp, rI0, rI, tAndV, tOrV, tNotV, tIf, tTest, tB, tNot, tAnd, tOr, tIfS, tNext, tCallR, rIsK, rEq, rNe, tDrop, L2.start, List.map_cons, List.map_nil, List.length_cons, List.length_nil, Nat.reduceAdd, Nat.reduceSub, Nat.sub_self, List.replicate_zero, List.replicate_succ, List.append_nil, List.cons_append, List.nil_append, List.getElem?_cons_zero, List.getElem?_cons_succ, List.set_cons_zero, List.set_cons_succ, Option.some.injEq, List.cons.injEq, and_true, true_and, exists_eq_left, exists_eq_left', exists_eq_right, V.ty.injEq, V.int.injEq, V.bl.injEq, V.str.injEq, V.ref.injEq, exists_and_left, exists_const, reduceIte, reduceCtorEq, false_and, and_false, exists_false, or_false, false_or, Bool.not_true, Bool.not_false, Bool.false_eq_true, String.reduceEq, true_or, or_true]
      refine ⟨_, _, ⟨rfl, rfl⟩, _, _, rfl, rfl, ?_⟩
      refine ⟨_, rfl, lst_ty ga, _, rfl, rs, ga, szlt' hz2, ?_⟩
      have hxa : x ≠ a := fun e => by rw [e, ga] at g1; cases g1
      have n1 : upd H2 a (.lst (rs ++ [v])) x = some (WoO K dx l) := (upd_ne hxa).trans g1
      have n2 : upd H2 a (.lst (rs ++ [v])) l = some (.lst xs) := (upd_ne (Ne.symm hne)).trans g2
      refine ⟨_, rfl, x, dx, _, rfl, n1, rfl, _, rfl, x, dx, l, xs, _, rfl, n1, n2, szlt' hz, q _ (fun b o hb hb2 e => ?_) upd_same ((upd_ne hne).trans upd_same)⟩
      rw [upd_ne hb, upd_ne hb2]
      exact b2 b o hb e
    · obtain ⟨xs, a, rs, h2, h3, hne, hz, q⟩ := h
      refine ⟨rfl, ifF rfl ⟨rfl, ifF rfl ⟨rfl, ifT rfl ?_⟩⟩⟩
      refine ⟨_, rfl, x, dx, _, rfl, h1, rfl, x, dx, l, xs, [.ref a], rfl, h1, h2, fun p hp => ?_⟩
      obtain ⟨H2, e2, g1, g2, g3, b2, hpl⟩ := took (xs := xs) (ys := [.ref a]) h1 h2 hp
      rw [e2]
      have ga : H2 a = some (.lst rs) := b2 a _ hne h3
      refine ⟨[.ref a], .inl (.inl g3), _, rfl, _, rfl, x, dx, _, rfl, g1, rfl, _, rfl, rs, .inl (.inl ga), fun q1 hq => ?_⟩
      obtain ⟨H3, e3, k1, k2, k3, s3, hq1⟩ := laid_at (o := .tup rs) g1 g2 hq
      rw [e3]
      have hk3 : upd H3 l (.lst (xs ++ [.ref q1])) q1 = some (.tup rs) := (upd_ne hq1).trans k3
      exact ⟨x, dx, l, xs, _, rfl, k1, k2, szlt' hz, q q1 _ ((b2.trans (But.of_same s3)).trans But.upd) upd_same hk3⟩
    · obtain ⟨xs, u, v, h2, hz, q⟩ := h
      refine ⟨rfl, ifF rfl ⟨rfl, ifF rfl ⟨rfl, ifF rfl ?_⟩⟩⟩
      refine ⟨_, rfl, x, dx, _, rfl, h1, rfl, _, rfl, x, dx, _, rfl, h1, rfl, x, dx, l, xs, [u, v], rfl, h1, h2, fun p hp => ?_⟩
      obtain ⟨H2, e2, g1, g2, g3, b2, hpl⟩ := took (xs := xs) (ys := [u, v]) h1 h2 hp
      rw [e2]
      refine ⟨[u, v], .inl (.inl g3), fun q1 hq => ?_⟩
      obtain ⟨H3, e3, k1, k2, k3, s3, hq1⟩ := laid_at (o := .tup [u, v]) g1 g2 hq
      rw [e3]
      have hk3 : upd H3 l (.lst (xs ++ [.ref q1])) q1 = some (.tup [u, v]) := (upd_ne hq1).trans k3
      exact ⟨x, dx, l, xs, _, rfl, k1, k2, szlt' hz, q q1 _ ((b2.trans (But.of_same s3)).trans But.upd) upd_same hk3⟩
end
end K02

/-! what is a looker, of data of any shape -/
namespace Sg
open PySem PySem.Spec PyProof.Rows L2
mutual
def noL : PyData → Bool
  | .list _ => false
  | .dict _ => false
  | .tuple ds => noLs ds
  | _ => true
def noLs : List PyData → Bool
  | [] => true
  | d :: ds => noL d && noLs ds
end
theorem noLs_mem : ∀ {ds : List PyData} {d : PyData}, noLs ds = true → d ∈ ds → noL d = true
  | e :: ds, d, h, hd => by
    have h2 : (noL e && noLs ds) = true := by simpa [noLs] using h
    rw [Bool.and_eq_true] at h2
    rcases List.mem_cons.mp hd with rfl | hd
    · exact h2.1
    · exact noLs_mem h2.2 hd
theorem noLs_all : ∀ {ds : List PyData}, (∀ d ∈ ds, noL d = true) → noLs ds = true
  | [], _ => by simp [noLs]
  | e :: ds, h => by
    have : (noL e && noLs ds) = true := by rw [h e List.mem_cons_self, noLs_all fun d hd => h d (List.mem_cons_of_mem _ hd)]; rfl
    simpa [noLs] using this
theorem noL_tup {ds : List PyData} : noL (.tuple ds) = noLs ds := by simp [noL]
theorem len2 {α : Type} {l : List α} (h : l.length = 2) : ∃ a b, l = [a, b] := by
  cases l with
  | nil => cases h
  | cons a l =>
    cases l with
    | nil => cases h
    | cons b l =>
      cases l with
      | nil => exact ⟨a, b, rfl⟩
      | cons c l => simp at h
def btD : PyData → Bool
  | .int i => decide (0 ≤ i) && decide (i ≤ 1)
  | _ => false
def stD (n : Int) : PyData → Bool
  | .int i => decide (0 ≤ i) && decide (i < n)
  | _ => false
def sgD : PyData → Bool
  | .str z => sgB z
  | _ => false
def sgV : V → Bool
  | .str z => sgB z
  | _ => false
def rowN (n : Int) : PyData → Bool
  | .tuple ds => decide ((ds.length : Int) = n)
  | _ => false
def rowLk (n w : Nat) : PyData → Bool
  | .tuple [e, .tuple ts] => btD e && (decide (ts.length = w) && ts.all (stD n))
  | _ => false
def lkB : PyData → Bool
  | .tuple [.str z, .tuple ss] => sgB z && (decide (1 ≤ ss.length) && (decide (ss.length ≤ 600) && ss.all (rowLk ss.length z.length)))
  | _ => false
section
variable {K : PySem.W.Frag} {H H' : Hp} {v : V} {d : PyData}
theorem Dp.kd (h : Dp K H v d) (n : noL d = true) : Kd K H v := by
  cases h with
  | non => exact .non
  | bl b => exact .bl b
  | int i => exact .int i
  | str x => exact .str x
  | lst h1 h2 => simp [noL] at n
  | tup h1 h2 => exact .tup h1
theorem Dp.bt (h : Dp K H v d) : isBt v = btD d := by cases h <;> rfl
theorem Dp.st (h : Dp K H v d) (n : Int) : isSt n v = stD n d := by cases h <;> rfl
theorem Dp.sg (h : Dp K H v d) : sgV v = sgD d := by cases h <;> rfl
theorem dpAll_len : ∀ {vs : List V} {ds : List PyData}, DpAll K H vs ds → vs.length = ds.length
  | _, _, .nil => rfl
  | _, _, .cons _ h => congrArg Nat.succ (dpAll_len h)
theorem dpAll_get : ∀ {vs : List V} {ds : List PyData} {i : Nat} {x : V}, DpAll K H vs ds → vs[i]? = some x → ∃ e, ds[i]? = some e ∧ Dp K H x e
  | _, _, _, _, .nil, h => by simp at h
  | _, _, 0, _, .cons h1 _, h => by
    obtain rfl := Option.some.inj h
    exact ⟨_, rfl, h1⟩
  | _, _, i + 1, _, .cons _ h2, h => dpAll_get (i := i) h2 h
theorem dpAll_of : ∀ {vs : List V} {ds : List PyData}, vs.length = ds.length → (∀ (i : Nat) (x : V) (e : PyData), vs[i]? = some x → ds[i]? = some e → Dp K H x e) → DpAll K H vs ds
  | [], [], _, _ => .nil
  | x :: vs, e :: ds, hl, h => .cons (h 0 x e rfl rfl) (dpAll_of (Nat.succ.inj hl) fun i y f hy hf => h (i + 1) y f hy hf)
theorem dpAll_app : ∀ {vs us : List V} {ds es : List PyData}, DpAll K H vs ds → DpAll K H us es → DpAll K H (vs ++ us) (ds ++ es)
  | _, _, _, _, .nil, h => h
  | _, _, _, _, .cons h1 h2, h => .cons h1 (dpAll_app h2 h)
theorem dpAll_take : ∀ {vs : List V} {ds : List PyData} (n : Nat), DpAll K H vs ds → DpAll K H (vs.take n) (ds.take n)
  | _, _, 0, _ => .nil
  | _, _, _ + 1, .nil => .nil
  | _, _, n + 1, .cons h1 h2 => .cons h1 (dpAll_take n h2)
theorem dpAll_drop : ∀ {vs : List V} {ds : List PyData} (n : Nat), DpAll K H vs ds → DpAll K H (vs.drop n) (ds.drop n)
  | _, _, 0, h => h
  | _, _, _ + 1, .nil => .nil
  | _, _, n + 1, .cons _ h2 => dpAll_drop n h2
theorem dpAll_rep {x : V} {e : PyData} (h : Dp K H x e) : ∀ n, DpAll K H (List.replicate n x) (List.replicate n e)
  | 0 => .nil
  | n + 1 => .cons h (dpAll_rep h n)
mutual
theorem dp_mono (k : TK H H') : ∀ (d : PyData) (v : V), Dp K H v d → noL d = true → Dp K H' v d
  | .none, v, h, _ => by cases h; exact .non
  | .bool b, v, h, _ => by cases h; exact .bl b
  | .int i, v, h, _ => by cases h; exact .int i
  | .str x, v, h, _ => by cases h; exact .str x
  | .list ds, v, h, n => by simp [noL] at n
  | .dict ds, v, h, n => by simp [noL] at n
  | .tuple ds, v, h, n => by
    cases h with
    | tup h1 h2 => exact .tup (k.sqT h1) (dpAll_mono k ds _ h2 (by simpa [noL] using n))
theorem dpAll_mono (k : TK H H') : ∀ (ds : List PyData) (vs : List V), DpAll K H vs ds → noLs ds = true → DpAll K H' vs ds
  | [], vs, h, _ => by cases h; exact .nil
  | e :: ds, vs, h, n => by
    have n2 : (noL e && noLs ds) = true := by simpa [noLs] using n
    rw [Bool.and_eq_true] at n2
    cases h with
    | cons h1 h2 => exact .cons (dp_mono k e _ h1 n2.1) (dpAll_mono k ds _ h2 n2.2)
end
theorem Dp.rowB (h : Dp K H v d) (n : noL d = true) (m : Int) : RowB K H v m (rowN m d) := by
  cases h with
  | non => exact .inr ⟨.non, rfl, rfl⟩
  | bl b => exact .inr ⟨.bl b, rfl, rfl⟩
  | int i => exact .inr ⟨.int i, rfl, rfl⟩
  | str x => exact .inr ⟨.str x, rfl, rfl⟩
  | lst h1 h2 => simp [noL] at n
  | tup h1 h2 => exact .inl ⟨_, _, rfl, h1, by rw [dpAll_len h2]; rfl⟩
theorem Dp.isTup (h : Dp K H v d) (n : noL d = true) (t : isaB "tuple" v = true) : ∃ a xs ds, v = .ref a ∧ d = .tuple ds ∧ SqT K H a xs ∧ DpAll K H xs ds ∧ noLs ds = true := by
  cases h with
  | non => cases t
  | bl b => simp [isaB] at t
  | int i => simp [isaB] at t
  | str x => simp [isaB] at t
  | lst h1 h2 => simp [noL] at n
  | tup h1 h2 => exact ⟨_, _, _, rfl, rfl, h1, h2, by simpa [noL] using n⟩
theorem Dp.row2 (h : Dp K H v d) (n : noL d = true) (t : rowN 2 d = true) : ∃ a x y e f, v = .ref a ∧ d = .tuple [e, f] ∧ SqT K H a [x, y] ∧ Dp K H x e ∧ Dp K H y f ∧ noL e = true ∧ noL f = true := by
  cases h with
  | non => cases t
  | bl b => cases t
  | int i => cases t
  | str x => cases t
  | lst h1 h2 => cases t
  | tup h1 h2 =>
    rename_i a xs ds
    have hl : ds.length = 2 := by have := of_decide_eq_true t; omega
    have n2 : noLs ds = true := by simpa [noL] using n
    obtain ⟨e, f, rfl⟩ := len2 hl
    cases h2 with
    | cons k1 k2 =>
      cases k2 with
      | cons k2 k3 =>
        cases k3
        exact ⟨_, _, _, e, f, rfl, rfl, h1, k1, k2, noLs_mem n2 (by simp), noLs_mem n2 (by simp)⟩
end
theorem lkB_inv {d : PyData} (h : lkB d = true) : ∃ z ss, d = .tuple [.str z, .tuple ss] ∧ sgB z = true ∧ 1 ≤ ss.length ∧ ss.length ≤ 600 ∧ ∀ s ∈ ss, rowLk ss.length z.length s = true := by
  unfold lkB at h
  split at h
  · rename_i z ss
    simp only [Bool.and_eq_true, decide_eq_true_eq, List.all_eq_true] at h
    exact ⟨z, ss, rfl, h.1, h.2.1, h.2.2.1, h.2.2.2⟩
  · cases h
theorem lkB_of {z : Str} {ss : List PyData} (h1 : sgB z = true) (h2 : 1 ≤ ss.length) (h3 : ss.length ≤ 600) (h4 : ∀ s ∈ ss, rowLk ss.length z.length s = true) : lkB (.tuple [.str z, .tuple ss]) = true := by
  unfold lkB
  simp only [Bool.and_eq_true, decide_eq_true_eq, List.all_eq_true]
  exact ⟨h1, h2, h3, h4⟩
theorem rowLk_inv {n w : Nat} {d : PyData} (h : rowLk n w d = true) : ∃ e ts, d = .tuple [e, .tuple ts] ∧ btD e = true ∧ ts.length = w ∧ ∀ t ∈ ts, stD n t = true := by
  unfold rowLk at h
  split at h
  · rename_i e ts
    simp only [Bool.and_eq_true, decide_eq_true_eq, List.all_eq_true] at h
    exact ⟨e, ts, rfl, h.1, h.2.1, h.2.2⟩
  · cases h
theorem rowLk_of {n w : Nat} {e : PyData} {ts : List PyData} (h1 : btD e = true) (h2 : ts.length = w) (h3 : ∀ t ∈ ts, stD n t = true) : rowLk n w (.tuple [e, .tuple ts]) = true := by
  unfold rowLk
  simp only [Bool.and_eq_true, decide_eq_true_eq, List.all_eq_true]
  exact ⟨h1, h2, h3⟩
theorem no_of {b : Bool} (h : b = true → False) : b = false := by
  cases b with
  | false => rfl
  | true => exact (h rfl).elim
/-- a looker that is one -/
theorem rowD_noL (r : LRow) : noL (rowD r) = true := by
  unfold rowD
  rw [noL_tup]
  refine noLs_all fun d hd => ?_
  simp only [List.mem_cons, List.not_mem_nil, or_false] at hd
  rcases hd with rfl | rfl
  · simp [noL]
  · rw [noL_tup]
    refine noLs_all fun d hd => ?_
    obtain ⟨i, _, rfl⟩ := List.mem_map.mp hd
    simp [noL]
theorem lkD_noL (z : Str) (rs : List LRow) : noL (lkD z rs) = true := by
  unfold lkD
  rw [noL_tup]
  refine noLs_all fun d hd => ?_
  simp only [List.mem_cons, List.not_mem_nil, or_false] at hd
  rcases hd with rfl | rfl
  · simp [noL]
  · rw [noL_tup]
    refine noLs_all fun d hd => ?_
    obtain ⟨r, _, rfl⟩ := List.mem_map.mp hd
    exact rowD_noL r
theorem rowD_lk {n : Nat} {rs : List LRow} (ok : RowsOk n rs) {r : LRow} (hr : r ∈ rs) : rowLk rs.length n (rowD r) = true := by
  refine rowLk_of ?_ (by rw [List.length_map]; exact ok.wid r hr) fun t ht => ?_
  · rcases ok.bit r hr with e | e <;> rw [e] <;> rfl
  · obtain ⟨q, hq, rfl⟩ := List.mem_map.mp ht
    have := ok.to r hr q hq
    show (decide (0 ≤ q) && decide (q < (rs.length : Int))) = true
    rw [decide_eq_true this.1, decide_eq_true this.2]
    rfl
theorem lkD_lk {z : Str} {rs : List LRow} (hz : SignsOk z) (ok : RowsOk z.length rs) : lkB (lkD z rs) = true := by
  refine lkB_of hz.sgB (by rw [List.length_map]; exact ok.pos) (by rw [List.length_map]; exact ok.top) fun s hs => ?_
  obtain ⟨r, hr, rfl⟩ := List.mem_map.mp hs
  rw [List.length_map]
  exact rowD_lk ok hr
end Sg

namespace K02
open PySem PySem.Spec PyProof.Rows L2 Sg
section
variable {P : Program} {w : World} {K : PySem.W.Frag} {mg : Str → Option Value} {base : Heap}
def isStrB : PyData → Bool
  | .str _ => true
  | _ => false
def hasK (ks : List PyData) (k : Str) : Bool := ks.any fun d => match d with
  | .str z => decide (z = k)
  | _ => false
def wayL : List PyData → Str → Option (List PyData)
  | [], _ => none
  | .tuple [.tuple ks, .tuple sy] :: r, k => if ks.all isStrB && SeqAt.shaped (.tuple ks) then (if ks.isEmpty || hasK ks k then some sy else wayL r k) else none
  | _ :: _, _ => none
def wayP (rule k : Str) : Option (List PyData) := match tab_RULES.lookup rule with
  | some (.tuple ws) => wayL ws k
  | _ => none
def wayNL : List PyData → Str → Bool
  | [], _ => true
  | .tuple [.tuple ks, .tuple _] :: r, k => ks.all isStrB && (SeqAt.shaped (.tuple ks) && (!(ks.isEmpty || hasK ks k) && wayNL r k))
  | _ :: _, _ => false
/-- the rule knows no way for the kind -/
def wayN (rule k : Str) : Bool := match tab_RULES.lookup rule with
  | some (.tuple ws) => wayNL ws k
  | _ => false
theorem mem_of_look {q : Str} {d : PyData} : ∀ {l : List (Str × PyData)}, l.lookup q = some d → (q, d) ∈ l
  | [], h => by cases h
  | (k, e) :: l, h => by
    rw [List.lookup_cons] at h
    split at h
    · rename_i hb
      cases h
      rw [eq_of_beq hb]
      exact List.mem_cons_self ..
    · exact List.mem_cons_of_mem _ (mem_of_look h)
theorem tup_of {H : Hp} {x : V} {ds : List PyData} (h : Dp K H x (.tuple ds)) : ∃ a xs, x = .ref a ∧ SqT K H a xs ∧ DpAll K H xs ds := by
  cases h with
  | tup a b => exact ⟨_, _, rfl, a, b⟩
theorem tab_noL : ∀ q ∈ tab_RULES, noL q.2 = true := by decide +kernel
theorem eqv_nil {ks : List PyData} : PyData.eqv (.tuple ks) (.tuple []) = ks.isEmpty := by
  cases ks <;> rfl
theorem strs_of {H : Hp} {k : Str} : ∀ {ks : List PyData} {xs : List V}, ks.all isStrB = true → DpAll K H xs ks → xs.all flatV = true ∧ inV (.str k) xs = hasK ks k
  | [], xs, _, h => by
    cases h
    exact ⟨rfl, rfl⟩
  | d :: ks, xs, ha, h => by
    rw [List.all_cons, Bool.and_eq_true] at ha
    cases h with
    | cons h1 h2 =>
      obtain ⟨i1, i2⟩ := strs_of (k := k) ha.2 h2
      have hd := ha.1
      cases h1 with
      | str x =>
        refine ⟨by rw [List.all_cons, i1]; rfl, ?_⟩
        unfold inV at i2 ⊢
        unfold hasK at i2 ⊢
        rw [List.any_cons, List.any_cons, i2]
        rfl
      | _ => cases hd
theorem sc_way_of : FnScope ["rule", "kind", "kinds", "symbols"] ["rule", "kind"] (defScope (topS 33)) := ⟨rfl, rfl, rfl, by decide +kernel, rfl, by decide +kernel, by decide +kernel⟩
theorem bd_way_of {K : PySem.W.Frag} {f : Addr} {fd : FuncData} (F : FnP K "way_of" (topS 33) f fd) : Binds K fd ["rule", "kind"] [] := F.bindsN fun _ _ _ _ _ _ us hl => match us, hl with | [_, _], _ => rfl
def wayO (ws : List PyData) (k : Str) (r : Option (List PyData)) : Prop := match r with
  | some sy => wayL ws k = some sy
  | none => wayNL ws k = true
theorem wayL_inv {e : PyData} {r sy : List PyData} {k : Str} (h : wayL (e :: r) k = some sy) : ∃ (ks sy' : List PyData), e = .tuple [.tuple ks, .tuple sy'] ∧ ks.all isStrB = true ∧ SeqAt.shaped (.tuple ks) = true ∧ (if (ks.isEmpty || hasK ks k) = true then some sy = some sy' else wayL r k = some sy) := by
  unfold wayL at h
  split at h
  · cases h
  case h_3 => cases h
  rename_i heq
  cases heq
  split at h
  case isFalse => cases h
  rename_i hks
  rw [Bool.and_eq_true] at hks
  refine ⟨_, _, rfl, hks.1, hks.2, ?_⟩
  split at h
  · rename_i hb
    rw [if_pos hb]
    exact h.symm
  · rename_i hb
    rw [if_neg hb]
    exact h
theorem wayNL_inv {e : PyData} {r : List PyData} {k : Str} (h : wayNL (e :: r) k = true) : ∃ (ks sy' : List PyData), e = .tuple [.tuple ks, .tuple sy'] ∧ ks.all isStrB = true ∧ SeqAt.shaped (.tuple ks) = true ∧ (ks.isEmpty || hasK ks k) = false ∧ wayNL r k = true := by
  unfold wayNL at h
  split at h
  · rename_i heq
    cases heq
  case h_3 => cases h
  rename_i heq
  cases heq
  simp only [Bool.and_eq_true, Bool.not_eq_true'] at h
  exact ⟨_, _, rfl, h.1, h.2.1, h.2.2.1, h.2.2.2⟩
theorem wayO_inv {e : PyData} {r : List PyData} {k : Str} {res : Option (List PyData)} (h : wayO (e :: r) k res) : ∃ (ks sy' : List PyData), e = .tuple [.tuple ks, .tuple sy'] ∧ ks.all isStrB = true ∧ SeqAt.shaped (.tuple ks) = true ∧ (if (ks.isEmpty || hasK ks k) = true then res = some sy' else wayO r k res) := by
  cases res with
  | some sy =>
    obtain ⟨ks, sy', e1, e2, e3, e4⟩ := wayL_inv h
    exact ⟨ks, sy', e1, e2, e3, e4⟩
  | none =>
    obtain ⟨ks, sy', e1, e2, e3, e4, e5⟩ := wayNL_inv h
    exact ⟨ks, sy', e1, e2, e3, by rw [if_neg (by rw [e4]; exact Bool.false_ne_true)]; exact e5⟩
def spWy (K : PySem.W.Frag) : Sp := fun vs H Q _ => ∃ rule k, vs = [.str rule, .str k] ∧ ((∃ sy, wayP rule k = some sy ∧ ∀ p xs H', Same H H' → SqT K H' p xs → DpAll K H' xs sy → Q (.ref p) H') ∨ (wayN rule k = true ∧ ∀ H', Same H H' → Q .non H'))
theorem ok_way_of (T : Tx w K mg) : Dk P w K mg base 1 "way_of" ["rule", "kind"] (spWy K) := by
  obtain ⟨_, _, kd_RULES⟩ := T.kd_RULES
  obtain ⟨fd, F⟩ := T.d_way_of
  refine ⟨⟨fd, F.ok sc_way_of (fun vs H Q E h => ?_) (fun cdv A outer s H vs Q E hr h => ?_), bd_way_of F⟩, F.kp, T.g_way_of⟩
  · obtain ⟨rule, k, rfl, _⟩ := h
    rfl
  · obtain ⟨rule, k, rfl, hor⟩ := h
    refine ⟨_, PSs.nox (pss_cons (ps_for PassesOwn.never rfl (pi_tup (pe_ix (ix_kd kd_RULES) (pe_glob (v := .ref (He.ga K "RULES")) (by rfl) T.t_RULES rfl) (pv 0) (fun _ _ => rfl))) (pg_tup (by rfl) (pgs_cons (pg_name (i := 2) sc_way_of.nd rfl (.inl rfl)) (pgs_cons (pg_name (i := 3) sc_way_of.nd rfl (.inl rfl)) pgs_nil))) (pss_one (ps_if (PW.pt (pw_or (pt_cmpR (op_eqD hr.units) (pv 2) (pe_tup pa_nil) (nomark _)) (pw_or1 (pt_cmpR (show OpR _ _ (rIn K false) by exact op_in_seq) (pv 1) (pv 2) rfl)))) (pss_one (ps_ret (pv 3))) pss_nil)))
      (pss_one (ps_ret pe_non))), ?_⟩
    simp only [cxOf, tYes, eq_self, if_true, if_false, wipe, rLenQ, rIxTQ, rIxLQ, rIxSQ, rInt1Q, rTupQ, rAppQ, rPopQ, rPopAtQ, rRevQ, rListS, rReprP, tLenSetT, tChain, tRetN, tRet, tSeq, tAsg, gName, tVar, tC, tCons, tNil, tCB, tOp, rI0, rI, tAndV, tOrV, tNotV, tIf, tTest, tB, tNot, tAnd, tOr, tIfS, tNext, tCallR, rIsK, rEq, rNe, tDrop, L2.start, List.map_cons, List.map_nil, List.length_cons, List.length_nil, Nat.reduceAdd, Nat.reduceSub, Nat.sub_self, List.replicate_zero, List.replicate_succ, List.append_nil, List.cons_append, List.nil_append, List.getElem?_cons_zero, List.getElem?_cons_succ, List.set_cons_zero, List.set_cons_succ, Option.some.injEq, List.cons.injEq, and_true, true_and, exists_eq_left, exists_eq_left', exists_eq_right, V.ty.injEq, V.int.injEq, V.bl.injEq, V.str.injEq, V.ref.injEq, exists_and_left, exists_const, reduceIte, reduceCtorEq, false_and, and_false, exists_false, or_false, false_or, Bool.not_true, Bool.not_false, Bool.false_eq_true, String.reduceEq, true_or, or_true, rNotT, tNNew, tNNotIn, tNGet, sNPut, tLenSetN, tPar, tAug, ipI, tDNotIn, sDPut, tDGet, tTup, tLst, tBM, tBM0]
    obtain ⟨ws, res, hlk, hw, q1, q2⟩ : ∃ (ws : List PyData) (res : Option (List PyData)), tab_RULES.lookup rule = some (.tuple ws) ∧ wayO ws k res ∧ (∀ sy, res = some sy → ∀ p xs H', Same H H' → SqT K H' p xs → DpAll K H' xs sy → Q (.ref p) H') ∧ (res = none → ∀ H', Same H H' → Q .non H') := by
      rcases hor with ⟨sy, hw, q⟩ | ⟨hw, q⟩
      · unfold wayP at hw
        split at hw
        case h_2 => cases hw
        rename_i ws hlk
        exact ⟨ws, some sy, hlk, hw, fun sy' e => by cases e; exact q, fun e => by cases e⟩
      · unfold wayN at hw
        split at hw
        case h_2 => cases hw
        rename_i ws hlk
        refine ⟨ws, none, hlk, hw, ?_, fun _ => q⟩
        intro sy' e
        cases e
    obtain ⟨u, x, hns, hrel, hdat⟩ := T.u_RULES _ (mem_of_look hlk)
    obtain ⟨a, xs, rfl, hq, hall⟩ := tup_of (hdat H)
    refine ⟨_, rfl, rule, u, _, rfl, rfl, hns, hrel, _, rfl, ⟨xs, hq⟩, for_tup (K := K) (a := a) (xs := xs) (fun i σ H' => Same H H' ∧ wayO (ws.drop i) k res ∧ ∃ x3 x4, σ = [some (.str rule), some (.str k), x3, x4]) ⟨fun _ _ h => h, hw, _, _, rfl⟩ (fun i σ H' _ h => Same.sqT h.1 hq) (fun i x σ H' hi hP => ?_) (fun σ H' hP => ?_)⟩
    case refine_2 =>
      obtain ⟨s1, h, _⟩ := hP
      rw [dpAll_len hall, List.drop_length] at h
      cases res with
      | some sy => cases h
      | none => exact q2 rfl H' s1
    obtain ⟨s1, hwl, x3, x4, rfl⟩ := hP
    obtain ⟨e, he, hde⟩ := dpAll_get hall hi
    have hdr : ws.drop i = e :: ws.drop (i + 1) := drop_cons he
    rw [hdr] at hwl
    obtain ⟨ks, sy', rfl, hks1, hks2, hgo⟩ := wayO_inv hwl
    have hn := tab_noL _ (mem_of_look hlk)
    have hne : noL (.tuple [.tuple ks, .tuple sy']) = true := noLs_mem (by rwa [noL_tup] at hn) (List.mem_of_getElem? he)
    obtain ⟨c, cs, rfl, hc, hcs⟩ := tup_of (dp_mono (TK.of_same s1) _ _ hde hne)
    cases hcs with
    | cons hd1 hcs =>
    rename_i v1 vs1
    cases hcs with
    | cons hd2 hcs =>
    rename_i v2 vs2
    cases hcs
    obtain ⟨d1, ks1, rfl, hk1, hka⟩ := tup_of hd1
    obtain ⟨d2, sy1, rfl, hs1, hsa⟩ := tup_of hd2
    refine ⟨c, _, rfl, hc, rfl, ?_⟩
    simp only [gCons, gNil, tTup, tTest, tOp, tOr, tB, tNot, tAnd, cxOf, tYes, eq_self, if_true, if_false, wipe, rLenQ, rIxTQ, rIxLQ, rIxSQ, rInt1Q, rTupQ, rAppQ, rPopQ, rPopAtQ, rRevQ, rListS, rReprP, tLenSetT, tChain, tRetN, tRet, tSeq, tAsg, gName, tVar, tC, tCons, tNil, tCB, tOp, rI0, rI, tAndV, tOrV, tNotV, tIf, tTest, tB, tNot, tAnd, tOr, tIfS, tNext, tCallR, rIsK, rEq, rNe, tDrop, L2.start, List.map_cons, List.map_nil, List.length_cons, List.length_nil, Nat.reduceAdd, Nat.reduceSub, Nat.sub_self, List.replicate_zero, List.replicate_succ, List.append_nil, List.cons_append, List.nil_append, List.getElem?_cons_zero, List.getElem?_cons_succ, List.set_cons_zero, List.set_cons_succ, Option.some.injEq, List.cons.injEq, and_true, true_and, exists_eq_left, exists_eq_left', exists_eq_right, V.ty.injEq, V.int.injEq, V.bl.injEq, V.str.injEq, V.ref.injEq, exists_and_left, exists_const, reduceIte, reduceCtorEq, false_and, and_false, exists_false, or_false, false_or, Bool.not_true, Bool.not_false, Bool.false_eq_true, String.reduceEq, true_or, or_true]
    refine ⟨_, _, ⟨rfl, rfl⟩, _, _, rfl, rfl, Nat.zero_le _, fun p hp => ?_⟩
    have s2 : Same H' (upd H' p (.tup [])) := same_upd hp
    refine ⟨.tuple ks, .tuple [], .tup (Same.sqT s2 hk1) (dpAll_mono (TK.of_same s2) _ _ hka ?_), .tup (.inl (.inl upd_same)) .nil, hks2, by decide +kernel, ?_⟩
    · have h3 := hne
      simp only [noL, noLs, Bool.and_eq_true] at h3
      exact h3.1
    have s3 := Same.trans s1 s2
    rw [eqv_nil]
    have h3 := hne
    simp only [noL, noLs, Bool.and_eq_true] at h3
    cases hke : ks.isEmpty with
    | true =>
      rw [hke, Bool.true_or, if_pos rfl] at hgo
      refine ⟨true, rfl, ?_⟩
      rw [if_pos rfl]
      exact q1 _ hgo d2 sy1 _ s3 (Same.sqT s2 hs1) (dpAll_mono (TK.of_same s2) _ _ hsa h3.2.1)
    | false =>
      rw [hke, Bool.false_or] at hgo
      refine ⟨false, rfl, ?_⟩
      rw [if_neg Bool.false_ne_true]
      have hst := strs_of (k := k) hks1 (dpAll_mono (TK.of_same s2) _ _ hka h3.1)
      refine ⟨d1, ks1, rfl, .inr (Same.sqT s2 hk1), rfl, hst.1, _, rfl, ?_⟩
      rw [if_neg Bool.false_ne_true, hst.2]
      cases hb : hasK ks k with
      | true =>
        rw [hb, if_pos rfl] at hgo
        rw [if_pos rfl]
        exact q1 _ hgo d2 sy1 _ s3 (Same.sqT s2 hs1) (dpAll_mono (TK.of_same s2) _ _ hsa h3.2.1)
      | false =>
        rw [hb, if_neg Bool.false_ne_true] at hgo
        rw [if_neg Bool.false_ne_true]
        exact ⟨s3, hgo, _, rfl⟩
end
end K02

namespace K02
open PySem PySem.Spec PyProof.Rows L2 Sg
section
variable {P : Program} [PF P] {w : World} {K : PySem.W.Frag} {mg : Str → Option Value} {base : Heap}
def rdF (x a w : Addr) : List (Str × V) := putF "worths" (.ref w) (putF "token" (.ref a) (putF "tokens" (.ref x) []))
def RdO (K : PySem.W.Frag) (dr x a w : Addr) : HO := .ins (He.ga K "Reading") dr (rdF x a w)
theorem rd_len {x a w : Addr} : (rdF x a w).length ≤ 3 := pl (pl (pl (Nat.zero_le 0)))
/-- the machine's things -/
structure MA where
  r : Addr
  dr : Addr
  x : Addr
  dx : Addr
  wo : Addr
  dw : Addr
  l : Addr
  z : Str
/-- what a token bears, and where it stands -/
structure Wp where
  w : Wo
  l : Int
  c : Int
abbrev Wp.V (v : Wp) : L2.V := v.w.V
abbrev Wp.D (v : Wp) : PyData := v.w.D
theorem Wp.dp (v : Wp) (H : Hp) : Dp K H v.V v.D := v.w.dp H
def MS (K : PySem.W.Frag) (m : MA) (n ln s : Nat) (k : Str) (v : Wp) (xs : List V) (H : Hp) : Prop :=
  ∃ a, H m.r = some (RdO K m.dr m.x a m.wo) ∧ H m.x = some (TsO K m.dx m.z n ln s) ∧ H m.wo = some (WoO K m.dw m.l) ∧ H m.l = some (.lst xs) ∧ TokH K H a (.str k) v.V (.int v.l) (.int v.c)
def keptK (k : Str) : Bool := (strsOf dat_KEPT_KINDS).any fun y => decide (y = k)
def endS : Str := Str.ofString "end of the text"
/-- one token is read -/
def Lex1 (z : Str) (n ln s : Nat) (k : Str) (v : Wp) (n' l' s' : Nat) : Prop := ∃ n1, n ≤ z.length ∧ skipF z.cps.toList (z.length - n) n ln s = (n1, l', s') ∧ LexC z n1 k v.w n' ∧ v.l = (l' : Int) ∧ v.c = (n1 : Int) - s' + 1
def spMa (K : PySem.W.Frag) : Sp := fun vs H Q E => ∃ m n ln s k0 k v xs, vs = [.ref m.r, .str k] ∧ m.z.length ≤ 1000000 ∧ xs.length < 10000000 ∧ MS K m n ln s k0 v xs H ∧
  ((k = k0 ∧ ((k = endS ∧ Q .non H) ∨ (k ≠ endS ∧ ∃ n' l' s' k' v', Lex1 m.z n ln s k' v' n' l' s' ∧
    ∀ H', (∀ b o, b ≠ m.r → b ≠ m.x → b ≠ m.l → H b = some o → H' b = some o) → MS K m n' l' s' k' v' (if keptK k then xs ++ [v.V] else xs) H' → Q .non H'))) ∨
   (k0 ≠ k ∧ smallI v.l ∧ smallI v.c ∧ BadE K v.l v.c H E))
theorem sc_Reading_m_refuse : FnScope ["self"] ["self"] (defScope (clsAt (topS 37) 1)) := ⟨rfl, rfl, rfl, by decide +kernel, rfl, by decide +kernel, by decide +kernel⟩
theorem bd_Reading_m_refuse {K : PySem.W.Frag} {fd : FuncData} (F : FnM K "Reading" "refuse" "Reading.refuse" (clsAt (topS 37) 1) [] fd) : Binds K fd ["self"] [] := F.bindsN fun _ _ _ _ _ _ us hl => match us, hl with | [_], _ => rfl
def spRf (K : PySem.W.Frag) : Sp := fun vs H _ E => ∃ m n ln s k v xs, vs = [.ref (m : MA).r] ∧ MS K m n ln s k v xs H ∧ smallI v.l ∧ smallI v.c ∧ BadE K v.l v.c H E
theorem kk_seq (T : Tx w K mg) (H : Hp) : SqT K H (He.ga K "KEPT_KINDS") ((strsOf dat_KEPT_KINDS).map V.str) := strs_seq (T.u_KEPT_KINDS H)
theorem ok_Reading_m_refuse (T : Tx w K mg) : DkM P w K mg base 3 "Reading" "refuse" ["self"] [] (spRf K) := by
  have D_BadText := ok_BadText (P := P) (w := w) (base := base) T
  obtain ⟨fd, F⟩ := T.d_Reading_m_refuse
  refine ⟨⟨fd, [], F.ok sc_Reading_m_refuse (fun vs H Q E h => ?_) (fun cdv A outer s H vs Q E hr h => ?_), bd_Reading_m_refuse F, .nil⟩⟩
  · obtain ⟨m, n, ln, s, k, v, xs, rfl, _⟩ := h
    rfl
  · obtain ⟨m, n, ln, s0, k, v, xs, rfl, ⟨a, h1, h2, h3, h4, ⟨da, h5⟩⟩, hl, hc, q⟩ := h
    refine ⟨_, (pss_one (ps_raise rfl (takes_of rfl rfl rfl rfl) (pmk_oexR T.s_BadText D_BadText (hr.mono (by decide)) (pa_cons (pe_fld (pe_fld (pv 0) rfl) rfl) (pa_cons (pe_fld (pe_fld (pv 0) rfl) rfl) pa_nil))))), ?_⟩
    simp only [cxOf, tYes, eq_self, if_true, if_false, wipe, rLenQ, rIxTQ, rIxLQ, rIxSQ, rInt1Q, rTupQ, rAppQ, rPopQ, rPopAtQ, rRevQ, rListS, rReprP, tLenSetT, tChain, tRetN, tRet, tSeq, tAsg, gName, tVar, tC, tCons, tNil, tCB, tOp, rI0, rI, tAndV, tOrV, tNotV, tIf, tTest, tB, tNot, tAnd, tOr, tIfS, tNext, tCallR, rIsK, rEq, rNe, tDrop, L2.start, List.map_cons, List.map_nil, List.length_cons, List.length_nil, Nat.reduceAdd, Nat.reduceSub, Nat.sub_self, List.replicate_zero, List.replicate_succ, List.append_nil, List.cons_append, List.nil_append, List.getElem?_cons_zero, List.getElem?_cons_succ, List.set_cons_zero, List.set_cons_succ, Option.some.injEq, List.cons.injEq, and_true, true_and, exists_eq_left, exists_eq_left', exists_eq_right, V.ty.injEq, V.int.injEq, V.bl.injEq, V.str.injEq, V.ref.injEq, exists_and_left, exists_const, reduceIte, reduceCtorEq, false_and, and_false, exists_false, or_false, false_or, Bool.not_true, Bool.not_false, Bool.false_eq_true, String.reduceEq, true_or, or_true, rNotT, tNNew, tNNotIn, tNGet, sNPut, tLenSetN, tPar, tAug, ipI, tDNotIn, sDPut, tDGet, tTup, tLst, tBM, tBM0]
    refine ⟨_, rfl, m.r, _, m.dr, _, .ref a, rfl, h1, T.cl_Reading, T.na_Reading_token, rfl, a, _, da, _, .int v.l, rfl, h5, T.cl_Token, T.na_Token_line, rfl, ?_⟩
    refine ⟨_, rfl, m.r, _, m.dr, _, .ref a, rfl, h1, T.cl_Reading, T.na_Reading_token, rfl, a, _, da, _, .int v.c, rfl, h5, T.cl_Token, T.na_Token_column, rfl, ?_⟩
    exact ⟨by simp, mk_bad hl hc q⟩
theorem ne_rx {H : Hp} {r dr x a wo dx : Addr} {z : Str} {n l s : Nat} (h1 : H r = some (RdO K dr x a wo)) (h2 : H x = some (TsO K dx z n l s)) : x ≠ r := fun e => by
  rw [e, h1] at h2
  injection h2 with h2
  injection h2 with _ _ e
  exact absurd (show (3 : Nat) = 4 from congrArg List.length e) (by decide)
theorem ne_rw {H : Hp} {r dr x a wo dw l : Addr} (h1 : H r = some (RdO K dr x a wo)) (h2 : H wo = some (WoO K dw l)) : wo ≠ r := fun e => by
  rw [e, h1] at h2
  injection h2 with h2
  injection h2 with _ _ e
  exact absurd (show (3 : Nat) = 1 from congrArg List.length e) (by decide)
theorem ne_xw {H : Hp} {x wo dx dw l : Addr} {z : Str} {n ln s : Nat} (h1 : H x = some (TsO K dx z n ln s)) (h2 : H wo = some (WoO K dw l)) : wo ≠ x := fun e => by
  rw [e, h1] at h2
  injection h2 with h2
  injection h2 with _ _ e
  exact absurd (show (4 : Nat) = 1 from congrArg List.length e) (by decide)
theorem sc_Reading_m_match : FnScope ["self", "kind"] ["self", "kind"] (defScope (clsAt (topS 37) 2)) := ⟨rfl, rfl, rfl, by decide +kernel, rfl, by decide +kernel, by decide +kernel⟩
theorem bd_Reading_m_match {K : PySem.W.Frag} {fd : FuncData} (F : FnM K "Reading" "match" "Reading.match" (clsAt (topS 37) 2) [] fd) : Binds K fd ["self", "kind"] [] := F.bindsN fun _ _ _ _ _ _ us hl => match us, hl with | [_, _], _ => rfl
theorem ok_Reading_m_match (T : Tx w K mg) : DkM P w K mg base 7 "Reading" "match" ["self", "kind"] [] (spMa K) := by
  have D_Worths_m_keep := ok_Worths_m_keep (P := P) (w := w) (base := base) T
  have D_Tokens_m_read_token := ok_Tokens_m_read_token (P := P) (w := w) (base := base) T
  have D_Reading_m_refuse := ok_Reading_m_refuse (P := P) (w := w) (base := base) T
  obtain ⟨fd, F⟩ := T.d_Reading_m_match
  refine ⟨⟨fd, [], F.ok sc_Reading_m_match (fun vs H Q E h => ?_) (fun cdv A outer s H vs Q E hr h => ?_), bd_Reading_m_match F, .nil⟩⟩
  · obtain ⟨m, n, ln, s, k0, k, v, xs, rfl, _⟩ := h
    rfl
  · obtain ⟨m, n, ln, s0, k0, k, v, xs, rfl, hz, hxl, hms, hor⟩ := h
    have hms0 := hms
    obtain ⟨a, h1, h2, h3, h4, ⟨da, h5⟩⟩ := hms
    obtain ⟨_, c_END⟩ := T.c_END
    refine ⟨_, (pss_cons (ps_if (pt_cmpR op_ne (pe_fld (pe_fld (pv 0) rfl) rfl) (pv 1) (nomark _)) (pss_one (ps_expr (pe_methE0 (takes_of rfl rfl rfl rfl) (pv 0) T.cl_Reading T.m_Reading_refuse D_Reading_m_refuse (hr.mono (by decide))))) pss_nil)
      (pss_cons (ps_if (pt_cmpR (show OpR _ _ (rIn K false) by exact op_in_seq) (pv 1) (pe_glob (v := .ref (He.ga K "KEPT_KINDS")) (by rfl) T.t_KEPT_KINDS rfl) rfl) (pss_one (ps_expr (pe_methR (pe_fld (pv 0) rfl) T.cl_Worths T.m_Worths_keep D_Worths_m_keep (hr.mono (by decide)) (pa_cons (pe_fld (pe_fld (pv 0) rfl) rfl) pa_nil)))) pss_nil)
      (pss_one (ps_if (pt_cmpR op_ne (pv 1) (pe_glob (v := .str "end of the text") (by rfl) c_END ⟨_, rfl⟩) (nomark _)) (pss_one (ps_fld (pv 0) (pe_methR0 (pe_fld (pv 0) rfl) T.cl_Tokens T.m_Tokens_read_token D_Tokens_m_read_token (hr.mono (by decide))) rfl)) pss_nil)))), ?_⟩
    simp only [cxOf, tYes, eq_self, if_true, if_false, wipe, rLenQ, rIxTQ, rIxLQ, rIxSQ, rInt1Q, rTupQ, rAppQ, rPopQ, rPopAtQ, rRevQ, rListS, rReprP, tLenSetT, tChain, tRetN, tRet, tSeq, tAsg, gName, tVar, tC, tCons, tNil, tCB, tOp, rI0, rI, tAndV, tOrV, tNotV, tIf, tTest, tB, tNot, tAnd, tOr, tIfS, tNext, tCallR, rIsK, rEq, rNe, tDrop, L2.start, List.map_cons, List.map_nil, List.length_cons, List.length_nil, Nat.reduceAdd, Nat.reduceSub, Nat.sub_self, List.replicate_zero, List.replicate_succ, List.append_nil, List.cons_append, List.nil_append, List.getElem?_cons_zero, List.getElem?_cons_succ, List.set_cons_zero, List.set_cons_succ, Option.some.injEq, List.cons.injEq, and_true, true_and, exists_eq_left, exists_eq_left', exists_eq_right, V.ty.injEq, V.int.injEq, V.bl.injEq, V.str.injEq, V.ref.injEq, exists_and_left, exists_const, reduceIte, reduceCtorEq, false_and, and_false, exists_false, or_false, false_or, Bool.not_true, Bool.not_false, Bool.false_eq_true, String.reduceEq, true_or, or_true, rNotT, tNNew, tNNotIn, tNGet, sNPut, tLenSetN, tPar, tAug, ipI, tDNotIn, sDPut, tDGet, tTup, tLst, tBM, tBM0]
    have nrx := ne_rx h1 h2
    have nrw := ne_rw h1 h3
    have nxw := ne_xw h2 h3
    have nrl : m.l ≠ m.r := fun e => by rw [e, h1] at h4; cases h4
    have nxl : m.l ≠ m.x := fun e => by rw [e, h2] at h4; cases h4
    have nwl : m.l ≠ m.wo := fun e => by rw [e, h3] at h4; cases h4
    refine ⟨_, rfl, m.r, _, m.dr, _, .ref a, rfl, h1, T.cl_Reading, T.na_Reading_token, rfl, a, _, da, _, .str k0, rfl, h5, T.cl_Token, T.na_Token_kind, rfl, rfl, ?_⟩
    rcases hor with ⟨rfl, h⟩ | ⟨hne, hl, hc, q⟩
    case inr =>
      have e : decide (V.str k0 = V.str k) = false := decide_eq_false fun e => hne (V.str.inj e)
      rw [e]
      exact ifT rfl ⟨_, rfl, m.r, m.dr, _, rfl, h1, rfl, m, n, ln, s0, k0, v, xs, rfl, hms0, hl, hc, q⟩
    refine ifF (by simp) ?_
    have tail : ∀ (H2 : Hp), (∀ b o, b ≠ m.r → b ≠ m.x → b ≠ m.l → H b = some o → H2 b = some o) → H2 m.r = some (RdO K m.dr m.x a m.wo) → H2 m.x = some (TsO K m.dx m.z n ln s0) → H2 m.l = some (.lst (if keptK k then xs ++ [v.V] else xs)) → (k = endS → H2 = H) →
      (scal (V.str k) (V.str (Str.ofString "end of the text")) = true ∧
        if (!decide (k = Str.ofString "end of the text")) = true then
          sFld K (tVar 0) (Sg.tMethR K (Str.ofString "Tokens") (Str.ofString "read_token") (spRk K) [] (tFld K (tVar 0) (Str.ofString "tokens")) tNil) (Str.ofString "token") { nx := fun x H' => Q V.non H', rt := Q } [some (V.ref m.r), some (V.str k)] H2
        else Q V.non H2) := by
      intro H2 fr g1 g2 g4 ge
      refine ⟨rfl, ?_⟩
      rcases h with ⟨rfl, q⟩ | ⟨hne, n', l', s', k', v', ⟨n1, hn, hsk, hlex, ev1, ev2⟩, q⟩
      · rw [ge rfl]
        exact q
      · rw [decide_eq_false (show ¬ k = Str.ofString "end of the text" from hne)]
        refine ifT rfl ?_
        refine ⟨_, rfl, m.r, _, m.dr, _, .ref m.x, rfl, g1, T.cl_Reading, T.na_Reading_tokens, rfl, m.x, m.dx, _, rfl, g2, rfl, m.x, m.dx, m.z, n, ln, s0, n1, l', s', k', v'.w, n', rfl, g2, hn, hz, hsk, hlex, fun a2 H3 b3 k3 ht => ?_⟩
        rw [← ev1, ← ev2] at ht
        have j1 : H3 m.r = some (RdO K m.dr m.x a m.wo) := b3 _ _ nrx.symm g1
        have j4 := b3 _ _ nxl g4
        have j3 := b3 _ _ nxw (fr _ _ nrw nxw (Ne.symm nwl) h3)
        refine ⟨_, rfl, m.r, _, m.dr, _, rfl, j1, T.cl_Reading, T.na_Reading_token, Nat.lt_of_le_of_lt rd_len (by decide), ?_⟩
        obtain ⟨d2, ht⟩ := ht
        have na : a2 ≠ m.r := fun e => by
          rw [e, j1] at ht
          injection ht with ht
          injection ht with _ _ e
          exact absurd (show (3 : Nat) = 4 from congrArg List.length e) (by decide)
        exact q _ (fun b o hb1 hb2 hb3 e => by rw [upd_ne hb1]; exact b3 b o hb2 (fr b o hb1 hb2 hb3 e)) ⟨a2, upd_same, (upd_ne nrx).trans k3, (upd_ne nrw).trans j3, (upd_ne nrl).trans j4, d2, (upd_ne na).trans ht⟩
    refine ⟨_, _, rfl, .inr (kk_seq T H), rfl, flat_strs, _, rfl, ?_⟩
    rw [if_neg Bool.false_ne_true, in_strs]
    show if keptK k = true then _ else _
    cases hkk : keptK k with
    | false =>
      rw [if_neg Bool.false_ne_true]
      exact tail H (fun _ _ _ _ _ h => h) h1 h2 (by rw [hkk, if_neg Bool.false_ne_true]; exact h4) fun _ => rfl
    | true =>
      rw [if_pos rfl]
      refine ⟨_, rfl, m.r, _, m.dr, _, .ref m.wo, rfl, h1, T.cl_Reading, T.na_Reading_worths, rfl, m.wo, m.dw, _, rfl, h3, rfl, _, rfl, m.r, _, m.dr, _, .ref a, rfl, h1, T.cl_Reading, T.na_Reading_token, rfl, a, _, da, _, v.V, rfl, h5, T.cl_Token, T.na_Token_worth, rfl, m.wo, m.dw, m.l, xs, _, rfl, h3, h4, szlt' hxl, ?_⟩
      refine tail _ (fun b o _ _ hb e => by rw [upd_ne hb]; exact e) ((upd_ne (Ne.symm nrl)).trans h1) ((upd_ne (Ne.symm nxl)).trans h2) (by rw [hkk, if_pos rfl]; exact upd_same) fun e => ?_
      rw [e] at hkk
      exact absurd hkk (by decide)
end
end K02

namespace K02
open PySem PySem.Spec PyProof.Rows L2 Sg
section
variable {P : Program} [PF P] {w : World} {K : PySem.W.Frag} {mg : Str → Option Value} {base : Heap}
theorem wayL_noL {k : Str} {sy : List PyData} : ∀ {ws : List PyData}, noLs ws = true → wayL ws k = some sy → noLs sy = true
  | [], _, h => by cases h
  | e :: r, hn, h => by
    have h1 : noL e = true := noLs_mem hn (List.mem_cons_self ..)
    have h2 : noLs r = true := noLs_all fun d hd => noLs_mem hn (List.mem_cons_of_mem _ hd)
    unfold wayL at h
    split at h
    · cases h
    case h_3 => cases h
    rename_i ks sy' r' kk heq
    cases heq
    split at h
    case isFalse => cases h
    split at h
    · cases h
      simp only [noL, noLs, Bool.and_eq_true] at h1
      exact h1.2.1
    · exact wayL_noL h2 h
theorem wayP_noL {rule k : Str} {sy : List PyData} (h : wayP rule k = some sy) : noLs sy = true := by
  unfold wayP at h
  split at h
  case h_2 => cases h
  rename_i ws hlk
  have hn := tab_noL _ (mem_of_look hlk)
  exact wayL_noL (by rwa [noL_tup] at hn) h
theorem dpAll_rev {H : Hp} : ∀ {xs : List V} {ds : List PyData}, DpAll K H xs ds → DpAll K H xs.reverse ds.reverse
  | [], _, h => by cases h; exact .nil
  | x :: xs, _, h => by
    cases h with
    | cons h1 h2 =>
      rw [List.reverse_cons, List.reverse_cons]
      exact dpAll_app (dpAll_rev h2) (.cons h1 .nil)
theorem sc_Reading_m_choose : FnScope ["self", "rule", "symbols"] ["self", "rule"] (defScope (clsAt (topS 37) 3)) := ⟨rfl, rfl, rfl, by decide +kernel, rfl, by decide +kernel, by decide +kernel⟩
theorem bd_Reading_m_choose {K : PySem.W.Frag} {fd : FuncData} (F : FnM K "Reading" "choose" "Reading.choose" (clsAt (topS 37) 3) [] fd) : Binds K fd ["self", "rule"] [] := F.bindsN fun _ _ _ _ _ _ us hl => match us, hl with | [_, _], _ => rfl
def spCho (K : PySem.W.Frag) : Sp := fun vs H Q E => ∃ m n ln s k v xs rule, vs = [.ref (m : MA).r, .str rule] ∧ MS K m n ln s k v xs H ∧
  ((∃ sy, wayP rule k = some sy ∧ ∀ p ys H', Same H H' → H p = none → H' p = some (.tup ys) → DpAll K H' ys sy.reverse → Q (.ref p) H') ∨ (wayN rule k = true ∧ smallI v.l ∧ smallI v.c ∧ ∀ H', Same H H' → BadE K v.l v.c H' E))
theorem ok_Reading_m_choose (T : Tx w K mg) : DkM P w K mg base 4 "Reading" "choose" ["self", "rule"] [] (spCho K) := by
  have D_way_of := ok_way_of (P := P) (w := w) (base := base) T
  have D_Reading_m_refuse := ok_Reading_m_refuse (P := P) (w := w) (base := base) T
  obtain ⟨fd, F⟩ := T.d_Reading_m_choose
  refine ⟨⟨fd, [], F.ok sc_Reading_m_choose (fun vs H Q E h => ?_) (fun cdv A outer s H vs Q E hr h => ?_), bd_Reading_m_choose F, .nil⟩⟩
  · obtain ⟨m, n, ln, s, k, v, xs, rule, rfl, _⟩ := h
    rfl
  · obtain ⟨m, n, ln, s0, k, v, xs, rule, rfl, hms, hor⟩ := h
    have hms0 := hms
    obtain ⟨a, h1, h2, h3, h4, ⟨da, h5⟩⟩ := hms
    refine ⟨_, (pss_cons (ps_set (i := 2) sc_Reading_m_choose.nd rfl (.inl rfl) (pe_callR D_way_of (hr.mono (by decide)) (takes_of rfl rfl rfl rfl) (pa_cons (pv 1) (pa_cons (pe_fld (pe_fld (pv 0) rfl) rfl) pa_nil))))
      (pss_cons (ps_if (pt_cmpR op_isN (pv 2) pe_non (nomark _)) (pss_one (ps_expr (pe_methE0 (takes_of rfl rfl rfl rfl) (pv 0) T.cl_Reading T.m_Reading_refuse D_Reading_m_refuse (hr.mono (by decide))))) pss_nil)
      (pss_one (ps_ret (pe_revT (pv 2)))))), ?_⟩
    simp only [cxOf, tYes, eq_self, if_true, if_false, wipe, rLenQ, rIxTQ, rIxLQ, rIxSQ, rInt1Q, rTupQ, rAppQ, rPopQ, rPopAtQ, rRevQ, rListS, rReprP, tLenSetT, tChain, tRetN, tRet, tSeq, tAsg, gName, tVar, tC, tCons, tNil, tCB, tOp, rI0, rI, tAndV, tOrV, tNotV, tIf, tTest, tB, tNot, tAnd, tOr, tIfS, tNext, tCallR, rIsK, rEq, rNe, tDrop, L2.start, List.map_cons, List.map_nil, List.length_cons, List.length_nil, Nat.reduceAdd, Nat.reduceSub, Nat.sub_self, List.replicate_zero, List.replicate_succ, List.append_nil, List.cons_append, List.nil_append, List.getElem?_cons_zero, List.getElem?_cons_succ, List.set_cons_zero, List.set_cons_succ, Option.some.injEq, List.cons.injEq, and_true, true_and, exists_eq_left, exists_eq_left', exists_eq_right, V.ty.injEq, V.int.injEq, V.bl.injEq, V.str.injEq, V.ref.injEq, exists_and_left, exists_const, reduceIte, reduceCtorEq, false_and, and_false, exists_false, or_false, false_or, Bool.not_true, Bool.not_false, Bool.false_eq_true, String.reduceEq, true_or, or_true, rNotT, tNNew, tNNotIn, tNGet, sNPut, tLenSetN, tPar, tAug, ipI, tDNotIn, sDPut, tDGet, tTup, tLst, tBM, tBM0]
    refine ⟨_, rfl, m.r, _, m.dr, _, .ref a, rfl, h1, T.cl_Reading, T.na_Reading_token, rfl, a, _, da, _, .str k, rfl, h5, T.cl_Token, T.na_Token_kind, rfl, rule, k, rfl, ?_⟩
    rcases hor with ⟨sy, hw, q⟩ | ⟨hw, hl, hc, q⟩
    case inr =>
      refine .inr ⟨hw, fun H1 s1 => ?_⟩
      refine ifT rfl ⟨_, rfl, m.r, m.dr, _, rfl, s1 _ _ h1, rfl, m, n, ln, s0, k, v, xs, rfl, ?_, hl, hc, q H1 s1⟩
      exact ⟨a, s1 _ _ h1, s1 _ _ h2, s1 _ _ h3, s1 _ _ h4, da, s1 _ _ h5⟩
    refine .inl ⟨sy, hw, fun p ys H1 s1 hp hd => ?_⟩
    have hn := wayP_noL hw
    refine ifF (decide_eq_false (by intro e; cases e)) ⟨_, rfl, p, ys, rfl, hp, fun p2 hp2 => ?_⟩
    have s2 : Same H1 (upd H1 p2 (.tup ys.reverse)) := same_upd hp2
    refine q p2 _ _ (Same.trans s1 s2) ?_ upd_same (dpAll_rev (dpAll_mono (TK.of_same s2) _ _ hd hn))
    cases e : H p2 with
    | none => rfl
    | some o => rw [s1 _ _ e] at hp2; cases hp2
theorem Wo.noL (v : Wo) : noL v.D = true := by
  cases v <;> rfl
theorem Wp.noL (v : Wp) : Sg.noL v.D = true := v.w.noL
inductive SIt where
  | dat (d : PyData)
  | row (ds : List PyData)
def takeD : Nat → List SIt → List PyData → Option (List PyData × List SIt)
  | 0, its, acc => some (acc, its)
  | n + 1, .dat d :: its, acc => takeD n its (d :: acc)
  | _ + 1, _, _ => none
def deedF (s : Str) (its : List SIt) : Option (List SIt) :=
  if s = Str.ofString "!open" then some (.row [] :: its)
  else if s = Str.ofString "!add" then (match its with | .dat d :: .row ds :: r => some (.row (ds ++ [d]) :: r) | _ => none)
  else if s = Str.ofString "!close" then (match its with | .row ds :: r => some (.dat (.tuple ds) :: r) | _ => none)
  else if s = Str.ofString "!pair" then (match its with | .dat d :: .dat e :: r => some (.dat (.tuple [e, d]) :: r) | _ => none)
  else none
def isNatI (i : Int) : Bool := decide (0 ≤ i)
/-- one step of the reader: the symbols that are left, the tokens, what is kept -/
def stepF : List PyData → List (Str × Wp) → List SIt → Option (List PyData × List (Str × Wp) × List SIt)
  | .tuple [.str wd, .int n] :: left, ts, its => if isNatI n then (takeD n.toNat its []).map fun q => (left, ts, .dat (.tuple (.str wd :: q.1)) :: q.2) else none
  | .tuple [.str _, .str wd, .int n] :: left, ts, its => if isNatI n then (match takeD (n.toNat + 1) its [] with | some (f :: zs, r) => some (left, ts, .dat (.tuple [.str (Str.ofString "claim"), .str wd, f, .tuple zs]) :: r) | _ => none) else none
  | .str s :: left, ts, its => match s.cps.toList[0]? with
    | some 60 => (match ts with | (k, _) :: _ => (wayP s k).map fun sy => (sy ++ left, ts, its) | [] => none)
    | some 33 => (deedF s its).map fun r => (left, ts, r)
    | some 39 => some (left, ts, .dat (.str ⟨(s.cps.toList.drop 1).toArray⟩) :: its)
    | some _ => (match ts with
      | (k, v) :: r => if (decide (k = s) && (decide (k = endS) || !r.isEmpty)) = true then some (left, (if k = endS then ts else r), if keptK k then .dat v.D :: its else its) else none
      | [] => none)
    | none => none
  | _, _, _ => none
/-- how the machine ends -/
inductive Rs where
  | told (d : PyData)
  | bad (l c : Int)
/-- where it refuses now -/
def failF : List PyData → List (Str × Wp) → Option (Int × Int)
  | .str s :: _, (k, v) :: _ => match s.cps.toList[0]? with
    | some 60 => if wayN s k = true then some (v.l, v.c) else none
    | some 33 => none
    | some 39 => none
    | some _ => if decide (k = s) = true then none else some (v.l, v.c)
    | none => none
  | _, _ => none
inductive Run : Nat → List PyData → List (Str × Wp) → List SIt → Rs → Prop
  | fin (m : Nat) (ts : List (Str × Wp)) (d : PyData) : Run m [] ts [.dat d] (.told d)
  | step {m : Nat} {left left' : List PyData} {ts ts' : List (Str × Wp)} {its its' : List SIt} {d : Rs} : stepF left ts its = some (left', ts', its') → Run m left' ts' its' d → Run (m + 1) left ts its d
  | fail (m : Nat) (left : List PyData) (ts : List (Str × Wp)) (its : List SIt) (l c : Int) : failF left ts = some (l, c) → Run (m + 1) left ts its (.bad l c)
theorem Run.mono {m : Nat} {left : List PyData} {ts : List (Str × Wp)} {its : List SIt} {d : Rs} (r : Run m left ts its d) : Run (m + 1) left ts its d := by
  induction r with
  | fin m ts d => exact .fin _ ts d
  | step h _ ih => exact .step h ih
  | fail m left ts its l c h => exact .fail _ _ _ _ _ _ h
/-- the tokens that are still to be read: the first is read already -/
inductive LexS (z : Str) : Nat → Nat → Nat → List (Str × Wp) → Prop
  | one (n ln s : Nat) (t : Str × Wp) : LexS z n ln s [t]
  | more {n ln s n' l' s' : Nat} {t : Str × Wp} {k : Str} {v : Wp} {ts : List (Str × Wp)} : Lex1 z n ln s k v n' l' s' → LexS z n' l' s' ((k, v) :: ts) → LexS z n ln s (t :: (k, v) :: ts)
/-- what changes but lists of these -/
def Chg (S : List Addr) (H H' : Hp) : Prop := (∀ b xs, b ∉ S → H b = some (.lst xs) → H' b = some (.lst xs)) ∧ TK H H'
theorem Chg.refl (S : List Addr) (H : Hp) : Chg S H H := ⟨fun _ _ _ h => h, TK.refl H⟩
theorem Chg.trans {S : List Addr} {H H1 H2 : Hp} (a : Chg S H H1) (b : Chg S H1 H2) : Chg S H H2 := ⟨fun c xs n h => b.1 c xs n (a.1 c xs n h), a.2.trans b.2⟩
theorem Chg.of_but {H H' : Hp} {l : Addr} {xs : List V} (b : But l H H') (h : H l = some (.lst xs)) : Chg [l] H H' :=
  ⟨fun c ys n e => b c _ (fun q => n (by rw [q]; exact List.mem_singleton_self _)) e, TK.of_but b h⟩
theorem Chg.wide {S S' : List Addr} {H H' : Hp} (c : Chg S H H') (h : ∀ a ∈ S, a ∈ S') : Chg S' H H' := ⟨fun b xs n e => c.1 b xs (fun q => n (h b q)) e, c.2⟩
theorem Chg.of_same {S : List Addr} {H H' : Hp} (s : Same H H') : Chg S H H' := ⟨fun b xs _ e => s b _ e, TK.of_same s⟩
/-- the kept ones, the top one first; H0: a heap in which the open rows were not yet -/
inductive Stk (K : PySem.W.Frag) (H0 H : Hp) (N : Nat) : List Addr → List V → List SIt → Prop
  | nil {S : List Addr} : Stk K H0 H N S [] []
  | dat {S : List Addr} {v : V} {d : PyData} {vs : List V} {its : List SIt} : Dp K H v d → noL d = true → Stk K H0 H N S vs its → Stk K H0 H N S (v :: vs) (.dat d :: its)
  | row {S : List Addr} {a : Addr} {xs : List V} {ds : List PyData} {vs : List V} {its : List SIt} : a ∉ S → H0 a = none → H a = some (.lst xs) → DpAll K H xs ds → noLs ds = true → xs.length ≤ N → Stk K H0 H N (a :: S) vs its → Stk K H0 H N S (.ref a :: vs) (.row ds :: its)
theorem Stk.mono {H0 H H' : Hp} {N : Nat} {S : List Addr} {vs : List V} {its : List SIt} (h : Stk K H0 H N S vs its) : Chg S H H' → Stk K H0 H' N S vs its := by
  induction h with
  | nil => exact fun _ => .nil
  | dat hd hn _ ih => exact fun c => .dat (dp_mono c.2 _ _ hd hn) hn (ih c)
  | row hn h0 ha hd hl hz _ ih => exact fun c => .row hn h0 (c.1 _ _ hn ha) (dpAll_mono c.2 _ _ hd hl) hl hz (ih (c.wide fun _ h => List.mem_cons_of_mem _ h))
theorem Stk.wide {H0 H : Hp} {N : Nat} {S : List Addr} {vs : List V} {its : List SIt} (h : Stk K H0 H N S vs its) : ∀ {S' : List Addr}, (∀ b ∈ S', b ∈ S ∨ H b = none) → Stk K H0 H N S' vs its := by
  induction h with
  | nil => exact fun _ => .nil
  | dat hd hn _ ih => exact fun c => .dat hd hn (ih c)
  | row hn h0 ha hd hl hz _ ih =>
    intro S' c
    refine .row (fun q => ?_) h0 ha hd hl hz (ih fun b hb => ?_)
    · rcases c _ q with e | e
      · exact hn e
      · rw [e] at ha; cases ha
    · rcases List.mem_cons.mp hb with e | e
      · exact .inl (by rw [e]; exact List.mem_cons_self ..)
      · rcases c b e with e | e
        · exact .inl (List.mem_cons_of_mem _ e)
        · exact .inr e
theorem stk_take {H0 H : Hp} {N : Nat} {S : List Addr} : ∀ {n : Nat} {vs : List V} {its r : List SIt} {acc ds : List PyData}, Stk K H0 H N S vs its → takeD n its acc = some (ds, r) →
    ∃ (ys : List V) (es : List PyData) (ws : List V), vs = ys.reverse ++ ws ∧ ys.length = n ∧ ds = es ++ acc ∧ DpAll K H ys es ∧ noLs es = true ∧ Stk K H0 H N S ws r
  | 0, vs, its, r, acc, ds, h, e => by
    cases e
    exact ⟨[], [], vs, rfl, rfl, rfl, .nil, rfl, h⟩
  | n + 1, vs, its, r, acc, ds, h, e => by
    cases h with
    | nil => cases e
    | row => cases e
    | dat hd hn ht =>
      rename_i v d vs its
      obtain ⟨ys, es, ws, rfl, hl, rfl, ha, hx, hs⟩ := stk_take ht (show takeD n its (d :: acc) = some (ds, r) from e)
      refine ⟨ys ++ [v], es ++ [d], ws, by rw [List.reverse_append]; rfl, by rw [List.length_append, hl]; rfl, by rw [List.append_assoc]; rfl, dpAll_app ha (.cons hd .nil), ?_, hs⟩
      refine noLs_all fun e he => ?_
      rcases List.mem_append.mp he with q | q
      · exact noLs_mem hx q
      · cases List.mem_singleton.mp q
        exact hn
/-- all but lists is kept -/
def NL (H H' : Hp) : Prop := ∀ b o, (∀ ys, o ≠ .lst ys) → H b = some o → H' b = some o
theorem NL.of_but {H H' : Hp} {l : Addr} {xs : List V} (b : But l H H') (h : H l = some (.lst xs)) : NL H H' := fun c o n e => b c o (fun q => by
  rw [q, h] at e
  exact n xs (Option.some.inj e).symm) e
theorem NL.of_same {H H' : Hp} (s : Same H H') : NL H H' := fun c o _ e => s c o e
theorem NL.trans {H H1 H2 : Hp} (a : NL H H1) (b : NL H1 H2) : NL H H2 := fun c o n e => b c o n (a c o n e)
theorem NL.ms {H H' : Hp} {m : MA} {n ln s : Nat} {k : Str} {v : Wp} {xs ys : List V} (c : NL H H') (h : MS K m n ln s k v xs H) (e : H' m.l = some (.lst ys)) : MS K m n ln s k v ys H' := by
  obtain ⟨a, h1, h2, h3, h4, ⟨da, h5⟩⟩ := h
  exact ⟨a, c _ _ (fun _ h => by cases h) h1, c _ _ (fun _ h => by cases h) h2, c _ _ (fun _ h => by cases h) h3, e, da, c _ _ (fun _ h => by cases h) h5⟩
theorem Stk.len {H0 H : Hp} {S : List Addr} {N : Nat} {vs : List V} {its : List SIt} (h : Stk K H0 H N S vs its) : vs.length = its.length := by
  induction h with
  | nil => rfl
  | dat _ _ _ ih => rw [List.length_cons, List.length_cons, ih]
  | row _ _ _ _ _ _ _ ih => rw [List.length_cons, List.length_cons, ih]
theorem Stk.up {H0 H : Hp} {S : List Addr} {N : Nat} {vs : List V} {its : List SIt} (h : Stk K H0 H N S vs its) {M : Nat} (hm : N ≤ M) : Stk K H0 H M S vs its := by
  induction h with
  | nil => exact .nil
  | dat a b _ ih => exact .dat a b ih
  | row a b c d e f _ ih => exact .row a b c d e (Nat.le_trans f hm) ih
def symB : PyData → Bool
  | .str s => decide (s.length ≤ 100)
  | _ => true
def lenB (n : Nat) : PyData → Bool
  | .tuple ws => ws.all fun w => match w with
    | .tuple [.tuple _, .tuple sy] => decide (sy.length ≤ n) && sy.all symB
    | _ => false
  | _ => false
theorem tab_len : ∀ q ∈ tab_RULES, lenB 9 q.2 = true := by decide +kernel
theorem wayP_len {rule k : Str} {sy : List PyData} (h : wayP rule k = some sy) : sy.length ≤ 9 ∧ sy.all symB = true := by
  unfold wayP at h
  split at h
  case h_2 => cases h
  rename_i ws hlk
  have hn0 := tab_len _ (mem_of_look hlk)
  have hn : (ws.all fun w => match w with
    | .tuple [.tuple _, .tuple sy] => decide (sy.length ≤ 9) && sy.all symB
    | _ => false) = true := hn0
  clear hlk hn0
  induction ws with
  | nil => cases h
  | cons e r ih =>
    rw [List.all_cons, Bool.and_eq_true] at hn
    unfold wayL at h
    split at h
    · cases h
    case h_3 => cases h
    rename_i ks sy' r' kk heq
    cases heq
    split at h
    case isFalse => cases h
    split at h
    · cases h
      have h2 := (Bool.and_eq_true _ _).mp hn.1
      exact ⟨of_decide_eq_true h2.1, h2.2⟩
    · exact ih h hn.2
end
end K02

namespace K02
open PySem PySem.Spec PyProof.Rows L2 Sg
section
variable {P : Program} [PF P] {w : World} {K : PySem.W.Frag} {mg : Str → Option Value} {base : Heap}
inductive StpI : List PyData → List (Str × Wp) → List SIt → List PyData → List (Str × Wp) → List SIt → Prop
  | make {left : List PyData} {ts : List (Str × Wp)} {its : List SIt} (wd : Str) (n : Nat) (ds : List PyData) (r : List SIt) : takeD n its [] = some (ds, r) → StpI (.tuple [.str wd, .int (n : Int)] :: left) ts its left ts (.dat (.tuple (.str wd :: ds)) :: r)
  | claim {left : List PyData} {ts : List (Str × Wp)} {its : List SIt} (c wd : Str) (n : Nat) (f : PyData) (zs : List PyData) (r : List SIt) : takeD (n + 1) its [] = some (f :: zs, r) → StpI (.tuple [.str c, .str wd, .int (n : Int)] :: left) ts its left ts (.dat (.tuple [.str (Str.ofString "claim"), .str wd, f, .tuple zs]) :: r)
  | ru {left : List PyData} {its : List SIt} (s k : Str) (v : Wp) (r : List (Str × Wp)) (sy : List PyData) : s.cps.toList[0]? = some 60 → wayP s k = some sy → StpI (.str s :: left) ((k, v) :: r) its (sy ++ left) ((k, v) :: r) its
  | deed {left : List PyData} {ts : List (Str × Wp)} {its : List SIt} (s : Str) (r : List SIt) : s.cps.toList[0]? = some 33 → deedF s its = some r → StpI (.str s :: left) ts its left ts r
  | word {left : List PyData} {ts : List (Str × Wp)} {its : List SIt} (s : Str) : s.cps.toList[0]? = some 39 → StpI (.str s :: left) ts its left ts (.dat (.str ⟨(s.cps.toList.drop 1).toArray⟩) :: its)
  | tok {left : List PyData} {its : List SIt} (s : Str) (v : Wp) (c : Nat) (r : List (Str × Wp)) : s.cps.toList[0]? = some c → c ≠ 60 → c ≠ 33 → c ≠ 39 → (s = endS ∨ r ≠ []) → StpI (.str s :: left) ((s, v) :: r) its left (if s = endS then (s, v) :: r else r) (if keptK s then .dat v.D :: its else its)
theorem stepF_inv {left l2 : List PyData} {ts t2 : List (Str × Wp)} {its i2 : List SIt} (h : stepF left ts its = some (l2, t2, i2)) : StpI left ts its l2 t2 i2 := by
  unfold stepF at h
  split at h
  · split at h
    case isFalse => cases h
    rename_i wd n left hn
    obtain ⟨n, rfl⟩ := Int.eq_ofNat_of_zero_le (of_decide_eq_true hn)
    rw [Int.toNat_natCast] at h
    cases e : takeD n its [] with
    | none => rw [e] at h; cases h
    | some q => rw [e] at h; cases h; exact .make _ _ _ _ e
  · split at h
    case isFalse => cases h
    rename_i c wd n left hn
    obtain ⟨n, rfl⟩ := Int.eq_ofNat_of_zero_le (of_decide_eq_true hn)
    rw [Int.toNat_natCast] at h
    split at h
    · rename_i f zs r e
      cases h
      exact .claim _ _ _ _ _ _ e
    · cases h
  · rename_i s left
    split at h
    · rename_i hc
      cases ts with
      | nil => cases h
      | cons t ts =>
        obtain ⟨k, v⟩ := t
        have h : (wayP s k).map (fun sy => (sy ++ left, (k, v) :: ts, its)) = some (l2, t2, i2) := h
        cases e : wayP s k with
        | none => rw [e] at h; cases h
        | some sy => rw [e] at h; cases h; exact .ru _ _ _ _ _ hc e
    · rename_i hc
      cases e : deedF s its with
      | none => rw [e] at h; cases h
      | some r => rw [e] at h; cases h; exact .deed _ _ hc e
    · rename_i hc
      cases h
      exact .word _ hc
    · rename_i c n1 n2 n3 hc
      cases ts with
      | nil => cases h
      | cons t ts =>
        obtain ⟨k, v⟩ := t
        have h2 : (if (decide (k = s) && (decide (k = endS) || !ts.isEmpty)) = true then some (left, (if k = endS then (k, v) :: ts else ts), if keptK k then SIt.dat v.D :: its else its) else none) = some (l2, t2, i2) := h
        clear h
        cases hb : (decide (k = s) && (decide (k = endS) || !ts.isEmpty)) with
        | false => rw [hb, if_neg Bool.false_ne_true] at h2; cases h2
        | true =>
        rw [hb, if_pos rfl] at h2
        rw [Bool.and_eq_true] at hb
        have hk := of_decide_eq_true hb.1
        have hr : k = endS ∨ ts ≠ [] := by
          rcases Bool.or_eq_true_iff.mp hb.2 with q | q
          · exact .inl (of_decide_eq_true q)
          · exact .inr (fun e => by rw [e] at q; cases q)
        subst hk
        cases h2
        exact .tok _ _ c _ hc (fun e => n1 (by rw [e])) (fun e => n2 (by rw [e])) (fun e => n3 (by rw [e])) hr
    · cases h
  · cases h
theorem szle' {n : Nat} (h : n ≤ 10000000) : n ≤ sizeLine := by
  rw [sizeLine_eq]
  omega
theorem cut_one (y : Str) : cutS y (some 1) none = ⟨(y.cps.toList.drop 1).toArray⟩ := by
  refine str_ext ?_
  have hl : y.cps.toList.length = y.length := Array.length_toList
  unfold cutS
  rw [show (1 : Int) = ((1 : Nat) : Int) from rfl, HT.sIx_nat, HT.sIx_none]
  show (y.cps.toList.drop (min 1 y.length)).take (y.length - min 1 y.length) = y.cps.toList.drop 1
  by_cases h : 1 ≤ y.length
  · rw [Nat.min_eq_left h, List.take_of_length_le (by rw [List.length_drop]; omega)]
  · rw [List.drop_eq_nil_iff.mpr (by omega : y.cps.toList.length ≤ 1), show y.length = 0 by omega, Nat.zero_sub, List.take_zero]
theorem ne_sgn {c d : Nat} (h : c ≠ d) {q : Str} (hq : sgn d = q := by rfl) : ¬ V.str (sgn c) = V.str q := fun e => by
  rw [← hq] at e
  have e2 : (sgn c).cps.toList = (sgn d).cps.toList := congrArg (fun x => x.cps.toList) (V.str.inj e)
  exact h (List.cons.inj e2).1
theorem sc_Reading_m_read_all : FnScope ["self", "rule", "left", "symbol"] ["self", "rule"] (defScope (clsAt (topS 37) 4)) := ⟨rfl, rfl, rfl, by decide +kernel, rfl, by decide +kernel, by decide +kernel⟩
theorem bd_Reading_m_read_all {K : PySem.W.Frag} {fd : FuncData} (F : FnM K "Reading" "read_all" "Reading.read_all" (clsAt (topS 37) 4) [] fd) : Binds K fd ["self", "rule"] [] := F.bindsN fun _ _ _ _ _ _ us hl => match us, hl with | [_, _], _ => rfl
def RaE (K : PySem.W.Frag) (F : Hp → Prop) (Q : VK) (E : XK) : Rs → Prop
  | .told d => ∀ x H', F H' → Dp K H' x d → noL d = true → Q x H'
  | .bad l c => smallI l ∧ smallI c ∧ ∀ H', F H' → BadE K l c H' E
inductive FaiI : List PyData → List (Str × Wp) → Int → Int → Prop
  | ru (s k : Str) (v : Wp) (left : List PyData) (r : List (Str × Wp)) : s.cps.toList[0]? = some 60 → wayN s k = true → FaiI (.str s :: left) ((k, v) :: r) v.l v.c
  | tok (s k : Str) (v : Wp) (c : Nat) (left : List PyData) (r : List (Str × Wp)) : s.cps.toList[0]? = some c → c ≠ 60 → c ≠ 33 → c ≠ 39 → k ≠ s → FaiI (.str s :: left) ((k, v) :: r) v.l v.c
theorem failF_inv {left : List PyData} {ts : List (Str × Wp)} {l c : Int} (h : failF left ts = some (l, c)) : FaiI left ts l c := by
  unfold failF at h
  split at h
  case h_2 => cases h
  rename_i s left k v r
  split at h
  · rename_i hc
    split at h
    · rename_i hw
      cases h
      exact .ru _ _ _ _ _ hc hw
    · cases h
  · cases h
  · cases h
  · rename_i c n1 n2 n3 hc
    split at h
    · cases h
    · rename_i hk
      cases h
      exact .tok _ _ _ c _ _ hc (fun e => n1 (by rw [e])) (fun e => n2 (by rw [e])) (fun e => n3 (by rw [e])) fun e => hk (decide_eq_true e)
  · cases h
def spRa (K : PySem.W.Frag) : Sp := fun vs H Q E => ∃ (m : MA) (n ln s : Nat) (k : Str) (v : Wp) (rule : Str) (ts : List (Str × Wp)) (d : Rs) (mm : Nat), vs = [.ref m.r, .str rule] ∧ rule.length ≤ 100 ∧ m.z.length ≤ 1000000 ∧ mm ≤ 1000000 ∧ MS K m n ln s k v [] H ∧ LexS m.z n ln s ((k, v) :: ts) ∧ Run mm [.str rule, .str endS] ((k, v) :: ts) [] d ∧ RaE K (fun H' => ∀ b o, b ≠ m.r → b ≠ m.x → b ≠ m.l → H b = some o → H' b = some o) Q E d
def LI (K : PySem.W.Frag) (H : Hp) (m : MA) (p : Addr) (rule : Str) (d : Rs) (mm j : Nat) (σ : L2.St) (H' : Hp) : Prop :=
  ∃ (left : List PyData) (ts : List (Str × Wp)) (its : List SIt) (k : Str) (v : Wp) (n ln s : Nat) (vs lv : List V) (x3 : Option V), Run j left ((k, v) :: ts) its d ∧ j ≤ mm ∧ left.length ≤ 2 + 9 * (mm - j) ∧ its.length ≤ mm - j ∧
    MS K m n ln s k v vs.reverse H' ∧ LexS m.z n ln s ((k, v) :: ts) ∧ Stk K H H' (mm - j) [m.l, p] vs its ∧ H' p = some (.lst lv.reverse) ∧ DpAll K H' lv left ∧ noLs left = true ∧ left.all symB = true ∧
    (∀ b o, b ≠ m.r → b ≠ m.x → b ≠ m.l → H b = some o → H' b = some o) ∧ σ = [some (.ref m.r), some (.str rule), some (.ref p), x3]
theorem ok_Reading_m_read_all (T : Tx w K mg) : DkM P w K mg base 8 "Reading" "read_all" ["self", "rule"] [] (spRa K) := by
  have D_Worths_m_keep := ok_Worths_m_keep (P := P) (w := w) (base := base) T
  have D_Worths_m_take := ok_Worths_m_take (P := P) (w := w) (base := base) T
  have D_Worths_m_make := ok_Worths_m_make (P := P) (w := w) (base := base) T
  have D_Worths_m_do := ok_Worths_m_do (P := P) (w := w) (base := base) T
  have D_Reading_m_choose := ok_Reading_m_choose (P := P) (w := w) (base := base) T
  have D_Reading_m_match := ok_Reading_m_match (P := P) (w := w) (base := base) T
  obtain ⟨fd, F⟩ := T.d_Reading_m_read_all
  refine ⟨⟨fd, [], F.ok sc_Reading_m_read_all (fun vs H Q E h => ?_) (fun cdv A outer s H vs Q E hr h => ?_), bd_Reading_m_read_all F, .nil⟩⟩
  · obtain ⟨m, n, ln, s, k, v, rule, ts, d, mm, rfl, _⟩ := h
    rfl
  · obtain ⟨m, n, ln, s0, k, v, rule, ts, d, mm, rfl, hru, hz, hmm, hms, hlex, hrun, q⟩ := h
    obtain ⟨_, c_END⟩ := T.c_END
    refine ⟨_, (pss_cons (ps_set (i := 2) sc_Reading_m_read_all.nd rfl (.inl rfl) (pe_lst (pa_cons (pe_glob (v := .str "end of the text") (by rfl) c_END ⟨_, rfl⟩) (pa_cons (pv 1) pa_nil))))
      (pss_cons (ps_while (passes_of rfl) (pt_truth (pv 2) (by intro _; rfl)) (pss_cons (ps_set (i := 3) sc_Reading_m_read_all.nd rfl (.inl rfl) (pe_bm0 PySem.F.plainAttrs_list PySem.F.slot_list_pop PySem.F.type_list_pop mt_popQ (pv 2)))
      (pss_one (ps_if (pt_val (pe_callB call_isK (by rfl) T.f_isinstance PyProof.Rows.boot_isinstance (pa_cons (pv 3) (pa_cons (pe_bltn (v := .ty "tuple") (by rfl) T.f_tuple PyProof.Rows.boot_tuple rfl) pa_nil)))) (pss_one (ps_expr (pe_methR (pe_fld (pv 0) rfl) T.cl_Worths T.m_Worths_make D_Worths_m_make (hr.mono (by decide)) (pa_cons (pv 3) pa_nil)))) (pss_one (ps_if (pt_cmpR op_eq (pe_ix ix_strQ (pv 3) pe_int (fun _ _ => rfl)) pe_str (nomark _)) (pss_one (ps_expr (pe_bm PySem.F.plainAttrs_list PySem.F.slot_list_extend PySem.F.type_list_extend mt_extendT (pv 2) (pa_cons (pe_methE (takes_of rfl rfl rfl rfl) (pv 0) T.cl_Reading T.m_Reading_choose D_Reading_m_choose (hr.mono (by decide)) (pa_cons (pv 3) pa_nil)) pa_nil)))) (pss_one (ps_if (pt_cmpR op_eq (pe_ix ix_strQ (pv 3) pe_int (fun _ _ => rfl)) pe_str (nomark _)) (pss_one (ps_expr (pe_methR (pe_fld (pv 0) rfl) T.cl_Worths T.m_Worths_do D_Worths_m_do (hr.mono (by decide)) (pa_cons (pv 3) pa_nil)))) (pss_one (ps_if (pt_cmpR op_eq (pe_ix ix_strQ (pv 3) pe_int (fun _ _ => rfl)) pe_str (nomark _)) (pss_one (ps_expr (pe_methR (pe_fld (pv 0) rfl) T.cl_Worths T.m_Worths_keep D_Worths_m_keep (hr.mono (by decide)) (pa_cons (pe_slice sl_str (pv 3) (po_some pe_int) po_none) pa_nil)))) (pss_one (ps_expr (pe_methE (takes_of rfl rfl rfl rfl) (pv 0) T.cl_Reading T.m_Reading_match D_Reading_m_match (hr.mono (by decide)) (pa_cons (pv 3) pa_nil))))))))))))))
      (pss_one (ps_ret (pe_ix ix_listQ (pe_methR (pe_fld (pv 0) rfl) T.cl_Worths T.m_Worths_take D_Worths_m_take (hr.mono (by decide)) (pa_cons pe_int pa_nil)) pe_int (fun _ _ => rfl)))))), ?_⟩
    simp only [cxOf, tYes, eq_self, if_true, if_false, wipe, rLenQ, rIxTQ, rIxLQ, rIxSQ, rInt1Q, rTupQ, rAppQ, rPopQ, rPopAtQ, rRevQ, rListS, rReprP, tLenSetT, tChain, tRetN, tRet, tSeq, tAsg, gName, tVar, tC, tCons, tNil, tCB, tOp, rI0, rI, tAndV, tOrV, tNotV, tIf, tTest, tB, tNot, tAnd, tOr, tIfS, tNext, tCallR, rIsK, rEq, rNe, tDrop, L2.start, List.map_cons, List.map_nil, List.length_cons, List.length_nil, Nat.reduceAdd, Nat.reduceSub, Nat.sub_self, List.replicate_zero, List.replicate_succ, List.append_nil, List.cons_append, List.nil_append, List.getElem?_cons_zero, List.getElem?_cons_succ, List.set_cons_zero, List.set_cons_succ, Option.some.injEq, List.cons.injEq, and_true, true_and, exists_eq_left, exists_eq_left', exists_eq_right, V.ty.injEq, V.int.injEq, V.bl.injEq, V.str.injEq, V.ref.injEq, exists_and_left, exists_const, reduceIte, reduceCtorEq, false_and, and_false, exists_false, or_false, false_or, Bool.not_true, Bool.not_false, Bool.false_eq_true, String.reduceEq, true_or, or_true, rNotT, tNNew, tNNotIn, tNGet, sNPut, tLenSetN, tPar, tAug, ipI, tDNotIn, sDPut, tDGet, tTup, tLst, tBM, tBM0]
    refine ⟨by decide, fun p hp => ?_⟩
    have hms0 := hms
    obtain ⟨a0, h1, h2, h3, h4, ⟨da0, h5⟩⟩ := hms0
    have hsy : ([.str rule, .str endS] : List PyData).all symB = true := by
      rw [List.all_cons, List.all_cons]
      rw [show symB (.str rule) = true from decide_eq_true hru]
      decide
    have nlp : m.l ≠ p := fun e => by rw [e, hp] at h4; cases h4
    have nrp : m.r ≠ p := fun e => by rw [e, hp] at h1; cases h1
    have nxp : m.x ≠ p := fun e => by rw [e, hp] at h2; cases h2
    have s0' : Same H (upd H p (.lst [V.str (Str.ofString "end of the text"), V.str rule])) := same_upd hp
    refine ⟨LI K H m p rule d mm, ⟨mm, _, _, _, _, _, _, _, _, [], [.str rule, .str endS], _, hrun, Nat.le_refl _, by simp, Nat.zero_le _, (NL.of_same s0').ms hms (s0' _ _ h4), hlex, .nil, upd_same, .cons (.str _) (.cons (.str _) .nil), rfl, hsy, fun b o _ _ _ e => s0' _ _ e, rfl⟩, ?_⟩
    rintro j σ H' ⟨left, ts, its, k, v, n, ln, s, vs, lv, x3, hrun, hj, hll, hvl, hms, hlex, hstk, hp', hlv, hnl, hsb, fr, rfl⟩
    have hlen := dpAll_len hlv
    refine ⟨_, rfl, !lv.reverse.isEmpty, .inl ⟨_, .inl (.inl hp'), rfl⟩, ?_⟩
    cases hrun with
    | fin mj ts0 d =>
      cases hlv
      cases hstk with
      | dat hd hn hs =>
      cases hs
      obtain ⟨a1, g1, g2, g3, g4, ⟨da1, g5⟩⟩ := hms
      refine ifF rfl ?_
      refine ⟨_, rfl, m.r, _, m.dr, _, .ref m.wo, rfl, g1, T.cl_Reading, T.na_Reading_worths, rfl, m.wo, m.dw, _, rfl, g3, rfl, m.wo, m.dw, m.l, [], [_], rfl, g3, g4, fun q1 hq => ?_⟩
      obtain ⟨H2, e2, i1, i2, i3, b2, hpl⟩ := took (xs := []) (ys := [_]) g3 g4 hq
      rw [e2]
      exact ⟨[_], _, .inl (.inl i3), rfl, q _ _ (fun b o hb1 hb2 hb3 e => b2 b o hb3 (fr b o hb1 hb2 hb3 e)) (dp_mono (TK.of_but b2 g4) _ _ hd hn) hn⟩
    | fail j0 _ _ _ l c hf =>
      cases failF_inv hf with
      | ru y _ _ left0 _ hc hw =>
          cases hlv with
          | cons he hl0 =>
          rename_i v0 lv0
          cases he
          rw [List.all_cons, Bool.and_eq_true] at hsb
          refine ifT (by simp) ⟨fun σ' H' => ∃ m', m' < j0 + 1 ∧ LI K H m p rule (.bad v.l v.c) mm m' σ' H', fun _ _ h => h, ?_⟩
          rw [List.reverse_cons] at hp'
          refine ⟨_, rfl, lst_ty hp', lv0.reverse, _, hp', ?_⟩
          have bp : But p H' (upd H' p (.lst lv0.reverse)) := But.upd
          have h1p : upd H' p (.lst lv0.reverse) p = some (.lst lv0.reverse) := upd_same
          generalize upd H' p (.lst lv0.reverse) = H1 at bp h1p
          have ms1 := (NL.of_but bp hp').ms hms (bp _ _ nlp (by obtain ⟨_, _, _, _, h, _⟩ := hms; exact h))
          have fr1 : ∀ b o, b ≠ m.r → b ≠ m.x → b ≠ m.l → H b = some o → H1 b = some o := fun b o c1 c2 c3 e => bp b o (fun q => by rw [q, hp] at e; cases e) (fr b o c1 c2 c3 e)
          obtain ⟨a1, g1, g2, g3, g4, ⟨da1, g5⟩⟩ := id ms1
          have hyl : y.length ≤ 100 := of_decide_eq_true hsb.1
          refine ⟨_, rfl, .inr (.inr (.inr rfl)), Dp.kd (.str y) rfl, _, rfl, ifF rfl ⟨_, rfl, 60, szle hyl, atI_nat (j := 0) hc, rfl, _, rfl, ifT (decide_eq_true rfl) ?_⟩⟩
          refine ⟨_, rfl, lst_ty h1p, _, rfl, m.r, m.dr, _, rfl, g1, rfl, _, rfl, m, n, ln, s, k, v, vs.reverse, y, rfl, ms1, .inr ⟨hw, q.1, q.2.1, fun H2 s2 => q.2.2 H2 fun b o c1 c2 c3 e => s2 _ _ (fr1 b o c1 c2 c3 e)⟩⟩
      | tok y _ _ c left0 _ hc c1 c2 c3 hne =>
          cases hlv with
          | cons he hl0 =>
          rename_i v0 lv0
          cases he
          rw [List.all_cons, Bool.and_eq_true] at hsb
          refine ifT (by simp) ⟨fun σ' H' => ∃ m', m' < j0 + 1 ∧ LI K H m p rule (.bad v.l v.c) mm m' σ' H', fun _ _ h => h, ?_⟩
          rw [List.reverse_cons] at hp'
          refine ⟨_, rfl, lst_ty hp', lv0.reverse, _, hp', ?_⟩
          have bp : But p H' (upd H' p (.lst lv0.reverse)) := But.upd
          have h1p : upd H' p (.lst lv0.reverse) p = some (.lst lv0.reverse) := upd_same
          generalize upd H' p (.lst lv0.reverse) = H1 at bp h1p
          have ms1 := (NL.of_but bp hp').ms hms (bp _ _ nlp (by obtain ⟨_, _, _, _, h, _⟩ := hms; exact h))
          have fr1 : ∀ b o, b ≠ m.r → b ≠ m.x → b ≠ m.l → H b = some o → H1 b = some o := fun b o c1 c2 c3 e => bp b o (fun q => by rw [q, hp] at e; cases e) (fr b o c1 c2 c3 e)
          obtain ⟨a1, g1, g2, g3, g4, ⟨da1, g5⟩⟩ := id ms1
          have hyl : y.length ≤ 100 := of_decide_eq_true hsb.1
          refine ⟨_, rfl, .inr (.inr (.inr rfl)), Dp.kd (.str y) rfl, _, rfl, ?_⟩
          refine ifF rfl ⟨_, rfl, c, szle hyl, atI_nat (j := 0) hc, rfl, _, rfl, ifF (decide_eq_false ?_) ⟨_, rfl, c, szle hyl, atI_nat (j := 0) hc, rfl, _, rfl, ifF (decide_eq_false ?_) ⟨_, rfl, c, szle hyl, atI_nat (j := 0) hc, rfl, _, rfl, ifF (decide_eq_false ?_) ?_⟩⟩⟩
          · exact ne_sgn (d := 60) c1
          · exact ne_sgn (d := 33) c2
          · exact ne_sgn (d := 39) c3
          have hvl' := hstk.len
          refine ⟨_, rfl, m.r, m.dr, _, rfl, g1, rfl, _, rfl, m, n, ln, s, k, y, v, vs.reverse, rfl, hz, by rw [List.length_reverse]; omega, ms1, .inr ⟨hne, q.1, q.2.1, q.2.2 H1 fr1⟩⟩
    | step hst hrun =>
      rename_i j left' ts' its'
      have go : ∀ (e : PyData) (left0 : List PyData), left = e :: left0 → ∃ v0 lv0, lv = v0 :: lv0 ∧ Dp K H' v0 e ∧ DpAll K H' lv0 left0 ∧ noL e = true ∧ noLs left0 = true := by
        rintro e left0 rfl
        cases hlv with
        | cons a b => exact ⟨_, _, rfl, a, b, noLs_mem hnl (List.mem_cons_self ..), noLs_all fun d hd => noLs_mem hnl (List.mem_cons_of_mem _ hd)⟩
      have hll' : ∃ e left0, left = e :: left0 := by
        cases left with
        | nil => cases hst
        | cons e l => exact ⟨e, l, rfl⟩
      obtain ⟨e, left0, rfl⟩ := hll'
      obtain ⟨v0, lv0, rfl, he, hl0, hne, hn0⟩ := go e left0 rfl
      refine ifT (by simp) ⟨fun σ' H' => ∃ m', m' < j + 1 ∧ LI K H m p rule d mm m' σ' H', fun _ _ h => h, ?_⟩
      rw [List.reverse_cons] at hp'
      refine ⟨_, rfl, lst_ty hp', lv0.reverse, v0, hp', ?_⟩
      have bp : But p H' (upd H' p (.lst lv0.reverse)) := But.upd
      have h1p : upd H' p (.lst lv0.reverse) p = some (.lst lv0.reverse) := upd_same
      generalize upd H' p (.lst lv0.reverse) = H1 at bp h1p
      have cp := (Chg.of_but bp hp').wide (S' := [m.l, p]) fun _ h => List.mem_cons_of_mem _ h
      have ms1 := (NL.of_but bp hp').ms hms (bp _ _ nlp (by obtain ⟨_, _, _, _, h, _⟩ := hms; exact h))
      have st0 := hstk.mono cp
      have st1 := st0.up (M := mm - j) (by omega)
      have hl1 := dpAll_mono cp.2 _ _ hl0 hn0
      have he1 := dp_mono cp.2 _ _ he hne
      have fr1 : ∀ b o, b ≠ m.r → b ≠ m.x → b ≠ m.l → H b = some o → H1 b = some o := fun b o c1 c2 c3 e => bp b o (fun q => by rw [q, hp] at e; cases e) (fr b o c1 c2 c3 e)
      refine ⟨_, rfl, .inr (.inr (.inr rfl)), Dp.kd he1 hne, ?_⟩
      rw [List.all_cons, Bool.and_eq_true] at hsb
      obtain ⟨hsy0, hs0⟩ := hsb
      clear go hlv he hl0 hms hstk cp bp hp' fr hlen
      obtain ⟨a1, g1, g2, g3, g4, ⟨da1, g5⟩⟩ := id ms1
      have hvl' := st1.len
      rw [List.length_cons] at hll
      have hB : vs.length < 10000000 := by omega
      refine ⟨_, rfl, ?_⟩
      have next : ∀ (left2 : List PyData) (ts2 : List (Str × Wp)) (its2 : List SIt) (k2 : Str) (v2 : Wp) (n2 ln2 s2 : Nat) (vs2 lv2 : List V) (H2 : Hp), Run j left2 ((k2, v2) :: ts2) its2 d → left2.length ≤ left0.length + 9 → its2.length ≤ its.length + 1 →
          MS K m n2 ln2 s2 k2 v2 vs2.reverse H2 → LexS m.z n2 ln2 s2 ((k2, v2) :: ts2) → Stk K H H2 (mm - j) [m.l, p] vs2 its2 → H2 p = some (.lst lv2.reverse) → DpAll K H2 lv2 left2 → noLs left2 = true → left2.all symB = true →
          (∀ b o, b ≠ m.r → b ≠ m.x → b ≠ m.l → H b = some o → H2 b = some o) → ∃ m', m' < j + 1 ∧ LI K H m p rule d mm m' ([some (V.ref m.r), some (V.str rule), some (V.ref p), x3].set 3 (some v0)) H2 :=
        fun left2 ts2 its2 k2 v2 n2 ln2 s2 vs2 lv2 H2 r a b c d e f g h i i2 => ⟨j, Nat.lt_succ_self j, left2, ts2, its2, k2, v2, n2, ln2, s2, vs2, lv2, _, r, by omega, by omega, by omega, c, d, e, f, g, h, i, i2, rfl⟩
      have npl : p ≠ m.l := Ne.symm nlp
      /- what changes but the kept list -/
      have keep : ∀ (H2 : Hp) (vs2 : List V) (its2 : List SIt), But m.l H1 H2 → H2 m.l = some (.lst vs2.reverse) → Run j left0 ((k, v) :: ts) its2 d → its2.length ≤ its.length + 1 → Stk K H H2 (mm - j) [m.l, p] vs2 its2 →
          ∃ m', m' < j + 1 ∧ LI K H m p rule d mm m' ([some (V.ref m.r), some (V.str rule), some (V.ref p), x3].set 3 (some v0)) H2 :=
        fun H2 vs2 its2 b e r le st => next left0 ts its2 k v n ln s vs2 lv0 H2 r (by omega) le ((NL.of_but b g4).ms ms1 e) hlex st (b _ _ npl h1p) (dpAll_mono (TK.of_but b g4) _ _ hl1 hn0) hn0 hs0 fun c o c1 c2 c3 q => b c o c3 (fr1 c o c1 c2 c3 q)
      have hst2 := stepF_inv hst
      clear hst
      cases hst2 with
      | make wd nk ds r htk =>
          obtain ⟨t, txs, rfl, ht, hta⟩ := tup_of he1
          obtain ⟨ys, es, ws, rfl, hyl, rfl, hya, hyn, hws⟩ := stk_take st1 htk
          rw [List.reverse_append, List.reverse_reverse] at g4
          cases hta with
          | cons t1 t2 =>
          cases t1
          cases t2 with
          | cons t2 t3 =>
          cases t2
          cases t3
          refine ifT rfl ⟨_, rfl, m.r, _, m.dr, _, .ref m.wo, rfl, g1, T.cl_Reading, T.na_Reading_worths, rfl, m.wo, m.dw, _, rfl, g3, rfl, _, rfl, m.wo, m.dw, m.l, ws.reverse, ys, t, rfl, g3, g4, ?_, .inl ⟨wd, by rw [hyl]; exact ht, fun p2 H2 b2 k2 k3 => ?_⟩⟩
          · rw [List.length_reverse]
            rw [List.length_append, List.length_reverse] at hB
            omega
          · have c2 := (Chg.of_but b2 g4).wide (S' := [m.l, p]) fun _ h => by cases List.mem_singleton.mp h; exact List.mem_cons_self ..
            have hwl := hws.len
            refine keep H2 (.ref p2 :: ws) _ b2 (by rw [List.reverse_cons]; exact k2) hrun ?_ (.dat (.tup (.inl (.inl k3)) (.cons (.str wd) ?_)) ?_ (hws.mono c2))
            · rw [List.length_append, List.length_reverse] at hvl'
              rw [List.length_cons]
              omega
            · rw [List.append_nil]
              exact dpAll_mono c2.2 _ _ hya hyn
            · rw [List.append_nil, noL_tup]
              simp only [noLs, noL, Bool.true_and]
              exact hyn
      | claim c wd nk f zs r htk =>
          obtain ⟨t, txs, rfl, ht, hta⟩ := tup_of he1
          obtain ⟨ys, es, ws, rfl, hyl, hes, hya, hyn, hws⟩ := stk_take st1 htk
          rw [List.append_nil] at hes
          subst hes
          rw [List.reverse_append, List.reverse_reverse] at g4
          cases hya with
          | cons hyf hyz =>
          rename_i yf yz
          rw [List.length_cons] at hyl
          have hyn2 : noL f = true ∧ noLs zs = true := by
            simp only [noLs, Bool.and_eq_true] at hyn
            exact hyn
          cases hta with
          | cons t1 t2 =>
          cases t1
          cases t2 with
          | cons t2 t3 =>
          cases t2
          cases t3 with
          | cons t3 t4 =>
          cases t3
          cases t4
          refine ifT rfl ⟨_, rfl, m.r, _, m.dr, _, .ref m.wo, rfl, g1, T.cl_Reading, T.na_Reading_worths, rfl, m.wo, m.dw, _, rfl, g3, rfl, _, rfl, m.wo, m.dw, m.l, ws.reverse, yf :: yz, t, rfl, g3, g4, ?_, .inr ⟨wd, c, yf, yz, rfl, by rw [show yz.length = nk by omega]; exact ht, fun p2 q2 H2 b2 k2 k3 k4 => ?_⟩⟩
          · rw [List.length_reverse]
            rw [List.length_append, List.length_reverse] at hB
            omega
          · have c2 := (Chg.of_but b2 g4).wide (S' := [m.l, p]) fun _ h => by cases List.mem_singleton.mp h; exact List.mem_cons_self ..
            have hwl := hws.len
            refine keep H2 (.ref p2 :: ws) _ b2 (by rw [List.reverse_cons]; exact k2) hrun ?_ (.dat (.tup (.inl (.inl k4)) (.cons (.str _) (.cons (.str _) (.cons (dp_mono c2.2 _ _ hyf hyn2.1) (.cons (.tup (.inl (.inl k3)) (dpAll_mono c2.2 _ _ hyz hyn2.2)) .nil))))) ?_ (hws.mono c2))
            · rw [List.length_append, List.length_reverse] at hvl'
              rw [List.length_cons]
              omega
            · simp only [noL, noLs, Bool.true_and, Bool.and_true, Bool.and_eq_true]
              exact hyn2
      | ru y _ _ _ sy hc hw =>
          cases he1
          have hyl : y.length ≤ 100 := of_decide_eq_true hsy0
          refine ifF rfl ⟨_, rfl, 60, szle hyl, atI_nat (j := 0) hc, rfl, _, rfl, ifT (decide_eq_true rfl) ?_⟩
          refine ⟨_, rfl, lst_ty h1p, _, rfl, m.r, m.dr, _, rfl, g1, rfl, _, rfl, m, n, ln, s, k, v, vs.reverse, y, rfl, ms1, .inl ⟨sy, hw, fun p2 ys H2 s2 hp2 k3 hya => ?_⟩⟩
          have hyl2 := dpAll_len hya
          rw [List.length_reverse] at hyl2
          have hsy2 := wayP_len hw
          have hl2 := dpAll_len hl1
          have b3 : But p H1 (upd H2 p (.lst (lv0.reverse ++ ys))) := (But.of_same s2).trans But.upd
          have c3 := (Chg.of_but b3 h1p).wide (S' := [m.l, p]) fun _ h => List.mem_cons_of_mem _ h
          have c4 : TK H2 (upd H2 p (.lst (lv0.reverse ++ ys))) := TK.of_but But.upd (s2 _ _ h1p)
          have hsn := wayP_noL hw
          have hyr := dpAll_mono c4 _ _ hya (noLs_all fun d hd => noLs_mem hsn (List.mem_reverse.mp hd))
          refine ⟨p, p2, lv0.reverse, ys, rfl, rfl, s2 _ _ h1p, .inl (.inl k3), szle' (by rw [List.length_reverse]; omega), next (sy ++ left0) _ its _ _ n ln s vs (ys.reverse ++ lv0) _ hrun (by rw [List.length_append]; omega) (by omega) ((NL.of_but b3 h1p).ms ms1 (b3 _ _ nlp g4)) hlex (st1.mono c3) (by rw [List.reverse_append, List.reverse_reverse]; exact upd_same) (dpAll_app ?_ (dpAll_mono c3.2 _ _ hl1 hn0)) ?_ ?_ fun b o q1 q2 q3 e => b3 b o (fun q => by rw [q, hp] at e; cases e) (fr1 b o q1 q2 q3 e)⟩
          · have := dpAll_rev hyr
            rwa [List.reverse_reverse] at this
          · refine noLs_all fun d hd => ?_
            rcases List.mem_append.mp hd with q | q
            · exact noLs_mem hsn q
            · exact noLs_mem hn0 q
          · rw [List.all_append, hsy2.2, hs0]
            rfl
      | deed y r hc hd =>
          cases he1
          have hyl : y.length ≤ 100 := of_decide_eq_true hsy0
          refine ifF rfl ⟨_, rfl, 33, szle hyl, atI_nat (j := 0) hc, rfl, _, rfl, ifF (decide_eq_false (by decide)) ⟨_, rfl, 33, szle hyl, atI_nat (j := 0) hc, rfl, _, rfl, ifT (decide_eq_true rfl) ?_⟩⟩
          refine ⟨_, rfl, m.r, _, m.dr, _, .ref m.wo, rfl, g1, T.cl_Reading, T.na_Reading_worths, rfl, m.wo, m.dw, _, rfl, g3, rfl, _, rfl, m.wo, m.dw, m.l, y, rfl, g3, ?_⟩
          unfold deedF at hd
          have one : ∀ {H2 : Hp}, But m.l H1 H2 → Chg [m.l, p] H1 H2 := fun b => (Chg.of_but b g4).wide fun _ h => by cases List.mem_singleton.mp h; exact List.mem_cons_self ..
          by_cases o1 : y = Str.ofString "!open"
          · rw [if_pos o1] at hd
            cases hd
            refine .inl ⟨o1, _, g4, by rw [List.length_reverse]; exact hB, fun p2 H2 b2 k2 k3 k4 => ?_⟩
            have e0 : H p2 = none := by
              cases e : H p2 with
              | none => rfl
              | some o =>
                have := fr1 p2 o (fun q => by rw [q, g1] at k4; cases k4) (fun q => by rw [q, g2] at k4; cases k4) (fun q => by rw [q, g4] at k4; cases k4) e
                rw [this] at k4
                cases k4
            have en : p2 ∉ [m.l, p] := fun q => by
              rcases List.mem_cons.mp q with q | q
              · rw [q, g4] at k4; cases k4
              · rw [List.mem_singleton.mp q, h1p] at k4; cases k4
            have w1 : Stk K H H1 (mm - j) (p2 :: [m.l, p]) vs its := st1.wide fun b hb => by
              rcases List.mem_cons.mp hb with q | q
              · exact .inr (by rw [q]; exact k4)
              · exact .inl q
            exact keep H2 (.ref p2 :: vs) (.row [] :: its) b2 (by rw [List.reverse_cons]; exact k2) hrun (Nat.le_refl _) (.row en e0 k3 .nil rfl (Nat.zero_le _) (w1.mono ((one b2).wide fun _ h => List.mem_cons_of_mem _ h)))
          rw [if_neg o1] at hd
          by_cases o2 : y = Str.ofString "!add"
          · rw [if_pos o2] at hd
            clear st1
            cases st0 with
            | nil => cases hd
            | row => cases hd
            | dat q1 q2 q3 =>
            rename_i v1 d1 vs1 its1
            cases q3 with
            | nil => cases hd
            | dat => cases hd
            | row n1 n2 n3 n4 n5 n6 n7 =>
            rename_i a2 xs2 ds2 vs2 its2
            cases hd
            have nal : a2 ≠ m.l := fun e => n1 (by rw [e]; exact List.mem_cons_self ..)
            have nap : p ≠ a2 := fun e => n1 (by rw [e]; exact List.mem_cons_of_mem _ (List.mem_singleton_self _))
            rw [List.reverse_cons, List.reverse_cons, List.append_assoc] at g4
            rw [List.length_cons, List.length_cons] at hB hvl hvl'
            refine .inr (.inl ⟨o2, vs2.reverse, a2, xs2, v1, g4, n3, nal, by rw [List.length_reverse]; omega, by omega, fun H2 f2 k2 k3 => ?_⟩)
            have nl2 : NL H1 H2 := fun b o n e => f2 b o (fun q => by rw [q, g4] at e; exact n _ (Option.some.inj e).symm) (fun q => by rw [q, n3] at e; exact n _ (Option.some.inj e).symm) e
            have tk2 : TK H1 H2 := ⟨fun b ys e => nl2 b _ (fun _ h => by cases h) e, fun b o u e => nl2 b _ (fun _ h => by cases h) e⟩
            have c2 : Chg (a2 :: [m.l, p]) H1 H2 := ⟨fun b ys hb e => f2 b _ (fun q => hb (by rw [q]; exact List.mem_cons_of_mem _ (List.mem_cons_self ..))) (fun q => hb (by rw [q]; exact List.mem_cons_self ..)) e, tk2⟩
            refine next _ _ _ _ _ n ln s (.ref a2 :: vs2) lv0 H2 hrun (by omega) (by rw [List.length_cons, List.length_cons, List.length_cons]; omega) (nl2.ms ms1 (by rw [List.reverse_cons]; exact k2)) hlex (.row n1 n2 k3 (dpAll_app (dpAll_mono tk2 _ _ n4 n5) (.cons (dp_mono tk2 _ _ q1 q2) .nil)) ?_ ?_ ((n7.mono c2).up (by omega))) (f2 _ _ npl nap h1p) (dpAll_mono tk2 _ _ hl1 hn0) hn0 hs0 fun b o z1 z2 z3 e => f2 b o z3 (fun q => by rw [q, n2] at e; cases e) (fr1 b o z1 z2 z3 e)
            · refine noLs_all fun d hd => ?_
              rcases List.mem_append.mp hd with q | q
              · exact noLs_mem n5 q
              · cases List.mem_singleton.mp q
                exact q2
            · rw [List.length_append, List.length_singleton]
              omega
          rw [if_neg o2] at hd
          by_cases o3 : y = Str.ofString "!close"
          · rw [if_pos o3] at hd
            cases st1 with
            | nil => cases hd
            | dat => cases hd
            | row n1 n2 n3 n4 n5 n6 n7 =>
            rename_i a2 xs2 ds2 vs2 its2
            cases hd
            have nal : a2 ≠ m.l := fun e => n1 (by rw [e]; exact List.mem_cons_self ..)
            rw [List.reverse_cons] at g4
            rw [List.length_cons] at hB hvl hvl'
            refine .inr (.inr (.inl ⟨o3, vs2.reverse, a2, xs2, g4, n3, nal, by rw [List.length_reverse]; omega, fun p2 H2 b2 k2 k3 => ?_⟩))
            refine keep H2 (.ref p2 :: vs2) _ b2 (by rw [List.reverse_cons]; exact k2) hrun (by rw [List.length_cons, List.length_cons]; omega) (.dat (.tup (.inl (.inl k3)) (dpAll_mono (one b2).2 _ _ n4 n5)) (by rw [noL_tup]; exact n5) ((n7.wide fun b hb => .inl (List.mem_cons_of_mem _ hb)).mono (one b2)))
          rw [if_neg o3] at hd
          by_cases o4 : y = Str.ofString "!pair"
          · rw [if_pos o4] at hd
            cases st1 with
            | nil => cases hd
            | row => cases hd
            | dat q1 q2 q3 =>
            rename_i v1 d1 vs1 its1
            cases q3 with
            | nil => cases hd
            | row => cases hd
            | dat q3 q4 q5 =>
            rename_i v2 d2 vs2 its2
            cases hd
            rw [List.reverse_cons, List.reverse_cons, List.append_assoc] at g4
            rw [List.length_cons, List.length_cons] at hB hvl hvl'
            refine .inr (.inr (.inr ⟨o4, vs2.reverse, v2, v1, g4, by rw [List.length_reverse]; omega, fun p2 H2 b2 k2 k3 => ?_⟩))
            refine keep H2 (.ref p2 :: vs2) _ b2 (by rw [List.reverse_cons]; exact k2) hrun (by rw [List.length_cons, List.length_cons, List.length_cons]; omega) (.dat (.tup (.inl (.inl k3)) (.cons (dp_mono (one b2).2 _ _ q3 q4) (.cons (dp_mono (one b2).2 _ _ q1 q2) .nil))) ?_ (q5.mono (one b2)))
            simp only [noL, noLs, Bool.and_true, Bool.and_eq_true]
            exact ⟨q4, q2⟩
          rw [if_neg o4] at hd
          cases hd
      | word y hc =>
          cases he1
          have hyl : y.length ≤ 100 := of_decide_eq_true hsy0
          refine ifF rfl ⟨_, rfl, 39, szle hyl, atI_nat (j := 0) hc, rfl, _, rfl, ifF (decide_eq_false (by decide)) ⟨_, rfl, 39, szle hyl, atI_nat (j := 0) hc, rfl, _, rfl, ifF (decide_eq_false (by decide)) ⟨_, rfl, 39, szle hyl, atI_nat (j := 0) hc, rfl, _, rfl, ifT (decide_eq_true rfl) ?_⟩⟩⟩
          refine ⟨_, rfl, m.r, _, m.dr, _, .ref m.wo, rfl, g1, T.cl_Reading, T.na_Reading_worths, rfl, m.wo, m.dw, _, rfl, g3, rfl, ?_⟩
          simp only [tCons, tNil, tPart, tNoPart]
          refine ⟨_, rfl, _, rfl, y, rfl, szle hyl, m.wo, m.dw, m.l, vs.reverse, _, rfl, g3, g4, szlt' (by rw [List.length_reverse]; exact hB), ?_⟩
          have b2 : But m.l H1 (upd H1 m.l (.lst (vs.reverse ++ [.str (cutS y (some 1) none)]))) := But.upd
          have c2 : Chg [m.l, p] H1 (upd H1 m.l (.lst (vs.reverse ++ [.str (cutS y (some 1) none)]))) := (Chg.of_but b2 g4).wide fun _ h => by cases List.mem_singleton.mp h; exact List.mem_cons_self ..
          rw [← cut_one y] at hrun
          exact keep _ (.str (cutS y (some 1) none) :: vs) _ b2 (by rw [List.reverse_cons]; exact upd_same) hrun (Nat.le_refl _) (.dat (.str _) rfl (st1.mono c2))
      | tok _ _ c _ hc c1 c2 c3 hr2 =>
          cases he1
          have hyl : k.length ≤ 100 := of_decide_eq_true hsy0
          refine ifF rfl ⟨_, rfl, c, szle hyl, atI_nat (j := 0) hc, rfl, _, rfl, ifF (decide_eq_false ?_) ⟨_, rfl, c, szle hyl, atI_nat (j := 0) hc, rfl, _, rfl, ifF (decide_eq_false ?_) ⟨_, rfl, c, szle hyl, atI_nat (j := 0) hc, rfl, _, rfl, ifF (decide_eq_false ?_) ?_⟩⟩⟩
          · exact ne_sgn (d := 60) c1
          · exact ne_sgn (d := 33) c2
          · exact ne_sgn (d := 39) c3
          refine ⟨_, rfl, m.r, m.dr, _, rfl, g1, rfl, _, rfl, m, n, ln, s, k, k, v, vs.reverse, rfl, hz, by rw [List.length_reverse]; exact hB, ms1, .inl ⟨rfl, ?_⟩⟩
          by_cases hke : k = endS
          · refine .inl ⟨hke, ?_⟩
            rw [if_pos hke, show keptK k = false by rw [hke]; decide, if_neg Bool.false_ne_true] at hrun
            exact next _ _ its _ _ n ln s vs lv0 H1 hrun (by omega) (by omega) ms1 hlex st1 h1p hl1 hn0 hs0 fr1
          · rw [if_neg hke] at hrun
            cases hlex with
            | one => exact absurd rfl (hr2.resolve_left hke)
            | more hx1 hx2 =>
              rename_i n2 l2 s2 k2 v2 ts2
              refine .inr ⟨hke, n2, l2, s2, k2, v2, hx1, fun H2 f2 ms2 => ?_⟩
              have tk2 : TK H1 H2 := ⟨fun b ys e => f2 b _ (fun q => by rw [q, g1] at e; cases e) (fun q => by rw [q, g2] at e; cases e) (fun q => by rw [q, g4] at e; cases e) e, fun b o u e => f2 b _ (fun q => by rw [q, g1] at e; cases e) (fun q => by rw [q, g2] at e; cases e) (fun q => by rw [q, g4] at e; cases e) e⟩
              have c2 : Chg [m.l, p] H1 H2 := ⟨fun b ys hb e => f2 b _ (fun q => by rw [q, g1] at e; cases e) (fun q => by rw [q, g2] at e; cases e) (fun q => hb (by rw [q]; exact List.mem_cons_self ..)) e, tk2⟩
              have h2p : H2 p = some (.lst lv0.reverse) := f2 _ _ (Ne.symm nrp) (Ne.symm nxp) npl h1p
              have fr2 : ∀ b o, b ≠ m.r → b ≠ m.x → b ≠ m.l → H b = some o → H2 b = some o := fun b o z1 z2 z3 e => f2 b o z1 z2 z3 (fr1 b o z1 z2 z3 e)
              cases hkk : keptK k with
              | true =>
                rw [hkk, if_pos rfl] at hrun
                rw [hkk, if_pos rfl] at ms2
                exact next _ _ _ _ _ n2 l2 s2 (v.V :: vs) lv0 H2 hrun (by omega) (Nat.le_refl _) (by rw [List.reverse_cons]; exact ms2) hx2 (.dat (v.dp _) v.noL (st1.mono c2)) h2p (dpAll_mono tk2 _ _ hl1 hn0) hn0 hs0 fr2
              | false =>
                rw [hkk, if_neg Bool.false_ne_true] at hrun
                rw [hkk, if_neg Bool.false_ne_true] at ms2
                exact next _ _ _ _ _ n2 l2 s2 vs lv0 H2 hrun (by omega) (by omega) ms2 hx2 (st1.mono c2) h2p (dpAll_mono tk2 _ _ hl1 hn0) hn0 hs0 fr2
end
end K02

namespace K02
open PySem PySem.Spec PyProof.Rows L2 Sg
section
variable {P : Program} [PF P] {w : World} {K : PySem.W.Frag} {mg : Str → Option Value} {base : Heap}
/-- the tokens of a text -/
def Toks (z : Str) (ts : List (Str × Wp)) : Prop := ∃ k v r n l s, ts = (k, v) :: r ∧ Lex1 z 0 1 0 k v n l s ∧ LexS z n l s ts
theorem sc_Reading_m___init__ : FnScope ["self", "text"] ["self", "text"] (defScope (clsAt (topS 37) 0)) := ⟨rfl, rfl, rfl, by decide +kernel, rfl, by decide +kernel, by decide +kernel⟩
theorem bd_Reading_m___init__ {K : PySem.W.Frag} {fd : FuncData} (F : FnM K "Reading" "__init__" "Reading.__init__" (clsAt (topS 37) 0) [] fd) : Binds K fd ["self", "text"] [] := F.bindsN fun _ _ _ _ _ _ us hl => match us, hl with | [_, _], _ => rfl
def spRi (K : PySem.W.Frag) : Sp := fun vs H Q _ => ∃ r dr z k v n l s, vs = [.ref r, .str z] ∧ H r = some (.ins (He.ga K "Reading") dr []) ∧ z.length ≤ 1000000 ∧ Lex1 z 0 1 0 k v n l s ∧
  ∀ (m : MA) H', m.r = r → m.z = z → But r H H' → H m.x = none → H m.l = none → MS K m n l s k v [] H' → Q .non H'
theorem ok_Reading_m___init__ (T : Tx w K mg) : DkM P w K mg base 8 "Reading" "__init__" ["self", "text"] [] (spRi K) := by
  have D_Tokens_m___init__ := ok_Tokens_m___init__ (P := P) (w := w) (base := base) T
  have D_Tokens_m_read_token := ok_Tokens_m_read_token (P := P) (w := w) (base := base) T
  have D_Worths_m___init__ := ok_Worths_m___init__ (P := P) (w := w) (base := base) T
  obtain ⟨fd, F⟩ := T.d_Reading_m___init__
  refine ⟨⟨fd, [], F.ok sc_Reading_m___init__ (fun vs H Q E h => ?_) (fun cdv A outer s H vs Q E hr h => ?_), bd_Reading_m___init__ F, .nil⟩⟩
  · obtain ⟨r, dr, z, k, v, n, l, s, rfl, _⟩ := h
    rfl
  · obtain ⟨r, dr, z, k, v, n, l, s0, rfl, h1, hz, hx, q⟩ := h
    refine ⟨_, PSs.nox (pss_cons (ps_fld (pv 0) (pe_makeR T.mk_Tokens T.g_Tokens D_Tokens_m___init__ (hr.mono (by decide)) (pa_cons (pv 1) pa_nil)) rfl)
      (pss_cons (ps_fld (pv 0) (pe_methR0 (pe_fld (pv 0) rfl) T.cl_Tokens T.m_Tokens_read_token D_Tokens_m_read_token (hr.mono (by decide))) rfl)
      (pss_one (ps_fld (pv 0) (pe_makeR0 T.mk_Worths T.g_Worths D_Worths_m___init__ (hr.mono (by decide))) rfl)))), ?_⟩
    simp only [cxOf, tYes, eq_self, if_true, if_false, wipe, rLenQ, rIxTQ, rIxLQ, rIxSQ, rInt1Q, rTupQ, rAppQ, rPopQ, rPopAtQ, rRevQ, rListS, rReprP, tLenSetT, tChain, tRetN, tRet, tSeq, tAsg, gName, tVar, tC, tCons, tNil, tCB, tOp, rI0, rI, tAndV, tOrV, tNotV, tIf, tTest, tB, tNot, tAnd, tOr, tIfS, tNext, tCallR, rIsK, rEq, rNe, tDrop, L2.start, List.map_cons, List.map_nil, List.length_cons, List.length_nil, Nat.reduceAdd, Nat.reduceSub, Nat.sub_self, List.replicate_zero, List.replicate_succ, List.append_nil, List.cons_append, List.nil_append, List.getElem?_cons_zero, List.getElem?_cons_succ, List.set_cons_zero, List.set_cons_succ, Option.some.injEq, List.cons.injEq, and_true, true_and, exists_eq_left, exists_eq_left', exists_eq_right, V.ty.injEq, V.int.injEq, V.bl.injEq, V.str.injEq, V.ref.injEq, exists_and_left, exists_const, reduceIte, reduceCtorEq, false_and, and_false, exists_false, or_false, false_or, Bool.not_true, Bool.not_false, Bool.false_eq_true, String.reduceEq, true_or, or_true, rNotT, tNNew, tNNotIn, tNGet, sNPut, tLenSetN, tPar, tAug, ipI, tDNotIn, sDPut, tDGet, tTup, tLst, tBM, tBM0]
    obtain ⟨n1, hn0, hsk, hlex, ev1, ev2⟩ := hx
    refine ⟨_, rfl, fun x dx hx0 hdx hne => ⟨x, dx, z, rfl, upd_same, rfl, ?_⟩⟩
    have s2 := tok_made (o1 := .own x) (o2 := .ins (He.ga K "Tokens") dx []) (o3 := .ins (He.ga K "Tokens") dx (tsF z 0 1 0)) hx0 hdx
    have k2 : (upd (upd (upd H dx (.own x)) x (.ins (He.ga K "Tokens") dx [])) x (.ins (He.ga K "Tokens") dx (tsF z 0 1 0))) x = some (TsO K dx z 0 1 0) := upd_same
    generalize upd (upd (upd H dx (.own x)) x (.ins (He.ga K "Tokens") dx [])) x (.ins (He.ga K "Tokens") dx (tsF z 0 1 0)) = H2 at s2 k2
    have nxr : x ≠ r := fun e => by rw [e, h1] at hx0; cases hx0
    refine ⟨_, rfl, r, _, dr, [], rfl, s2 _ _ h1, T.cl_Reading, T.na_Reading_tokens, by decide, ?_⟩
    have b3 : But r H2 (upd H2 r (.ins (He.ga K "Reading") dr (putF "tokens" (.ref x) []))) := But.upd
    have k3 : (upd H2 r (.ins (He.ga K "Reading") dr (putF "tokens" (.ref x) []))) r = some (.ins (He.ga K "Reading") dr (putF "tokens" (.ref x) [])) := upd_same
    generalize upd H2 r (.ins (He.ga K "Reading") dr (putF "tokens" (.ref x) [])) = H3 at b3 k3
    refine ⟨_, rfl, r, _, dr, _, .ref x, rfl, k3, T.cl_Reading, T.na_Reading_tokens, rfl, x, dx, _, rfl, b3 _ _ nxr k2, rfl, x, dx, z, 0, 1, 0, n1, l, s0, k, v.w, n, rfl, b3 _ _ nxr k2, Nat.zero_le _, hz, hsk, hlex, fun a H4 b4 j4 ht => ?_⟩
    rw [← ev1, ← ev2] at ht
    have r4 := b4 _ _ (Ne.symm nxr) k3
    refine ⟨_, rfl, r, _, dr, _, rfl, r4, T.cl_Reading, T.na_Reading_token, Nat.lt_of_le_of_lt (pl (Nat.zero_le 0)) (by decide), ?_⟩
    obtain ⟨da, ht⟩ := ht
    have nar : a ≠ r := fun e => by
      rw [e, r4] at ht
      injection ht with ht
      injection ht with _ _ e
      exact absurd (show (1 : Nat) = 4 from congrArg List.length e) (by decide)
    have b5 : But r H4 (upd H4 r (.ins (He.ga K "Reading") dr (putF "token" (.ref a) (putF "tokens" (.ref x) [])))) := But.upd
    have k5 : (upd H4 r (.ins (He.ga K "Reading") dr (putF "token" (.ref a) (putF "tokens" (.ref x) [])))) r = some (.ins (He.ga K "Reading") dr (putF "token" (.ref a) (putF "tokens" (.ref x) []))) := upd_same
    generalize upd H4 r (.ins (He.ga K "Reading") dr (putF "token" (.ref a) (putF "tokens" (.ref x) []))) = H5 at b5 k5
    refine fun wo dw hwo hdw hne2 => ⟨wo, dw, rfl, upd_same, fun l2 hl2 => ⟨rfl, ?_⟩⟩
    have sA : Same H5 (upd (upd H5 dw (.own wo)) wo (.ins (He.ga K "Worths") dw [])) := fun b o e => by
      rw [upd_ne (fun q => by rw [q, hwo] at e; cases e), upd_ne (fun q => by rw [q, hdw] at e; cases e)]
      exact e
    have kA : (upd (upd H5 dw (.own wo)) wo (.ins (He.ga K "Worths") dw [])) wo = some (.ins (He.ga K "Worths") dw []) := upd_same
    generalize upd (upd H5 dw (.own wo)) wo (.ins (He.ga K "Worths") dw []) = HA at sA kA hl2
    have nwl : l2 ≠ wo := fun e => by rw [e, kA] at hl2; cases hl2
    have s6 : Same H5 (upd (upd HA l2 (.lst [])) wo (WoO K dw l2)) := fun b o e => by
      rw [upd_ne (fun q => by rw [q, hwo] at e; cases e), upd_ne (fun q => by rw [q] at e; rw [sA _ _ e] at hl2; cases hl2)]
      exact sA b o e
    have k6 : (upd (upd HA l2 (.lst [])) wo (WoO K dw l2)) wo = some (WoO K dw l2) := upd_same
    have l6 : (upd (upd HA l2 (.lst [])) wo (WoO K dw l2)) l2 = some (.lst []) := (upd_ne nwl).trans upd_same
    generalize upd (upd HA l2 (.lst [])) wo (WoO K dw l2) = H6 at s6 k6 l6
    have nlr : l2 ≠ r := fun e => by rw [e, sA _ _ k5] at hl2; cases hl2
    have nwr : wo ≠ r := fun e => by rw [e, k5] at hwo; cases hwo
    refine ⟨_, rfl, r, _, dr, _, rfl, s6 _ _ k5, T.cl_Reading, T.na_Reading_worths, Nat.lt_of_le_of_lt (pl (pl (Nat.zero_le 0))) (by decide), ?_⟩
    have fr : ∀ b o, b ≠ r → H b = some o → H5 b = some o := fun b o hb e => b5 b o hb (b4 b o (fun q => by rw [q, hx0] at e; cases e) (b3 b o hb (s2 b o e)))
    refine q ⟨r, dr, x, dx, wo, dw, l2, z⟩ _ rfl rfl (fun b o hb e => by rw [upd_ne hb]; exact s6 b o (fr b o hb e)) hx0 ?_ ⟨a, upd_same, (upd_ne nxr).trans (s6 _ _ (b5 _ _ nxr j4)), (upd_ne nwr).trans k6, (upd_ne nlr).trans l6, da, (upd_ne nar).trans (s6 _ _ (b5 _ _ nar ht))⟩
    show H l2 = none
    cases e : H l2 with
    | none => rfl
    | some o => rw [sA _ _ (fr _ _ nlr e)] at hl2; cases hl2
theorem raE_imp {F G : Hp → Prop} {Q : VK} {E : XK} {d : Rs} (h : ∀ H', F H' → G H') (q : RaE K G Q E d) : RaE K F Q E d := by
  cases d with
  | told d => exact fun x H' f a b => q x H' (h H' f) a b
  | bad l c => exact ⟨q.1, q.2.1, fun H' f => q.2.2 H' (h H' f)⟩
def spRe (K : PySem.W.Frag) (rule : Str) : Sp := fun vs H Q E => ∃ z ts d mm, vs = [.str z] ∧ z.length ≤ 1000000 ∧ mm ≤ 1000000 ∧ Toks z ts ∧ Run mm [.str rule, .str endS] ts [] d ∧ RaE K (Same H) Q E d
theorem sc_read_work : FnScope ["text"] ["text"] (defScope (topS 39)) := ⟨rfl, rfl, rfl, by decide +kernel, rfl, by decide +kernel, by decide +kernel⟩
theorem bd_read_work {K : PySem.W.Frag} {f : Addr} {fd : FuncData} (F : FnP K "read_work" (topS 39) f fd) : Binds K fd ["text"] [] := F.bindsN fun _ _ _ _ _ _ us hl => match us, hl with | [_], _ => rfl
theorem ok_read_work (T : Tx w K mg) : Dk P w K mg base 10 "read_work" ["text"] (spRe K (Str.ofString "<work>")) := by
  have D_Reading_m___init__ := ok_Reading_m___init__ (P := P) (w := w) (base := base) T
  have D_Reading_m_read_all := ok_Reading_m_read_all (P := P) (w := w) (base := base) T
  obtain ⟨fd, F⟩ := T.d_read_work
  refine ⟨⟨fd, F.ok sc_read_work (fun vs H Q E h => ?_) (fun cdv A outer s H vs Q E hr h => ?_), bd_read_work F⟩, F.kp, T.g_read_work⟩
  · obtain ⟨z, ts, d, mm, rfl, _⟩ := h
    rfl
  · obtain ⟨z, ts, d, mm, rfl, hz, hm, ⟨k, v, r, n, l, s0, rfl, hx, hl⟩, hrun, q⟩ := h
    refine ⟨_, (pss_one (ps_ret (pe_methE (takes_of rfl rfl rfl rfl) (pe_makeR T.mk_Reading T.g_Reading D_Reading_m___init__ (hr.mono (by decide)) (pa_cons (pv 0) pa_nil)) T.cl_Reading T.m_Reading_read_all D_Reading_m_read_all (hr.mono (by decide)) (pa_cons pe_str pa_nil)))), ?_⟩
    simp only [cxOf, tYes, eq_self, if_true, if_false, wipe, rLenQ, rIxTQ, rIxLQ, rIxSQ, rInt1Q, rTupQ, rAppQ, rPopQ, rPopAtQ, rRevQ, rListS, rReprP, tLenSetT, tChain, tRetN, tRet, tSeq, tAsg, gName, tVar, tC, tCons, tNil, tCB, tOp, rI0, rI, tAndV, tOrV, tNotV, tIf, tTest, tB, tNot, tAnd, tOr, tIfS, tNext, tCallR, rIsK, rEq, rNe, tDrop, L2.start, List.map_cons, List.map_nil, List.length_cons, List.length_nil, Nat.reduceAdd, Nat.reduceSub, Nat.sub_self, List.replicate_zero, List.replicate_succ, List.append_nil, List.cons_append, List.nil_append, List.getElem?_cons_zero, List.getElem?_cons_succ, List.set_cons_zero, List.set_cons_succ, Option.some.injEq, List.cons.injEq, and_true, true_and, exists_eq_left, exists_eq_left', exists_eq_right, V.ty.injEq, V.int.injEq, V.bl.injEq, V.str.injEq, V.ref.injEq, exists_and_left, exists_const, reduceIte, reduceCtorEq, false_and, and_false, exists_false, or_false, false_or, Bool.not_true, Bool.not_false, Bool.false_eq_true, String.reduceEq, true_or, or_true, rNotT, tNNew, tNNotIn, tNGet, sNPut, tLenSetN, tPar, tAug, ipI, tDNotIn, sDPut, tDGet, tTup, tLst, tBM, tBM0]
    refine ⟨_, rfl, fun r2 dr h0 h1 hne => ⟨r2, dr, z, k, v, n, l, s0, rfl, upd_same, hz, hx, fun m H' er ez b hxn hln hms => ⟨rfl, ?_⟩⟩⟩
    subst er
    subst ez
    have hms2 := hms
    obtain ⟨a0, g1, g2, g3, g4, _⟩ := hms2
    obtain ⟨dr2, e2⟩ : ∃ d2, m.dr = d2 := ⟨_, rfl⟩
    refine ⟨m.r, m.dr, _, rfl, g1, rfl, m, n, l, s0, k, v, Str.ofString "<work>", r, d, mm, rfl, by decide, hz, hm, hms, hl, hrun, raE_imp (fun H3 f3 c o e => ?_) q⟩
    have c1 : c ≠ m.r := fun e2 => by rw [e2, h0] at e; cases e
    have c2 : c ≠ dr := fun e2 => by rw [e2, h1] at e; cases e
    have e1 : (upd (upd H dr (.own m.r)) m.r (.ins (He.ga K "Reading") dr [])) c = some o := (upd_ne c1).trans ((upd_ne c2).trans e)
    exact f3 c o c1 (fun q => by rw [q, hxn] at e1; cases e1) (fun q => by rw [q, hln] at e1; cases e1) (b c o c1 e1)
theorem sc_read : FnScope ["text"] ["text"] (defScope (topS 38)) := ⟨rfl, rfl, rfl, by decide +kernel, rfl, by decide +kernel, by decide +kernel⟩
theorem bd_read {K : PySem.W.Frag} {f : Addr} {fd : FuncData} (F : FnP K "read" (topS 38) f fd) : Binds K fd ["text"] [] := F.bindsN fun _ _ _ _ _ _ us hl => match us, hl with | [_], _ => rfl
theorem ok_read (T : Tx w K mg) : Dk P w K mg base 10 "read" ["text"] (spRe K (Str.ofString "<program>")) := by
  have D_Reading_m___init__ := ok_Reading_m___init__ (P := P) (w := w) (base := base) T
  have D_Reading_m_read_all := ok_Reading_m_read_all (P := P) (w := w) (base := base) T
  obtain ⟨fd, F⟩ := T.d_read
  refine ⟨⟨fd, F.ok sc_read (fun vs H Q E h => ?_) (fun cdv A outer s H vs Q E hr h => ?_), bd_read F⟩, F.kp, T.g_read⟩
  · obtain ⟨z, ts, d, mm, rfl, _⟩ := h
    rfl
  · obtain ⟨z, ts, d, mm, rfl, hz, hm, ⟨k, v, r, n, l, s0, rfl, hx, hl⟩, hrun, q⟩ := h
    refine ⟨_, (pss_one (ps_ret (pe_methE (takes_of rfl rfl rfl rfl) (pe_makeR T.mk_Reading T.g_Reading D_Reading_m___init__ (hr.mono (by decide)) (pa_cons (pv 0) pa_nil)) T.cl_Reading T.m_Reading_read_all D_Reading_m_read_all (hr.mono (by decide)) (pa_cons pe_str pa_nil)))), ?_⟩
    simp only [cxOf, tYes, eq_self, if_true, if_false, wipe, rLenQ, rIxTQ, rIxLQ, rIxSQ, rInt1Q, rTupQ, rAppQ, rPopQ, rPopAtQ, rRevQ, rListS, rReprP, tLenSetT, tChain, tRetN, tRet, tSeq, tAsg, gName, tVar, tC, tCons, tNil, tCB, tOp, rI0, rI, tAndV, tOrV, tNotV, tIf, tTest, tB, tNot, tAnd, tOr, tIfS, tNext, tCallR, rIsK, rEq, rNe, tDrop, L2.start, List.map_cons, List.map_nil, List.length_cons, List.length_nil, Nat.reduceAdd, Nat.reduceSub, Nat.sub_self, List.replicate_zero, List.replicate_succ, List.append_nil, List.cons_append, List.nil_append, List.getElem?_cons_zero, List.getElem?_cons_succ, List.set_cons_zero, List.set_cons_succ, Option.some.injEq, List.cons.injEq, and_true, true_and, exists_eq_left, exists_eq_left', exists_eq_right, V.ty.injEq, V.int.injEq, V.bl.injEq, V.str.injEq, V.ref.injEq, exists_and_left, exists_const, reduceIte, reduceCtorEq, false_and, and_false, exists_false, or_false, false_or, Bool.not_true, Bool.not_false, Bool.false_eq_true, String.reduceEq, true_or, or_true, rNotT, tNNew, tNNotIn, tNGet, sNPut, tLenSetN, tPar, tAug, ipI, tDNotIn, sDPut, tDGet, tTup, tLst, tBM, tBM0]
    refine ⟨_, rfl, fun r2 dr h0 h1 hne => ⟨r2, dr, z, k, v, n, l, s0, rfl, upd_same, hz, hx, fun m H' er ez b hxn hln hms => ⟨rfl, ?_⟩⟩⟩
    subst er
    subst ez
    have hms2 := hms
    obtain ⟨a0, g1, g2, g3, g4, _⟩ := hms2
    obtain ⟨dr2, e2⟩ : ∃ d2, m.dr = d2 := ⟨_, rfl⟩
    refine ⟨m.r, m.dr, _, rfl, g1, rfl, m, n, l, s0, k, v, Str.ofString "<program>", r, d, mm, rfl, by decide, hz, hm, hms, hl, hrun, raE_imp (fun H3 f3 c o e => ?_) q⟩
    have c1 : c ≠ m.r := fun e2 => by rw [e2, h0] at e; cases e
    have c2 : c ≠ dr := fun e2 => by rw [e2, h1] at e; cases e
    have e1 : (upd (upd H dr (.own m.r)) m.r (.ins (He.ga K "Reading") dr [])) c = some o := (upd_ne c1).trans ((upd_ne c2).trans e)
    exact f3 c o c1 (fun q => by rw [q, hxn] at e1; cases e1) (fun q => by rw [q, hln] at e1; cases e1) (b c o c1 e1)
end
end K02

namespace K02
open PySem PySem.Spec PyProof.Rows L2 Sg
/-! the machine, by computing -/
def sy (x : String) : PyData := .str (Str.ofString x)
def runF : Nat → List PyData → List (Str × Wp) → List SIt → Option Rs
  | 0, _, _, _ => none
  | m + 1, left, ts, its => match left, its with
    | [], [.dat d] => some (.told d)
    | _, _ => match failF left ts with
      | some (l, c) => some (.bad l c)
      | none => match stepF left ts its with
        | some (a, b, c) => runF m a b c
        | none => none
theorem runF_ok : ∀ {m : Nat} {left : List PyData} {ts : List (Str × Wp)} {its : List SIt} {r : Rs}, runF m left ts its = some r → Run m left ts its r
  | 0, _, _, _, _, h => by cases h
  | m + 1, left, ts, its, r, h => by
    unfold runF at h
    split at h
    · cases h
      exact .fin _ _ _
    · split at h
      · rename_i l c hf
        cases h
        exact .fail _ _ _ _ _ _ hf
      · split at h
        · rename_i a b c hs
          exact .step hs (runF_ok h)
        · cases h
def resL : List Str := ["adds", "ahead", "any", "behind", "by", "claim", "each", "else", "fun", "gives", "head", "if", "less", "longest", "none", "on", "only", "put", "same", "set", "settles", "shortest", "signs", "skip", "takes", "turn", "undoes"].map Str.ofString
theorem resL_dat : strsOf dat_RESERVED = resL := by decide +kernel
theorem res_mem {z : Str} (h : resB z = true) : z ∈ resL := by
  unfold resB at h
  rw [resL_dat] at h
  obtain ⟨y, hy, e⟩ := List.any_eq_true.mp h
  rw [← of_decide_eq_true e]
  exact hy
theorem mem_res {z : Str} (h : z ∈ resL) : resB z = true := by
  unfold resB
  rw [resL_dat]
  exact List.any_eq_true.mpr ⟨z, h, decide_eq_true rfl⟩
def eqS (y : Str) : Str := Str.ofString "=" ++ y
def anyB (y : Str) : Bool := decide (y = Str.ofString "any") || decide (y = Str.ofString "none")
def goL : List Str := ["put", "ahead", "behind", "head", "skip", "less", "only", "turn", "each", "if"].map Str.ofString
def goB (y : Str) : Bool := goL.any fun q => decide (q = y)
def setsR (k : Str) (v e : Wp) (r : Rs) : Prop := runF 40 [sy "<sets>", .str endS] [(k, v), (endS, e)] [] = some r
def workR (k : Str) (v e : Wp) (r : Rs) : Prop := runF 40 [sy "<work>", .str endS] [(k, v), (endS, e)] [] = some r
def headR (x k : Str) (u v e : Wp) (r : Rs) : Prop := runF 40 [sy "<work>", .str endS] [(eqS x, u), (k, v), (endS, e)] [] = some r
theorem sets_res : ∀ y ∈ resL, ∀ v e : Wp, setsR (eqS y) v e (if anyB y = true then .told (.tuple [.str y]) else .bad v.l v.c) := by
  show ∀ y ∈ List.map Str.ofString [_, _, _, _, _, _, _, _, _, _, _, _, _, _, _, _, _, _, _, _, _, _, _, _, _, _, _], _
  simp only [List.map_cons, List.map_nil]
  repeat (refine List.forall_mem_cons.mpr ⟨fun v e => by unfold setsR; kernel_rfl, ?_⟩)
  exact fun _ h => nomatch h
theorem work_res : ∀ y ∈ resL, ∀ v e : Wp, workR (eqS y) v e (if decide (y = Str.ofString "same") = true then .told (.tuple [.str y]) else if goB y = true then .bad e.l e.c else .bad v.l v.c) := by
  show ∀ y ∈ List.map Str.ofString [_, _, _, _, _, _, _, _, _, _, _, _, _, _, _, _, _, _, _, _, _, _, _, _, _, _, _], _
  simp only [List.map_cons, List.map_nil]
  repeat (refine List.forall_mem_cons.mpr ⟨fun v e => by unfold workR; kernel_rfl, ?_⟩)
  exact fun _ h => nomatch h
def hdL : List Str := ["head", "skip", "less"].map Str.ofString
theorem head_res : ∀ x ∈ hdL, ∀ y ∈ resL, ∀ u v e : Wp, headR x (eqS y) u v e (.bad v.l v.c) := by
  show ∀ x ∈ List.map Str.ofString [_, _, _], ∀ y ∈ List.map Str.ofString [_, _, _, _, _, _, _, _, _, _, _, _, _, _, _, _, _, _, _, _, _, _, _, _, _, _, _], _
  simp only [List.map_cons, List.map_nil]
  repeat (refine List.forall_mem_cons.mpr ⟨?_, ?_⟩; (repeat (refine List.forall_mem_cons.mpr ⟨fun u v e => by unfold headR; kernel_rfl, ?_⟩)); (exact fun _ h => nomatch h))
  exact fun _ h => nomatch h
theorem sets_name (v e : Wp) : setsR (Str.ofString "name") v e (.bad v.l v.c) := by unfold setsR; kernel_rfl
theorem sets_Name (v e : Wp) : setsR (Str.ofString "Name") v e (.told (.tuple [sy "name", v.D])) := by unfold setsR; kernel_rfl
theorem sets_num (v e : Wp) : setsR (Str.ofString "number") v e (.bad v.l v.c) := by unfold setsR; kernel_rfl
theorem sets_bad (v e : Wp) : setsR (Str.ofString "no token") v e (.bad v.l v.c) := by unfold setsR; kernel_rfl
theorem work_name (v e : Wp) : workR (Str.ofString "name") v e (.told (.tuple [sy "fun", v.D])) := by unfold workR; kernel_rfl
theorem work_Name (v e : Wp) : workR (Str.ofString "Name") v e (.bad v.l v.c) := by unfold workR; kernel_rfl
theorem work_num (v e : Wp) : workR (Str.ofString "number") v e (.bad v.l v.c) := by unfold workR; kernel_rfl
theorem work_bad (v e : Wp) : workR (Str.ofString "no token") v e (.bad v.l v.c) := by unfold workR; kernel_rfl
theorem head_name : ∀ x ∈ hdL, ∀ u v e : Wp, headR x (Str.ofString "name") u v e (.bad v.l v.c) := by
  show ∀ x ∈ List.map Str.ofString [_, _, _], _
  simp only [List.map_cons, List.map_nil]
  repeat (refine List.forall_mem_cons.mpr ⟨fun u v e => by unfold headR; kernel_rfl, ?_⟩)
  exact fun _ h => nomatch h
theorem head_Name : ∀ x ∈ hdL, ∀ u v e : Wp, headR x (Str.ofString "Name") u v e (.bad v.l v.c) := by
  show ∀ x ∈ List.map Str.ofString [_, _, _], _
  simp only [List.map_cons, List.map_nil]
  repeat (refine List.forall_mem_cons.mpr ⟨fun u v e => by unfold headR; kernel_rfl, ?_⟩)
  exact fun _ h => nomatch h
theorem head_num : ∀ x ∈ hdL, ∀ u v e : Wp, headR x (Str.ofString "number") u v e (.told (.tuple [.str x, v.D])) := by
  show ∀ x ∈ List.map Str.ofString [_, _, _], _
  simp only [List.map_cons, List.map_nil]
  repeat (refine List.forall_mem_cons.mpr ⟨fun u v e => by unfold headR; kernel_rfl, ?_⟩)
  exact fun _ h => nomatch h
theorem head_bad : ∀ x ∈ hdL, ∀ u v e : Wp, headR x (Str.ofString "no token") u v e (.bad v.l v.c) := by
  show ∀ x ∈ List.map Str.ofString [_, _, _], _
  simp only [List.map_cons, List.map_nil]
  repeat (refine List.forall_mem_cons.mpr ⟨fun u v e => by unfold headR; kernel_rfl, ?_⟩)
  exact fun _ h => nomatch h
end K02

namespace K02
open PySem PySem.Spec PyProof.Rows L2 Sg
/-! rows, and how pages of them are read -/
/-- a row of the law: what the law calls it, its token's kind and worth -/
inductive Rw (z : Str) : Str → Str → Wo → Prop
  | res : z ∈ resL → Rw z z (eqS z) (.s z)
  | name : resB z = false → smallB z = true → Rw z (Str.ofString "name") (Str.ofString "name") (.s z)
  | Name : resB z = false → smallB z = false → greatB z = true → Rw z (Str.ofString "Name") (Str.ofString "Name") (.s z)
  | num (n : Nat) : n < 100 → z = numS n → Rw z (Str.ofString "number") (Str.ofString "number") (.n n)
  | bad : resB z = false → smallB z = false → greatB z = false → numB z = false → Rw z (Str.ofString "bad") (Str.ofString "no token") (.s z)
theorem res_word : ∀ y ∈ resL, (decide (1 ≤ y.length) && (decide (y.length ≤ 1000) && (y.cps.toList.all rcB && smallB y))) = true := by decide +kernel
theorem getD_at {z : Str} (h : RowOk z) : z.cps.toList[0]? = some (z.cps.toList.getD 0 0) := by
  obtain ⟨c, h1, h2⟩ := h.one
  rw [h1, h2]
theorem Rw.rowT {z κ k : Str} {v : Wo} (h : Rw z κ k v) (hz : RowOk z) : RowT z k v := by
  have ha := getD_at hz
  cases h with
  | res hm =>
    have e : rowK z = eqS z := by
      unfold rowK
      rw [if_pos (mem_res hm)]
      rfl
    rw [← e]
    have hw := res_word z hm
    simp only [Bool.and_eq_true] at hw
    exact .word ⟨hz.pos, hz.top, hz.all, _, ha, .inl hw.2.2.2⟩
  | name h1 h2 =>
    have e : rowK z = Str.ofString "name" := by
      unfold rowK
      rw [h1, if_neg Bool.false_ne_true, if_pos h2]
    rw [← e]
    exact .word ⟨hz.pos, hz.top, hz.all, _, ha, .inl h2⟩
  | Name h1 h2 h3 =>
    have e : rowK z = Str.ofString "Name" := by
      unfold rowK
      rw [h1, if_neg Bool.false_ne_true, h2, if_neg Bool.false_ne_true]
    rw [← e]
    exact .word ⟨hz.pos, hz.top, hz.all, _, ha, .inr ⟨h2, h3⟩⟩
  | num n hn e =>
    rw [e]
    exact .num hn
  | bad h1 h2 h3 h4 => exact .bad hz h1 h2 h3 h4
theorem dig1 : ∀ a, a < 10 → numS a = ⟨#[48 + a]⟩ := by decide +kernel
theorem dig2 : ∀ a, a < 10 → 1 ≤ a → ∀ b, b < 10 → numS (10 * a + b) = ⟨#[48 + a, 48 + b]⟩ := by decide +kernel
theorem num_is {z : Str} (hp : 1 ≤ z.length) (h : numB z = true) : ∃ n, n < 100 ∧ z = numS n := by
  unfold numB at h
  simp only [Bool.and_eq_true, decide_eq_true_eq] at h
  obtain ⟨h1, h2, h3⟩ := h
  obtain ⟨cs⟩ := z
  obtain ⟨l⟩ := cs
  have h1 : l.length ≤ 2 := h1
  have hp : 1 ≤ l.length := hp
  have h2 : l.all (btw 48 57) = true := h2
  match l, h1, hp, h2, h3 with
  | [c], _, _, h2, _ =>
    have hc : btw 48 57 c = true := List.all_eq_true.mp h2 c (List.mem_singleton_self _)
    have h4 := (Bool.and_eq_true _ _).mp hc
    have a1 := of_decide_eq_true h4.1
    have a2 := of_decide_eq_true h4.2
    refine ⟨c - 48, by omega, ?_⟩
    rw [dig1 (c - 48) (by omega), show 48 + (c - 48) = c by omega]
  | [c, d], _, _, h2, h3 =>
    have hc : btw 48 57 c = true := List.all_eq_true.mp h2 c (List.mem_cons_self ..)
    have hd : btw 48 57 d = true := List.all_eq_true.mp h2 d (List.mem_cons_of_mem _ (List.mem_singleton_self _))
    have h4 := (Bool.and_eq_true _ _).mp hc
    have a1 := of_decide_eq_true h4.1
    have a2 := of_decide_eq_true h4.2
    have h5 := (Bool.and_eq_true _ _).mp hd
    have b1 := of_decide_eq_true h5.1
    have b2 := of_decide_eq_true h5.2
    have hne : c ≠ 48 := by
      intro e
      rcases Bool.or_eq_true_iff.mp h3 with q | q
      · have q := of_decide_eq_true q
        have q2 := congrArg (fun x : Str => x.cps.toList.length) q
        have q2 : (2 : Nat) = 1 := q2
        omega
      · rw [Bool.not_eq_true', decide_eq_false_iff_not] at q
        exact q e
    refine ⟨10 * (c - 48) + (d - 48), by omega, ?_⟩
    rw [dig2 (c - 48) (by omega) (by omega) (d - 48) (by omega), show 48 + (c - 48) = c by omega, show 48 + (d - 48) = d by omega]
/-! blanks -/
theorem sk10 {z : List Nat} {k n l s : Nat} (h : z[n]? = some 10) : skipF z (k + 1) n l s = skipF z k (n + 1) (l + 1) (n + 1) := by rw [skipF, if_pos h]
theorem sk32 {z : List Nat} {k n l s : Nat} (h : z[n]? = some 32) : skipF z (k + 1) n l s = skipF z k (n + 1) l s := by rw [skipF, h, if_neg (by decide), if_pos rfl]
theorem sk_stop {z : List Nat} {k n l s c : Nat} (h : z[n]? = some c) (h1 : c ≠ 10) (h2 : c ≠ 32) (h3 : c ≠ 35) : skipF z k n l s = (n, l, s) := by
  cases k with
  | zero => rfl
  | succ k => rw [skipF, h, if_neg (fun e => h1 (Option.some.inj e)), if_neg (fun e => h2 (Option.some.inj e)), if_neg (fun e => h3 (Option.some.inj e))]
theorem sk_nl {z : List Nat} : ∀ (a n l s k : Nat), (∀ i, i < a → z[n + i]? = some 10) → skipF z (k + a) n l s = skipF z k (n + a) (l + a) (if a = 0 then s else n + a)
  | 0, n, l, s, k, _ => rfl
  | a + 1, n, l, s, k, h => by
    rw [← Nat.add_assoc, sk10 (show z[n]? = some 10 from h 0 (Nat.succ_pos _)), sk_nl a (n + 1) (l + 1) (n + 1) k fun i hi => by rw [show n + 1 + i = n + (i + 1) by omega]; exact h (i + 1) (by omega)]
    rw [show n + 1 + a = n + (a + 1) by omega, show l + 1 + a = l + (a + 1) by omega, if_neg (by omega : ¬ a + 1 = 0)]
    by_cases e : a = 0
    · rw [if_pos e, e]
    · rw [if_neg e]
theorem sk_bl {z : List Nat} : ∀ (b n l s k : Nat), (∀ i, i < b → z[n + i]? = some 32) → skipF z (k + b) n l s = skipF z k (n + b) l s
  | 0, n, l, s, k, _ => rfl
  | b + 1, n, l, s, k, h => by
    rw [← Nat.add_assoc, sk32 (show z[n]? = some 32 from h 0 (Nat.succ_pos _)), sk_bl b (n + 1) l s k fun i hi => by rw [show n + 1 + i = n + (i + 1) by omega]; exact h (i + 1) (by omega), show n + 1 + b = n + (b + 1) by omega]
theorem rc_ne {c : Nat} (h : rcB c = true) : c ≠ 10 ∧ c ≠ 32 ∧ c ≠ 35 := by
  refine ⟨fun e => ?_, fun e => ?_, fun e => ?_⟩ <;> (rw [e] at h; exact absurd h (by decide))
/-- a page: line feeds, blanks, what follows -/
def pg (a b : Nat) (t : List Nat) : List Nat := List.replicate a 10 ++ (List.replicate b 32 ++ t)
theorem pg_len {a b : Nat} {t : List Nat} : (pg a b t).length = a + b + t.length := by
  unfold pg
  rw [List.length_append, List.length_append, List.length_replicate, List.length_replicate]
  omega
theorem pg_drop {a b : Nat} {t : List Nat} (i : Nat) : (pg a b t).drop (a + b + i) = t.drop i := by
  unfold pg
  rw [Nat.add_assoc, List.drop_append, List.length_replicate, List.drop_eq_nil_iff.mpr (by rw [List.length_replicate]; omega), List.nil_append, Nat.add_sub_cancel_left, List.drop_append, List.length_replicate, List.drop_eq_nil_iff.mpr (by rw [List.length_replicate]; omega), List.nil_append, Nat.add_sub_cancel_left]
theorem pg_at {a b : Nat} {t : List Nat} (i : Nat) : (pg a b t)[a + b + i]? = t[i]? := by
  rw [← List.getElem?_drop (i := a + b) (j := i), show a + b = a + b + 0 from rfl, pg_drop 0]
  rfl
theorem pg_skip {a b c : Nat} {t : List Nat} {k : Nat} (hk : a + b ≤ k) (hc : rcB c = true) : skipF (pg a b (c :: t)) k 0 1 0 = (a + b, 1 + a, a) := by
  obtain ⟨j, rfl⟩ : ∃ j, k = j + b + a := ⟨k - (a + b), by omega⟩
  rw [sk_nl a 0 1 0 (j + b) fun i hi => ?_, sk_bl b (0 + a) (1 + a) _ j fun i hi => ?_]
  · obtain ⟨h1, h2, h3⟩ := rc_ne hc
    rw [sk_stop (c := c) ?_ h1 h2 h3]
    · rw [Nat.zero_add]
      by_cases e : a = 0
      · rw [if_pos e, e]
      · rw [if_neg e]
    · have := pg_at (a := a) (b := b) (t := c :: t) 0
      rw [Nat.zero_add]
      exact this
  · unfold pg
    rw [Nat.zero_add, List.getElem?_append_right (by rw [List.length_replicate]; omega), List.length_replicate, Nat.add_sub_cancel_left, List.getElem?_append_left (by rw [List.length_replicate]; omega), List.getElem?_replicate, if_pos hi]
  · unfold pg
    rw [Nat.zero_add, List.getElem?_append_left (by rw [List.length_replicate]; omega), List.getElem?_replicate, if_pos hi]
theorem row_cons {u : Str} (h : RowOk u) : ∃ c t, u.cps.toList = c :: t ∧ rcB c = true := by
  have hp := h.pos
  have hl : u.cps.toList.length = u.length := Array.length_toList
  cases e : u.cps.toList with
  | nil => rw [e] at hl; simp at hl; omega
  | cons c t =>
    refine ⟨c, t, rfl, ?_⟩
    have := h.all
    rw [e, List.all_cons, Bool.and_eq_true] at this
    exact this.1
def wpOf (w : Wo) (l c : Nat) : Wp := ⟨w, (l : Int), (c : Int)⟩
def endT (l c : Nat) : Str × Wp := (endS, ⟨.s (Str.ofString ""), (l : Int), (c : Int)⟩)
/-- one row on a page -/
theorem toks_one {z u k : Str} {v : Wo} {a b : Nat} (hu : RowOk u) (ht : RowT u k v) (hz : z.cps.toList = pg a b u.cps.toList) : Toks z [(k, wpOf v (1 + a) (b + 1)), endT (1 + a) (b + u.length + 1)] := by
  obtain ⟨c, t, ec, hc⟩ := row_cons hu
  have hul : u.cps.toList.length = u.length := Array.length_toList
  have hl : z.cps.toList.length = z.length := Array.length_toList
  have hzl : z.length = a + b + u.length := by rw [← hl, hz, pg_len, hul]
  refine ⟨_, _, _, a + b + u.length, 1 + a, a, rfl, ⟨a + b, Nat.zero_le _, ?_, .row u k v [] ht ?_ (fun c t e => by cases e), rfl, ?_⟩, .more ⟨a + b + u.length, by omega, ?_, .fin (by omega), rfl, ?_⟩ (.one (a + b + u.length) (1 + a) a _)⟩
  · rw [hz, ec]
    exact pg_skip (by omega) hc
  · rw [hz, List.append_nil]
    have := pg_drop (a := a) (b := b) (t := u.cps.toList) 0
    exact this
  · show ((b + 1 : Nat) : Int) = ((a + b : Nat) : Int) - (a : Int) + 1
    omega
  · exact skip_end (by rw [hl]; omega)
  · show ((b + u.length + 1 : Nat) : Int) = ((a + b + u.length : Nat) : Int) - (a : Int) + 1
    omega
/-- a word, a blank, a row -/
theorem toks_two {z x u kx k : Str} {vx v : Wo} {a b : Nat} (hx : RowOk x) (htx : RowT x kx vx) (hu : RowOk u) (ht : RowT u k v) (hz : z.cps.toList = pg a b (x.cps.toList ++ 32 :: u.cps.toList)) :
    Toks z [(kx, wpOf vx (1 + a) (b + 1)), (k, wpOf v (1 + a) (b + 1 + x.length + 1)), endT (1 + a) (b + x.length + 1 + u.length + 1)] := by
  obtain ⟨cx, tx, ecx, hcx⟩ := row_cons hx
  obtain ⟨c, t, ec, hc⟩ := row_cons hu
  have hul : u.cps.toList.length = u.length := Array.length_toList
  have hxl : x.cps.toList.length = x.length := Array.length_toList
  have hl : z.cps.toList.length = z.length := Array.length_toList
  have hzl : z.length = a + b + (x.length + 1 + u.length) := by rw [← hl, hz, pg_len, List.length_append, List.length_cons, hul, hxl]; omega
  have d2 : z.cps.toList.drop (a + b + x.length) = 32 :: u.cps.toList := by rw [hz, pg_drop, ← hxl, List.drop_left]
  have d3 : z.cps.toList.drop (a + b + x.length + 1) = u.cps.toList := by
    rw [← List.drop_drop, d2]
    rfl
  have g2 : z.cps.toList[a + b + x.length]? = some 32 := by
    have e := congrArg (fun l : List Nat => l[0]?) d2
    rw [List.getElem?_drop] at e
    exact e
  have g3 : z.cps.toList[a + b + x.length + 1]? = some c := by
    have e := congrArg (fun l : List Nat => l[0]?) d3
    rw [List.getElem?_drop, ec] at e
    exact e
  obtain ⟨n1, n2, n3⟩ := rc_ne hc
  refine ⟨_, _, _, a + b + x.length, 1 + a, a, rfl, ⟨a + b, Nat.zero_le _, ?_, .row x kx vx (32 :: u.cps.toList) htx ?_ (fun c t e => by cases e; decide), rfl, ?_⟩,
    .more (n' := a + b + x.length + 1 + u.length) (l' := 1 + a) (s' := a) ⟨a + b + x.length + 1, by omega, ?_, .row u k v [] ht (by rw [d3, List.append_nil]) (fun c t e => by cases e), rfl, ?_⟩
      (.more ⟨a + b + x.length + 1 + u.length, by omega, ?_, .fin (by omega), rfl, ?_⟩ (.one (a + b + x.length + 1 + u.length) (1 + a) a _))⟩
  · rw [hz, ecx, List.cons_append]
    exact pg_skip (by omega) hcx
  · rw [hz]
    have := pg_drop (a := a) (b := b) (t := x.cps.toList ++ 32 :: u.cps.toList) 0
    exact this
  · show ((b + 1 : Nat) : Int) = ((a + b : Nat) : Int) - (a : Int) + 1
    omega
  · rw [show z.length - (a + b + x.length) = (u.length) + 1 by omega, sk32 g2, sk_stop g3 n1 n2 n3]
  · show ((b + 1 + x.length + 1 : Nat) : Int) = ((a + b + x.length + 1 : Nat) : Int) - (a : Int) + 1
    omega
  · exact skip_end (by rw [hl]; omega)
  · show ((b + x.length + 1 + u.length + 1 : Nat) : Int) = ((a + b + x.length + 1 + u.length : Nat) : Int) - (a : Int) + 1
    omega
end K02

namespace K02
open PySem PySem.Spec PyProof.Rows L2 Sg
/-! laid texts, their tokens and the last one's place -/
inductive Blank : List Nat → Prop
  | nil : Blank []
  | sp {g : List Nat} : Blank g → Blank (32 :: g)
  | nl {g : List Nat} : Blank g → Blank (10 :: g)
  | rem {g : List Nat} (u : List Nat) : (∀ c ∈ u, btw 32 126 c = true) → Blank g → Blank (35 :: (u ++ 10 :: g))
def solid (c : Nat) : Prop := c ≠ 10 ∧ c ≠ 32 ∧ c ≠ 35
theorem skip_solid {z : List Nat} {n l s : Nat} {rest : List Nat} (hd : z.drop n = rest) (hr : ∀ c r, rest = c :: r → solid c) : ∀ k, skipF z k n l s = (n, l, s)
  | 0 => rfl
  | k + 1 => by
    have e : z[n]? = rest[0]? := by rw [← hd, List.getElem?_drop, Nat.add_zero]
    unfold skipF
    rw [e]
    cases rest with
    | nil => simp
    | cons c r =>
      obtain ⟨h1, h2, h3⟩ := hr c r rfl
      simp [h1, h2, h3]
theorem skip_blank {z : List Nat} {g : List Nat} (h : Blank g) : ∀ {n l s k : Nat} {rest : List Nat}, z.drop n = g ++ rest → (∀ c r, rest = c :: r → solid c) → z.length - n ≤ k → ∃ l' s', skipF z k n l s = (n + g.length, l', s') := by
  induction h with
  | nil =>
    intro n l s k rest hd hr _
    exact ⟨l, s, skip_solid hd hr k⟩
  | sp _ ih =>
    rename_i g _
    intro n l s k rest hd hr hk
    have hl : n < z.length := by
      have := congrArg List.length hd
      rw [List.length_drop, List.cons_append, List.length_cons] at this
      omega
    obtain ⟨k, rfl⟩ : ∃ j, k = j + 1 := ⟨k - 1, by omega⟩
    have e : z[n]? = some 32 := by
      have : (z.drop n)[0]? = some 32 := by rw [hd]; rfl
      rwa [List.getElem?_drop, Nat.add_zero] at this
    have hd2 : z.drop (n + 1) = g ++ rest := by rw [← List.drop_drop, hd]; rfl
    obtain ⟨l', s', q⟩ := ih (l := l) (s := s) (k := k) hd2 hr (by omega)
    refine ⟨l', s', ?_⟩
    unfold skipF
    rw [e, if_neg (by simp), if_pos rfl, q, List.length_cons, Nat.add_right_comm]
    rfl
  | nl _ ih =>
    rename_i g _
    intro n l s k rest hd hr hk
    have hl : n < z.length := by
      have := congrArg List.length hd
      rw [List.length_drop, List.cons_append, List.length_cons] at this
      omega
    obtain ⟨k, rfl⟩ : ∃ j, k = j + 1 := ⟨k - 1, by omega⟩
    have e : z[n]? = some 10 := by
      have : (z.drop n)[0]? = some 10 := by rw [hd]; rfl
      rwa [List.getElem?_drop, Nat.add_zero] at this
    have hd2 : z.drop (n + 1) = g ++ rest := by rw [← List.drop_drop, hd]; rfl
    obtain ⟨l', s', q⟩ := ih (l := l + 1) (s := n + 1) (k := k) hd2 hr (by omega)
    refine ⟨l', s', ?_⟩
    unfold skipF
    rw [e, if_pos rfl, q, List.length_cons, Nat.add_right_comm]
    rfl
  | rem u hu _ ih =>
    rename_i g _
    intro n l s k rest hd hr hk
    have hlen := congrArg List.length hd
    simp only [List.length_drop, List.cons_append, List.length_cons, List.append_assoc, List.length_append] at hlen
    obtain ⟨k, rfl⟩ : ∃ j, k = j + 2 := ⟨k - 2, by omega⟩
    have e : z[n]? = some 35 := by
      have : (z.drop n)[0]? = some 35 := by rw [hd]; rfl
      rwa [List.getElem?_drop, Nat.add_zero] at this
    have hrun : runL (btw 32 126) (z.drop n) = u.length + 1 := by
      rw [hd]
      have e1 : (35 :: (u ++ 10 :: g)) ++ rest = (35 :: u) ++ 10 :: (g ++ rest) := by simp
      rw [e1]
      exact run_app (fun c t e => by cases e; rfl) (List.all_eq_true.mpr fun c hc => by
        rcases List.mem_cons.mp hc with e | e
        · rw [e]; rfl
        · exact hu c e)
    have hd3 : z.drop (n + (u.length + 1)) = 10 :: (g ++ rest) := by
      rw [← List.drop_drop, hd]
      show (35 :: ((u ++ 10 :: g) ++ rest)).drop (u.length + 1) = _
      rw [List.drop_succ_cons, List.append_assoc, List.drop_left]
      rfl
    have e2 : z[n + (u.length + 1)]? = some 10 := by
      have : (z.drop (n + (u.length + 1)))[0]? = some 10 := by rw [hd3]; rfl
      rwa [List.getElem?_drop, Nat.add_zero] at this
    have hd2 : z.drop (n + (u.length + 1) + 1) = g ++ rest := by rw [← List.drop_drop, hd3]; rfl
    obtain ⟨l', s', q⟩ := ih (l := l + 1) (s := n + (u.length + 1) + 1) (k := k) hd2 hr (by omega)
    refine ⟨l', s', ?_⟩
    unfold skipF
    rw [e, if_neg (by simp), if_neg (by simp), if_pos rfl, hrun]
    unfold skipF
    rw [e2, if_pos rfl, q]
    simp only [List.length_cons, List.length_append]
    congr 1
    omega
def marks : List Nat := (Str.ofString "()[]{};:,=>|&-*+?").cps.toList
/-- how a token is written -/
inductive Wr : Str × Wo → List Nat → Prop
  | quo (u : List Nat) : (∀ c ∈ u, btw 32 126 c = true ∧ c ≠ 34) → Wr (Str.ofString "quoted", .s ⟨u.toArray⟩) (34 :: (u ++ [34]))
  | row {w k : Str} {v : Wo} : RowT w k v → Wr (k, v) w.cps.toList
  | mark (c : Nat) : c ∈ marks → Wr (Str.ofString "=" ++ sgn c, .s (sgn c)) [c]
theorem rc_solid {c : Nat} (h : rcB c = true) : solid c := by
  refine ⟨fun e => ?_, fun e => ?_, fun e => ?_⟩ <;> (rw [e] at h; exact absurd h (by decide))
theorem mark_ok : ∀ c ∈ marks, c ≠ 10 ∧ c ≠ 32 ∧ c ≠ 35 ∧ c ≠ 34 ∧ rcB c = false := by decide +kernel
theorem wr_head {t : (Str × Wo)} {x : List Nat} (h : Wr t x) : ∃ c r, x = c :: r ∧ solid c := by
  cases h with
  | quo u hu => exact ⟨34, _, rfl, by decide, by decide, by decide⟩
  | row hrt =>
    rename_i w _ _
    have hw := hrt.ok
    obtain ⟨c, hc, _⟩ := hw.one
    cases e : w.cps.toList with
    | nil => rw [e] at hc; cases hc
    | cons c2 r =>
      rw [e] at hc
      cases hc
      exact ⟨c, r, rfl, rc_solid (List.all_eq_true.mp hw.all c (by rw [e]; exact List.mem_cons_self ..))⟩
  | mark c hc => exact ⟨c, [], rfl, (mark_ok c hc).1, (mark_ok c hc).2.1, (mark_ok c hc).2.2.1⟩
/-! lines and columns -/
def colL (xs : List Nat) : Nat := (xs.reverse.takeWhile fun c => decide (c ≠ 10)).length
def rowL (xs : List Nat) : Nat := (xs.filter fun c => decide (c = 10)).length
theorem col_snoc (xs : List Nat) (c : Nat) : colL (xs ++ [c]) = if c = 10 then 0 else colL xs + 1 := by
  unfold colL
  rw [List.reverse_append]
  show (List.takeWhile _ (c :: xs.reverse)).length = _
  rw [List.takeWhile_cons]
  by_cases h : c = 10
  · rw [if_pos h, decide_eq_false (fun q => q h)]
    rfl
  · rw [if_neg h, decide_eq_true h]
    rfl
theorem row_snoc (xs : List Nat) (c : Nat) : rowL (xs ++ [c]) = if c = 10 then rowL xs + 1 else rowL xs := by
  unfold rowL
  rw [List.filter_append, List.length_append]
  by_cases h : c = 10
  · rw [if_pos h, List.filter_cons, decide_eq_true h]
    rfl
  · rw [if_neg h, List.filter_cons, decide_eq_false h]
    rfl
theorem col_app : ∀ {u : List Nat} (xs : List Nat), (∀ c ∈ u, c ≠ 10) → colL (xs ++ u) = colL xs + u.length ∧ rowL (xs ++ u) = rowL xs
  | [], xs, _ => by rw [List.append_nil]; exact ⟨rfl, rfl⟩
  | c :: u, xs, h => by
    have h1 := h c (List.mem_cons_self ..)
    obtain ⟨a, b⟩ := col_app (u := u) (xs ++ [c]) fun x hx => h x (List.mem_cons_of_mem _ hx)
    have e : xs ++ c :: u = xs ++ [c] ++ u := by simp
    rw [e, a, b, col_snoc, row_snoc, if_neg h1, if_neg h1]
    refine ⟨?_, rfl⟩
    rw [List.length_cons]
    omega
/-- the line and the line's start at n -/
def LnOk (z : List Nat) (n l s : Nat) : Prop := l = 1 + rowL (z.take n) ∧ s + colL (z.take n) = n
theorem ln0 (z : List Nat) : LnOk z 0 1 0 := ⟨rfl, rfl⟩
theorem ln_step {z : List Nat} {n l s c : Nat} (h : LnOk z n l s) (hc : z[n]? = some c) : LnOk z (n + 1) (if c = 10 then l + 1 else l) (if c = 10 then n + 1 else s) := by
  obtain ⟨h1, h2⟩ := h
  unfold LnOk
  rw [List.take_add_one, hc]
  show _ = 1 + rowL (z.take n ++ [c]) ∧ _ + colL (z.take n ++ [c]) = n + 1
  rw [col_snoc, row_snoc]
  by_cases e : c = 10
  · rw [if_pos e, if_pos e, if_pos e, if_pos e]
    exact ⟨by omega, by omega⟩
  · rw [if_neg e, if_neg e, if_neg e, if_neg e]
    exact ⟨h1, by omega⟩
theorem ln_run {z : List Nat} {n l s : Nat} {u r : List Nat} (h : LnOk z n l s) (hd : z.drop n = u ++ r) (hu : ∀ c ∈ u, c ≠ 10) : LnOk z (n + u.length) l s := by
  obtain ⟨h1, h2⟩ := h
  have e : z.take (n + u.length) = z.take n ++ u := by
    rw [List.take_add, hd, List.take_left]
  unfold LnOk
  rw [e]
  obtain ⟨a, b⟩ := col_app (u := u) (z.take n) hu
  rw [a, b]
  exact ⟨h1, by omega⟩
theorem ln_skip {z : List Nat} : ∀ {k n l s n' l' s' : Nat}, LnOk z n l s → skipF z k n l s = (n', l', s') → LnOk z n' l' s'
  | 0, n, l, s, n', l', s', h, e => by
    cases e
    exact h
  | k + 1, n, l, s, n', l', s', h, e => by
    rw [skipF] at e
    by_cases c1 : z[n]? = some 10
    · rw [if_pos c1] at e
      have := ln_step h c1
      rw [if_pos rfl, if_pos rfl] at this
      exact ln_skip this e
    rw [if_neg c1] at e
    by_cases c2 : z[n]? = some 32
    · rw [if_pos c2] at e
      have := ln_step h c2
      rw [if_neg (by decide), if_neg (by decide)] at this
      exact ln_skip this e
    rw [if_neg c2] at e
    by_cases c3 : z[n]? = some 35
    · rw [if_pos c3] at e
      have hu : ∀ c ∈ (z.drop n).takeWhile (btw 32 126), c ≠ 10 := fun c hc e => by
        have := List.all_eq_true.mp (List.all_takeWhile (p := btw 32 126) (l := z.drop n)) c hc
        rw [e] at this
        exact absurd this (by decide)
      have := ln_run h (u := (z.drop n).takeWhile (btw 32 126)) (r := (z.drop n).dropWhile (btw 32 126)) List.takeWhile_append_dropWhile.symm hu
      exact ln_skip this e
    · rw [if_neg c3] at e
      cases e
      exact h
/-- laid tokens; the last one is the text's end, or a quotation mark alone, q signs ahead of the end -/
inductive Laid (q : Nat) : List (Str × Wo) → List Nat → Prop
  | fin {g : List Nat} : q = 0 → Blank g → Laid q [(endS, .s (Str.ofString ""))] g
  | bad {g : List Nat} (u r : List Nat) : q = 1 + (u.length + r.length) → Blank g → (∀ c ∈ u, btw 32 126 c = true ∧ c ≠ 34) → Open r → Laid q [(Str.ofString "no token", .s (Str.ofString "\""))] (g ++ 34 :: (u ++ r))
  | cons {g x p : List Nat} {t : Str × Wo} {ts : List (Str × Wo)} : Blank g → Wr t x → Laid q ts p → (∀ c, x.getLast? = some c → rcB c = true → ∀ c2 r, p = c2 :: r → rcB c2 = false) → Laid q (t :: ts) (g ++ (x ++ p))
def toW (t : Str × Wp) : Str × Wo := (t.1, t.2.w)
theorem wr_no10 {t : Str × Wo} {x : List Nat} (h : Wr t x) : ∀ c ∈ x, c ≠ 10 := by
  cases h with
  | quo u hu =>
    intro c hc e
    rcases List.mem_cons.mp hc with q | q
    · rw [e] at q; exact absurd q (by decide)
    · rcases List.mem_append.mp q with q | q
      · have := (hu c q).1
        rw [e] at this
        exact absurd this (by decide)
      · rw [List.mem_singleton.mp q] at e; exact absurd e (by decide)
  | row hrt =>
    intro c hc
    exact (rc_solid (List.all_eq_true.mp hrt.ok.all c hc)).1
  | mark c hc =>
    intro c2 h2
    rw [List.mem_singleton.mp h2]
    exact (mark_ok c hc).1
theorem lex_from {q : Nat} {z : Str} {ts : List (Str × Wo)} {p : List Nat} (h : Laid q ts p) : ∀ {n : Nat} (l s : Nat), LnOk z.cps.toList n l s → z.cps.toList.drop n = p → n ≤ z.length →
    ∃ k v r n' l' s', ts = ((k, v) :: r).map toW ∧ Lex1 z n l s k v n' l' s' ∧ LexS z n' l' s' ((k, v) :: r) ∧
      ∀ t, ((k, v) :: r).getLast? = some t → t.2.l = ((1 + rowL (z.cps.toList.take (z.length - q)) : Nat) : Int) ∧ (t.1 = Str.ofString "no token" → t.2.c = ((1 + colL (z.cps.toList.take (z.length - q)) : Nat) : Int)) := by
  have hz : z.cps.toList.length = z.length := Array.length_toList
  induction h with
  | fin hq hg =>
    rename_i g
    intro n l s hln hd hn
    obtain ⟨l', s', hq2⟩ := skip_blank (k := z.length - n) (l := l) (s := s) hg (rest := []) (by rw [hd, List.append_nil]) (fun _ _ e => by cases e) (by omega)
    have hl := congrArg List.length hd
    rw [List.length_drop] at hl
    have hln2 := ln_skip hln hq2
    refine ⟨endS, ⟨.s (Str.ofString ""), (l' : Int), ((n + g.length : Nat) : Int) - (s' : Int) + 1⟩, [], _, l', s', rfl, ⟨_, hn, hq2, .fin (by omega), rfl, rfl⟩, .one _ _ _ _, fun t e => ?_⟩
    have et : t = (endS, ⟨.s (Str.ofString ""), (l' : Int), ((n + g.length : Nat) : Int) - (s' : Int) + 1⟩) := (Option.some.inj e).symm
    subst et
    refine ⟨?_, fun e => ?_⟩
    · have := hln2.1
      rw [show n + g.length = z.length - q by omega] at this
      exact congrArg (fun x : Nat => (x : Int)) this
    · have e : endS = Str.ofString "no token" := e
      exact absurd e (by decide)
  | bad u r hq hg hu ho =>
    rename_i g
    intro n l s hln hd hn
    obtain ⟨l', s', hq2⟩ := skip_blank (k := z.length - n) (l := l) (s := s) hg (rest := 34 :: (u ++ r)) hd (fun c r e => by cases e; exact ⟨by decide, by decide, by decide⟩) (by omega)
    have hl := congrArg List.length hd
    rw [List.length_drop, List.length_append, List.length_cons, List.length_append] at hl
    have hln2 := ln_skip hln hq2
    have hd1 : z.cps.toList.drop (n + g.length) = 34 :: (u ++ r) := by rw [← List.drop_drop, hd, List.drop_left]
    have h34 : z.cps.toList[n + g.length]? = some 34 := by
      have : (z.cps.toList.drop (n + g.length))[0]? = some 34 := by rw [hd1]; rfl
      rwa [List.getElem?_drop, Nat.add_zero] at this
    refine ⟨Str.ofString "no token", ⟨.s (Str.ofString "\""), (l' : Int), ((n + g.length : Nat) : Int) - (s' : Int) + 1⟩, [], _, l', s', rfl, ⟨_, hn, hq2, .badq u r h34 (by rw [← List.drop_drop, hd1]; rfl) hu ho, rfl, rfl⟩, .one _ _ _ _, fun t e => ?_⟩
    have et : t = (Str.ofString "no token", ⟨.s (Str.ofString "\""), (l' : Int), ((n + g.length : Nat) : Int) - (s' : Int) + 1⟩) := (Option.some.inj e).symm
    subst et
    have h1 := hln2.1
    have h2 := hln2.2
    have e2 : z.length - q = n + g.length := by omega
    rw [e2]
    refine ⟨?_, fun _ => ?_⟩
    · exact congrArg (fun x : Nat => (x : Int)) h1
    · show ((n + g.length : Nat) : Int) - (s' : Int) + 1 = _
      omega
  | cons hg hw hp hc ih =>
    rename_i g x p t ts
    intro n l s hln hd hn
    obtain ⟨c0, x0, ex, hs⟩ := wr_head hw
    obtain ⟨l', s', hq2⟩ := skip_blank (k := z.length - n) (l := l) (s := s) hg (rest := x ++ p) hd (fun c r e => by rw [ex] at e; cases e; exact hs) (by omega)
    have hl := congrArg List.length hd
    rw [List.length_drop, List.length_append, List.length_append] at hl
    have hd1 : z.cps.toList.drop (n + g.length) = x ++ p := by rw [← List.drop_drop, hd, List.drop_left]
    have hd2 : z.cps.toList.drop (n + g.length + x.length) = p := by rw [← List.drop_drop, hd1, List.drop_left]
    have hx : 1 ≤ x.length := by rw [ex]; exact Nat.succ_le_succ (Nat.zero_le _)
    have hln2 := ln_run (ln_skip hln hq2) hd1 (wr_no10 hw)
    obtain ⟨k2, v2, r2, n2, l2, s2, e2, hx2, hs2, hla⟩ := ih l' s' hln2 hd2 (by omega)
    have hc0 : z.cps.toList[n + g.length]? = some c0 := by
      have : (z.cps.toList.drop (n + g.length))[0]? = some c0 := by rw [hd1, ex]; rfl
      rwa [List.getElem?_drop, Nat.add_zero] at this
    have hlex : LexC z (n + g.length) t.1 t.2 (n + g.length + x.length) := by
      cases hw with
      | quo u hu =>
        cases ex
        have := LexC.quo (z := z) (n := n + g.length) u p hc0 (by rw [← List.drop_drop, hd1]; simp) hu
        have e9 : n + g.length + (34 :: (u ++ [34])).length = n + g.length + u.length + 2 := by simp only [List.length_cons, List.length_append, List.length_nil]; omega
        rw [e9]
        exact this
      | row hrt =>
        rename_i w _ _
        have hwo := hrt.ok
        rw [show w.cps.toList.length = w.length from Array.length_toList]
        refine LexC.row w _ _ p hrt hd1 fun c t e => ?_
        have hne : w.cps.toList ≠ [] := by rw [ex]; simp
        exact hc _ (List.getLast?_eq_some_getLast hne) (List.all_eq_true.mp hwo.all _ (List.getLast_mem hne)) c t e
      | mark c hm =>
        have hk := mark_ok c hm
        have e8 : c0 = c := (List.cons.inj ex).1.symm
        subst e8
        exact LexC.mark _ hc0 hk.2.2.2.1 hk.2.2.2.2 hm
    refine ⟨t.1, ⟨t.2, (l' : Int), ((n + g.length : Nat) : Int) - (s' : Int) + 1⟩, (k2, v2) :: r2, _, l', s', by rw [e2]; rfl, ⟨_, hn, hq2, hlex, rfl, rfl⟩, .more hx2 hs2, fun t e => hla t ?_⟩
    rw [List.getLast?_cons_cons] at e
    exact e
theorem toks_laid {q : Nat} {z : Str} {ts : List (Str × Wo)} (h : Laid q ts z.cps.toList) : ∃ tp, ts = tp.map toW ∧ Toks z tp ∧ ∀ t, tp.getLast? = some t → t.2.l = ((1 + rowL (z.cps.toList.take (z.length - q)) : Nat) : Int) ∧ (t.1 = Str.ofString "no token" → t.2.c = ((1 + colL (z.cps.toList.take (z.length - q)) : Nat) : Int)) := by
  obtain ⟨k, v, r, n', l', s', e, hx, hs, hla⟩ := lex_from h (z := z) (n := 0) 1 0 (ln0 _) rfl (Nat.zero_le _)
  exact ⟨(k, v) :: r, e, ⟨k, v, r, n', l', s', rfl, hx, hs⟩, hla⟩
/-! the law's own way to a place -/
theorem cnt_row : ∀ (xs : List Nat), cnt 10 xs = (rowL xs : Int)
  | [] => rfl
  | c :: xs => by
    rw [cnt_cons, cnt_row xs]
    unfold rowL
    rw [List.filter_cons]
    by_cases h : c = 10
    · rw [if_pos h, decide_eq_true h, if_pos rfl, List.length_cons]
      omega
    · rw [if_neg h, decide_eq_false h, if_neg Bool.false_ne_true]
      omega
theorem count_row (z : Str) : Txt.count z (Str.ofString "\n") = (rowL z.cps.toList : Int) := by
  rw [← cnt_row]
  exact count_cnt z 10
theorem col_of {xs : List Nat} {i : Nat} (h : xs[i]? = some 10) (hk : ∀ k : Nat, i < k → xs[k]? ≠ some 10) : colL xs + i + 1 = xs.length := by
  have hi : i < xs.length := (List.getElem?_eq_some_iff.mp h).1
  have e : xs = xs.take (i + 1) ++ xs.drop (i + 1) := (List.take_append_drop _ _).symm
  have e1 : xs.take (i + 1) = xs.take i ++ [10] := by
    rw [List.take_add_one, h]
    rfl
  have hu : ∀ c ∈ xs.drop (i + 1), c ≠ 10 := fun c hc q => by
    obtain ⟨j, hj⟩ := List.mem_iff_getElem?.mp hc
    rw [List.getElem?_drop] at hj
    exact hk (i + 1 + j) (by omega) (by rw [hj, q])
  have hl : (xs.drop (i + 1)).length = xs.length - (i + 1) := List.length_drop
  have e2 := (col_app (u := xs.drop (i + 1)) (xs.take (i + 1)) hu).1
  rw [← e] at e2
  rw [e2, e1, col_snoc, if_pos rfl]
  omega
theorem col_none {xs : List Nat} (hk : ∀ k : Nat, xs[k]? ≠ some 10) : colL xs = xs.length := by
  have hu : ∀ c ∈ xs, c ≠ 10 := fun c hc q => by
    obtain ⟨j, hj⟩ := List.mem_iff_getElem?.mp hc
    exact hk j (by rw [hj, q])
  have := (col_app (u := xs) [] hu).1
  rw [List.nil_append] at this
  rw [this]
  show 0 + _ = _
  omega
theorem at_nl {z : Str} {i : Nat} : PySem.StrLaws.At z (Str.ofString "\n") z.length i ↔ z.cps.toList[i]? = some 10 := PySem.StrLaws.subAt_one z 10 i
theorem rfind_col (z : Str) : (z.length : Int) - Txt.rfind z (Str.ofString "\n") = ((1 + colL z.cps.toList : Nat) : Int) := by
  have hz : z.cps.toList.length = z.length := Array.length_toList
  unfold Txt.rfind
  rcases PySem.StrLaws.last_spec z (Str.ofString "\n") with ⟨e, h⟩ | ⟨i, e, h, hk⟩
  · rw [e]
    have := col_none (xs := z.cps.toList) fun k q => h k (at_nl.mpr q)
    show (z.length : Int) - (-1) = _
    omega
  · rw [e]
    have := col_of (xs := z.cps.toList) (at_nl.mp h) fun k lt q => hk k lt (at_nl.mpr q)
    show (z.length : Int) - (i : Int) = _
    omega
end K02

namespace K02
open PySem PySem.Spec PyProof.Rows L2 Sg
section
variable {P : Program} {w : World} {K : PySem.W.Frag} {mg : Str → Option Value} {base : Heap}
/-! the law's own functions: drawing of numbers -/
def Bag (H : Hp) (b g : Addr) (B : Nat) : Prop := b ≠ g ∧ ∃ (js : List Int) (sd : Int) (c : Nat), H b = some (.lst [.ref g, .int sd, .int (c : Int)]) ∧ H g = some (.lst (js.map V.int)) ∧ 0 ≤ sd ∧ sd < 2147483647 ∧ c ≤ B
def Bch (b g : Addr) (H H' : Hp) : Prop := ∀ x o, x ≠ b → x ≠ g → H x = some o → H' x = some o
theorem Bch.refl (b g : Addr) (H : Hp) : Bch b g H H := fun _ _ _ _ h => h
theorem Bch.trans {b g : Addr} {H H1 H2 : Hp} (a : Bch b g H H1) (c : Bch b g H1 H2) : Bch b g H H2 := fun x o h1 h2 h => c x o h1 h2 (a x o h1 h2 h)
theorem Bch.of_same {b g : Addr} {H H1 : Hp} (s : Same H H1) : Bch b g H H1 := fun x o _ _ h => s x o h
theorem Bag.le {H : Hp} {b g : Addr} {B C : Nat} (h : Bag H b g B) (l : B ≤ C) : Bag H b g C := by
  obtain ⟨n, js, sd, c, h1, h2, h3, h4, h5⟩ := h
  exact ⟨n, js, sd, c, h1, h2, h3, h4, Nat.le_trans h5 l⟩
theorem Bag.same {H H' : Hp} {b g : Addr} {B : Nat} (h : Bag H b g B) (s : Same H H') : Bag H' b g B := by
  obtain ⟨n, js, sd, c, h1, h2, h3, h4, h5⟩ := h
  exact ⟨n, js, sd, c, s _ _ h1, s _ _ h2, h3, h4, h5⟩
theorem Bag.ne {H : Hp} {b g : Addr} {B : Nat} (h : Bag H b g B) {x : Addr} (hx : H x = none) : x ≠ b ∧ x ≠ g := by
  obtain ⟨n, js, sd, c, h1, h2, _⟩ := h
  exact ⟨fun e => by (rw [e, h1] at hx; cases hx), fun e => by (rw [e, h2] at hx; cases hx)⟩
theorem cps_app (x y : Str) : (x ++ y).cps.toList = x.cps.toList ++ y.cps.toList := Array.toList_append
theorem len_app (x y : Str) : (x ++ y).length = x.length + y.length := Array.size_append
theorem cmR {i j : Int} (h : -(2 ^ 64) < j ∧ j < 2 ^ 64 := by decide) : CMul i j := .inr h
theorem cmL {i j : Int} (h : -(2 ^ 64) < i ∧ i < 2 ^ 64 := by decide) : CMul i j := .inl h
theorem cutV_mem {xs : List V} {lo hi : Option Int} {i : Nat} {x : V} (h : (cutV xs lo hi)[i]? = some x) : x ∈ xs :=
  List.mem_of_mem_drop (List.mem_of_mem_take (List.mem_of_getElem? h))
theorem cutV_63 {xs : List V} : (cutV xs none (some 63)).length ≤ 63 := by
  unfold cutV
  rw [List.length_take, show (63 : Int) = ((63 : Nat) : Int) from rfl, HT.sIx_nat]
  omega
theorem cmM {i j B : Int} (h : 0 < B) (h2 : B < 2 ^ 64) : CMul i (j % B) := .inr ⟨by
  have := Int.emod_nonneg j (Int.ne_of_gt h)
  omega, by
  have := Int.emod_lt_of_pos j h
  omega⟩
theorem at_0 (x : V) (xs : List V) : atI (x :: xs) 0 = some x := atI_nat (j := 0) rfl
theorem ix_0 (x : V) (xs : List V) : ixN (x :: xs).length 0 = some 0 := by
  unfold ixN
  rw [if_pos (by omega), if_pos (by rw [List.length_cons]; omega)]
  rfl
theorem sc__law_bag : FnScope ["script", "great", "seed", "cell"] ["script"] (defScope (topS 41)) := ⟨rfl, rfl, rfl, by decide +kernel, rfl, by decide +kernel, by decide +kernel⟩
theorem bd__law_bag {K : PySem.W.Frag} {f : Addr} {fd : FuncData} (F : FnP K "_law_bag" (topS 41) f fd) : Binds K fd ["script"] [] := F.bindsN fun _ _ _ _ _ _ us hl => match us, hl with | [_], _ => rfl
def spBg (K : PySem.W.Frag) : Sp := fun vs H Q _ => ∃ (a : Addr) (ns : List Int), vs = [.ref a] ∧ SqL K H a (ns.map V.int) ∧ ∀ b g H', H b = none → H g = none → Same H H' → Bag H' b g 0 → Q (.ref b) H'
def BgP (H : Hp) (a l p : Addr) (cs : List V) (i : Nat) (σ : L2.St) (H' : Hp) : Prop := ∃ (js : List Int) (sd : Int) (y3 : Option V), Same H H' ∧ H' p = some (.lst cs) ∧ H' l = some (.lst (js.map V.int)) ∧ js.length ≤ i ∧ 0 ≤ sd ∧ sd < 2147483647 ∧ σ = [some (.ref a), some (.ref l), some (.int sd), y3]
theorem ok__law_bag (T : Tx w K mg) : Dk P w K mg base 1 "_law_bag" ["script"] (spBg K) := by
  obtain ⟨fd, F⟩ := T.d__law_bag
  refine ⟨⟨fd, F.ok sc__law_bag (fun vs H Q E h => ?_) (fun cdv A outer s H vs Q E hr h => ?_), bd__law_bag F⟩, F.kp, T.g__law_bag⟩
  · obtain ⟨a, ns, rfl, _⟩ := h
    rfl
  · obtain ⟨a, ns, rfl, ha, q⟩ := h
    refine ⟨_, PSs.nox (pss_cons (ps_set (i := 1) sc__law_bag.nd rfl (.inl rfl) (pe_lst pa_nil))
      (pss_cons (ps_set (i := 2) sc__law_bag.nd rfl (.inl rfl) pe_int)
      (pss_cons (ps_for PassesOwn.never rfl (pi_list (pe_slice sl_list (pv 0) po_none (po_some pe_int))) (pg_name (i := 3) sc__law_bag.nd rfl (.inl rfl)) (pss_cons (ps_if (pt_cmpR op_ge (pv 3) (pe_op op_pow pe_int pe_int) (nomark _)) (pss_one (ps_expr (pe_bm PySem.F.plainAttrs_list PySem.F.slot_list_append PySem.F.type_list_append mt_appQ (pv 1) (pa_cons (pe_op op_mod (pe_callTy call_int1Q (by rfl) T.f_int PyProof.Rows.boot_int (pa_cons (pv 3) pa_nil)) (pe_op op_powB (pe_op op_pow pe_int pe_int) pe_int)) pa_nil)))) pss_nil)
      (pss_one (ps_set (i := 2) sc__law_bag.nd rfl (.inl rfl) (pe_op op_mod (pe_callTy call_int1Q (by rfl) T.f_int PyProof.Rows.boot_int (pa_cons (pe_op op_add (pe_op op_add (pe_op op_mul (pv 2) pe_int) (pe_op op_mod (pe_callTy call_int1Q (by rfl) T.f_int PyProof.Rows.boot_int (pa_cons (pv 3) pa_nil)) pe_int)) pe_int) pa_nil)) pe_int)))))
      (pss_one (ps_ret (pe_lst (pa_cons (pv 1) (pa_cons (pv 2) (pa_cons pe_int pa_nil))))))))), ?_⟩
    simp only [cxOf, tYes, eq_self, if_true, if_false, wipe, rLenQ, rIxTQ, rIxLQ, rIxSQ, rInt1Q, rTupQ, rAppQ, rPopQ, rPopAtQ, rRevQ, rListS, rReprP, tLenSetT, tChain, tRetN, tRet, tSeq, tAsg, gName, tVar, tC, tCons, tNil, tCB, tOp, rI0, rI, tAndV, tOrV, tNotV, tIf, tTest, tB, tNot, tAnd, tOr, tIfS, tNext, tCallR, rIsK, rEq, rNe, tDrop, L2.start, List.map_cons, List.map_nil, List.length_cons, List.length_nil, Nat.reduceAdd, Nat.reduceSub, Nat.sub_self, List.replicate_zero, List.replicate_succ, List.append_nil, List.cons_append, List.nil_append, List.getElem?_cons_zero, List.getElem?_cons_succ, List.set_cons_zero, List.set_cons_succ, Option.some.injEq, List.cons.injEq, and_true, true_and, exists_eq_left, exists_eq_left', exists_eq_right, V.ty.injEq, V.int.injEq, V.bl.injEq, V.str.injEq, V.ref.injEq, exists_and_left, exists_const, reduceIte, reduceCtorEq, false_and, and_false, exists_false, or_false, false_or, Bool.not_true, Bool.not_false, Bool.false_eq_true, String.reduceEq, true_or, or_true, rNotT, tNNew, tNNotIn, tNGet, sNPut, tLenSetN, tPar, tAug, ipI, tDNotIn, sDPut, tDGet, tTup, tLst, tBM, tBM0]
    refine ⟨Nat.zero_le _, fun l hl0 => ?_⟩
    have sA : Same H (upd H l (.lst [])) := same_upd hl0
    refine ⟨_, rfl, _, rfl, a, _, rfl, Same.seq sA ha, fun p hp => ⟨p, rfl, ⟨_, .inl (.inl upd_same)⟩, ?_⟩⟩
    have hpl : p ≠ l := fun e => by rw [e, upd_same] at hp; cases hp
    have hp0 : H p = none := by rwa [upd_ne hpl] at hp
    generalize hcs : cutV (ns.map V.int) none (some 63) = cs
    have hc63 : cs.length ≤ 63 := by rw [← hcs]; exact cutV_63
    have hci : ∀ i x, cs[i]? = some x → ∃ j : Int, x = V.int j := fun i x hx => by
      rw [← hcs] at hx
      obtain ⟨j, _, e⟩ := List.mem_map.mp (cutV_mem hx)
      exact ⟨j, e.symm⟩
    refine for_list (K := K) (a := p) (xs := cs) (BgP H a l p cs) ⟨[], 23, none, Same.trans sA (same_upd hp), upd_same, (upd_ne (Ne.symm hpl)).trans upd_same, Nat.zero_le _, by decide, by decide, rfl⟩ ?_ ?_ ?_
    · rintro i σ H1 _ ⟨js, sd, y3, s1, h1, _⟩
      exact .inl (.inl h1)
    · rintro i x σ H1 hx ⟨js, sd, y3, s1, h1, h2, h3, h4, h5, rfl⟩
      obtain ⟨j, rfl⟩ := hci i x hx
      simp only [cxOf, tYes, eq_self, if_true, if_false, wipe, rLenQ, rIxTQ, rIxLQ, rIxSQ, rInt1Q, rTupQ, rAppQ, rPopQ, rPopAtQ, rRevQ, rListS, rReprP, tLenSetT, tChain, tRetN, tRet, tSeq, tAsg, gName, tVar, tC, tCons, tNil, tCB, tOp, rI0, rI, tAndV, tOrV, tNotV, tIf, tTest, tB, tNot, tAnd, tOr, tIfS, tNext, tCallR, rIsK, rEq, rNe, tDrop, L2.start, List.map_cons, List.map_nil, List.length_cons, List.length_nil, Nat.reduceAdd, Nat.reduceSub, Nat.sub_self, List.replicate_zero, List.replicate_succ, List.append_nil, List.cons_append, List.nil_append, List.getElem?_cons_zero, List.getElem?_cons_succ, List.set_cons_zero, List.set_cons_succ, Option.some.injEq, List.cons.injEq, and_true, true_and, exists_eq_left, exists_eq_left', exists_eq_right, V.ty.injEq, V.int.injEq, V.bl.injEq, V.str.injEq, V.ref.injEq, exists_and_left, exists_const, reduceIte, reduceCtorEq, false_and, and_false, exists_false, or_false, false_or, Bool.not_true, Bool.not_false, Bool.false_eq_true, String.reduceEq, true_or, or_true, rNotT, tNNew, tNNotIn, tNGet, sNPut, tLenSetN, tPar, tAug, ipI, tDNotIn, sDPut, tDGet, tTup, tLst, tBM, tBM0]
      have hi : i < cs.length := (List.getElem?_eq_some_iff.mp hx).1
      refine ⟨⟨by decide, by decide, by decide⟩, ?_⟩
      by_cases hbig : (10 : Int) ^ Int.toNat 18 ≤ j
      · refine ifT (decide_eq_true hbig) ⟨lst_ty h2, ⟨by decide, by decide, by decide⟩, ⟨by decide, by decide +kernel⟩, Int.pow_pos (Int.pow_pos (by decide)), _, h2, ?_, cmR, by decide, by decide, ?_⟩
        · rw [List.length_map]
          exact szlt (m := 100000) (by omega)
        · refine ⟨js ++ [j % (10 ^ Int.toNat 60) ^ Int.toNat 11], _, _, fun b o hb => ?_, (upd_ne hpl).trans h1, by rw [upd_same, List.map_append]; rfl, by rw [List.length_append]; exact Nat.succ_le_succ h3, Int.emod_nonneg _ (by decide), Int.emod_lt_of_pos _ (by decide), rfl⟩
          rw [upd_ne (ne_of_none hb hl0)]
          exact s1 b o hb
      · exact ifF (decide_eq_false hbig) ⟨cmR, by decide, by decide, js, _, _, s1, h1, h2, Nat.le_succ_of_le h3, Int.emod_nonneg _ (by decide), Int.emod_lt_of_pos _ (by decide), rfl⟩
    · rintro σ H1 ⟨js, sd, y3, s1, h1, h2, h3, h4, h5, rfl⟩
      simp only [cxOf, tYes, eq_self, if_true, if_false, wipe, rLenQ, rIxTQ, rIxLQ, rIxSQ, rInt1Q, rTupQ, rAppQ, rPopQ, rPopAtQ, rRevQ, rListS, rReprP, tLenSetT, tChain, tRetN, tRet, tSeq, tAsg, gName, tVar, tC, tCons, tNil, tCB, tOp, rI0, rI, tAndV, tOrV, tNotV, tIf, tTest, tB, tNot, tAnd, tOr, tIfS, tNext, tCallR, rIsK, rEq, rNe, tDrop, L2.start, List.map_cons, List.map_nil, List.length_cons, List.length_nil, Nat.reduceAdd, Nat.reduceSub, Nat.sub_self, List.replicate_zero, List.replicate_succ, List.append_nil, List.cons_append, List.nil_append, List.getElem?_cons_zero, List.getElem?_cons_succ, List.set_cons_zero, List.set_cons_succ, Option.some.injEq, List.cons.injEq, and_true, true_and, exists_eq_left, exists_eq_left', exists_eq_right, V.ty.injEq, V.int.injEq, V.bl.injEq, V.str.injEq, V.ref.injEq, exists_and_left, exists_const, reduceIte, reduceCtorEq, false_and, and_false, exists_false, or_false, false_or, Bool.not_true, Bool.not_false, Bool.false_eq_true, String.reduceEq, true_or, or_true, rNotT, tNNew, tNNotIn, tNGet, sNPut, tLenSetN, tPar, tAug, ipI, tDNotIn, sDPut, tDGet, tTup, tLst, tBM, tBM0]
      refine ⟨by rw [sizeLine_eq]; decide, fun b hb => q b l _ ?_ hl0 (Same.trans s1 (same_upd hb)) ⟨fun e => by (rw [e, h2] at hb; cases hb), js, sd, 0, upd_same, (upd_ne fun e => by (rw [← e, h2] at hb; cases hb)).trans h2, h4, h5, Nat.le_refl _⟩⟩
      cases e : H b with
      | none => rfl
      | some o => rw [s1 _ _ e] at hb; cases hb
theorem sc__law_take : FnScope ["bag", "many", "great", "got", "mixed"] ["bag", "many"] (defScope (topS 42)) := ⟨rfl, rfl, rfl, by decide +kernel, rfl, by decide +kernel, by decide +kernel⟩
theorem bd__law_take {K : PySem.W.Frag} {f : Addr} {fd : FuncData} (F : FnP K "_law_take" (topS 42) f fd) : Binds K fd ["bag", "many"] [] := F.bindsN fun _ _ _ _ _ _ us hl => match us, hl with | [_, _], _ => rfl
def spTa : Sp := fun vs H Q _ => ∃ (b g : Addr) (n B : Nat), vs = [.ref b, .int (n : Int)] ∧ Bag H b g B ∧ B < 2 ^ 40 ∧ 1 ≤ n ∧ n < 100000 ∧ ∀ (r : Nat) H', r < n → Bch b g H H' → Bag H' b g (B + 1) → Q (.int (r : Int)) H'
theorem ok__law_take (T : Tx w K mg) : Dk P w K mg base 1 "_law_take" ["bag", "many"] spTa := by
  obtain ⟨fd, F⟩ := T.d__law_take
  refine ⟨⟨fd, F.ok sc__law_take (fun vs H Q E h => ?_) (fun cdv A outer s H vs Q E hr h => ?_), bd__law_take F⟩, F.kp, T.g__law_take⟩
  · obtain ⟨b, g, n, c, rfl, _⟩ := h
    rfl
  · obtain ⟨b, g, n, B, rfl, ⟨hne, js, sd, c, hb, hg, hs0, hs1, hc⟩, hB, hn1, hn2, q⟩ := h
    refine ⟨_, PSs.nox (pss_cons (ps_asg (pe_op op_add (pe_ix ix_listQ (pv 0) pe_int (fun _ _ => rfl)) pe_int) (pg_sub (pv 0) pe_int set_list))
      (pss_cons (ps_set (i := 2) sc__law_take.nd rfl (.inl rfl) (pe_ix ix_listQ (pv 0) pe_int (fun _ _ => rfl)))
      (pss_cons (ps_if (pt_truth (pv 2) (by intro _; rfl)) (pss_cons (ps_set (i := 3) sc__law_take.nd rfl (.inl rfl) (pe_op op_mod (pe_callTy call_int1Q (by rfl) T.f_int PyProof.Rows.boot_int (pa_cons (pe_ix ix_listQ (pv 2) pe_int (fun _ _ => rfl)) pa_nil)) (pv 1)))
      (pss_cons (ps_asg (pe_op op_fdiv (pe_callTy call_int1Q (by rfl) T.f_int PyProof.Rows.boot_int (pa_cons (pe_ix ix_listQ (pv 2) pe_int (fun _ _ => rfl)) pa_nil)) (pv 1)) (pg_sub (pv 2) pe_int set_list))
      (pss_cons (ps_if (pt_cmpR op_eq (pe_ix ix_listQ (pv 2) pe_int (fun _ _ => rfl)) pe_int (nomark _)) (pss_one (ps_expr (pe_bm PySem.F.plainAttrs_list PySem.F.slot_list_pop PySem.F.type_list_pop mt_popAtQ (pv 2) (pa_cons pe_int pa_nil)))) pss_nil)
      (pss_one (ps_ret (pv 3)))))) pss_nil)
      (pss_cons (ps_set (i := 4) sc__law_take.nd rfl (.inl rfl) (pe_op op_mod (pe_callTy call_int1Q (by rfl) T.f_int PyProof.Rows.boot_int (pa_cons (pe_op op_add (pe_ix ix_listQ (pv 0) pe_int (fun _ _ => rfl)) (pe_op op_mul (pe_ix ix_listQ (pv 0) pe_int (fun _ _ => rfl)) pe_int)) pa_nil)) pe_int))
      (pss_cons (ps_set (i := 4) sc__law_take.nd rfl (.inl rfl) (pe_op op_mod (pe_callTy call_int1Q (by rfl) T.f_int PyProof.Rows.boot_int (pa_cons (pe_op op_add (pe_op op_mul (pv 4) pe_int) (pe_op op_mul (pe_ix ix_listQ (pv 0) pe_int (fun _ _ => rfl)) (pe_ix ix_listQ (pv 0) pe_int (fun _ _ => rfl)))) pa_nil)) pe_int))
      (pss_cons (ps_set (i := 4) sc__law_take.nd rfl (.inl rfl) (pe_op op_mod (pe_callTy call_int1Q (by rfl) T.f_int PyProof.Rows.boot_int (pa_cons (pe_op op_add (pe_op op_add (pe_op op_mul (pv 4) (pv 4)) (pe_op op_mul (pv 4) pe_int)) pe_int) pa_nil)) pe_int))
      (pss_cons (ps_set (i := 4) sc__law_take.nd rfl (.inl rfl) (pe_op op_mod (pe_callTy call_int1Q (by rfl) T.f_int PyProof.Rows.boot_int (pa_cons (pe_op op_add (pe_op op_mul (pv 4) (pv 4)) (pe_ix ix_listQ (pv 0) pe_int (fun _ _ => rfl))) pa_nil)) pe_int))
      (pss_one (ps_ret (pe_op op_mod (pe_callTy call_int1Q (by rfl) T.f_int PyProof.Rows.boot_int (pa_cons (pe_op op_fdiv (pv 4) pe_int) pa_nil)) (pv 1))))))))))), ?_⟩
    simp only [cxOf, tYes, eq_self, if_true, if_false, wipe, rLenQ, rIxTQ, rIxLQ, rIxSQ, rInt1Q, rTupQ, rAppQ, rPopQ, rPopAtQ, rRevQ, rListS, rReprP, tLenSetT, tChain, tRetN, tRet, tSeq, tAsg, gName, tVar, tC, tCons, tNil, tCB, tOp, rI0, rI, tAndV, tOrV, tNotV, tIf, tTest, tB, tNot, tAnd, tOr, tIfS, tNext, tCallR, rIsK, rEq, rNe, tDrop, L2.start, List.map_cons, List.map_nil, List.length_cons, List.length_nil, Nat.reduceAdd, Nat.reduceSub, Nat.sub_self, List.replicate_zero, List.replicate_succ, List.append_nil, List.cons_append, List.nil_append, List.getElem?_cons_zero, List.getElem?_cons_succ, List.set_cons_zero, List.set_cons_succ, Option.some.injEq, List.cons.injEq, and_true, true_and, exists_eq_left, exists_eq_left', exists_eq_right, V.ty.injEq, V.int.injEq, V.bl.injEq, V.str.injEq, V.ref.injEq, exists_and_left, exists_const, reduceIte, reduceCtorEq, false_and, and_false, exists_false, or_false, false_or, Bool.not_true, Bool.not_false, Bool.false_eq_true, String.reduceEq, true_or, or_true, rNotT, tNNew, tNNotIn, tNGet, sNPut, tLenSetN, tPar, tAug, ipI, tDNotIn, sDPut, tDGet, tTup, tLst, tBM, tBM0]
    refine ⟨_, .inl (.inl hb), .int (c : Int), rfl, _, rfl, ?_⟩
    have e3 : [V.ref g, V.int sd, V.int (c : Int)].set 2 (V.int ((c : Int) + 1)) = [V.ref g, V.int sd, V.int ((c + 1 : Nat) : Int)] := rfl
    refine ⟨_, rfl, b, _, 2, 2, rfl, rfl, hb, rfl, ?_⟩
    rw [e3]
    have hb1 : (upd H b (.lst [V.ref g, V.int sd, V.int ((c + 1 : Nat) : Int)])) b = some (.lst [V.ref g, V.int sd, V.int ((c + 1 : Nat) : Int)]) := upd_same
    have hg1 : (upd H b (.lst [V.ref g, V.int sd, V.int ((c + 1 : Nat) : Int)])) g = some (.lst (js.map V.int)) := (upd_ne (Ne.symm hne)).trans hg
    have c1 : Bch b g H (upd H b (.lst [V.ref g, V.int sd, V.int ((c + 1 : Nat) : Int)])) := fun x o hx _ e => (upd_ne hx).trans e
    generalize upd H b (.lst [V.ref g, V.int sd, V.int ((c + 1 : Nat) : Int)]) = H1 at hb1 hg1 c1
    simp only [cxOf, tYes, eq_self, if_true, if_false, wipe, rLenQ, rIxTQ, rIxLQ, rIxSQ, rInt1Q, rTupQ, rAppQ, rPopQ, rPopAtQ, rRevQ, rListS, rReprP, tLenSetT, tChain, tRetN, tRet, tSeq, tAsg, gName, tVar, tC, tCons, tNil, tCB, tOp, rI0, rI, tAndV, tOrV, tNotV, tIf, tTest, tB, tNot, tAnd, tOr, tIfS, tNext, tCallR, rIsK, rEq, rNe, tDrop, L2.start, List.map_cons, List.map_nil, List.length_cons, List.length_nil, Nat.reduceAdd, Nat.reduceSub, Nat.sub_self, List.replicate_zero, List.replicate_succ, List.append_nil, List.cons_append, List.nil_append, List.getElem?_cons_zero, List.getElem?_cons_succ, List.set_cons_zero, List.set_cons_succ, Option.some.injEq, List.cons.injEq, and_true, true_and, exists_eq_left, exists_eq_left', exists_eq_right, V.ty.injEq, V.int.injEq, V.bl.injEq, V.str.injEq, V.ref.injEq, exists_and_left, exists_const, reduceIte, reduceCtorEq, false_and, and_false, exists_false, or_false, false_or, Bool.not_true, Bool.not_false, Bool.false_eq_true, String.reduceEq, true_or, or_true, rNotT, tNNew, tNNotIn, tNGet, sNPut, tLenSetN, tPar, tAug, ipI, tDNotIn, sDPut, tDGet, tTup, tLst, tBM, tBM0]
    have hn0 : (0 : Int) < (n : Int) := by omega
    refine ⟨_, .inl (.inl hb1), .ref g, rfl, !(js.map V.int).isEmpty, .inl ⟨_, .inl (.inl hg1), rfl⟩, ?_⟩
    have fin : ∀ (m : Int) H', Bch b g H1 H' → (∃ ks : List Int, H' g = some (.lst (ks.map V.int))) → H' b = some (.lst [V.ref g, V.int sd, V.int ((c + 1 : Nat) : Int)]) → Q (.int (m % (n : Int))) H' := fun m H' c2 hks hb2 => by
      have h0 := Int.emod_nonneg m (Int.ne_of_gt hn0)
      have h1 := Int.emod_lt_of_pos m hn0
      obtain ⟨ks, hks⟩ := hks
      have := q (m % (n : Int)).toNat H' (by omega) (c1.trans c2) ⟨hne, ks, sd, c + 1, hb2, hks, hs0, hs1, Nat.succ_le_succ hc⟩
      rwa [Int.toNat_of_nonneg h0] at this
    cases js with
    | cons j0 jr =>
      refine ifT rfl ?_
      refine ⟨_, .inl (.inl hg1), .int j0, at_0 _ _, ?_⟩
      refine ⟨hn0, _, .inl (.inl hg1), .int j0, at_0 _ _, ⟨hn0, by omega⟩, _, rfl, g, _, 0, 0, rfl, rfl, hg1, ix_0 _ _, ?_⟩
      rw [show (List.map V.int (j0 :: jr)).set 0 (V.int (j0 / (n : Int))) = (j0 / (n : Int) :: jr).map V.int from rfl]
      have hg2 : (upd H1 g (.lst ((j0 / (n : Int) :: jr).map V.int))) g = some (.lst ((j0 / (n : Int) :: jr).map V.int)) := upd_same
      have hb2 : (upd H1 g (.lst ((j0 / (n : Int) :: jr).map V.int))) b = some (.lst [V.ref g, V.int sd, V.int ((c + 1 : Nat) : Int)]) := (upd_ne hne).trans hb1
      have c2 : Bch b g H1 (upd H1 g (.lst ((j0 / (n : Int) :: jr).map V.int))) := fun x o _ hx e => (upd_ne hx).trans e
      generalize upd H1 g (.lst ((j0 / (n : Int) :: jr).map V.int)) = H2 at hg2 hb2 c2
      simp only [cxOf, tYes, eq_self, if_true, if_false, wipe, rLenQ, rIxTQ, rIxLQ, rIxSQ, rInt1Q, rTupQ, rAppQ, rPopQ, rPopAtQ, rRevQ, rListS, rReprP, tLenSetT, tChain, tRetN, tRet, tSeq, tAsg, gName, tVar, tC, tCons, tNil, tCB, tOp, rI0, rI, tAndV, tOrV, tNotV, tIf, tTest, tB, tNot, tAnd, tOr, tIfS, tNext, tCallR, rIsK, rEq, rNe, tDrop, L2.start, List.map_cons, List.map_nil, List.length_cons, List.length_nil, Nat.reduceAdd, Nat.reduceSub, Nat.sub_self, List.replicate_zero, List.replicate_succ, List.append_nil, List.cons_append, List.nil_append, List.getElem?_cons_zero, List.getElem?_cons_succ, List.set_cons_zero, List.set_cons_succ, Option.some.injEq, List.cons.injEq, and_true, true_and, exists_eq_left, exists_eq_left', exists_eq_right, V.ty.injEq, V.int.injEq, V.bl.injEq, V.str.injEq, V.ref.injEq, exists_and_left, exists_const, reduceIte, reduceCtorEq, false_and, and_false, exists_false, or_false, false_or, Bool.not_true, Bool.not_false, Bool.false_eq_true, String.reduceEq, true_or, or_true, rNotT, tNNew, tNNotIn, tNGet, sNPut, tLenSetN, tPar, tAug, ipI, tDNotIn, sDPut, tDGet, tTup, tLst, tBM, tBM0, tM0, tM1, tSl, tPart, tNoPart]
      refine ⟨_, .inl (.inl hg2), .int (j0 / (n : Int)), at_0 _ _, ?_⟩
      by_cases hz : j0 / (n : Int) = 0
      · refine ⟨rfl, ifT (decide_eq_true (by rw [hz])) ⟨lst_ty hg2, _, hg2, by decide, by decide, _, rfl, fin _ _ (c2.trans ?_) ⟨jr, upd_same⟩ ((upd_ne hne).trans hb2)⟩⟩
        exact fun x o _ hx e => (upd_ne hx).trans e
      · refine ⟨rfl, ifF (decide_eq_false ?_) (fin _ _ c2 ⟨_, hg2⟩ hb2)⟩
        · intro e
          exact hz (V.int.inj e)
    | nil =>
      refine ifF rfl ?_
      have hB1 : SqL K H1 b [V.ref g, V.int sd, V.int ((c + 1 : Nat) : Int)] := .inl (.inl hb1)
      exact ⟨_, hB1, .int sd, rfl, _, hB1, _, rfl, _, rfl, cmR, _, rfl, by decide, cmR, _, hB1, _, rfl, _, hB1, _, rfl, _, rfl, _, rfl, .inr ⟨by omega, by omega⟩, by decide, cmM (by decide) (by decide), cmR, by decide, cmM (by decide) (by decide), _, hB1, _, rfl, _, rfl, by decide, ⟨by decide, by decide⟩, hn0, fin _ _ (.refl _ _ _) ⟨[], hg1⟩ hb1⟩
theorem sc__law_quoted : FnScope ["word"] ["word"] (defScope (topS 44)) := ⟨rfl, rfl, rfl, by decide +kernel, rfl, by decide +kernel, by decide +kernel⟩
theorem bd__law_quoted {K : PySem.W.Frag} {f : Addr} {fd : FuncData} (F : FnP K "_law_quoted" (topS 44) f fd) : Binds K fd ["word"] [] := F.bindsN fun _ _ _ _ _ _ us hl => match us, hl with | [_], _ => rfl
def spQd : Sp := fun vs H Q _ => ∃ z : Str, vs = [.str z] ∧ z.length ≤ 1000 ∧ ∀ u : Str, u.cps.toList = 34 :: (z.cps.toList ++ [34]) → Q (.str u) H
theorem ok__law_quoted (T : Tx w K mg) : Dk P w K mg base 1 "_law_quoted" ["word"] spQd := by
  obtain ⟨fd, F⟩ := T.d__law_quoted
  refine ⟨⟨fd, F.ok sc__law_quoted (fun vs H Q E h => ?_) (fun cdv A outer s H vs Q E hr h => ?_), bd__law_quoted F⟩, F.kp, T.g__law_quoted⟩
  · obtain ⟨z, rfl, _⟩ := h
    rfl
  · obtain ⟨z, rfl, hz, q⟩ := h
    refine ⟨_, PSs.nox (pss_one (ps_ret (pe_op op_add_str (pe_op op_add_str pe_str (pv 0)) pe_str))), ?_⟩
    simp only [cxOf, tYes, eq_self, if_true, if_false, wipe, rLenQ, rIxTQ, rIxLQ, rIxSQ, rInt1Q, rTupQ, rAppQ, rPopQ, rPopAtQ, rRevQ, rListS, rReprP, tLenSetT, tChain, tRetN, tRet, tSeq, tAsg, gName, tVar, tC, tCons, tNil, tCB, tOp, rI0, rI, tAndV, tOrV, tNotV, tIf, tTest, tB, tNot, tAnd, tOr, tIfS, tNext, tCallR, rIsK, rEq, rNe, tDrop, L2.start, List.map_cons, List.map_nil, List.length_cons, List.length_nil, Nat.reduceAdd, Nat.reduceSub, Nat.sub_self, List.replicate_zero, List.replicate_succ, List.append_nil, List.cons_append, List.nil_append, List.getElem?_cons_zero, List.getElem?_cons_succ, List.set_cons_zero, List.set_cons_succ, Option.some.injEq, List.cons.injEq, and_true, true_and, exists_eq_left, exists_eq_left', exists_eq_right, V.ty.injEq, V.int.injEq, V.bl.injEq, V.str.injEq, V.ref.injEq, exists_and_left, exists_const, reduceIte, reduceCtorEq, false_and, and_false, exists_false, or_false, false_or, Bool.not_true, Bool.not_false, Bool.false_eq_true, String.reduceEq, true_or, or_true, rNotT, tNNew, tNNotIn, tNGet, sNPut, tLenSetN, tPar, tAug, ipI, tDNotIn, sDPut, tDGet, tTup, tLst, tBM, tBM0]
    have e1 : (Str.ofString "\"").length = 1 := rfl
    have e2 : (Str.ofString "\"" ++ z).length = 1 + z.length := len_app _ _
    refine ⟨by rw [e1, sizeLine_eq]; omega, by rw [e1, e2, sizeLine_eq]; omega, q _ ?_⟩
    rw [cps_app, cps_app]
    rfl
theorem sc__law_place : FnScope ["page"] ["page"] (defScope (topS 45)) := ⟨rfl, rfl, rfl, by decide +kernel, rfl, by decide +kernel, by decide +kernel⟩
theorem bd__law_place {K : PySem.W.Frag} {f : Addr} {fd : FuncData} (F : FnP K "_law_place" (topS 45) f fd) : Binds K fd ["page"] [] := F.bindsN fun _ _ _ _ _ _ us hl => match us, hl with | [_], _ => rfl
def spPc (K : PySem.W.Frag) : Sp := fun vs H Q _ => ∃ z : Str, vs = [.str z] ∧ z.length ≤ 1000000 ∧ ∀ p H', Same H H' → H' p = some (.tup [.int ((1 + rowL z.cps.toList : Nat) : Int), .int ((1 + colL z.cps.toList : Nat) : Int)]) → Q (.ref p) H'
theorem ok__law_place (T : Tx w K mg) : Dk P w K mg base 1 "_law_place" ["page"] (spPc K) := by
  obtain ⟨fd, F⟩ := T.d__law_place
  refine ⟨⟨fd, F.ok sc__law_place (fun vs H Q E h => ?_) (fun cdv A outer s H vs Q E hr h => ?_), bd__law_place F⟩, F.kp, T.g__law_place⟩
  · obtain ⟨z, rfl, _⟩ := h
    rfl
  · obtain ⟨z, rfl, hz, q⟩ := h
    refine ⟨_, PSs.nox (pss_one (ps_ret (pe_tup (pa_cons (pe_op op_add (pe_m1 PySem.F.slot_str_count PySem.F.type_str_count mt_count (pv 0) pe_str) pe_int) (pa_cons (pe_op op_sub (pe_callB call_lenQ (by rfl) T.f_len PySem.boot_len (pa_cons (pv 0) pa_nil)) (pe_m1 PySem.F.slot_str_rfind PySem.F.type_str_rfind mt_rfind (pv 0) pe_str)) pa_nil))))), ?_⟩
    simp only [cxOf, tYes, eq_self, if_true, if_false, wipe, rLenQ, rIxTQ, rIxLQ, rIxSQ, rInt1Q, rTupQ, rAppQ, rPopQ, rPopAtQ, rRevQ, rListS, rReprP, tLenSetT, tChain, tRetN, tRet, tSeq, tAsg, gName, tVar, tC, tCons, tNil, tCB, tOp, rI0, rI, tAndV, tOrV, tNotV, tIf, tTest, tB, tNot, tAnd, tOr, tIfS, tNext, tCallR, rIsK, rEq, rNe, tDrop, L2.start, List.map_cons, List.map_nil, List.length_cons, List.length_nil, Nat.reduceAdd, Nat.reduceSub, Nat.sub_self, List.replicate_zero, List.replicate_succ, List.append_nil, List.cons_append, List.nil_append, List.getElem?_cons_zero, List.getElem?_cons_succ, List.set_cons_zero, List.set_cons_succ, Option.some.injEq, List.cons.injEq, and_true, true_and, exists_eq_left, exists_eq_left', exists_eq_right, V.ty.injEq, V.int.injEq, V.bl.injEq, V.str.injEq, V.ref.injEq, exists_and_left, exists_const, reduceIte, reduceCtorEq, false_and, and_false, exists_false, or_false, false_or, Bool.not_true, Bool.not_false, Bool.false_eq_true, String.reduceEq, true_or, or_true, rNotT, tNNew, tNNotIn, tNGet, sNPut, tLenSetN, tPar, tAug, ipI, tDNotIn, sDPut, tDGet, tTup, tLst, tBM, tBM0]
    refine ⟨_, rfl, ⟨_, rfl⟩, _, rfl, _, rfl, _, rfl, by rw [sizeLine_eq]; omega, _, rfl, ⟨_, rfl⟩, _, rfl, _, rfl, _, rfl, by rw [sizeLine_eq]; decide, fun p hp => q p _ (same_upd hp) ?_⟩
    rw [upd_same, rfind_col, count_row]
    have e : ((1 + rowL z.cps.toList : Nat) : Int) = (rowL z.cps.toList : Int) + 1 := by omega
    rw [e]
theorem sc__law_printable : FnScope ["bag", "most", "stock", "k"] ["bag", "most"] (defScope (topS 46)) := ⟨rfl, rfl, rfl, by decide +kernel, rfl, by decide +kernel, by decide +kernel⟩
theorem bd__law_printable {K : PySem.W.Frag} {f : Addr} {fd : FuncData} (F : FnP K "_law_printable" (topS 46) f fd) : Binds K fd ["bag", "most"] [] := F.bindsN fun _ _ _ _ _ _ us hl => match us, hl with | [_, _], _ => rfl
/-- signs that may be quoted -/
def QtS (u : Str) : Prop := ∀ c ∈ u.cps.toList, btw 32 126 c = true ∧ c ≠ 34
def stockS : Str := Str.ofString " !#$&'()*+,-./09:;<=>?@AZ[\\]^_az{|}~##"
theorem stock_ok : ∀ c ∈ stockS.cps.toList, btw 32 126 c = true ∧ c ≠ 34 := by decide +kernel
def spPr : Sp := fun vs H Q _ => ∃ (b g : Addr) (n B : Nat), vs = [.ref b, .int (n : Int)] ∧ Bag H b g B ∧ B + n + 2 < 2 ^ 40 ∧ n ≤ 100 ∧ ∀ (u : Str) H', u.length ≤ n → QtS u → Bch b g H H' → Bag H' b g (B + n + 2) → Q (.str u) H'
theorem ok__law_printable (T : Tx w K mg) : Dk P w K mg base 2 "_law_printable" ["bag", "most"] spPr := by
  have D__law_take := ok__law_take (P := P) (w := w) (base := base) T
  obtain ⟨fd, F⟩ := T.d__law_printable
  refine ⟨⟨fd, F.ok sc__law_printable (fun vs H Q E h => ?_) (fun cdv A outer s H vs Q E hr h => ?_), bd__law_printable F⟩, F.kp, T.g__law_printable⟩
  · obtain ⟨b, g, n, B, rfl, _⟩ := h
    rfl
  · obtain ⟨b, g, n, B, rfl, hbag, hB, hn, q⟩ := h
    refine ⟨_, PSs.nox (pss_cons (ps_set (i := 2) sc__law_printable.nd rfl (.inr rfl) pe_str)
      (pss_one (ps_ret (pe_join pe_str (pe_lc (own := [("k", 3)]) rfl sc__law_printable.nd (pi_range1 (by rfl) T.f_range (pa_cons (pe_callR D__law_take (hr.mono (by decide)) takes0 (pa_cons (pv 0) (pa_cons (pe_op op_add (pv 1) pe_int) pa_nil))) pa_nil)) (blkOk_by (own := [("k", 3)]) (N := ["bag", "most", "stock", "k"]) (sc := defScope (topS 46)) (by decide +kernel)) (fun _ _ _ _ _ => (pg_name (i := 3) sc__law_printable.nd rfl (.inl rfl))) (fun _ _ _ _ _ => pts_nil) (fun _ _ _ _ _ => (pe_ix ix_strQ (pv 2) (pe_callR D__law_take (hr.mono (by decide)) takes0 (pa_cons (pv 0) (pa_cons (pe_callB (show CallR _ _ (rLenQ K) by exact call_lenQ) (by rfl) T.f_len PySem.boot_len (pa_cons (pv 2) pa_nil)) pa_nil))) (fun _ _ => rfl)))))))), ?_⟩
    simp only [cxOf, tYes, eq_self, if_true, if_false, wipe, rLenQ, rIxTQ, rIxLQ, rIxSQ, rInt1Q, rTupQ, rAppQ, rPopQ, rPopAtQ, rRevQ, rListS, rReprP, tLenSetT, tChain, tRetN, tRet, tSeq, tAsg, gName, tVar, tC, tCons, tNil, tCB, tOp, rI0, rI, tAndV, tOrV, tNotV, tIf, tTest, tB, tNot, tAnd, tOr, tIfS, tNext, tCallR, rIsK, rEq, rNe, tDrop, L2.start, List.map_cons, List.map_nil, List.length_cons, List.length_nil, Nat.reduceAdd, Nat.reduceSub, Nat.sub_self, List.replicate_zero, List.replicate_succ, List.append_nil, List.cons_append, List.nil_append, List.getElem?_cons_zero, List.getElem?_cons_succ, List.set_cons_zero, List.set_cons_succ, Option.some.injEq, List.cons.injEq, and_true, true_and, exists_eq_left, exists_eq_left', exists_eq_right, V.ty.injEq, V.int.injEq, V.bl.injEq, V.str.injEq, V.ref.injEq, exists_and_left, exists_const, reduceIte, reduceCtorEq, false_and, and_false, exists_false, or_false, false_or, Bool.not_true, Bool.not_false, Bool.false_eq_true, String.reduceEq, true_or, or_true, rNotT, tNNew, tNNotIn, tNGet, sNPut, tLenSetN, tPar, tAug, ipI, tDNotIn, sDPut, tDGet, tTup, tLst, tBM, tBM0, tM0, tM1, tSl, tPart, tNoPart]
    refine ⟨⟨_, rfl⟩, _, rfl, _, rfl, (n : Int), 1, rfl, rfl, b, g, n + 1, B, rfl, hbag, by omega, by omega, by omega, fun r H1 hr1 c1 bg1 => ⟨(r : Int), rfl, by omega, by omega, fun D hD => ?_⟩⟩
    have e9 : (r : Int).toNat = r := Int.toNat_natCast r
    rw [e9]
    have hne := bg1.ne hD
    refine lc_gen (J := Itr 0 r) (n := r) (fun i H' => Bch b g H1 H' ∧ Bag H' b g (B + 1 + i) ∧ ∃ us : List Nat, us.length = i ∧ (∀ c ∈ us, c ∈ stockS.cps.toList) ∧ H' D = some (.lst ((us.map sgn).map V.str))) ⟨.of_same (same_upd hD), bg1.same (same_upd hD), [], rfl, (fun c hc => nomatch hc), upd_same⟩ (fun i H' hi _ => hi) (fun H' _ => Nat.le_refl _) ?_ ?_
    · rintro i x H' H'' hi ⟨c2, bg2, us, hu1, hu2, hD2⟩ ⟨rfl, rfl⟩
      simp only [cxOf, tYes, eq_self, if_true, if_false, wipe, rLenQ, rIxTQ, rIxLQ, rIxSQ, rInt1Q, rTupQ, rAppQ, rPopQ, rPopAtQ, rRevQ, rListS, rReprP, tLenSetT, tChain, tRetN, tRet, tSeq, tAsg, gName, tVar, tC, tCons, tNil, tCB, tOp, rI0, rI, tAndV, tOrV, tNotV, tIf, tTest, tB, tNot, tAnd, tOr, tIfS, tNext, tCallR, rIsK, rEq, rNe, tDrop, L2.start, List.map_cons, List.map_nil, List.length_cons, List.length_nil, Nat.reduceAdd, Nat.reduceSub, Nat.sub_self, List.replicate_zero, List.replicate_succ, List.append_nil, List.cons_append, List.nil_append, List.getElem?_cons_zero, List.getElem?_cons_succ, List.set_cons_zero, List.set_cons_succ, Option.some.injEq, List.cons.injEq, and_true, true_and, exists_eq_left, exists_eq_left', exists_eq_right, V.ty.injEq, V.int.injEq, V.bl.injEq, V.str.injEq, V.ref.injEq, exists_and_left, exists_const, reduceIte, reduceCtorEq, false_and, and_false, exists_false, or_false, false_or, Bool.not_true, Bool.not_false, Bool.false_eq_true, String.reduceEq, true_or, or_true, rNotT, tNNew, tNNotIn, tNGet, sNPut, tLenSetN, tPar, tAug, ipI, tDNotIn, sDPut, tDGet, tTup, tLst, tBM, tBM0, tM0, tM1, tSl, tPart, tNoPart]
      refine ⟨by rw [sizeLine_eq]; decide, b, g, stockS.length, B + 1 + i, rfl, bg2, by omega, by decide, by decide, fun j H3 hj c3 bg3 => ?_⟩
      have hj2 : j < stockS.cps.toList.length := hj
      refine ⟨by rw [sizeLine_eq]; decide, stockS.cps.toList[j], atI_nat (List.getElem?_eq_getElem hj2), _, c3 D _ hne.1 hne.2 hD2, ?_, ?_, ?_, us ++ [stockS.cps.toList[j]], ?_, ?_, ?_⟩
      · rw [List.length_map, List.length_map]
        exact szlt (m := 100000) (by omega)
      · intro x o h1 h2 e
        rw [upd_ne (ne_of_none e hD)]
        exact c3 x o h1 h2 (c2 x o h1 h2 e)
      · obtain ⟨n0, js, sd, c, e1, e2, e3, e4, e5⟩ := bg3
        exact ⟨n0, js, sd, c, (upd_ne (Ne.symm hne.1)).trans e1, (upd_ne (Ne.symm hne.2)).trans e2, e3, e4, by omega⟩
      · rw [List.length_append, hu1]
        rfl
      · intro c hc
        rcases List.mem_append.mp hc with h | h
        · exact hu2 c h
        · rw [List.mem_singleton.mp h]
          exact List.getElem_mem hj2
      · rw [upd_same, List.map_append, List.map_append]
        rfl
    · rintro H' ⟨c2, bg2, us, hu1, hu2, hD2⟩
      refine ⟨D, rfl, us.map sgn, .inl (.inl (.inl hD2)), ?_, ?_⟩
      · rw [sum_ones, List.length_map, show (Str.ofString "").length = 0 from rfl]
        omega
      · rw [join_signs]
        exact q _ _ (by show us.toArray.size ≤ n; rw [List.size_toArray]; omega) (fun c hc => stock_ok c (hu2 c hc)) (c1.trans c2) (bg2.le (by omega))
theorem sc__law_remark : FnScope ["bag", "kind", "mark"] ["bag"] (defScope (topS 47)) := ⟨rfl, rfl, rfl, by decide +kernel, rfl, by decide +kernel, by decide +kernel⟩
theorem bd__law_remark {K : PySem.W.Frag} {f : Addr} {fd : FuncData} (F : FnP K "_law_remark" (topS 47) f fd) : Binds K fd ["bag"] [] := F.bindsN fun _ _ _ _ _ _ us hl => match us, hl with | [_], _ => rfl
def GapS (u : Str) : Prop := Blank u.cps.toList ∧ 1 ≤ u.length ∧ u.length ≤ 20
def spRm : Sp := fun vs H Q _ => ∃ (b g : Addr) (B : Nat), vs = [.ref b] ∧ Bag H b g B ∧ B + 30 < 2 ^ 40 ∧ ∀ (u : Str) H', GapS u → Bch b g H H' → Bag H' b g (B + 30) → Q (.str u) H'
theorem ok__law_remark (T : Tx w K mg) : Dk P w K mg base 3 "_law_remark" ["bag"] spRm := by
  have D__law_take := ok__law_take (P := P) (w := w) (base := base) T
  have D__law_printable := ok__law_printable (P := P) (w := w) (base := base) T
  obtain ⟨fd, F⟩ := T.d__law_remark
  refine ⟨⟨fd, F.ok sc__law_remark (fun vs H Q E h => ?_) (fun cdv A outer s H vs Q E hr h => ?_), bd__law_remark F⟩, F.kp, T.g__law_remark⟩
  · obtain ⟨b, g, B, rfl, _⟩ := h
    rfl
  · obtain ⟨b, g, B, rfl, hbag, hB, q⟩ := h
    refine ⟨_, PSs.nox (pss_cons (ps_set (i := 1) sc__law_remark.nd rfl (.inl rfl) (pe_callR D__law_take (hr.mono (by decide)) takes0 (pa_cons (pv 0) (pa_cons pe_int pa_nil))))
      (pss_cons (ps_if (pt_cmpR op_eq (pv 1) pe_int (nomark _)) (pss_one (ps_ret pe_str)) pss_nil)
      (pss_cons (ps_if (pt_cmpR op_eq (pv 1) pe_int (nomark _)) (pss_one (ps_ret pe_str)) pss_nil)
      (pss_cons (ps_set (i := 2) sc__law_remark.nd rfl (.inl rfl) (pe_ifExp (pt_cmpR op_eq (pv 1) pe_int (nomark _)) pe_str pe_str))
      (pss_one (ps_ret (pe_op op_add_str (pe_op op_add_str (pe_op op_add_str (pe_op op_add_str pe_str (pe_callR D__law_printable (hr.mono (by decide)) takes0 (pa_cons (pv 0) (pa_cons pe_int pa_nil)))) (pv 2)) (pe_callR D__law_printable (hr.mono (by decide)) takes0 (pa_cons (pv 0) (pa_cons pe_int pa_nil)))) pe_str))))))), ?_⟩
    simp only [cxOf, tYes, eq_self, if_true, if_false, wipe, rLenQ, rIxTQ, rIxLQ, rIxSQ, rInt1Q, rTupQ, rAppQ, rPopQ, rPopAtQ, rRevQ, rListS, rReprP, tLenSetT, tChain, tRetN, tRet, tSeq, tAsg, gName, tVar, tC, tCons, tNil, tCB, tOp, rI0, rI, tAndV, tOrV, tNotV, tIf, tTest, tB, tNot, tAnd, tOr, tIfS, tNext, tCallR, rIsK, rEq, rNe, tDrop, L2.start, List.map_cons, List.map_nil, List.length_cons, List.length_nil, Nat.reduceAdd, Nat.reduceSub, Nat.sub_self, List.replicate_zero, List.replicate_succ, List.append_nil, List.cons_append, List.nil_append, List.getElem?_cons_zero, List.getElem?_cons_succ, List.set_cons_zero, List.set_cons_succ, Option.some.injEq, List.cons.injEq, and_true, true_and, exists_eq_left, exists_eq_left', exists_eq_right, V.ty.injEq, V.int.injEq, V.bl.injEq, V.str.injEq, V.ref.injEq, exists_and_left, exists_const, reduceIte, reduceCtorEq, false_and, and_false, exists_false, or_false, false_or, Bool.not_true, Bool.not_false, Bool.false_eq_true, String.reduceEq, true_or, or_true, rNotT, tNNew, tNNotIn, tNGet, sNPut, tLenSetN, tPar, tAug, ipI, tDNotIn, sDPut, tDGet, tTup, tLst, tBM, tBM0, tM0, tM1, tSl, tPart, tNoPart]
    have rem : ∀ (x y mk u : Str), x.length ≤ 8 → QtS x → y.length ≤ 4 → QtS y → mk.length ≤ 1 → (∀ c ∈ mk.cps.toList, btw 32 126 c = true) → u = Str.ofString "#" ++ x ++ mk ++ y ++ Str.ofString "\n" → GapS u := by
      intro x y mk u hx qx hy qy hm qm e
      have e1 : (Str.ofString "#").length = 1 := rfl
      have e2 : (Str.ofString "\n").length = 1 := rfl
      have hc : u.cps.toList = 35 :: ((x.cps.toList ++ mk.cps.toList ++ y.cps.toList) ++ 10 :: []) := by
        rw [e, cps_app, cps_app, cps_app, cps_app]
        have e3 : (Str.ofString "#").cps.toList = [35] := rfl
        have e4 : (Str.ofString "\n").cps.toList = [10] := rfl
        rw [e3, e4]
        simp
      refine ⟨?_, ?_, ?_⟩
      · rw [hc]
        refine .rem _ (fun c hc => ?_) .nil
        rcases List.mem_append.mp hc with h | h
        · rcases List.mem_append.mp h with h | h
          · exact (qx c h).1
          · exact qm c h
        · exact (qy c h).1
      · rw [e, len_app]
        omega
      · rw [e, len_app, len_app, len_app, len_app]
        omega
    refine ⟨b, g, 4, B, rfl, hbag, by omega, by omega, by omega, fun r H1 hr c1 bg1 => ⟨rfl, ?_⟩⟩
    by_cases k0 : r = 0
    · exact ifT (decide_eq_true (by rw [k0]; rfl)) (q _ H1 ⟨.sp .nil, Nat.le_refl 1, (by decide : 1 ≤ 20)⟩ c1 (bg1.le (by omega)))
    refine ifF (decide_eq_false fun e => k0 (by have := V.int.inj e; omega)) ⟨rfl, ?_⟩
    by_cases k1 : r = 1
    · exact ifT (decide_eq_true (by rw [k1]; rfl)) (q _ H1 ⟨.nl (.nl .nil), (by decide : 1 ≤ 2), (by decide : 2 ≤ 20)⟩ c1 (bg1.le (by omega)))
    refine ifF (decide_eq_false fun e => k1 (by have := V.int.inj e; omega)) ⟨rfl, ?_⟩
    have e1 : (Str.ofString "#").length = 1 := rfl
    have e2 : (Str.ofString "\n").length = 1 := rfl
    have e3 : (Str.ofString "\"").length = 1 := rfl
    have e4 : (Str.ofString "").length = 0 := rfl
    by_cases k2 : r = 2
    · refine ifT (decide_eq_true (by rw [k2]; rfl)) ⟨b, g, 8, _, rfl, bg1, by omega, by omega, fun x H2 hx qx c2 bg2 => ⟨x, rfl, szle (m := 100) (by omega), szle (m := 100) (by rw [len_app]; omega), ?_⟩⟩
      refine ⟨b, g, 4, _, rfl, bg2, by omega, by omega, fun y H3 hy qy c3 bg3 => ⟨y, rfl, szle (m := 100) (by rw [len_app, len_app]; omega), szle (m := 100) (by rw [len_app, len_app, len_app]; omega), ?_⟩⟩
      exact q _ H3 (rem x y (Str.ofString "\"") _ hx qx hy qy (by decide) (by decide) rfl) ((c1.trans c2).trans c3) (bg3.le (by omega))
    · refine ifF (decide_eq_false fun e => k2 (by have := V.int.inj e; omega)) ⟨b, g, 8, _, rfl, bg1, by omega, by omega, fun x H2 hx qx c2 bg2 => ⟨x, rfl, szle (m := 100) (by omega), szle (m := 100) (by rw [len_app]; omega), ?_⟩⟩
      refine ⟨b, g, 4, _, rfl, bg2, by omega, by omega, fun y H3 hy qy c3 bg3 => ⟨y, rfl, szle (m := 100) (by rw [len_app, len_app]; omega), szle (m := 100) (by rw [len_app, len_app, len_app]; omega), ?_⟩⟩
      exact q _ H3 (rem x y (Str.ofString "") _ hx qx hy qy (by decide) (by decide) rfl) ((c1.trans c2).trans c3) (bg3.le (by omega))
theorem sc__law_refused : FnScope ["page", "whole", "e"] ["page", "whole"] (defScope (topS 48)) := ⟨rfl, rfl, rfl, by decide +kernel, rfl, by decide +kernel, by decide +kernel⟩
theorem bd__law_refused {K : PySem.W.Frag} {f : Addr} {fd : FuncData} (F : FnP K "_law_refused" (topS 48) f fd) : Binds K fd ["page", "whole"] [] := F.bindsN fun _ _ _ _ _ _ us hl => match us, hl with | [_, _], _ => rfl
def spRu (K : PySem.W.Frag) : Sp := fun vs H Q _ => ∃ (z : Str) (wh : Bool) (ts : List (Str × Wp)) (l c : Int) (mm : Nat), vs = [.str z, .bl wh] ∧ z.length ≤ 1000000 ∧ mm ≤ 1000000 ∧ Toks z ts ∧ Run mm [.str (Str.ofString (if wh then "<program>" else "<work>")), .str endS] ts [] (.bad l c) ∧
  smallI l ∧ smallI c ∧ ∀ p H', Same H H' → H' p = some (.tup [.int l, .int c]) → Q (.ref p) H'
theorem ok__law_refused [PF P] (T : Tx w K mg) : Dk P w K mg base 11 "_law_refused" ["page", "whole"] (spRu K) := by
  have D_read := ok_read (P := P) (w := w) (base := base) T
  have D_read_work := ok_read_work (P := P) (w := w) (base := base) T
  obtain ⟨fd, F⟩ := T.d__law_refused
  refine ⟨⟨fd, F.ok sc__law_refused (fun vs H Q E h => ?_) (fun cdv A outer s H vs Q E hr h => ?_), bd__law_refused F⟩, F.kp, T.g__law_refused⟩
  · obtain ⟨z, wh, ts, l, c, mm, rfl, _⟩ := h
    rfl
  · obtain ⟨z, wh, ts, l, c, mm, rfl, hz, hmm, htk, hrun, hl, hc, q⟩ := h
    refine ⟨_, PSs.nox (pss_cons (ps_try_cl rfl rfl takes0 (fun W pn xe tk pz => (pss_one (ps_if (pt_val (pv 1)) (pss_one (ps_expr (pe_callR D_read (hr.mono (by decide)) tk (pa_cons (pv 0) pa_nil)))) (pss_one (ps_expr (pe_callR D_read_work (hr.mono (by decide)) tk (pa_cons (pv 0) pa_nil))))))) (ClOk.named ⟨rfl, by decide, .inl T.s_BadText.gm⟩ sc__law_refused.nd rfl rfl (i := 2) (fun a oe cls d pn hz hf => (pss_one (ps_ret (pe_tup (pa_cons (pe_xf T.s_BadText.xf (T.s_BadText.nf "line" (by decide)) hz hf (pv 2)) (pa_cons (pe_xf T.s_BadText.xf (T.s_BadText.nf "column" (by decide)) hz hf (pv 2)) pa_nil)))))) ClOk.nil))
      (pss_one (ps_ret (pe_tup (pa_cons pe_int (pa_cons pe_int pa_nil)))))), ?_⟩
    simp only [cxOf, tYes, eq_self, if_true, if_false, wipe, rLenQ, rIxTQ, rIxLQ, rIxSQ, rInt1Q, rTupQ, rAppQ, rPopQ, rPopAtQ, rRevQ, rListS, rReprP, tLenSetT, tChain, tRetN, tRet, tSeq, tAsg, gName, tVar, tC, tCons, tNil, tCB, tOp, rI0, rI, tAndV, tOrV, tNotV, tIf, tTest, tB, tNot, tAnd, tOr, tIfS, tNext, tCallR, rIsK, rEq, rNe, tDrop, L2.start, List.map_cons, List.map_nil, List.length_cons, List.length_nil, Nat.reduceAdd, Nat.reduceSub, Nat.sub_self, List.replicate_zero, List.replicate_succ, List.append_nil, List.cons_append, List.nil_append, List.getElem?_cons_zero, List.getElem?_cons_succ, List.set_cons_zero, List.set_cons_succ, Option.some.injEq, List.cons.injEq, and_true, true_and, exists_eq_left, exists_eq_left', exists_eq_right, V.ty.injEq, V.int.injEq, V.bl.injEq, V.str.injEq, V.ref.injEq, exists_and_left, exists_const, reduceIte, reduceCtorEq, false_and, and_false, exists_false, or_false, false_or, Bool.not_true, Bool.not_false, Bool.false_eq_true, String.reduceEq, true_or, or_true, rNotT, tNNew, tNNotIn, tNGet, sNPut, tLenSetN, tPar, tAug, ipI, tDNotIn, sDPut, tDGet, tTup, tLst, tBM, tBM0, tM0, tM1, tSl, tPart, tNoPart]
    have two : 2 ≤ sizeLine := szle (m := 2) (Nat.le_refl 2)
    have hk : ∀ (W : V → Hp → Prop) (D : Ends), D.rt = Q → RaE K (Same H) W (fun cls d H' => wCl K (fun _ _ _ _ => False) D
          [(Value.ref (He.ga K "BadText"), some 2, fun a cls d =>
              tRet (tTup (tCons (tXf a cls d (He.ga K "BadText") (Str.ofString "line") (tVar 2)) (tCons (tXf a cls d (He.ga K "BadText") (Str.ofString "column") (tVar 2)) tNil))))]
          cls d [some (V.str z), some (V.bl wh), none] H') (.bad l c) := by
      intro W D hD
      refine ⟨hl, hc, fun H1 s1 d hd => ?_⟩
      refine ⟨true, T.x_BadText_BadText, fun _ a ha => ?_, fun e => by cases e⟩
      have k1 : (upd H1 d (.xd (btF l c))) d = some (.xd (btF l c)) := upd_same
      have s2 := same_upd (o := HO.xd (btF l c)) hd
      generalize upd H1 d (.xd (btF l c)) = H2 at k1 s2 ha
      refine ⟨_, rfl, rfl, rfl, d, _, .int l, rfl, k1, rfl, _, rfl, rfl, rfl, d, _, .int c, rfl, k1, rfl, two, fun p hp => ?_⟩
      have s3 := same_upd (o := HO.tup [V.int l, V.int c]) hp
      show D.rt _ _
      rw [hD]
      exact q _ _ ((s1.trans s2).trans s3) upd_same
    cases wh with
    | true => exact ifT rfl ⟨z, ts, _, mm, rfl, hz, hmm, htk, hrun, hk _ _ rfl⟩
    | false => exact ifF rfl ⟨z, ts, _, mm, rfl, hz, hmm, htk, hrun, hk _ _ rfl⟩
end
end K02

namespace K02
open PySem PySem.Spec PyProof.Rows L2 Sg
section
variable {P : Program} {w : World} {K : PySem.W.Frag} {mg : Str → Option Value} {base : Heap}
/-! the law's own functions: the same told twice -/
mutual
def strD : PyData → Bool
  | .str _ => true
  | .int _ => true
  | .tuple ds => strDs ds
  | _ => false
def strDs : List PyData → Bool
  | [] => true
  | d :: ds => strD d && strDs ds
end
mutual
def nD : PyData → Nat
  | .tuple ds => 1 + nDs ds
  | _ => 1
def nDs : List PyData → Nat
  | [] => 0
  | d :: ds => nD d + nDs ds
end
def PrV (K : PySem.W.Frag) (H : Hp) (v : V) (d : PyData) : Prop := ∃ p x y, v = .ref p ∧ H p = some (.tup [x, y]) ∧ Dp K H x d ∧ Dp K H y d ∧ strD d = true
inductive PrL (K : PySem.W.Frag) (H : Hp) : List V → List PyData → Prop
  | nil : PrL K H [] []
  | cons {v : V} {d : PyData} {vs : List V} {ds : List PyData} : PrV K H v d → PrL K H vs ds → PrL K H (v :: vs) (d :: ds)
mutual
theorem str_noL : ∀ (d : PyData), strD d = true → noL d = true
  | .none, h => by simp [strD] at h
  | .bool _, h => by simp [strD] at h
  | .int _, _ => by simp [noL]
  | .str _, _ => by simp [noL]
  | .list _, h => by simp [strD] at h
  | .dict _, h => by simp [strD] at h
  | .tuple ds, h => by
    have h2 : strDs ds = true := by simpa [strD] using h
    simpa [noL] using str_noLs ds h2
theorem str_noLs : ∀ (ds : List PyData), strDs ds = true → noLs ds = true
  | [], _ => by simp [noLs]
  | d :: ds, h => by
    have h2 : strD d = true ∧ strDs ds = true := by simpa [strDs] using h
    simp [noLs, str_noL d h2.1, str_noLs ds h2.2]
end
theorem nD_pos (d : PyData) : 1 ≤ nD d := by cases d <;> simp [nD]
theorem nDs_app : ∀ (a b : List PyData), nDs (a ++ b) = nDs a + nDs b
  | [], b => by simp [nDs]
  | d :: a, b => by rw [List.cons_append]; simp only [nDs, nDs_app a b]; omega
theorem nDs_len : ∀ (a : List PyData), a.length ≤ nDs a
  | [] => Nat.zero_le _
  | d :: a => by
    have h1 := nDs_len a
    have h2 := nD_pos d
    simp only [nDs, List.length_cons]
    omega
theorem PrV.mono {H H' : Hp} {v : V} {d : PyData} (k : TK H H') (h : PrV K H v d) : PrV K H' v d := by
  obtain ⟨p, x, y, e, h1, h2, h3, h4⟩ := h
  exact ⟨p, x, y, e, k.1 _ _ h1, dp_mono k _ _ h2 (str_noL _ h4), dp_mono k _ _ h3 (str_noL _ h4), h4⟩
theorem PrL.mono {H H' : Hp} {vs : List V} {ds : List PyData} (k : TK H H') (h : PrL K H vs ds) : PrL K H' vs ds := by
  induction h with
  | nil => exact .nil
  | cons a _ ih => exact .cons (a.mono k) ih
theorem PrL.app {H : Hp} {vs us : List V} {ds es : List PyData} (h : PrL K H vs ds) (h2 : PrL K H us es) : PrL K H (vs ++ us) (ds ++ es) := by
  induction h with
  | nil => exact h2
  | cons a _ ih => exact .cons a ih
theorem PrL.len {H : Hp} {vs : List V} {ds : List PyData} (h : PrL K H vs ds) : vs.length = ds.length := by
  induction h with
  | nil => rfl
  | cons _ _ ih => rw [List.length_cons, List.length_cons, ih]
theorem PrL.last {H : Hp} {vs : List V} {ds : List PyData} (h : PrL K H vs ds) : vs = [] ∨ ∃ us v es e, vs = us ++ [v] ∧ ds = es ++ [e] ∧ PrL K H us es ∧ PrV K H v e := by
  induction h with
  | nil => exact .inl rfl
  | cons a hr ih =>
    rename_i v d vs ds
    refine .inr ?_
    rcases ih with rfl | ⟨us, v2, es, e, rfl, rfl, h1, h2⟩
    · cases hr
      exact ⟨[], v, [], d, rfl, rfl, .nil, a⟩
    · exact ⟨v :: us, v2, d :: es, e, rfl, rfl, .cons a h1, h2⟩
theorem strDs_at : ∀ {ds : List PyData} {i : Nat} {d : PyData}, strDs ds = true → ds[i]? = some d → strD d = true
  | [], _, _, _, h => by cases h
  | e :: ds, i, d, hs, h => by
    have h2 : strD e = true ∧ strDs ds = true := by simpa [strDs] using hs
    cases i with
    | zero => cases h; exact h2.1
    | succ i => exact strDs_at h2.2 h
theorem dpAll_at {H : Hp} {vs : List V} {ds : List PyData} (h : DpAll K H vs ds) : ∀ {i : Nat}, i < ds.length → ∃ v d, vs[i]? = some v ∧ ds[i]? = some d ∧ Dp K H v d := by
  intro i hi
  induction ds generalizing vs i with
  | nil => exact absurd hi (Nat.not_lt_zero _)
  | cons e ds ih =>
    cases h with
    | cons h1 h2 =>
      cases i with
      | zero => exact ⟨_, _, rfl, rfl, h1⟩
      | succ i => exact ih h2 (Nat.lt_of_succ_lt_succ hi)
theorem sc__law_same : FnScope ["told", "due", "pairs", "one", "two", "k"] ["told", "due"] (defScope (topS 43)) := ⟨rfl, rfl, rfl, by decide +kernel, rfl, by decide +kernel, by decide +kernel⟩
theorem bd__law_same {K : PySem.W.Frag} {f : Addr} {fd : FuncData} (F : FnP K "_law_same" (topS 43) f fd) : Binds K fd ["told", "due"] [] := F.bindsN fun _ _ _ _ _ _ us hl => match us, hl with | [_, _], _ => rfl
def spSm (K : PySem.W.Frag) : Sp := fun vs H Q _ => ∃ x y d, vs = [x, y] ∧ Dp K H x d ∧ Dp K H y d ∧ strD d = true ∧ nD d ≤ 1000000 ∧ ∀ H', Same H H' → Q (.bl true) H'
def SmP (K : PySem.W.Frag) (H : Hp) (m : Nat) (σ : L2.St) (H' : Hp) : Prop := ∃ (l : Addr) (vs : List V) (ds : List PyData) (x y : V) (y3 y4 y5 : Option V), Same H H' ∧ H l = none ∧ H' l = some (.lst vs) ∧ PrL K H' vs ds ∧ nDs ds = m ∧ m ≤ 1000000 ∧ σ = [some x, some y, some (.ref l), y3, y4, y5]
theorem ok__law_same (T : Tx w K mg) : Dk P w K mg base 1 "_law_same" ["told", "due"] (spSm K) := by
  obtain ⟨fd, F⟩ := T.d__law_same
  refine ⟨⟨fd, F.ok sc__law_same (fun vs H Q E h => ?_) (fun cdv A outer s H vs Q E hr h => ?_), bd__law_same F⟩, F.kp, T.g__law_same⟩
  · obtain ⟨x, y, d, rfl, _⟩ := h
    rfl
  · obtain ⟨x, y, d, rfl, hx, hy, hs, hn, q⟩ := h
    refine ⟨_, PSs.nox (pss_cons (ps_set (i := 2) sc__law_same.nd rfl (.inl rfl) (pe_lst (pa_cons (pe_tup (pa_cons (pv 0) (pa_cons (pv 1) pa_nil))) pa_nil)))
      (pss_cons (ps_while PassesOwn.never (pt_truth (pv 2) (by intro _; rfl)) (pss_cons (ps_asg (pe_bm0 PySem.F.plainAttrs_list PySem.F.slot_list_pop PySem.F.type_list_pop mt_popQ (pv 2)) (pg_tup (by rfl) (pgs_cons (pg_name (i := 3) sc__law_same.nd rfl (.inr rfl)) (pgs_cons (pg_name (i := 4) sc__law_same.nd rfl (.inr rfl)) pgs_nil))))
      (pss_one (ps_if (pt_val (pe_callB call_isK (by rfl) T.f_isinstance PyProof.Rows.boot_isinstance (pa_cons (pv 4) (pa_cons (pe_bltn (v := .ty "tuple") (by rfl) T.f_tuple PyProof.Rows.boot_tuple rfl) pa_nil)))) (pss_cons (ps_if (PW.pt (pw_or (pt_not (pt_val (pe_callB call_isK (by rfl) T.f_isinstance PyProof.Rows.boot_isinstance (pa_cons (pv 3) (pa_cons (pe_bltn (v := .ty "tuple") (by rfl) T.f_tuple PyProof.Rows.boot_tuple rfl) pa_nil))))) (pw_or1 (pt_cmpR op_ne (pe_callB call_lenQ (by rfl) T.f_len PySem.boot_len (pa_cons (pv 3) pa_nil)) (pe_callB call_lenQ (by rfl) T.f_len PySem.boot_len (pa_cons (pv 4) pa_nil)) (nomark _))))) (pss_one (ps_ret pe_bl)) pss_nil)
      (pss_one (ps_set (i := 2) sc__law_same.nd rfl (.inl rfl) (pe_op op_cat (pv 2) (pe_lc (own := [("k", 5)]) rfl sc__law_same.nd (pi_range1 (by rfl) T.f_range (pa_cons (pe_callB call_lenQ (by rfl) T.f_len PySem.boot_len (pa_cons (pv 4) pa_nil)) pa_nil)) (blkOk_by (own := [("k", 5)]) (N := ["told", "due", "pairs", "one", "two", "k"]) (sc := defScope (topS 43)) (by decide +kernel)) (fun _ _ _ _ _ => (pg_name (i := 5) sc__law_same.nd rfl (.inl rfl))) (fun _ _ _ _ _ => pts_nil) (fun _ _ _ _ _ => (pe_tup (pa_cons (pe_ix (show IxR _ (rIxTQ K) by exact ix_tupQ) (pv 3) (pv 5) (fun _ _ => rfl)) (pa_cons (pe_ix (show IxR _ (rIxTQ K) by exact ix_tupQ) (pv 4) (pv 5) (fun _ _ => rfl)) pa_nil))))))))) (pss_one (ps_if (pt_cmpR op_isN (pv 4) pe_non (nomark _)) (pss_one (ps_if (pt_cmpR op_notN (pv 3) pe_non (nomark _)) (pss_one (ps_ret pe_bl)) pss_nil)) (pss_one (ps_if (pt_val (pe_callB call_isK (by rfl) T.f_isinstance PyProof.Rows.boot_isinstance (pa_cons (pv 4) (pa_cons (pe_bltn (v := .ty "bool") (by rfl) T.f_bool PyProof.Rows.boot_bool rfl) pa_nil)))) (pss_one (ps_if (PW.pt (pw_or (pt_not (pt_val (pe_callB call_isK (by rfl) T.f_isinstance PyProof.Rows.boot_isinstance (pa_cons (pv 3) (pa_cons (pe_bltn (v := .ty "bool") (by rfl) T.f_bool PyProof.Rows.boot_bool rfl) pa_nil))))) (pw_or1 (pt_cmpR op_ne (pv 3) (pv 4) (nomark _))))) (pss_one (ps_ret pe_bl)) pss_nil)) (pss_one (ps_if (pt_val (pe_callB call_isK (by rfl) T.f_isinstance PyProof.Rows.boot_isinstance (pa_cons (pv 4) (pa_cons (pe_bltn (v := .ty "int") (by rfl) T.f_int PyProof.Rows.boot_int rfl) pa_nil)))) (pss_one (ps_if (PW.pt (pw_or (pt_val (pe_callB call_isK (by rfl) T.f_isinstance PyProof.Rows.boot_isinstance (pa_cons (pv 3) (pa_cons (pe_bltn (v := .ty "bool") (by rfl) T.f_bool PyProof.Rows.boot_bool rfl) pa_nil)))) (pw_or (pt_not (pt_val (pe_callB call_isK (by rfl) T.f_isinstance PyProof.Rows.boot_isinstance (pa_cons (pv 3) (pa_cons (pe_bltn (v := .ty "int") (by rfl) T.f_int PyProof.Rows.boot_int rfl) pa_nil))))) (pw_or1 (pt_cmpR op_ne (pv 3) (pv 4) (nomark _)))))) (pss_one (ps_ret pe_bl)) pss_nil)) (pss_one (ps_if (PW.pt (pw_or (pt_not (pt_val (pe_callB call_isK (by rfl) T.f_isinstance PyProof.Rows.boot_isinstance (pa_cons (pv 3) (pa_cons (pe_bltn (v := .ty "str") (by rfl) T.f_str PyProof.Rows.boot_str rfl) pa_nil))))) (pw_or1 (pt_cmpR op_ne (pv 3) (pv 4) (nomark _))))) (pss_one (ps_ret pe_bl)) pss_nil))))))))))))
      (pss_one (ps_ret pe_bl)))), ?_⟩
    simp only [cxOf, tYes, eq_self, if_true, if_false, wipe, rLenQ, rIxTQ, rIxLQ, rIxSQ, rInt1Q, rTupQ, rAppQ, rPopQ, rPopAtQ, rRevQ, rListS, rReprP, tLenSetT, tChain, tRetN, tRet, tSeq, tAsg, gName, tVar, tC, tCons, tNil, tCB, tOp, rI0, rI, tAndV, tOrV, tNotV, tIf, tTest, tB, tNot, tAnd, tOr, tIfS, tNext, tCallR, rIsK, rEq, rNe, tDrop, L2.start, List.map_cons, List.map_nil, List.length_cons, List.length_nil, Nat.reduceAdd, Nat.reduceSub, Nat.sub_self, List.replicate_zero, List.replicate_succ, List.append_nil, List.cons_append, List.nil_append, List.getElem?_cons_zero, List.getElem?_cons_succ, List.set_cons_zero, List.set_cons_succ, Option.some.injEq, List.cons.injEq, and_true, true_and, exists_eq_left, exists_eq_left', exists_eq_right, V.ty.injEq, V.int.injEq, V.bl.injEq, V.str.injEq, V.ref.injEq, exists_and_left, exists_const, reduceIte, reduceCtorEq, false_and, and_false, exists_false, or_false, false_or, Bool.not_true, Bool.not_false, Bool.false_eq_true, String.reduceEq, true_or, or_true, rNotT, tNNew, tNNotIn, tNGet, sNPut, tLenSetN, tPar, tAug, ipI, tDNotIn, sDPut, tDGet, tTup, tLst, tBM, tBM0, tM0, tM1, tSl, tPart, tNoPart]
    refine ⟨by rw [sizeLine_eq]; decide, fun p hp => ⟨by rw [sizeLine_eq]; decide, fun l hl => ?_⟩⟩
    have s1 : Same H (upd H p (.tup [x, y])) := same_upd hp
    have s2 : Same (upd H p (.tup [x, y])) (upd (upd H p (.tup [x, y])) l (.lst [.ref p])) := same_upd hl
    have hp2 := s2 _ _ (upd_same (a := p) (H := H) (o := .tup [x, y]))
    have hl0 : H l = none := by
      cases e : H l with
      | none => rfl
      | some o => rw [s1 _ _ e] at hl; cases hl
    have k12 : TK H (upd (upd H p (.tup [x, y])) l (.lst [.ref p])) := TK.of_same (s1.trans s2)
    refine ⟨SmP K H, ⟨nDs [d], l, [.ref p], [d], x, y, none, none, none, s1.trans s2, hl0, upd_same, .cons ⟨p, x, y, rfl, hp2, dp_mono k12 _ _ hx (str_noL _ hs), dp_mono k12 _ _ hy (str_noL _ hs), hs⟩ .nil, rfl, by simpa [nDs] using hn, rfl⟩, ?_⟩
    rintro m σ H' ⟨l, vs, ds, x0, y0, y3, y4, y5, s3, hl0, hl3, hpr, rfl, hm, rfl⟩
    refine ⟨_, rfl, !vs.isEmpty, .inl ⟨_, .inl (.inl hl3), rfl⟩, ?_⟩
    rcases hpr.last with rfl | ⟨us, v, es, e, rfl, rfl, hpr2, pq, x1, y1, rfl, hq, hx1, hy1, hs1⟩
    · exact ifF rfl (q _ s3)
    refine ifT (by simp) ?_
    refine ⟨SmP K H (nDs es + (nD e - 1)), fun σ2 H2 h2 => ⟨_, ?_, h2⟩, ?_⟩
    · rw [nDs_app]
      have := nD_pos e
      simp only [nDs]
      omega
    simp only [cxOf, tYes, eq_self, if_true, if_false, wipe, rLenQ, rIxTQ, rIxLQ, rIxSQ, rInt1Q, rTupQ, rAppQ, rPopQ, rPopAtQ, rRevQ, rListS, rReprP, tLenSetT, tChain, tRetN, tRet, tSeq, tAsg, gName, tVar, tC, tCons, tNil, tCB, tOp, rI0, rI, tAndV, tOrV, tNotV, tIf, tTest, tB, tNot, tAnd, tOr, tIfS, tNext, tCallR, rIsK, rEq, rNe, tDrop, L2.start, List.map_cons, List.map_nil, List.length_cons, List.length_nil, Nat.reduceAdd, Nat.reduceSub, Nat.sub_self, List.replicate_zero, List.replicate_succ, List.append_nil, List.cons_append, List.nil_append, List.getElem?_cons_zero, List.getElem?_cons_succ, List.set_cons_zero, List.set_cons_succ, Option.some.injEq, List.cons.injEq, and_true, true_and, exists_eq_left, exists_eq_left', exists_eq_right, V.ty.injEq, V.int.injEq, V.bl.injEq, V.str.injEq, V.ref.injEq, exists_and_left, exists_const, reduceIte, reduceCtorEq, false_and, and_false, exists_false, or_false, false_or, Bool.not_true, Bool.not_false, Bool.false_eq_true, String.reduceEq, true_or, or_true, rNotT, tNNew, tNNotIn, tNGet, sNPut, tLenSetN, tPar, tAug, ipI, tDNotIn, sDPut, tDGet, tTup, tLst, tBM, tBM0, tM0, tM1, tSl, tPart, tNoPart]
    refine ⟨lst_ty hl3, us, .ref pq, hl3, ?_⟩
    have hl4 : (upd H' l (.lst us)) l = some (.lst us) := upd_same
    have b4 : But l H' (upd H' l (.lst us)) := But.upd
    have k4 : TK H' (upd H' l (.lst us)) := TK.of_but b4 hl3
    have s4 : Same H (upd H' l (.lst us)) := fun b o hb => b4 b o (ne_of_none hb hl0) (s3 b o hb)
    generalize upd H' l (.lst us) = H3 at hl4 b4 k4 s4
    have hpr3 := hpr2.mono k4
    have hx3 := dp_mono k4 _ _ hx1 (str_noL _ hs1)
    have hy3 := dp_mono k4 _ _ hy1 (str_noL _ hs1)
    refine ⟨pq, [x1, y1], rfl, .inl (.inl (k4.1 _ _ hq)), rfl, ?_⟩
    have e6 : nDs (es ++ [e]) = nDs es + nD e := by rw [nDs_app]; simp [nDs]
    rw [e6] at hm
    simp only [gCons, gNil, cxOf, tYes, eq_self, if_true, if_false, wipe, rLenQ, rIxTQ, rIxLQ, rIxSQ, rInt1Q, rTupQ, rAppQ, rPopQ, rPopAtQ, rRevQ, rListS, rReprP, tLenSetT, tChain, tRetN, tRet, tSeq, tAsg, gName, tVar, tC, tCons, tNil, tCB, tOp, rI0, rI, tAndV, tOrV, tNotV, tIf, tTest, tB, tNot, tAnd, tOr, tIfS, tNext, tCallR, rIsK, rEq, rNe, tDrop, L2.start, List.map_cons, List.map_nil, List.length_cons, List.length_nil, Nat.reduceAdd, Nat.reduceSub, Nat.sub_self, List.replicate_zero, List.replicate_succ, List.append_nil, List.cons_append, List.nil_append, List.getElem?_cons_zero, List.getElem?_cons_succ, List.set_cons_zero, List.set_cons_succ, Option.some.injEq, List.cons.injEq, and_true, true_and, exists_eq_left, exists_eq_left', exists_eq_right, V.ty.injEq, V.int.injEq, V.bl.injEq, V.str.injEq, V.ref.injEq, exists_and_left, exists_const, reduceIte, reduceCtorEq, false_and, and_false, exists_false, or_false, false_or, Bool.not_true, Bool.not_false, Bool.false_eq_true, String.reduceEq, true_or, or_true]
    refine ⟨x1, [y1], ⟨rfl, rfl⟩, y1, [], rfl, rfl, ?_⟩
    cases e with
    | str zz =>
      cases hx3
      cases hy3
      refine ⟨.str _, ifF (c := isaB "tuple" (.str zz)) rfl (ifF (c := decide (V.str zz = V.non)) (decide_eq_false (by intro e; cases e)) ?_)⟩
      refine ⟨.str _, ifF (c := isaB "bool" (.str zz)) rfl ⟨.str _, ifF (c := isaB "int" (.str zz)) rfl ⟨.str _, ifF (c := !isaB "str" (.str zz)) rfl ⟨rfl, ifF (by rw [decide_eq_true rfl]; rfl) ?_⟩⟩⟩⟩
      have en : nD (PyData.str zz) = 1 := by simp [nD]
      rw [en] at hm ⊢
      exact ⟨l, us, es, x0, y0, _, _, _, s4, hl0, hl4, hpr3, rfl, by omega, rfl⟩
    | int ii =>
      cases hx3
      cases hy3
      refine ⟨.int _, ifF (c := isaB "tuple" (.int ii)) rfl (ifF (c := decide (V.int ii = V.non)) (decide_eq_false (by intro e; cases e)) ?_)⟩
      refine ⟨.int _, ifF (c := isaB "bool" (.int ii)) rfl ⟨.int _, ifT (c := isaB "int" (.int ii)) rfl ⟨.int _, ifF (c := isaB "bool" (.int ii)) rfl ⟨.int _, ifF (c := !isaB "int" (.int ii)) rfl ⟨rfl, ifF (by rw [decide_eq_true rfl]; rfl) ?_⟩⟩⟩⟩⟩
      have en : nD (PyData.int ii) = 1 := by simp [nD]
      rw [en] at hm ⊢
      exact ⟨l, us, es, x0, y0, _, _, _, s4, hl0, hl4, hpr3, rfl, by omega, rfl⟩
    | tuple ks =>
      cases hx3 with
      | tup ha1 hd1 =>
      cases hy3 with
      | tup ha2 hd2 =>
      rename_i a1 xs1 a2 xs2
      have n1 := dpAll_len hd1
      have n2 := dpAll_len hd2
      refine ⟨.tup ha2, ifT (c := isaB "tuple" (.ref a2)) rfl ⟨.tup ha1, ifF (c := !isaB "tuple" (.ref a1)) rfl ⟨_, .inr ha1, _, .inr ha2, rfl, ifF (by rw [n1, n2, decide_eq_true rfl]; rfl) ?_⟩⟩⟩
      have hks : strDs ks = true := by simpa [strD] using hs1
      have hkn := nDs_len ks
      simp only [nD] at hm
      refine ⟨_, rfl, _, .inr ha2, _, rfl, by omega, by omega, fun D hD => ?_⟩
      rw [Int.toNat_natCast, n2]
      have nD0 : l ≠ D := ne_of_none hl4 hD
      have hDH : H D = none := by
        cases e : H D with
        | none => rfl
        | some o => rw [s4 _ _ e] at hD; cases hD
      refine lc_gen (J := Itr 0 ks.length) (n := ks.length) (fun i H5 => Same H3 H5 ∧ ∃ acc, H5 D = some (.lst acc) ∧ PrL K H5 acc (ks.take i)) ⟨same_upd hD, [], upd_same, .nil⟩ (fun i H' hi _ => hi) (fun _ _ => Nat.le_refl _) ?_ ?_
      · rintro i x H5 H6 hi ⟨s5, acc, hD5, hpr5⟩ ⟨rfl, rfl⟩
        obtain ⟨v1, d1, f1, f2, f3⟩ := dpAll_at hd1 hi
        obtain ⟨v2, d2, g1, g2, g3⟩ := dpAll_at hd2 hi
        rw [f2] at g2
        cases g2
        have hs3 := strDs_at hks f2
        simp only [cxOf, tYes, eq_self, if_true, if_false, wipe, rLenQ, rIxTQ, rIxLQ, rIxSQ, rInt1Q, rTupQ, rAppQ, rPopQ, rPopAtQ, rRevQ, rListS, rReprP, tLenSetT, tChain, tRetN, tRet, tSeq, tAsg, gName, tVar, tC, tCons, tNil, tCB, tOp, rI0, rI, tAndV, tOrV, tNotV, tIf, tTest, tB, tNot, tAnd, tOr, tIfS, tNext, tCallR, rIsK, rEq, rNe, tDrop, L2.start, List.map_cons, List.map_nil, List.length_cons, List.length_nil, Nat.reduceAdd, Nat.reduceSub, Nat.sub_self, List.replicate_zero, List.replicate_succ, List.append_nil, List.cons_append, List.nil_append, List.getElem?_cons_zero, List.getElem?_cons_succ, List.set_cons_zero, List.set_cons_succ, Option.some.injEq, List.cons.injEq, and_true, true_and, exists_eq_left, exists_eq_left', exists_eq_right, V.ty.injEq, V.int.injEq, V.bl.injEq, V.str.injEq, V.ref.injEq, exists_and_left, exists_const, reduceIte, reduceCtorEq, false_and, and_false, exists_false, or_false, false_or, Bool.not_true, Bool.not_false, Bool.false_eq_true, String.reduceEq, true_or, or_true, rNotT, tNNew, tNNotIn, tNGet, sNPut, tLenSetN, tPar, tAug, ipI, tDNotIn, sDPut, tDGet, tTup, tLst, tBM, tBM0, tM0, tM1, tSl, tPart, tNoPart]
        have z0 : (0 : Int) + (i : Int) = (i : Int) := Int.zero_add _
        rw [z0]
        refine ⟨_, Same.sqT s5 ha1, v1, atI_nat f1, _, Same.sqT s5 ha2, v2, atI_nat g1, by rw [sizeLine_eq]; decide, fun p6 hp6 => ?_⟩
        have np6 : D ≠ p6 := ne_of_none hD5 hp6
        have l2 := hpr5.len
        have s6 : Same H6 (upd H6 p6 (.tup [v1, v2])) := same_upd hp6
        have hD6 := s6 _ _ hD5
        have b7 : But D (upd H6 p6 (.tup [v1, v2])) (upd (upd H6 p6 (.tup [v1, v2])) D (.lst (acc ++ [.ref p6]))) := But.upd
        have k7 := (TK.of_same s6).trans (TK.of_but b7 hD6)
        have k37 := (TK.of_same s5).trans k7
        rw [List.length_take] at l2
        refine ⟨acc, hD6, by rw [sizeLine_eq]; omega, fun b o e => ?_, _, upd_same, ?_⟩
        · exact b7 b o (ne_of_none e hD) (s6 b o (s5 b o e))
        · rw [List.take_add_one, f2]
          exact (hpr5.mono k7).app (.cons ⟨p6, v1, v2, rfl, b7 _ _ (Ne.symm np6) upd_same, dp_mono k37 _ _ f3 (str_noL _ hs3), dp_mono k37 _ _ g3 (str_noL _ hs3), hs3⟩ .nil)
      · rintro H5 ⟨s5, acc, hD5, hpr5⟩
        rw [List.take_length] at hpr5
        have l1 := hpr3.len
        have l2 := hpr5.len
        have l3 := nDs_len es
        have k5 := TK.of_same s5
        refine ⟨l, D, us, acc, rfl, rfl, s5 _ _ hl4, hD5, by rw [sizeLine_eq]; omega, fun p6 hp6 => ?_⟩
        have s6 : Same H5 (upd H5 p6 (.lst (us ++ acc))) := same_upd hp6
        have hp60 : H p6 = none := by
          cases e : H p6 with
          | none => rfl
          | some o => rw [s5 _ _ (s4 _ _ e)] at hp6; cases hp6
        exact ⟨p6, us ++ acc, es ++ ks, x0, y0, _, _, _, (s4.trans s5).trans s6, hp60, upd_same, (hpr3.mono (k5.trans (TK.of_same s6))).app (hpr5.mono (TK.of_same s6)), by rw [nDs_app]; simp only [nD]; omega, by simp only [nD]; omega, rfl⟩
    | _ => simp [strD] at hs1
end
end K02

namespace K02
open PySem PySem.Spec PyProof.Rows L2 Sg
/-! the law's pages, as laid; what the machine makes of them -/
abbrev Tk0 := Str × Wo
def nrc (p : List Nat) : Prop := ∀ c r, p = c :: r → rcB c = false
theorem nrc_cons {c : Nat} {p : List Nat} (h : rcB c = false) : nrc (c :: p) := fun c2 r e => by cases e; exact h
theorem nrc_nil : nrc [] := fun c r e => by cases e
theorem nrc_gap {g p : List Nat} (h : Blank g) (hp : nrc p) : nrc (g ++ p) := by
  cases h with
  | nil => exact hp
  | sp => exact nrc_cons rfl
  | nl => exact nrc_cons rfl
  | rem => exact nrc_cons rfl
theorem blank_ne {g p : List Nat} (h : Blank g) (hg : g ≠ []) : nrc (g ++ p) := by
  cases h with
  | nil => exact absurd rfl hg
  | sp => exact nrc_cons rfl
  | nl => exact nrc_cons rfl
  | rem => exact nrc_cons rfl
theorem Blank.app {g g2 : List Nat} (h : Blank g) (h2 : Blank g2) : Blank (g ++ g2) := by
  induction h with
  | nil => exact h2
  | sp _ ih => exact .sp ih
  | nl _ ih => exact .nl ih
  | rem u hu _ ih =>
    have := Blank.rem u hu ih
    simpa using this
def tkW (w : String) : Tk0 := (eqS (Str.ofString w), .s (Str.ofString w))
def tkM (c : Nat) : Tk0 := (Str.ofString "=" ++ sgn c, .s (sgn c))
def tkQ (u : Str) : Tk0 := (Str.ofString "quoted", .s u)
def tkE : Tk0 := (endS, .s (Str.ofString ""))
def tkB : Tk0 := (Str.ofString "no token", .s (Str.ofString "\""))
def tkF : Tk0 := (Str.ofString "name", .s (Str.ofString "f"))
section
variable {q : Nat} {ts : List Tk0} {g p : List Nat}
theorem lay_word {w : Str} {k : Str} {v : Wo} (hg : Blank g) (hw : RowT w k v) (hp : nrc p) (l : Laid q ts p) : Laid q ((k, v) :: ts) (g ++ (w.cps.toList ++ p)) :=
  .cons hg (.row hw) l fun _ _ _ c2 r e => hp c2 r e
theorem row_res {w : String} (h : Str.ofString w ∈ resL) : RowT (Str.ofString w) (eqS (Str.ofString w)) (.s (Str.ofString w)) := (Rw.res h).rowT (by
  have := res_word _ h
  simp only [Bool.and_eq_true, decide_eq_true_eq] at this
  exact ⟨this.1, this.2.1, this.2.2.1⟩)
theorem lay_res {w : String} (h : Str.ofString w ∈ resL) (hg : Blank g) (hp : nrc p) (l : Laid q ts p) : Laid q (tkW w :: ts) (g ++ ((Str.ofString w).cps.toList ++ p)) := lay_word hg (row_res h) hp l
theorem lay_f (hg : Blank g) (hp : nrc p) (l : Laid q ts p) : Laid q (tkF :: ts) (g ++ 102 :: p) := lay_word (w := Str.ofString "f") hg ((Rw.name (z := Str.ofString "f") (by decide +kernel) (by decide)).rowT ⟨by decide, by decide, by decide⟩) hp l
theorem lay_quo {u : Str} (hg : Blank g) (hu : QtS u) (l : Laid q ts p) : Laid q (tkQ u :: ts) (g ++ 34 :: (u.cps.toList ++ 34 :: p)) := by
  have e : (⟨u.cps.toList.toArray⟩ : Str) = u := by
    obtain ⟨⟨x⟩⟩ := u
    rfl
  have := Laid.cons (q := q) hg (Wr.quo u.cps.toList hu) l fun c hc hr => by
    have hc : (34 :: (u.cps.toList ++ [34])).getLast? = some c := hc
    rw [show 34 :: (u.cps.toList ++ [34]) = (34 :: u.cps.toList) ++ [34] from rfl, List.getLast?_append, List.getLast?_singleton] at hc
    have hc : (34 : Nat) = c := Option.some.inj hc
    rw [← hc] at hr
    exact absurd hr (by decide)
  rw [e] at this
  unfold tkQ
  simpa using this
theorem lay_mark {c : Nat} (h : c ∈ marks) (hg : Blank g) (l : Laid q ts p) : Laid q (tkM c :: ts) (g ++ c :: p) :=
  .cons hg (.mark c h) l fun c2 hc hr => by
    have hc : c = c2 := Option.some.inj hc
    rw [← hc, (mark_ok c h).2.2.2.2] at hr
    cases hr
end
/-- put one > ahead two -/
def bodyL (g0 g1 g2 g3 one two p : List Nat) : List Nat :=
  g0 ++ ((Str.ofString "put").cps.toList ++ (g1 ++ 34 :: (one ++ 34 :: (g2 ++ 62 :: (g3 ++ ((Str.ofString "ahead").cps.toList ++ ([] ++ 34 :: (two ++ 34 :: p))))))))
def bodyT (one two : Str) (ts : List Tk0) : List Tk0 := tkW "put" :: tkQ one :: tkM 62 :: tkW "ahead" :: tkQ two :: ts
theorem lay_body {q : Nat} {ts : List Tk0} {g0 g1 g2 g3 p : List Nat} {one two : Str} (h0 : Blank g0) (h1 : Blank g1) (h2 : Blank g2) (h3 : Blank g3) (q1 : QtS one) (q2 : QtS two) (l : Laid q ts p) :
    Laid q (bodyT one two ts) (bodyL g0 g1 g2 g3 one.cps.toList two.cps.toList p) :=
  lay_res (by decide +kernel) h0 (nrc_gap h1 (nrc_cons rfl)) (lay_quo h1 q1 (lay_mark (by decide) h2 (lay_res (by decide +kernel) h3 (nrc_gap .nil (nrc_cons rfl)) (lay_quo .nil q2 l))))
/-- turn{two:one,one:""} -/
def turnL (g5 g6 g7 g8 g9 g1 one two : List Nat) : List Nat :=
  g5 ++ ((Str.ofString "turn").cps.toList ++ ([] ++ 123 :: (g6 ++ 34 :: (two ++ 34 :: ([] ++ 58 :: (g7 ++ 34 :: (one ++ 34 :: (g8 ++ 44 :: ([] ++ 34 :: (one ++ 34 :: (g9 ++ 58 :: ([] ++ 34 :: ([] ++ 34 :: ([] ++ 125 :: g1))))))))))))))
def turnT (one two : Str) : List Tk0 := [tkW "turn", tkM 123, tkQ two, tkM 58, tkQ one, tkM 44, tkQ one, tkM 58, tkQ (Str.ofString ""), tkM 125, tkE]
theorem lay_turn {g5 g6 g7 g8 g9 g1 : List Nat} {one two : Str} (h5 : Blank g5) (h6 : Blank g6) (h7 : Blank g7) (h8 : Blank g8) (h9 : Blank g9) (h1 : Blank g1) (q1 : QtS one) (q2 : QtS two) :
    Laid 0 (turnT one two) (turnL g5 g6 g7 g8 g9 g1 one.cps.toList two.cps.toList) :=
  lay_res (by decide +kernel) h5 (nrc_gap .nil (nrc_cons rfl)) (lay_mark (by decide) .nil (lay_quo h6 q2 (lay_mark (by decide) .nil (lay_quo h7 q1 (lay_mark (by decide) h8 (lay_quo .nil q1 (lay_mark (by decide) h9 (lay_quo (u := Str.ofString "") .nil (by unfold QtS; decide) (lay_mark (by decide) .nil (.fin rfl h1))))))))))
/-- signs "one";fun f= ..; -/
def wholeL (g4 g5 g6 one p : List Nat) : List Nat :=
  [] ++ ((Str.ofString "signs").cps.toList ++ (g4 ++ 34 :: (one ++ 34 :: (g5 ++ 59 :: ([] ++ ((Str.ofString "fun").cps.toList ++ ((g6 ++ [32]) ++ 102 :: ([] ++ 61 :: p))))))))
def wholeT (one : Str) (ts : List Tk0) : List Tk0 := tkW "signs" :: tkQ one :: tkM 59 :: tkW "fun" :: tkF :: tkM 61 :: ts
theorem lay_whole {q : Nat} {ts : List Tk0} {g4 g5 g6 p : List Nat} {one : Str} (h4 : Blank g4) (h5 : Blank g5) (h6 : Blank g6) (q1 : QtS one) (l : Laid q ts p) : Laid q (wholeT one ts) (wholeL g4 g5 g6 one.cps.toList p) :=
  lay_res (by decide +kernel) .nil (nrc_gap h4 (nrc_cons rfl)) (lay_quo h4 q1 (lay_mark (by decide) h5 (lay_res (by decide +kernel) .nil (blank_ne (h6.app (.sp .nil)) (by simp)) (lay_f (h6.app (.sp .nil)) (nrc_gap .nil (nrc_cons rfl)) (lay_mark (by decide) .nil l)))))
/-- put and what is open -/
def putBL (g0 g1 u r : List Nat) : List Nat := g0 ++ ((Str.ofString "put").cps.toList ++ (g1 ++ 34 :: (u ++ r)))
theorem lay_putB {g0 g1 r : List Nat} {u : Str} (h0 : Blank g0) (h1 : Blank g1) (hu : QtS u) (hr : Open r) : Laid (1 + (u.cps.toList.length + r.length)) [tkW "put", tkB] (putBL g0 g1 u.cps.toList r) :=
  lay_res (by decide +kernel) h0 (nrc_gap h1 (nrc_cons rfl)) (.bad _ r rfl h1 hu hr)
/-- signs "ab";fun f =put .. open -/
def progBL (g2 g3 u : List Nat) : List Nat :=
  [] ++ ((Str.ofString "signs").cps.toList ++ ([32] ++ 34 :: ((Str.ofString "ab").cps.toList ++ 34 :: ([] ++ 59 :: (g2 ++ ((Str.ofString "fun").cps.toList ++ ([32] ++ 102 :: ([32] ++ 61 :: putBL g3 [32] u []))))))))
theorem lay_progB {g2 g3 : List Nat} {u : Str} (h2 : Blank g2) (h3 : Blank g3) (hu : QtS u) : Laid (1 + (u.cps.toList.length + 0)) (wholeT (Str.ofString "ab") [tkW "put", tkB]) (progBL g2 g3 u.cps.toList) :=
  lay_res (by decide +kernel) .nil (nrc_cons rfl) (lay_quo (u := Str.ofString "ab") (.sp .nil) (by unfold QtS; decide) (lay_mark (by decide) .nil (lay_res (by decide +kernel) h2 (nrc_cons rfl) (lay_f (.sp .nil) (nrc_cons rfl) (lay_mark (by decide) (.sp .nil) (lay_putB h3 (.sp .nil) hu (.inl rfl)))))))
/-- .. > behind .. open -/
def againL (g4 g7 u r : List Nat) : List Nat := g4 ++ 62 :: (g7 ++ ((Str.ofString "behind").cps.toList ++ ([32] ++ 34 :: (u ++ r))))
theorem lay_again {g4 g7 r : List Nat} {u : Str} (h4 : Blank g4) (h7 : Blank g7) (hu : QtS u) (hr : Open r) : Laid (1 + (u.cps.toList.length + r.length)) [tkM 62, tkW "behind", tkB] (againL g4 g7 u.cps.toList r) :=
  lay_mark (by decide) h4 (lay_res (by decide +kernel) h7 (nrc_cons rfl) (.bad _ r rfl (.sp .nil) hu hr))
/-! runs -/
theorem map_cons {k : Str} {w : Wo} {r : List Tk0} {tp : List (Str × Wp)} (h : (k, w) :: r = tp.map toW) : ∃ l c tp', tp = (k, ⟨w, l, c⟩) :: tp' ∧ r = tp'.map toW := by
  cases tp with
  | nil => cases h
  | cons t tp =>
    obtain ⟨k2, w2, l, c⟩ := t
    cases h
    exact ⟨l, c, tp, rfl, rfl⟩
theorem map_nil {tp : List (Str × Wp)} (h : ([] : List Tk0) = tp.map toW) : tp = [] := by
  cases tp with
  | nil => rfl
  | cons => cases h
def thenD (one two : Str) : PyData := .tuple [sy "then", .tuple [sy "put", .str one], .tuple [sy "ahead", .str two]]
theorem run_body {one two : Str} {tp : List (Str × Wp)} (h : bodyT one two [tkE] = tp.map toW) : Run 100 [sy "<work>", .str endS] tp [] (.told (thenD one two)) := by
  obtain ⟨_, _, t1, rfl, h1⟩ := map_cons h
  obtain ⟨_, _, t2, rfl, h2⟩ := map_cons h1
  obtain ⟨_, _, t3, rfl, h3⟩ := map_cons h2
  obtain ⟨_, _, t4, rfl, h4⟩ := map_cons h3
  obtain ⟨_, _, t5, rfl, h5⟩ := map_cons h4
  obtain ⟨_, _, t6, rfl, h6⟩ := map_cons h5
  cases map_nil h6
  exact runF_ok (by kernel_rfl)
def turnD (one two : Str) : PyData := .tuple [sy "turn", .tuple [.tuple [.str two, .str one], .tuple [.str one, sy ""]]]
theorem run_turn {one two : Str} {tp : List (Str × Wp)} (h : turnT one two = tp.map toW) : Run 100 [sy "<work>", .str endS] tp [] (.told (turnD one two)) := by
  obtain ⟨_, _, t1, rfl, h1⟩ := map_cons h
  obtain ⟨_, _, t2, rfl, h2⟩ := map_cons h1
  obtain ⟨_, _, t3, rfl, h3⟩ := map_cons h2
  obtain ⟨_, _, t4, rfl, h4⟩ := map_cons h3
  obtain ⟨_, _, t5, rfl, h5⟩ := map_cons h4
  obtain ⟨_, _, t6, rfl, h6⟩ := map_cons h5
  obtain ⟨_, _, t7, rfl, h7⟩ := map_cons h6
  obtain ⟨_, _, t8, rfl, h8⟩ := map_cons h7
  obtain ⟨_, _, t9, rfl, h9⟩ := map_cons h8
  obtain ⟨_, _, t10, rfl, h10⟩ := map_cons h9
  obtain ⟨_, _, t11, rfl, h11⟩ := map_cons h10
  cases map_nil h11
  exact runF_ok (by kernel_rfl)
def wholeD (one two : Str) : PyData := .tuple [.str one, .tuple [.tuple [sy "fun", sy "f", thenD one two]]]
theorem run_whole {one two : Str} {tp : List (Str × Wp)} (h : wholeT one (bodyT one two [tkM 59, tkE]) = tp.map toW) : Run 100 [sy "<program>", .str endS] tp [] (.told (wholeD one two)) := by
  obtain ⟨_, _, t1, rfl, h1⟩ := map_cons h
  obtain ⟨_, _, t2, rfl, h2⟩ := map_cons h1
  obtain ⟨_, _, t3, rfl, h3⟩ := map_cons h2
  obtain ⟨_, _, t4, rfl, h4⟩ := map_cons h3
  obtain ⟨_, _, t5, rfl, h5⟩ := map_cons h4
  obtain ⟨_, _, t6, rfl, h6⟩ := map_cons h5
  obtain ⟨_, _, t7, rfl, h7⟩ := map_cons h6
  obtain ⟨_, _, t8, rfl, h8⟩ := map_cons h7
  obtain ⟨_, _, t9, rfl, h9⟩ := map_cons h8
  obtain ⟨_, _, t10, rfl, h10⟩ := map_cons h9
  obtain ⟨_, _, t11, rfl, h11⟩ := map_cons h10
  obtain ⟨_, _, t12, rfl, h12⟩ := map_cons h11
  obtain ⟨_, _, t13, rfl, h13⟩ := map_cons h12
  cases map_nil h13
  exact runF_ok (by kernel_rfl)
theorem run_put {tp : List (Str × Wp)} (h : [tkW "put", tkB] = tp.map toW) {t : Str × Wp} (e : tp.getLast? = some t) : t.1 = Str.ofString "no token" ∧ Run 100 [sy "<work>", .str endS] tp [] (.bad t.2.l t.2.c) := by
  obtain ⟨_, _, t1, rfl, h1⟩ := map_cons h
  obtain ⟨_, _, t2, rfl, h2⟩ := map_cons h1
  cases map_nil h2
  cases e
  exact ⟨rfl, runF_ok (by kernel_rfl)⟩
theorem run_progB {tp : List (Str × Wp)} (h : wholeT (Str.ofString "ab") [tkW "put", tkB] = tp.map toW) {t : Str × Wp} (e : tp.getLast? = some t) : t.1 = Str.ofString "no token" ∧ Run 100 [sy "<program>", .str endS] tp [] (.bad t.2.l t.2.c) := by
  obtain ⟨_, _, t1, rfl, h1⟩ := map_cons h
  obtain ⟨_, _, t2, rfl, h2⟩ := map_cons h1
  obtain ⟨_, _, t3, rfl, h3⟩ := map_cons h2
  obtain ⟨_, _, t4, rfl, h4⟩ := map_cons h3
  obtain ⟨_, _, t5, rfl, h5⟩ := map_cons h4
  obtain ⟨_, _, t6, rfl, h6⟩ := map_cons h5
  obtain ⟨_, _, t7, rfl, h7⟩ := map_cons h6
  obtain ⟨_, _, t8, rfl, h8⟩ := map_cons h7
  cases map_nil h8
  cases e
  exact ⟨rfl, runF_ok (by kernel_rfl)⟩
theorem run_again {one two : Str} {tp : List (Str × Wp)} (h : bodyT one two [tkM 62, tkW "behind", tkB] = tp.map toW) {t : Str × Wp} (e : tp.getLast? = some t) : t.1 = Str.ofString "no token" ∧ Run 100 [sy "<work>", .str endS] tp [] (.bad t.2.l t.2.c) := by
  obtain ⟨_, _, t1, rfl, h1⟩ := map_cons h
  obtain ⟨_, _, t2, rfl, h2⟩ := map_cons h1
  obtain ⟨_, _, t3, rfl, h3⟩ := map_cons h2
  obtain ⟨_, _, t4, rfl, h4⟩ := map_cons h3
  obtain ⟨_, _, t5, rfl, h5⟩ := map_cons h4
  obtain ⟨_, _, t6, rfl, h6⟩ := map_cons h5
  obtain ⟨_, _, t7, rfl, h7⟩ := map_cons h6
  obtain ⟨_, _, t8, rfl, h8⟩ := map_cons h7
  cases map_nil h8
  cases e
  exact ⟨rfl, runF_ok (by kernel_rfl)⟩
end K02

namespace K02
open PySem PySem.Spec PyProof.Rows L2 Sg
theorem bad_place {zz broken : Str} {q : Nat} {ts : List Tk0} {rest : List Nat} {rule : Str} (h : Laid q ts zz.cps.toList) (hs : zz.cps.toList = broken.cps.toList ++ rest) (hq : q = rest.length) (hne : ts ≠ [])
    (run : ∀ {tp : List (Str × Wp)}, ts = tp.map toW → ∀ {t : Str × Wp}, tp.getLast? = some t → t.1 = Str.ofString "no token" ∧ Run 100 [.str rule, .str endS] tp [] (.bad t.2.l t.2.c)) :
    ∃ tp, Toks zz tp ∧ Run 100 [.str rule, .str endS] tp [] (.bad ((1 + rowL broken.cps.toList : Nat) : Int) ((1 + colL broken.cps.toList : Nat) : Int)) := by
  obtain ⟨tp, e, tk, hla⟩ := toks_laid h
  have htp : tp ≠ [] := fun e2 => hne (by rw [e, e2]; rfl)
  have hl := List.getLast?_eq_some_getLast htp
  obtain ⟨h1, h2⟩ := run e hl
  obtain ⟨p1, p2⟩ := hla _ hl
  have hz : zz.cps.toList.length = zz.length := Array.length_toList
  have e3 : zz.cps.toList.take (zz.length - q) = broken.cps.toList := by
    rw [← hz, hq, hs, List.length_append, Nat.add_sub_cancel, List.take_left]
  rw [e3] at p1 p2
  rw [p1, p2 h1] at h2
  exact ⟨tp, tk, h2⟩
theorem rowL_le (xs : List Nat) : rowL xs ≤ xs.length := List.length_filter_le _ _
theorem colL_le (xs : List Nat) : colL xs ≤ xs.length := by
  unfold colL
  refine Nat.le_trans (List.takeWhile_sublist _).length_le ?_
  rw [List.length_reverse]
  exact Nat.le_refl _
theorem place_small {z : Str} (h : z.length ≤ 2000) : smallI ((1 + rowL z.cps.toList : Nat) : Int) ∧ smallI ((1 + colL z.cps.toList : Nat) : Int) := by
  have hz : z.cps.toList.length = z.length := Array.length_toList
  have h1 := rowL_le z.cps.toList
  have h2 := colL_le z.cps.toList
  exact ⟨⟨by omega, by omega⟩, ⟨by omega, by omega⟩⟩
section
variable {K : PySem.W.Frag}
theorem al {H : Hp} {p : Addr} {xs : List V} {ds : List PyData} (hp : H p = none) (hx : DpAll K H xs ds) (hn : noLs ds = true) : Same H (upd H p (.tup xs)) ∧ Dp K (upd H p (.tup xs)) (.ref p) (.tuple ds) := by
  have s1 := same_upd (o := .tup xs) hp
  exact ⟨s1, .tup (.inl (.inl upd_same)) (dpAll_mono (TK.of_same s1) _ _ hx hn)⟩
end
theorem q_len {u x : Str} (h : x.cps.toList = 34 :: (u.cps.toList ++ [34])) : x.length = u.length + 2 := by
  have := congrArg List.length h
  rw [List.length_cons, List.length_append] at this
  have e1 : x.cps.toList.length = x.length := Array.length_toList
  have e2 : u.cps.toList.length = u.length := Array.length_toList
  rw [e1, e2] at this
  exact this
end K02

namespace K02
open PySem PySem.Spec PyProof.Rows L2 Sg
section
variable {P : Program} {w : World} {K : PySem.W.Frag} {mg : Str → Option Value} {base : Heap}
theorem Bag.upd2 {H : Hp} {b g l : Addr} {B : Nat} {o : HO} (h : Bag H b g B) (h1 : b ≠ l) (h2 : g ≠ l) : Bag (L2.upd H l o) b g B := by
  obtain ⟨n, js, sd, c, e1, e2, e3⟩ := h
  exact ⟨n, js, sd, c, (upd_ne h1).trans e1, (upd_ne h2).trans e2, e3⟩
theorem sc_law : FnScope ["script", "bag", "one", "two", "gaps", "page", "turn_page", "whole", "broken", "due", "again", "k"] ["script"] (defScope (topS 49)) := ⟨rfl, rfl, rfl, by decide +kernel, rfl, by decide +kernel, by decide +kernel⟩
theorem bd_law {K : PySem.W.Frag} {f : Addr} {fd : FuncData} (F : FnP K "law" (topS 49) f fd) : Binds K fd ["script"] [] := F.bindsN fun _ _ _ _ _ _ us hl => match us, hl with | [_], _ => rfl
def spLaw (K : PySem.W.Frag) : Sp := fun vs H Q _ => ∃ (a : Addr) (ns : List Int), vs = [.ref a] ∧ SqL K H a (ns.map V.int) ∧ ∀ H', Q (.bl true) H'
theorem fn_law [PF P] (T : Tx w K mg) {fd : FuncData} (F : FnP K "law" (topS 49) (He.ga K "law") fd) : FnOk P w K mg base L2.CX0 12 (He.ga K "law") fd ["script"] (spLaw K) := by
  have D__law_bag := ok__law_bag (P := P) (w := w) (base := base) T
  have D__law_printable := ok__law_printable (P := P) (w := w) (base := base) T
  have D__law_remark := ok__law_remark (P := P) (w := w) (base := base) T
  have D__law_quoted := ok__law_quoted (P := P) (w := w) (base := base) T
  have D__law_place := ok__law_place (P := P) (w := w) (base := base) T
  have D__law_refused := ok__law_refused (P := P) (w := w) (base := base) T
  have D__law_same := ok__law_same (P := P) (w := w) (base := base) T
  have D_read := ok_read (P := P) (w := w) (base := base) T
  have D_read_work := ok_read_work (P := P) (w := w) (base := base) T
  refine F.ok sc_law (fun vs H Q E h => ?_) (fun cdv A outer s H vs Q E hr h => ?_)
  · obtain ⟨a, ns, rfl, _⟩ := h
    rfl
  · obtain ⟨a, ns, rfl, ha, q⟩ := h
    refine ⟨_, PSs.nox (pss_cons (ps_set (i := 1) sc_law.nd rfl (.inr rfl) (pe_callR D__law_bag (hr.mono (by decide)) takes0 (pa_cons (pv 0) pa_nil)))
      (pss_cons (ps_set (i := 2) sc_law.nd rfl (.inl rfl) (pe_callR D__law_printable (hr.mono (by decide)) takes0 (pa_cons (pv 1) (pa_cons pe_int pa_nil))))
      (pss_cons (ps_set (i := 3) sc_law.nd rfl (.inl rfl) (pe_callR D__law_printable (hr.mono (by decide)) takes0 (pa_cons (pv 1) (pa_cons pe_int pa_nil))))
      (pss_cons (ps_setLc (i := 4) (own := [("k", 11)]) rfl sc_law.nd rfl rfl (sw_true rfl rfl rfl (by decide +kernel)) (pi_range1 (by rfl) T.f_range (pa_cons pe_int pa_nil)) (blkOk_by (own := [("k", 11)]) (N := ["script", "bag", "one", "two", "gaps", "page", "turn_page", "whole", "broken", "due", "again", "k"]) (sc := defScope (topS 49)) (by decide +kernel)) (fun _ _ _ _ _ => (pg_name (i := 11) sc_law.nd rfl (.inl rfl))) (fun _ _ _ _ _ => pts_nil) (fun _ _ _ _ _ => (pe_callR D__law_remark (hr.mono (by decide)) takes0 (pa_cons (pv 1) pa_nil))))
      (pss_cons (ps_set (i := 5) sc_law.nd rfl (.inl rfl) (pe_op op_add_str (pe_op op_add_str (pe_op op_add_str (pe_op op_add_str (pe_op op_add_str (pe_ix ix_listQ (pv 4) pe_int (fun _ _ => rfl)) pe_str) (pe_ix ix_listQ (pv 4) pe_int (fun _ _ => rfl))) (pe_callR D__law_quoted (hr.mono (by decide)) takes0 (pa_cons (pv 2) pa_nil))) (pe_ix ix_listQ (pv 4) pe_int (fun _ _ => rfl))) pe_str))
      (pss_cons (ps_set (i := 5) sc_law.nd rfl (.inl rfl) (pe_op op_add_str (pe_op op_add_str (pe_op op_add_str (pe_op op_add_str (pv 5) (pe_ix ix_listQ (pv 4) pe_int (fun _ _ => rfl))) pe_str) (pe_callR D__law_quoted (hr.mono (by decide)) takes0 (pa_cons (pv 3) pa_nil))) (pe_ix ix_listQ (pv 4) pe_int (fun _ _ => rfl))))
      (pss_cons (ps_if (pt_not (pt_val (pe_callR D__law_same (hr.mono (by decide)) takes0 (pa_cons (pe_callR D_read_work (hr.mono (by decide)) takes0 (pa_cons (pv 5) pa_nil)) (pa_cons (pe_tup (pa_cons pe_str (pa_cons (pe_tup (pa_cons pe_str (pa_cons (pv 2) pa_nil))) (pa_cons (pe_tup (pa_cons pe_str (pa_cons (pv 3) pa_nil))) pa_nil)))) pa_nil))))) (pss_one (ps_ret pe_bl)) pss_nil)
      (pss_cons (ps_set (i := 6) sc_law.nd rfl (.inl rfl) (pe_op op_add_str (pe_op op_add_str (pe_op op_add_str (pe_op op_add_str (pe_op op_add_str (pe_op op_add_str (pe_op op_add_str (pe_op op_add_str (pe_ix ix_listQ (pv 4) pe_int (fun _ _ => rfl)) pe_str) (pe_ix ix_listQ (pv 4) pe_int (fun _ _ => rfl))) (pe_callR D__law_quoted (hr.mono (by decide)) takes0 (pa_cons (pv 3) pa_nil))) pe_str) (pe_ix ix_listQ (pv 4) pe_int (fun _ _ => rfl))) (pe_callR D__law_quoted (hr.mono (by decide)) takes0 (pa_cons (pv 2) pa_nil))) (pe_ix ix_listQ (pv 4) pe_int (fun _ _ => rfl))) pe_str))
      (pss_cons (ps_set (i := 6) sc_law.nd rfl (.inl rfl) (pe_op op_add_str (pe_op op_add_str (pe_op op_add_str (pe_op op_add_str (pe_op op_add_str (pe_op op_add_str (pv 6) (pe_callR D__law_quoted (hr.mono (by decide)) takes0 (pa_cons (pv 2) pa_nil))) (pe_ix ix_listQ (pv 4) pe_int (fun _ _ => rfl))) pe_str) (pe_callR D__law_quoted (hr.mono (by decide)) takes0 (pa_cons pe_str pa_nil))) pe_str) (pe_ix ix_listQ (pv 4) pe_int (fun _ _ => rfl))))
      (pss_cons (ps_if (pt_not (pt_val (pe_callR D__law_same (hr.mono (by decide)) takes0 (pa_cons (pe_callR D_read_work (hr.mono (by decide)) takes0 (pa_cons (pv 6) pa_nil)) (pa_cons (pe_tup (pa_cons pe_str (pa_cons (pe_tup (pa_cons (pe_tup (pa_cons (pv 3) (pa_cons (pv 2) pa_nil))) (pa_cons (pe_tup (pa_cons (pv 2) (pa_cons pe_str pa_nil))) pa_nil))) pa_nil))) pa_nil))))) (pss_one (ps_ret pe_bl)) pss_nil)
      (pss_cons (ps_set (i := 7) sc_law.nd rfl (.inl rfl) (pe_op op_add_str (pe_op op_add_str (pe_op op_add_str (pe_op op_add_str (pe_op op_add_str (pe_op op_add_str (pe_op op_add_str (pe_op op_add_str pe_str (pe_ix ix_listQ (pv 4) pe_int (fun _ _ => rfl))) (pe_callR D__law_quoted (hr.mono (by decide)) takes0 (pa_cons (pv 2) pa_nil))) (pe_ix ix_listQ (pv 4) pe_int (fun _ _ => rfl))) pe_str) (pe_ix ix_listQ (pv 4) pe_int (fun _ _ => rfl))) pe_str) (pv 5)) pe_str))
      (pss_cons (ps_if (pt_not (pt_val (pe_callR D__law_same (hr.mono (by decide)) takes0 (pa_cons (pe_callR D_read (hr.mono (by decide)) takes0 (pa_cons (pv 7) pa_nil)) (pa_cons (pe_tup (pa_cons (pv 2) (pa_cons (pe_tup (pa_cons (pe_tup (pa_cons pe_str (pa_cons pe_str (pa_cons (pe_tup (pa_cons pe_str (pa_cons (pe_tup (pa_cons pe_str (pa_cons (pv 2) pa_nil))) (pa_cons (pe_tup (pa_cons pe_str (pa_cons (pv 3) pa_nil))) pa_nil)))) pa_nil)))) pa_nil)) pa_nil))) pa_nil))))) (pss_one (ps_ret pe_bl)) pss_nil)
      (pss_cons (ps_set (i := 8) sc_law.nd rfl (.inl rfl) (pe_op op_add_str (pe_op op_add_str (pe_ix ix_listQ (pv 4) pe_int (fun _ _ => rfl)) pe_str) (pe_ix ix_listQ (pv 4) pe_int (fun _ _ => rfl))))
      (pss_cons (ps_set (i := 9) sc_law.nd rfl (.inl rfl) (pe_callR D__law_place (hr.mono (by decide)) takes0 (pa_cons (pv 8) pa_nil)))
      (pss_cons (ps_if (pt_not (pt_val (pe_callR D__law_same (hr.mono (by decide)) takes0 (pa_cons (pe_callR D__law_refused (hr.mono (by decide)) takes0 (pa_cons (pe_op op_add_str (pe_op op_add_str (pe_op op_add_str (pe_op op_add_str (pe_op op_add_str (pv 8) pe_str) (pv 2)) pe_str) (pv 3)) pe_str) (pa_cons pe_bl pa_nil))) (pa_cons (pv 9) pa_nil))))) (pss_one (ps_ret pe_bl)) pss_nil)
      (pss_cons (ps_set (i := 8) sc_law.nd rfl (.inl rfl) (pe_op op_add_str (pe_op op_add_str (pe_op op_add_str (pe_op op_add_str pe_str (pe_ix ix_listQ (pv 4) pe_int (fun _ _ => rfl))) pe_str) (pe_ix ix_listQ (pv 4) pe_int (fun _ _ => rfl))) pe_str))
      (pss_cons (ps_set (i := 9) sc_law.nd rfl (.inl rfl) (pe_callR D__law_place (hr.mono (by decide)) takes0 (pa_cons (pv 8) pa_nil)))
      (pss_cons (ps_if (pt_not (pt_val (pe_callR D__law_same (hr.mono (by decide)) takes0 (pa_cons (pe_callR D__law_refused (hr.mono (by decide)) takes0 (pa_cons (pe_op op_add_str (pe_op op_add_str (pv 8) pe_str) (pv 3)) (pa_cons pe_bl pa_nil))) (pa_cons (pv 9) pa_nil))))) (pss_one (ps_ret pe_bl)) pss_nil)
      (pss_cons (ps_set (i := 10) sc_law.nd rfl (.inl rfl) (pe_op op_add_str (pe_op op_add_str (pe_op op_add_str (pv 5) pe_str) (pe_ix ix_listQ (pv 4) pe_int (fun _ _ => rfl))) pe_str))
      (pss_cons (ps_set (i := 9) sc_law.nd rfl (.inl rfl) (pe_callR D__law_place (hr.mono (by decide)) takes0 (pa_cons (pv 10) pa_nil)))
      (pss_one (ps_ret (pe_callR D__law_same (hr.mono (by decide)) takes0 (pa_cons (pe_callR D__law_refused (hr.mono (by decide)) takes0 (pa_cons (pe_op op_add_str (pe_op op_add_str (pe_op op_add_str (pe_op op_add_str (pe_op op_add_str (pv 10) pe_str) (pv 2)) pe_str) (pv 3)) pe_str) (pa_cons pe_bl pa_nil))) (pa_cons (pv 9) pa_nil))))))))))))))))))))))))), ?_⟩
    simp only [cxOf, tYes, eq_self, if_true, if_false, wipe, rLenQ, rIxTQ, rIxLQ, rIxSQ, rInt1Q, rTupQ, rAppQ, rPopQ, rPopAtQ, rRevQ, rListS, rReprP, tLenSetT, tChain, tRetN, tRet, tAsg, gName, tVar, tC, tCons, tNil, tCB, tOp, rI0, rI, tAndV, tOrV, tNotV, tIf, tTest, tB, tNot, tAnd, tOr, tIfS, tNext, tCallR, rIsK, rEq, rNe, tDrop, L2.start, List.map_cons, List.map_nil, List.length_cons, List.length_nil, Nat.reduceAdd, Nat.reduceSub, Nat.sub_self, List.replicate_zero, List.replicate_succ, List.append_nil, List.cons_append, List.nil_append, List.getElem?_cons_zero, List.getElem?_cons_succ, List.set_cons_zero, List.set_cons_succ, Option.some.injEq, List.cons.injEq, and_true, true_and, exists_eq_left, exists_eq_left', exists_eq_right, V.ty.injEq, V.int.injEq, V.bl.injEq, V.str.injEq, V.ref.injEq, exists_and_left, exists_const, reduceIte, reduceCtorEq, false_and, and_false, exists_false, or_false, false_or, Bool.not_true, Bool.not_false, Bool.false_eq_true, String.reduceEq, true_or, or_true, rNotT, tNNew, tNNotIn, tNGet, sNPut, tLenSetN, tPar, tAug, ipI, tDNotIn, sDPut, tDGet, tTup, tLst, tBM, tBM0, tM0, tM1, tSl, tPart, tNoPart]
    refine ⟨_, rfl, a, ns, rfl, ha, fun b g H1 hb0 hg0 s1 bg1 => ?_⟩
    refine ⟨_, rfl, b, g, 12, 0, rfl, bg1, by decide, by decide, fun one H2 h1 q1 c2 bg2 => ?_⟩
    refine ⟨_, rfl, b, g, 12, _, rfl, bg2, by decide, by decide, fun two H3 h2 q2 c3 bg3 => ?_⟩
    refine ⟨10, rfl, by decide, by decide, fun D hD => ?_⟩
    have hne := bg3.ne hD
    refine lc_gen (J := Itr 0 10) (n := 10) (fun i H' => Bch b g H3 H' ∧ Bag H' b g (0 + 12 + 2 + 12 + 2 + 30 * i) ∧ ∃ us : List Str, us.length = i ∧ (∀ u ∈ us, GapS u) ∧ H' D = some (.lst (us.map V.str))) ⟨.of_same (same_upd hD), bg3.same (same_upd hD), [], rfl, (fun c hc => nomatch hc), upd_same⟩ (fun i H' hi _ => hi) (fun H' _ => Nat.le_refl _) ?_ ?_
    · rintro i x H' H'' hi ⟨c4, bg4, us, hu1, hu2, hD2⟩ ⟨rfl, rfl⟩
      refine ⟨rfl, ?_⟩
      refine ⟨_, rfl, b, g, _, rfl, bg4, by omega, fun u H5 hu c5 bg5 => ?_⟩
      refine ⟨_, c5 D _ hne.1 hne.2 hD2, ?_, ?_, ?_, us ++ [u], ?_, ?_, ?_⟩
      · rw [List.length_map]
        exact szlt (m := 100000) (by omega)
      · intro x o h1 h2 e
        rw [upd_ne (ne_of_none e hD)]
        exact c5 x o h1 h2 (c4 x o h1 h2 e)
      · exact (bg5.upd2 (Ne.symm hne.1) (Ne.symm hne.2)).le (by omega)
      · rw [List.length_append, hu1]
        rfl
      · intro c hc
        rcases List.mem_append.mp hc with h | h
        · exact hu2 c h
        · rw [List.mem_singleton.mp h]
          exact hu
      · rw [upd_same, List.map_append]
        rfl
    rintro H4 ⟨_, _, us, hu1, hu2, hD2⟩
    obtain ⟨u0, u1, u2, u3, u4, u5, u6, u7, u8, u9, rfl⟩ : ∃ u0 u1 u2 u3 u4 u5 u6 u7 u8 u9, us = [u0, u1, u2, u3, u4, u5, u6, u7, u8, u9] := by
      match us, hu1 with
      | [a0, a1, a2, a3, a4, a5, a6, a7, a8, a9], _ => exact ⟨a0, a1, a2, a3, a4, a5, a6, a7, a8, a9, rfl⟩
    have g0 : GapS u0 := hu2 _ (by simp)
    have g1 : GapS u1 := hu2 _ (by simp)
    have g2 : GapS u2 := hu2 _ (by simp)
    have g3 : GapS u3 := hu2 _ (by simp)
    have g4 : GapS u4 := hu2 _ (by simp)
    have g5 : GapS u5 := hu2 _ (by simp)
    have g6 : GapS u6 := hu2 _ (by simp)
    have g7 : GapS u7 := hu2 _ (by simp)
    have g8 : GapS u8 := hu2 _ (by simp)
    have g9 : GapS u9 := hu2 _ (by simp)
    have hD2 : H4 D = some (.lst [V.str u0, V.str u1, V.str u2, V.str u3, V.str u4, V.str u5, V.str u6, V.str u7, V.str u8, V.str u9]) := hD2
    clear hu2 hu1 hne c2 bg2 c3 bg3 hD bg1 s1 hb0 hg0 ha
    simp only [cxOf, tYes, eq_self, if_true, if_false, wipe, rLenQ, rIxTQ, rIxLQ, rIxSQ, rInt1Q, rTupQ, rAppQ, rPopQ, rPopAtQ, rRevQ, rListS, rReprP, tLenSetT, tChain, tRetN, tRet, tAsg, gName, tVar, tC, tCons, tNil, tCB, tOp, rI0, rI, tAndV, tOrV, tNotV, tIf, tTest, tB, tNot, tAnd, tOr, tIfS, tNext, tCallR, rIsK, rEq, rNe, tDrop, L2.start, List.map_cons, List.map_nil, List.length_cons, List.length_nil, Nat.reduceAdd, Nat.reduceSub, Nat.sub_self, List.replicate_zero, List.replicate_succ, List.append_nil, List.cons_append, List.nil_append, List.getElem?_cons_zero, List.getElem?_cons_succ, List.set_cons_zero, List.set_cons_succ, Option.some.injEq, List.cons.injEq, and_true, true_and, exists_eq_left, exists_eq_left', exists_eq_right, V.ty.injEq, V.int.injEq, V.bl.injEq, V.str.injEq, V.ref.injEq, exists_and_left, exists_const, reduceIte, reduceCtorEq, false_and, and_false, exists_false, or_false, false_or, Bool.not_true, Bool.not_false, Bool.false_eq_true, String.reduceEq, true_or, or_true, rNotT, tNNew, tNNotIn, tNGet, sNPut, tLenSetN, tPar, tAug, ipI, tDNotIn, sDPut, tDGet, tTup, tLst, tBM, tBM0, tM0, tM1, tSl, tPart, tNoPart]
    have Ln0 : (Str.ofString "put").length = 3 := rfl
    have C0 : (Str.ofString "put").cps.toList = [112, 117, 116] := rfl
    have Ln1 : (Str.ofString ">").length = 1 := rfl
    have C1 : (Str.ofString ">").cps.toList = [62] := rfl
    have Ln2 : (Str.ofString "ahead").length = 5 := rfl
    have C2 : (Str.ofString "ahead").cps.toList = [97, 104, 101, 97, 100] := rfl
    have Ln3 : (Str.ofString "turn{").length = 5 := rfl
    have C3 : (Str.ofString "turn{").cps.toList = [116, 117, 114, 110, 123] := rfl
    have Ln4 : (Str.ofString ":").length = 1 := rfl
    have C4 : (Str.ofString ":").cps.toList = [58] := rfl
    have Ln5 : (Str.ofString ",").length = 1 := rfl
    have C5 : (Str.ofString ",").cps.toList = [44] := rfl
    have Ln6 : (Str.ofString "}").length = 1 := rfl
    have C6 : (Str.ofString "}").cps.toList = [125] := rfl
    have Ln7 : (Str.ofString "signs").length = 5 := rfl
    have C7 : (Str.ofString "signs").cps.toList = [115, 105, 103, 110, 115] := rfl
    have Ln8 : (Str.ofString ";fun").length = 4 := rfl
    have C8 : (Str.ofString ";fun").cps.toList = [59, 102, 117, 110] := rfl
    have Ln9 : (Str.ofString " f=").length = 3 := rfl
    have C9 : (Str.ofString " f=").cps.toList = [32, 102, 61] := rfl
    have Ln10 : (Str.ofString ";").length = 1 := rfl
    have C10 : (Str.ofString ";").cps.toList = [59] := rfl
    have Ln11 : (Str.ofString "\"").length = 1 := rfl
    have C11 : (Str.ofString "\"").cps.toList = [34] := rfl
    have Ln12 : (Str.ofString "\n").length = 1 := rfl
    have C12 : (Str.ofString "\n").cps.toList = [10] := rfl
    have Ln13 : (Str.ofString "signs \"ab\";").length = 11 := rfl
    have C13 : (Str.ofString "signs \"ab\";").cps.toList = [115, 105, 103, 110, 115, 32, 34, 97, 98, 34, 59] := rfl
    have Ln14 : (Str.ofString "fun f =").length = 7 := rfl
    have C14 : (Str.ofString "fun f =").cps.toList = [102, 117, 110, 32, 102, 32, 61] := rfl
    have Ln15 : (Str.ofString "put ").length = 4 := rfl
    have C15 : (Str.ofString "put ").cps.toList = [112, 117, 116, 32] := rfl
    have Ln16 : (Str.ofString "behind ").length = 7 := rfl
    have C16 : (Str.ofString "behind ").cps.toList = [98, 101, 104, 105, 110, 100, 32] := rfl
    have Ln17 : (Str.ofString "\n\"").length = 2 := rfl
    have C17 : (Str.ofString "\n\"").cps.toList = [10, 34] := rfl
    have Ln18 : (Str.ofString "\";").length = 2 := rfl
    have C18 : (Str.ofString "\";").cps.toList = [34, 59] := rfl
    have Ln19 : (Str.ofString "").length = 0 := rfl
    have C19 : (Str.ofString "").cps.toList = [] := rfl
    have Ln20 : (Str.ofString "turn").length = 4 := rfl
    have C20 : (Str.ofString "turn").cps.toList = [116, 117, 114, 110] := rfl
    have Ln21 : (Str.ofString "fun").length = 3 := rfl
    have C21 : (Str.ofString "fun").cps.toList = [102, 117, 110] := rfl
    have Ln22 : (Str.ofString "behind").length = 6 := rfl
    have C22 : (Str.ofString "behind").cps.toList = [98, 101, 104, 105, 110, 100] := rfl
    have Ln23 : (Str.ofString "ab").length = 2 := rfl
    have C23 : (Str.ofString "ab").cps.toList = [97, 98] := rfl
    have gl0 := g0.2.2
    have gl1 := g1.2.2
    have gl2 := g2.2.2
    have gl3 := g3.2.2
    have gl4 := g4.2.2
    have gl5 := g5.2.2
    have gl6 := g6.2.2
    have gl7 := g7.2.2
    have gl8 := g8.2.2
    have gl9 := g9.2.2
    have z2 : 2 ≤ sizeLine := szle (m := 2) (Nat.le_refl 2)
    have z1 : 1 ≤ sizeLine := szle (m := 1) (Nat.le_refl 1)
    have z3 : 3 ≤ sizeLine := szle (m := 3) (Nat.le_refl 3)
    have hD := hD2
    clear hD2
    obtain ⟨xk, hxk⟩ : ∃ xk : Option V, xk = none := ⟨none, rfl⟩
    rw [← hxk]
    clear hxk
    refine seq_with (fun σ' H' => H' D = some (.lst [V.str u0, V.str u1, V.str u2, V.str u3, V.str u4, V.str u5, V.str u6, V.str u7, V.str u8, V.str u9]) ∧ ∃ qq1 : Str, qq1.cps.toList = 34 :: (one.cps.toList ++ [34]) ∧ σ' = [some (.ref a), some (.ref b), some (.str one), some (.str two), some (.ref D), some (.str (u0 ++ Str.ofString "put" ++ u1 ++ qq1 ++ u2 ++ Str.ofString ">")), xk, xk, xk, xk, xk, xk]) (fun N hN => ?_) ?_
    · simp only [cxOf, tYes, eq_self, if_true, if_false, wipe, rLenQ, rIxTQ, rIxLQ, rIxSQ, rInt1Q, rTupQ, rAppQ, rPopQ, rPopAtQ, rRevQ, rListS, rReprP, tLenSetT, tChain, tRetN, tRet, tSeq, tAsg, gName, tVar, tC, tCons, tNil, tCB, tOp, rI0, rI, tAndV, tOrV, tNotV, tIf, tTest, tB, tNot, tAnd, tOr, tIfS, tNext, tCallR, rIsK, rEq, rNe, tDrop, L2.start, List.map_cons, List.map_nil, List.length_cons, List.length_nil, Nat.reduceAdd, Nat.reduceSub, Nat.sub_self, List.replicate_zero, List.replicate_succ, List.append_nil, List.cons_append, List.nil_append, List.getElem?_cons_zero, List.getElem?_cons_succ, List.set_cons_zero, List.set_cons_succ, Option.some.injEq, List.cons.injEq, and_true, true_and, exists_eq_left, exists_eq_left', exists_eq_right, V.ty.injEq, V.int.injEq, V.bl.injEq, V.str.injEq, V.ref.injEq, exists_and_left, exists_const, reduceIte, reduceCtorEq, false_and, and_false, exists_false, or_false, false_or, Bool.not_true, Bool.not_false, Bool.false_eq_true, String.reduceEq, true_or, or_true, rNotT, tNNew, tNNotIn, tNGet, sNPut, tLenSetN, tPar, tAug, ipI, tDNotIn, sDPut, tDGet, tTup, tLst, tBM, tBM0, tM0, tM1, tSl, tPart, tNoPart]
      exact ⟨_, .inl (.inl hD), _, rfl, _, rfl, szle (m := 5000) (by ((try simp only [len_app]); omega)), _, .inl (.inl hD), _, rfl, _, rfl, szle (m := 5000) (by ((try simp only [len_app]); omega)), one, rfl, (by omega), fun qq1 hqq1 => have kqq1 := q_len hqq1; ⟨_, rfl, szle (m := 5000) (by ((try simp only [len_app]); omega)), _, .inl (.inl hD), _, rfl, _, rfl, szle (m := 5000) (by ((try simp only [len_app]); omega)), szle (m := 5000) (by ((try simp only [len_app]); omega)), hN _ _ ⟨hD, qq1, hqq1, rfl⟩⟩⟩
    rintro σ11 H11 ⟨hD, qq1, hqq1, rfl⟩
    have kqq1 := q_len hqq1
    refine seq_with (fun σ' H' => H' D = some (.lst [V.str u0, V.str u1, V.str u2, V.str u3, V.str u4, V.str u5, V.str u6, V.str u7, V.str u8, V.str u9]) ∧ ∃ zp : Str, zp.cps.toList = bodyL u0.cps.toList u1.cps.toList u2.cps.toList u3.cps.toList one.cps.toList two.cps.toList u4.cps.toList ∧ zp.length ≤ 200 ∧ σ' = [some (.ref a), some (.ref b), some (.str one), some (.str two), some (.ref D), some (.str zp), xk, xk, xk, xk, xk, xk]) (fun N hN => ?_) ?_
    · simp only [cxOf, tYes, eq_self, if_true, if_false, wipe, rLenQ, rIxTQ, rIxLQ, rIxSQ, rInt1Q, rTupQ, rAppQ, rPopQ, rPopAtQ, rRevQ, rListS, rReprP, tLenSetT, tChain, tRetN, tRet, tSeq, tAsg, gName, tVar, tC, tCons, tNil, tCB, tOp, rI0, rI, tAndV, tOrV, tNotV, tIf, tTest, tB, tNot, tAnd, tOr, tIfS, tNext, tCallR, rIsK, rEq, rNe, tDrop, L2.start, List.map_cons, List.map_nil, List.length_cons, List.length_nil, Nat.reduceAdd, Nat.reduceSub, Nat.sub_self, List.replicate_zero, List.replicate_succ, List.append_nil, List.cons_append, List.nil_append, List.getElem?_cons_zero, List.getElem?_cons_succ, List.set_cons_zero, List.set_cons_succ, Option.some.injEq, List.cons.injEq, and_true, true_and, exists_eq_left, exists_eq_left', exists_eq_right, V.ty.injEq, V.int.injEq, V.bl.injEq, V.str.injEq, V.ref.injEq, exists_and_left, exists_const, reduceIte, reduceCtorEq, false_and, and_false, exists_false, or_false, false_or, Bool.not_true, Bool.not_false, Bool.false_eq_true, String.reduceEq, true_or, or_true, rNotT, tNNew, tNNotIn, tNGet, sNPut, tLenSetN, tPar, tAug, ipI, tDNotIn, sDPut, tDGet, tTup, tLst, tBM, tBM0, tM0, tM1, tSl, tPart, tNoPart]
      exact ⟨_, .inl (.inl hD), _, rfl, _, rfl, szle (m := 5000) (by ((try simp only [len_app]); omega)), szle (m := 5000) (by ((try simp only [len_app]); omega)), two, rfl, (by omega), fun qq2 hqq2 => have kqq2 := q_len hqq2; ⟨_, rfl, szle (m := 5000) (by ((try simp only [len_app]); omega)), _, .inl (.inl hD), _, rfl, _, rfl, szle (m := 5000) (by ((try simp only [len_app]); omega)), hN _ _ ⟨hD, _, by simp only [cps_app, hqq2, hqq1, C0, C1, C2, C3, C4, C5, C6, C7, C8, C9, C10, C11, C12, C13, C14, C15, C16, C17, C18, C19, C20, C21, C22, C23, bodyL, List.append_assoc, List.cons_append, List.nil_append, List.append_nil], by ((try simp only [len_app]); omega), rfl⟩⟩⟩
    rintro σ12 H12 ⟨hD, zp, hzp, lzp, rfl⟩
    have ly : Laid 0 (bodyT one two [tkE]) zp.cps.toList := by rw [hzp]; exact lay_body g0.1 g1.1 g2.1 g3.1 q1 q2 (.fin rfl g4.1)
    obtain ⟨tp, etp, tk, hla⟩ := toks_laid ly
    have hr := run_body etp
    refine seq_with (fun σ' H' => H' D = some (.lst [V.str u0, V.str u1, V.str u2, V.str u3, V.str u4, V.str u5, V.str u6, V.str u7, V.str u8, V.str u9]) ∧ σ' = [some (.ref a), some (.ref b), some (.str one), some (.str two), some (.ref D), some (.str zp), xk, xk, xk, xk, xk, xk]) (fun N hN => ?_) ?_
    · simp only [cxOf, tYes, eq_self, if_true, if_false, wipe, rLenQ, rIxTQ, rIxLQ, rIxSQ, rInt1Q, rTupQ, rAppQ, rPopQ, rPopAtQ, rRevQ, rListS, rReprP, tLenSetT, tChain, tRetN, tRet, tSeq, tAsg, gName, tVar, tC, tCons, tNil, tCB, tOp, rI0, rI, tAndV, tOrV, tNotV, tIf, tTest, tB, tNot, tAnd, tOr, tIfS, tNext, tCallR, rIsK, rEq, rNe, tDrop, L2.start, List.map_cons, List.map_nil, List.length_cons, List.length_nil, Nat.reduceAdd, Nat.reduceSub, Nat.sub_self, List.replicate_zero, List.replicate_succ, List.append_nil, List.cons_append, List.nil_append, List.getElem?_cons_zero, List.getElem?_cons_succ, List.set_cons_zero, List.set_cons_succ, Option.some.injEq, List.cons.injEq, and_true, true_and, exists_eq_left, exists_eq_left', exists_eq_right, V.ty.injEq, V.int.injEq, V.bl.injEq, V.str.injEq, V.ref.injEq, exists_and_left, exists_const, reduceIte, reduceCtorEq, false_and, and_false, exists_false, or_false, false_or, Bool.not_true, Bool.not_false, Bool.false_eq_true, String.reduceEq, true_or, or_true, rNotT, tNNew, tNNotIn, tNGet, sNPut, tLenSetN, tPar, tAug, ipI, tDNotIn, sDPut, tDGet, tTup, tLst, tBM, tBM0, tM0, tM1, tSl, tPart, tNoPart]
      refine ⟨zp, _, .told (thenD one two), 100, rfl, by ((try simp only [len_app]); omega), by decide, tk, hr, fun x H5 sR hd hn => ?_⟩
      refine ⟨z2, fun p0 hp0 => ⟨z2, fun p1 hp1 => ⟨z3, fun p2 hp2 => ?_⟩⟩⟩
      obtain ⟨s0, d0⟩ := al (K := K) hp0 (.cons (.str _) (.cons (.str _) .nil)) rfl
      obtain ⟨s1, d1⟩ := al (K := K) hp1 (.cons (.str _) (.cons (.str _) .nil)) rfl
      obtain ⟨s2, d2⟩ := al (K := K) hp2 (.cons (.str _) (.cons (dp_mono (TK.of_same s1) _ _ d0 rfl) (.cons d1 .nil))) rfl
      refine ⟨x, .ref p2, thenD one two, rfl, dp_mono (TK.of_same ((s0.trans s1).trans s2)) _ _ hd hn, d2, rfl, Nat.le_of_ble_eq_true rfl, fun H6 s6 => ⟨true, rfl, ifF rfl (hN _ _ ⟨s6 _ _ (((s0.trans s1).trans s2) _ _ (sR _ _ hD)), rfl⟩)⟩⟩
    clear ly tk hr hla etp tp
    rintro σ13 H13 ⟨hD, rfl⟩
    refine seq_with (fun σ' H' => H' D = some (.lst [V.str u0, V.str u1, V.str u2, V.str u3, V.str u4, V.str u5, V.str u6, V.str u7, V.str u8, V.str u9]) ∧ ∃ qq3 : Str, ∃ qq4 : Str, qq3.cps.toList = 34 :: (two.cps.toList ++ [34]) ∧ qq4.cps.toList = 34 :: (one.cps.toList ++ [34]) ∧ σ' = [some (.ref a), some (.ref b), some (.str one), some (.str two), some (.ref D), some (.str zp), some (.str (u5 ++ Str.ofString "turn{" ++ u6 ++ qq3 ++ Str.ofString ":" ++ u7 ++ qq4 ++ u8 ++ Str.ofString ",")), xk, xk, xk, xk, xk]) (fun N hN => ?_) ?_
    · simp only [cxOf, tYes, eq_self, if_true, if_false, wipe, rLenQ, rIxTQ, rIxLQ, rIxSQ, rInt1Q, rTupQ, rAppQ, rPopQ, rPopAtQ, rRevQ, rListS, rReprP, tLenSetT, tChain, tRetN, tRet, tSeq, tAsg, gName, tVar, tC, tCons, tNil, tCB, tOp, rI0, rI, tAndV, tOrV, tNotV, tIf, tTest, tB, tNot, tAnd, tOr, tIfS, tNext, tCallR, rIsK, rEq, rNe, tDrop, L2.start, List.map_cons, List.map_nil, List.length_cons, List.length_nil, Nat.reduceAdd, Nat.reduceSub, Nat.sub_self, List.replicate_zero, List.replicate_succ, List.append_nil, List.cons_append, List.nil_append, List.getElem?_cons_zero, List.getElem?_cons_succ, List.set_cons_zero, List.set_cons_succ, Option.some.injEq, List.cons.injEq, and_true, true_and, exists_eq_left, exists_eq_left', exists_eq_right, V.ty.injEq, V.int.injEq, V.bl.injEq, V.str.injEq, V.ref.injEq, exists_and_left, exists_const, reduceIte, reduceCtorEq, false_and, and_false, exists_false, or_false, false_or, Bool.not_true, Bool.not_false, Bool.false_eq_true, String.reduceEq, true_or, or_true, rNotT, tNNew, tNNotIn, tNGet, sNPut, tLenSetN, tPar, tAug, ipI, tDNotIn, sDPut, tDGet, tTup, tLst, tBM, tBM0, tM0, tM1, tSl, tPart, tNoPart]
      exact ⟨_, .inl (.inl hD), _, rfl, _, rfl, szle (m := 5000) (by ((try simp only [len_app]); omega)), _, .inl (.inl hD), _, rfl, _, rfl, szle (m := 5000) (by ((try simp only [len_app]); omega)), two, rfl, (by omega), fun qq3 hqq3 => have kqq3 := q_len hqq3; ⟨_, rfl, szle (m := 5000) (by ((try simp only [len_app]); omega)), szle (m := 5000) (by ((try simp only [len_app]); omega)), _, .inl (.inl hD), _, rfl, _, rfl, szle (m := 5000) (by ((try simp only [len_app]); omega)), one, rfl, (by omega), fun qq4 hqq4 => have kqq4 := q_len hqq4; ⟨_, rfl, szle (m := 5000) (by ((try simp only [len_app]); omega)), _, .inl (.inl hD), _, rfl, _, rfl, szle (m := 5000) (by ((try simp only [len_app]); omega)), szle (m := 5000) (by ((try simp only [len_app]); omega)), hN _ _ ⟨hD, qq3, qq4, hqq3, hqq4, rfl⟩⟩⟩⟩
    rintro σ14 H14 ⟨hD, qq3, qq4, hqq3, hqq4, rfl⟩
    have kqq3 := q_len hqq3
    have kqq4 := q_len hqq4
    refine seq_with (fun σ' H' => H' D = some (.lst [V.str u0, V.str u1, V.str u2, V.str u3, V.str u4, V.str u5, V.str u6, V.str u7, V.str u8, V.str u9]) ∧ ∃ zt : Str, zt.cps.toList = turnL u5.cps.toList u6.cps.toList u7.cps.toList u8.cps.toList u9.cps.toList u1.cps.toList one.cps.toList two.cps.toList ∧ zt.length ≤ 300 ∧ σ' = [some (.ref a), some (.ref b), some (.str one), some (.str two), some (.ref D), some (.str zp), some (.str zt), xk, xk, xk, xk, xk]) (fun N hN => ?_) ?_
    · simp only [cxOf, tYes, eq_self, if_true, if_false, wipe, rLenQ, rIxTQ, rIxLQ, rIxSQ, rInt1Q, rTupQ, rAppQ, rPopQ, rPopAtQ, rRevQ, rListS, rReprP, tLenSetT, tChain, tRetN, tRet, tSeq, tAsg, gName, tVar, tC, tCons, tNil, tCB, tOp, rI0, rI, tAndV, tOrV, tNotV, tIf, tTest, tB, tNot, tAnd, tOr, tIfS, tNext, tCallR, rIsK, rEq, rNe, tDrop, L2.start, List.map_cons, List.map_nil, List.length_cons, List.length_nil, Nat.reduceAdd, Nat.reduceSub, Nat.sub_self, List.replicate_zero, List.replicate_succ, List.append_nil, List.cons_append, List.nil_append, List.getElem?_cons_zero, List.getElem?_cons_succ, List.set_cons_zero, List.set_cons_succ, Option.some.injEq, List.cons.injEq, and_true, true_and, exists_eq_left, exists_eq_left', exists_eq_right, V.ty.injEq, V.int.injEq, V.bl.injEq, V.str.injEq, V.ref.injEq, exists_and_left, exists_const, reduceIte, reduceCtorEq, false_and, and_false, exists_false, or_false, false_or, Bool.not_true, Bool.not_false, Bool.false_eq_true, String.reduceEq, true_or, or_true, rNotT, tNNew, tNNotIn, tNGet, sNPut, tLenSetN, tPar, tAug, ipI, tDNotIn, sDPut, tDGet, tTup, tLst, tBM, tBM0, tM0, tM1, tSl, tPart, tNoPart]
      exact ⟨one, rfl, (by omega), fun qq5 hqq5 => have kqq5 := q_len hqq5; ⟨_, rfl, szle (m := 5000) (by ((try simp only [len_app]); omega)), _, .inl (.inl hD), _, rfl, _, rfl, szle (m := 5000) (by ((try simp only [len_app]); omega)), szle (m := 5000) (by ((try simp only [len_app]); omega)), _, rfl, (by decide), fun qq6 hqq6 => have kqq6 := q_len hqq6; ⟨_, rfl, szle (m := 5000) (by ((try simp only [len_app]); omega)), szle (m := 5000) (by ((try simp only [len_app]); omega)), _, .inl (.inl hD), _, rfl, _, rfl, szle (m := 5000) (by ((try simp only [len_app]); omega)), hN _ _ ⟨hD, _, by simp only [cps_app, hqq5, hqq6, hqq3, hqq4, C0, C1, C2, C3, C4, C5, C6, C7, C8, C9, C10, C11, C12, C13, C14, C15, C16, C17, C18, C19, C20, C21, C22, C23, turnL, List.append_assoc, List.cons_append, List.nil_append, List.append_nil], by ((try simp only [len_app]); omega), rfl⟩⟩⟩⟩
    rintro σ15 H15 ⟨hD, zt, hzt, lzt, rfl⟩
    have ly : Laid 0 (turnT one two) zt.cps.toList := by rw [hzt]; exact lay_turn g5.1 g6.1 g7.1 g8.1 g9.1 g1.1 q1 q2
    obtain ⟨tp, etp, tk, hla⟩ := toks_laid ly
    have hr := run_turn etp
    refine seq_with (fun σ' H' => H' D = some (.lst [V.str u0, V.str u1, V.str u2, V.str u3, V.str u4, V.str u5, V.str u6, V.str u7, V.str u8, V.str u9]) ∧ σ' = [some (.ref a), some (.ref b), some (.str one), some (.str two), some (.ref D), some (.str zp), some (.str zt), xk, xk, xk, xk, xk]) (fun N hN => ?_) ?_
    · simp only [cxOf, tYes, eq_self, if_true, if_false, wipe, rLenQ, rIxTQ, rIxLQ, rIxSQ, rInt1Q, rTupQ, rAppQ, rPopQ, rPopAtQ, rRevQ, rListS, rReprP, tLenSetT, tChain, tRetN, tRet, tSeq, tAsg, gName, tVar, tC, tCons, tNil, tCB, tOp, rI0, rI, tAndV, tOrV, tNotV, tIf, tTest, tB, tNot, tAnd, tOr, tIfS, tNext, tCallR, rIsK, rEq, rNe, tDrop, L2.start, List.map_cons, List.map_nil, List.length_cons, List.length_nil, Nat.reduceAdd, Nat.reduceSub, Nat.sub_self, List.replicate_zero, List.replicate_succ, List.append_nil, List.cons_append, List.nil_append, List.getElem?_cons_zero, List.getElem?_cons_succ, List.set_cons_zero, List.set_cons_succ, Option.some.injEq, List.cons.injEq, and_true, true_and, exists_eq_left, exists_eq_left', exists_eq_right, V.ty.injEq, V.int.injEq, V.bl.injEq, V.str.injEq, V.ref.injEq, exists_and_left, exists_const, reduceIte, reduceCtorEq, false_and, and_false, exists_false, or_false, false_or, Bool.not_true, Bool.not_false, Bool.false_eq_true, String.reduceEq, true_or, or_true, rNotT, tNNew, tNNotIn, tNGet, sNPut, tLenSetN, tPar, tAug, ipI, tDNotIn, sDPut, tDGet, tTup, tLst, tBM, tBM0, tM0, tM1, tSl, tPart, tNoPart]
      refine ⟨zt, _, .told (turnD one two), 100, rfl, by ((try simp only [len_app]); omega), by decide, tk, hr, fun x H5 sR hd hn => ?_⟩
      refine ⟨z2, fun p0 hp0 => ⟨z2, fun p1 hp1 => ⟨z2, fun p2 hp2 => ⟨z2, fun p3 hp3 => ?_⟩⟩⟩⟩
      obtain ⟨s0, d0⟩ := al (K := K) hp0 (.cons (.str _) (.cons (.str _) .nil)) rfl
      obtain ⟨s1, d1⟩ := al (K := K) hp1 (.cons (.str _) (.cons (.str _) .nil)) rfl
      obtain ⟨s2, d2⟩ := al (K := K) hp2 (.cons (dp_mono (TK.of_same s1) _ _ d0 rfl) (.cons d1 .nil)) rfl
      obtain ⟨s3, d3⟩ := al (K := K) hp3 (.cons (.str _) (.cons d2 .nil)) rfl
      refine ⟨x, .ref p3, turnD one two, rfl, dp_mono (TK.of_same (((s0.trans s1).trans s2).trans s3)) _ _ hd hn, d3, rfl, Nat.le_of_ble_eq_true rfl, fun H6 s6 => ⟨true, rfl, ifF rfl (hN _ _ ⟨s6 _ _ ((((s0.trans s1).trans s2).trans s3) _ _ (sR _ _ hD)), rfl⟩)⟩⟩
    clear ly tk hr hla etp tp
    rintro σ16 H16 ⟨hD, rfl⟩
    refine seq_with (fun σ' H' => H' D = some (.lst [V.str u0, V.str u1, V.str u2, V.str u3, V.str u4, V.str u5, V.str u6, V.str u7, V.str u8, V.str u9]) ∧ ∃ zw : Str, zw.cps.toList = wholeL u4.cps.toList u5.cps.toList u6.cps.toList one.cps.toList (bodyL u0.cps.toList u1.cps.toList u2.cps.toList u3.cps.toList one.cps.toList two.cps.toList (u4.cps.toList ++ 59 :: [])) ∧ zw.length ≤ 400 ∧ σ' = [some (.ref a), some (.ref b), some (.str one), some (.str two), some (.ref D), some (.str zp), some (.str zt), some (.str zw), xk, xk, xk, xk]) (fun N hN => ?_) ?_
    · simp only [cxOf, tYes, eq_self, if_true, if_false, wipe, rLenQ, rIxTQ, rIxLQ, rIxSQ, rInt1Q, rTupQ, rAppQ, rPopQ, rPopAtQ, rRevQ, rListS, rReprP, tLenSetT, tChain, tRetN, tRet, tSeq, tAsg, gName, tVar, tC, tCons, tNil, tCB, tOp, rI0, rI, tAndV, tOrV, tNotV, tIf, tTest, tB, tNot, tAnd, tOr, tIfS, tNext, tCallR, rIsK, rEq, rNe, tDrop, L2.start, List.map_cons, List.map_nil, List.length_cons, List.length_nil, Nat.reduceAdd, Nat.reduceSub, Nat.sub_self, List.replicate_zero, List.replicate_succ, List.append_nil, List.cons_append, List.nil_append, List.getElem?_cons_zero, List.getElem?_cons_succ, List.set_cons_zero, List.set_cons_succ, Option.some.injEq, List.cons.injEq, and_true, true_and, exists_eq_left, exists_eq_left', exists_eq_right, V.ty.injEq, V.int.injEq, V.bl.injEq, V.str.injEq, V.ref.injEq, exists_and_left, exists_const, reduceIte, reduceCtorEq, false_and, and_false, exists_false, or_false, false_or, Bool.not_true, Bool.not_false, Bool.false_eq_true, String.reduceEq, true_or, or_true, rNotT, tNNew, tNNotIn, tNGet, sNPut, tLenSetN, tPar, tAug, ipI, tDNotIn, sDPut, tDGet, tTup, tLst, tBM, tBM0, tM0, tM1, tSl, tPart, tNoPart]
      exact ⟨_, .inl (.inl hD), _, rfl, _, rfl, szle (m := 5000) (by ((try simp only [len_app]); omega)), one, rfl, (by omega), fun qq7 hqq7 => have kqq7 := q_len hqq7; ⟨_, rfl, szle (m := 5000) (by ((try simp only [len_app]); omega)), _, .inl (.inl hD), _, rfl, _, rfl, szle (m := 5000) (by ((try simp only [len_app]); omega)), szle (m := 5000) (by ((try simp only [len_app]); omega)), _, .inl (.inl hD), _, rfl, _, rfl, szle (m := 5000) (by ((try simp only [len_app]); omega)), szle (m := 5000) (by ((try simp only [len_app]); omega)), szle (m := 5000) (by ((try simp only [len_app]); omega)), szle (m := 5000) (by ((try simp only [len_app]); omega)), hN _ _ ⟨hD, _, by simp only [cps_app, hqq7, hzp, C0, C1, C2, C3, C4, C5, C6, C7, C8, C9, C10, C11, C12, C13, C14, C15, C16, C17, C18, C19, C20, C21, C22, C23, wholeL, bodyL, List.append_assoc, List.cons_append, List.nil_append, List.append_nil], by ((try simp only [len_app]); omega), rfl⟩⟩⟩
    rintro σ17 H17 ⟨hD, zw, hzw, lzw, rfl⟩
    have ly : Laid 0 (wholeT one (bodyT one two [tkM 59, tkE])) zw.cps.toList := by rw [hzw]; exact lay_whole g4.1 g5.1 g6.1 q1 (lay_body g0.1 g1.1 g2.1 g3.1 q1 q2 (lay_mark (by decide) g4.1 (.fin rfl .nil)))
    obtain ⟨tp, etp, tk, hla⟩ := toks_laid ly
    have hr := run_whole etp
    refine seq_with (fun σ' H' => H' D = some (.lst [V.str u0, V.str u1, V.str u2, V.str u3, V.str u4, V.str u5, V.str u6, V.str u7, V.str u8, V.str u9]) ∧ σ' = [some (.ref a), some (.ref b), some (.str one), some (.str two), some (.ref D), some (.str zp), some (.str zt), some (.str zw), xk, xk, xk, xk]) (fun N hN => ?_) ?_
    · simp only [cxOf, tYes, eq_self, if_true, if_false, wipe, rLenQ, rIxTQ, rIxLQ, rIxSQ, rInt1Q, rTupQ, rAppQ, rPopQ, rPopAtQ, rRevQ, rListS, rReprP, tLenSetT, tChain, tRetN, tRet, tSeq, tAsg, gName, tVar, tC, tCons, tNil, tCB, tOp, rI0, rI, tAndV, tOrV, tNotV, tIf, tTest, tB, tNot, tAnd, tOr, tIfS, tNext, tCallR, rIsK, rEq, rNe, tDrop, L2.start, List.map_cons, List.map_nil, List.length_cons, List.length_nil, Nat.reduceAdd, Nat.reduceSub, Nat.sub_self, List.replicate_zero, List.replicate_succ, List.append_nil, List.cons_append, List.nil_append, List.getElem?_cons_zero, List.getElem?_cons_succ, List.set_cons_zero, List.set_cons_succ, Option.some.injEq, List.cons.injEq, and_true, true_and, exists_eq_left, exists_eq_left', exists_eq_right, V.ty.injEq, V.int.injEq, V.bl.injEq, V.str.injEq, V.ref.injEq, exists_and_left, exists_const, reduceIte, reduceCtorEq, false_and, and_false, exists_false, or_false, false_or, Bool.not_true, Bool.not_false, Bool.false_eq_true, String.reduceEq, true_or, or_true, rNotT, tNNew, tNNotIn, tNGet, sNPut, tLenSetN, tPar, tAug, ipI, tDNotIn, sDPut, tDGet, tTup, tLst, tBM, tBM0, tM0, tM1, tSl, tPart, tNoPart]
      refine ⟨zw, _, .told (wholeD one two), 100, rfl, by ((try simp only [len_app]); omega), by decide, tk, hr, fun x H5 sR hd hn => ?_⟩
      refine ⟨z2, fun p0 hp0 => ⟨z2, fun p1 hp1 => ⟨z3, fun p2 hp2 => ⟨z3, fun p3 hp3 => ⟨z1, fun p4 hp4 => ⟨z2, fun p5 hp5 => ?_⟩⟩⟩⟩⟩⟩
      obtain ⟨s0, d0⟩ := al (K := K) hp0 (.cons (.str _) (.cons (.str _) .nil)) rfl
      obtain ⟨s1, d1⟩ := al (K := K) hp1 (.cons (.str _) (.cons (.str _) .nil)) rfl
      obtain ⟨s2, d2⟩ := al (K := K) hp2 (.cons (.str _) (.cons (dp_mono (TK.of_same s1) _ _ d0 rfl) (.cons d1 .nil))) rfl
      obtain ⟨s3, d3⟩ := al (K := K) hp3 (.cons (.str _) (.cons (.str _) (.cons d2 .nil))) rfl
      obtain ⟨s4, d4⟩ := al (K := K) hp4 (.cons d3 .nil) rfl
      obtain ⟨s5, d5⟩ := al (K := K) hp5 (.cons (.str _) (.cons d4 .nil)) rfl
      refine ⟨x, .ref p5, wholeD one two, rfl, dp_mono (TK.of_same (((((s0.trans s1).trans s2).trans s3).trans s4).trans s5)) _ _ hd hn, d5, rfl, Nat.le_of_ble_eq_true rfl, fun H6 s6 => ⟨true, rfl, ifF rfl (hN _ _ ⟨s6 _ _ ((((((s0.trans s1).trans s2).trans s3).trans s4).trans s5) _ _ (sR _ _ hD)), rfl⟩)⟩⟩
    clear ly tk hr hla etp tp
    rintro σ18 H18 ⟨hD, rfl⟩
    refine seq_with (fun σ' H' => H' D = some (.lst [V.str u0, V.str u1, V.str u2, V.str u3, V.str u4, V.str u5, V.str u6, V.str u7, V.str u8, V.str u9]) ∧ ∃ zb : Str, zb.cps.toList = u0.cps.toList ++ ((Str.ofString "put").cps.toList ++ u1.cps.toList) ∧ zb.length ≤ 60 ∧ σ' = [some (.ref a), some (.ref b), some (.str one), some (.str two), some (.ref D), some (.str zp), some (.str zt), some (.str zw), some (.str zb), xk, xk, xk]) (fun N hN => ?_) ?_
    · simp only [cxOf, tYes, eq_self, if_true, if_false, wipe, rLenQ, rIxTQ, rIxLQ, rIxSQ, rInt1Q, rTupQ, rAppQ, rPopQ, rPopAtQ, rRevQ, rListS, rReprP, tLenSetT, tChain, tRetN, tRet, tSeq, tAsg, gName, tVar, tC, tCons, tNil, tCB, tOp, rI0, rI, tAndV, tOrV, tNotV, tIf, tTest, tB, tNot, tAnd, tOr, tIfS, tNext, tCallR, rIsK, rEq, rNe, tDrop, L2.start, List.map_cons, List.map_nil, List.length_cons, List.length_nil, Nat.reduceAdd, Nat.reduceSub, Nat.sub_self, List.replicate_zero, List.replicate_succ, List.append_nil, List.cons_append, List.nil_append, List.getElem?_cons_zero, List.getElem?_cons_succ, List.set_cons_zero, List.set_cons_succ, Option.some.injEq, List.cons.injEq, and_true, true_and, exists_eq_left, exists_eq_left', exists_eq_right, V.ty.injEq, V.int.injEq, V.bl.injEq, V.str.injEq, V.ref.injEq, exists_and_left, exists_const, reduceIte, reduceCtorEq, false_and, and_false, exists_false, or_false, false_or, Bool.not_true, Bool.not_false, Bool.false_eq_true, String.reduceEq, true_or, or_true, rNotT, tNNew, tNNotIn, tNGet, sNPut, tLenSetN, tPar, tAug, ipI, tDNotIn, sDPut, tDGet, tTup, tLst, tBM, tBM0, tM0, tM1, tSl, tPart, tNoPart]
      exact ⟨_, .inl (.inl hD), _, rfl, _, rfl, szle (m := 5000) (by ((try simp only [len_app]); omega)), _, .inl (.inl hD), _, rfl, _, rfl, szle (m := 5000) (by ((try simp only [len_app]); omega)), hN _ _ ⟨hD, _, by simp only [cps_app, C0, C1, C2, C3, C4, C5, C6, C7, C8, C9, C10, C11, C12, C13, C14, C15, C16, C17, C18, C19, C20, C21, C22, C23, List.append_assoc, List.cons_append, List.nil_append, List.append_nil], by ((try simp only [len_app]); omega), rfl⟩⟩
    rintro σ19 H19 ⟨hD, zb, hzb, lzb, rfl⟩
    refine seq_with (fun σ' H' => H' D = some (.lst [V.str u0, V.str u1, V.str u2, V.str u3, V.str u4, V.str u5, V.str u6, V.str u7, V.str u8, V.str u9]) ∧ ∃ pd, H' pd = some (.tup [.int ((1 + rowL zb.cps.toList : Nat) : Int), .int ((1 + colL zb.cps.toList : Nat) : Int)]) ∧ σ' = [some (.ref a), some (.ref b), some (.str one), some (.str two), some (.ref D), some (.str zp), some (.str zt), some (.str zw), some (.str zb), some (.ref pd), xk, xk]) (fun N hN => ?_) ?_
    · simp only [cxOf, tYes, eq_self, if_true, if_false, wipe, rLenQ, rIxTQ, rIxLQ, rIxSQ, rInt1Q, rTupQ, rAppQ, rPopQ, rPopAtQ, rRevQ, rListS, rReprP, tLenSetT, tChain, tRetN, tRet, tSeq, tAsg, gName, tVar, tC, tCons, tNil, tCB, tOp, rI0, rI, tAndV, tOrV, tNotV, tIf, tTest, tB, tNot, tAnd, tOr, tIfS, tNext, tCallR, rIsK, rEq, rNe, tDrop, L2.start, List.map_cons, List.map_nil, List.length_cons, List.length_nil, Nat.reduceAdd, Nat.reduceSub, Nat.sub_self, List.replicate_zero, List.replicate_succ, List.append_nil, List.cons_append, List.nil_append, List.getElem?_cons_zero, List.getElem?_cons_succ, List.set_cons_zero, List.set_cons_succ, Option.some.injEq, List.cons.injEq, and_true, true_and, exists_eq_left, exists_eq_left', exists_eq_right, V.ty.injEq, V.int.injEq, V.bl.injEq, V.str.injEq, V.ref.injEq, exists_and_left, exists_const, reduceIte, reduceCtorEq, false_and, and_false, exists_false, or_false, false_or, Bool.not_true, Bool.not_false, Bool.false_eq_true, String.reduceEq, true_or, or_true, rNotT, tNNew, tNNotIn, tNGet, sNPut, tLenSetN, tPar, tAug, ipI, tDNotIn, sDPut, tDGet, tTup, tLst, tBM, tBM0, tM0, tM1, tSl, tPart, tNoPart]
      exact ⟨zb, rfl, by ((try simp only [len_app]); omega), fun p H5 s5 hp => hN _ _ ⟨s5 _ _ hD, p, hp, rfl⟩⟩
    rintro σ20 H20 ⟨hD, pd, hpd, rfl⟩
    obtain ⟨zz, hzz⟩ : ∃ zz, zz = zb ++ Str.ofString "\"" ++ one ++ Str.ofString "\n" ++ two ++ Str.ofString "\"" := ⟨_, rfl⟩
    have czz : zz.cps.toList = zb.cps.toList ++ (34 :: (one.cps.toList ++ 10 :: (two.cps.toList ++ [34]))) := by rw [hzz]; simp only [cps_app, C0, C1, C2, C3, C4, C5, C6, C7, C8, C9, C10, C11, C12, C13, C14, C15, C16, C17, C18, C19, C20, C21, C22, C23, List.append_assoc, List.cons_append, List.nil_append, List.append_nil]
    have lzz : zz.length ≤ 1000 := by rw [hzz]; ((try simp only [len_app]); omega)
    have lay : Laid (1 + (one.cps.toList.length + (10 :: (two.cps.toList ++ [34])).length)) ([tkW "put", tkB]) zz.cps.toList := by
      have t0 := (lay_putB (r := 10 :: (two.cps.toList ++ [34])) g0.1 g1.1 q1 (.inr ⟨10, _, rfl, rfl⟩))
      rw [czz, hzb]
      simp only [C0, C1, C2, C3, C4, C5, C6, C7, C8, C9, C10, C11, C12, C13, C14, C15, C16, C17, C18, C19, C20, C21, C22, C23, putBL, progBL, againL, bodyL, List.append_assoc, List.cons_append, List.nil_append, List.append_nil] at t0 ⊢
      exact t0
    have hq : 1 + (one.cps.toList.length + (10 :: (two.cps.toList ++ [34])).length) = ((34 :: (one.cps.toList ++ 10 :: (two.cps.toList ++ [34])))).length := by simp only [List.length_cons, List.length_append, List.length_nil]; omega
    obtain ⟨tp, tk, hr⟩ := bad_place (broken := zb) (rest := (34 :: (one.cps.toList ++ 10 :: (two.cps.toList ++ [34])))) (rule := Str.ofString "<work>") lay czz hq (by intro e; cases e) (fun e => run_put e)
    obtain ⟨sl, sc⟩ := place_small (z := zb) (by ((try simp only [len_app]); omega))
    refine seq_with (fun σ' H' => H' D = some (.lst [V.str u0, V.str u1, V.str u2, V.str u3, V.str u4, V.str u5, V.str u6, V.str u7, V.str u8, V.str u9]) ∧ σ' = [some (.ref a), some (.ref b), some (.str one), some (.str two), some (.ref D), some (.str zp), some (.str zt), some (.str zw), some (.str zb), some (.ref pd), xk, xk]) (fun N hN => ?_) ?_
    · simp only [cxOf, tYes, eq_self, if_true, if_false, wipe, rLenQ, rIxTQ, rIxLQ, rIxSQ, rInt1Q, rTupQ, rAppQ, rPopQ, rPopAtQ, rRevQ, rListS, rReprP, tLenSetT, tChain, tRetN, tRet, tSeq, tAsg, gName, tVar, tC, tCons, tNil, tCB, tOp, rI0, rI, tAndV, tOrV, tNotV, tIf, tTest, tB, tNot, tAnd, tOr, tIfS, tNext, tCallR, rIsK, rEq, rNe, tDrop, L2.start, List.map_cons, List.map_nil, List.length_cons, List.length_nil, Nat.reduceAdd, Nat.reduceSub, Nat.sub_self, List.replicate_zero, List.replicate_succ, List.append_nil, List.cons_append, List.nil_append, List.getElem?_cons_zero, List.getElem?_cons_succ, List.set_cons_zero, List.set_cons_succ, Option.some.injEq, List.cons.injEq, and_true, true_and, exists_eq_left, exists_eq_left', exists_eq_right, V.ty.injEq, V.int.injEq, V.bl.injEq, V.str.injEq, V.ref.injEq, exists_and_left, exists_const, reduceIte, reduceCtorEq, false_and, and_false, exists_false, or_false, false_or, Bool.not_true, Bool.not_false, Bool.false_eq_true, String.reduceEq, true_or, or_true, rNotT, tNNew, tNNotIn, tNGet, sNPut, tLenSetN, tPar, tAug, ipI, tDNotIn, sDPut, tDGet, tTup, tLst, tBM, tBM0, tM0, tM1, tSl, tPart, tNoPart]
      rw [← hzz]
      refine ⟨szle (m := 5000) (by ((try simp only [len_app]); omega)), szle (m := 5000) (by ((try simp only [len_app]); omega)), szle (m := 5000) (by ((try simp only [len_app]); omega)), szle (m := 5000) (by ((try simp only [len_app]); omega)), szle (m := 5000) (by ((try simp only [len_app]); omega)), zz, false, tp, _, _, 100, rfl, by ((try simp only [len_app]); omega), by decide, tk, hr, sl, sc, fun p H5 s5 hp => ?_⟩
      exact ⟨.ref p, .ref pd, .tuple [.int _, .int _], rfl, .tup (.inl (.inl hp)) (.cons (.int _) (.cons (.int _) .nil)), .tup (.inl (.inl (s5 _ _ hpd))) (.cons (.int _) (.cons (.int _) .nil)), rfl, Nat.le_of_ble_eq_true rfl, fun H6 s6 => ⟨true, rfl, ifF rfl (hN _ _ ⟨s6 _ _ (s5 _ _ hD), rfl⟩)⟩⟩
    clear hq czz lay tk hr sl sc lzz hpd tp
    clear hzz zz
    rintro σ21 H21 ⟨hD, rfl⟩
    refine seq_with (fun σ' H' => H' D = some (.lst [V.str u0, V.str u1, V.str u2, V.str u3, V.str u4, V.str u5, V.str u6, V.str u7, V.str u8, V.str u9]) ∧ ∃ zc : Str, zc.cps.toList = (Str.ofString "signs \"ab\";").cps.toList ++ (u2.cps.toList ++ ((Str.ofString "fun f =").cps.toList ++ (u3.cps.toList ++ (Str.ofString "put ").cps.toList))) ∧ zc.length ≤ 100 ∧ σ' = [some (.ref a), some (.ref b), some (.str one), some (.str two), some (.ref D), some (.str zp), some (.str zt), some (.str zw), some (.str zc), some (.ref pd), xk, xk]) (fun N hN => ?_) ?_
    · simp only [cxOf, tYes, eq_self, if_true, if_false, wipe, rLenQ, rIxTQ, rIxLQ, rIxSQ, rInt1Q, rTupQ, rAppQ, rPopQ, rPopAtQ, rRevQ, rListS, rReprP, tLenSetT, tChain, tRetN, tRet, tSeq, tAsg, gName, tVar, tC, tCons, tNil, tCB, tOp, rI0, rI, tAndV, tOrV, tNotV, tIf, tTest, tB, tNot, tAnd, tOr, tIfS, tNext, tCallR, rIsK, rEq, rNe, tDrop, L2.start, List.map_cons, List.map_nil, List.length_cons, List.length_nil, Nat.reduceAdd, Nat.reduceSub, Nat.sub_self, List.replicate_zero, List.replicate_succ, List.append_nil, List.cons_append, List.nil_append, List.getElem?_cons_zero, List.getElem?_cons_succ, List.set_cons_zero, List.set_cons_succ, Option.some.injEq, List.cons.injEq, and_true, true_and, exists_eq_left, exists_eq_left', exists_eq_right, V.ty.injEq, V.int.injEq, V.bl.injEq, V.str.injEq, V.ref.injEq, exists_and_left, exists_const, reduceIte, reduceCtorEq, false_and, and_false, exists_false, or_false, false_or, Bool.not_true, Bool.not_false, Bool.false_eq_true, String.reduceEq, true_or, or_true, rNotT, tNNew, tNNotIn, tNGet, sNPut, tLenSetN, tPar, tAug, ipI, tDNotIn, sDPut, tDGet, tTup, tLst, tBM, tBM0, tM0, tM1, tSl, tPart, tNoPart]
      exact ⟨_, .inl (.inl hD), _, rfl, _, rfl, szle (m := 5000) (by ((try simp only [len_app]); omega)), szle (m := 5000) (by ((try simp only [len_app]); omega)), _, .inl (.inl hD), _, rfl, _, rfl, szle (m := 5000) (by ((try simp only [len_app]); omega)), szle (m := 5000) (by ((try simp only [len_app]); omega)), hN _ _ ⟨hD, _, by simp only [cps_app, C0, C1, C2, C3, C4, C5, C6, C7, C8, C9, C10, C11, C12, C13, C14, C15, C16, C17, C18, C19, C20, C21, C22, C23, List.append_assoc, List.cons_append, List.nil_append, List.append_nil], by ((try simp only [len_app]); omega), rfl⟩⟩
    rintro σ22 H22 ⟨hD, zc, hzc, lzc, rfl⟩
    refine seq_with (fun σ' H' => H' D = some (.lst [V.str u0, V.str u1, V.str u2, V.str u3, V.str u4, V.str u5, V.str u6, V.str u7, V.str u8, V.str u9]) ∧ ∃ pd, H' pd = some (.tup [.int ((1 + rowL zc.cps.toList : Nat) : Int), .int ((1 + colL zc.cps.toList : Nat) : Int)]) ∧ σ' = [some (.ref a), some (.ref b), some (.str one), some (.str two), some (.ref D), some (.str zp), some (.str zt), some (.str zw), some (.str zc), some (.ref pd), xk, xk]) (fun N hN => ?_) ?_
    · simp only [cxOf, tYes, eq_self, if_true, if_false, wipe, rLenQ, rIxTQ, rIxLQ, rIxSQ, rInt1Q, rTupQ, rAppQ, rPopQ, rPopAtQ, rRevQ, rListS, rReprP, tLenSetT, tChain, tRetN, tRet, tSeq, tAsg, gName, tVar, tC, tCons, tNil, tCB, tOp, rI0, rI, tAndV, tOrV, tNotV, tIf, tTest, tB, tNot, tAnd, tOr, tIfS, tNext, tCallR, rIsK, rEq, rNe, tDrop, L2.start, List.map_cons, List.map_nil, List.length_cons, List.length_nil, Nat.reduceAdd, Nat.reduceSub, Nat.sub_self, List.replicate_zero, List.replicate_succ, List.append_nil, List.cons_append, List.nil_append, List.getElem?_cons_zero, List.getElem?_cons_succ, List.set_cons_zero, List.set_cons_succ, Option.some.injEq, List.cons.injEq, and_true, true_and, exists_eq_left, exists_eq_left', exists_eq_right, V.ty.injEq, V.int.injEq, V.bl.injEq, V.str.injEq, V.ref.injEq, exists_and_left, exists_const, reduceIte, reduceCtorEq, false_and, and_false, exists_false, or_false, false_or, Bool.not_true, Bool.not_false, Bool.false_eq_true, String.reduceEq, true_or, or_true, rNotT, tNNew, tNNotIn, tNGet, sNPut, tLenSetN, tPar, tAug, ipI, tDNotIn, sDPut, tDGet, tTup, tLst, tBM, tBM0, tM0, tM1, tSl, tPart, tNoPart]
      exact ⟨zc, rfl, by ((try simp only [len_app]); omega), fun p H5 s5 hp => hN _ _ ⟨s5 _ _ hD, p, hp, rfl⟩⟩
    rintro σ23 H23 ⟨hD, pd, hpd, rfl⟩
    obtain ⟨zz, hzz⟩ : ∃ zz, zz = zc ++ Str.ofString "\"" ++ two := ⟨_, rfl⟩
    have czz : zz.cps.toList = zc.cps.toList ++ (34 :: two.cps.toList) := by rw [hzz]; simp only [cps_app, C0, C1, C2, C3, C4, C5, C6, C7, C8, C9, C10, C11, C12, C13, C14, C15, C16, C17, C18, C19, C20, C21, C22, C23, List.append_assoc, List.cons_append, List.nil_append, List.append_nil]
    have lzz : zz.length ≤ 1000 := by rw [hzz]; ((try simp only [len_app]); omega)
    have lay : Laid (1 + (two.cps.toList.length + 0)) (wholeT (Str.ofString "ab") [tkW "put", tkB]) zz.cps.toList := by
      have t0 := (lay_progB g2.1 g3.1 q2)
      rw [czz, hzc]
      simp only [C0, C1, C2, C3, C4, C5, C6, C7, C8, C9, C10, C11, C12, C13, C14, C15, C16, C17, C18, C19, C20, C21, C22, C23, putBL, progBL, againL, bodyL, List.append_assoc, List.cons_append, List.nil_append, List.append_nil] at t0 ⊢
      exact t0
    have hq : 1 + (two.cps.toList.length + 0) = ((34 :: two.cps.toList)).length := by simp only [List.length_cons, List.length_append, List.length_nil]; omega
    obtain ⟨tp, tk, hr⟩ := bad_place (broken := zc) (rest := (34 :: two.cps.toList)) (rule := Str.ofString "<program>") lay czz hq (by intro e; cases e) (fun e => run_progB e)
    obtain ⟨sl, sc⟩ := place_small (z := zc) (by ((try simp only [len_app]); omega))
    refine seq_with (fun σ' H' => H' D = some (.lst [V.str u0, V.str u1, V.str u2, V.str u3, V.str u4, V.str u5, V.str u6, V.str u7, V.str u8, V.str u9]) ∧ σ' = [some (.ref a), some (.ref b), some (.str one), some (.str two), some (.ref D), some (.str zp), some (.str zt), some (.str zw), some (.str zc), some (.ref pd), xk, xk]) (fun N hN => ?_) ?_
    · simp only [cxOf, tYes, eq_self, if_true, if_false, wipe, rLenQ, rIxTQ, rIxLQ, rIxSQ, rInt1Q, rTupQ, rAppQ, rPopQ, rPopAtQ, rRevQ, rListS, rReprP, tLenSetT, tChain, tRetN, tRet, tSeq, tAsg, gName, tVar, tC, tCons, tNil, tCB, tOp, rI0, rI, tAndV, tOrV, tNotV, tIf, tTest, tB, tNot, tAnd, tOr, tIfS, tNext, tCallR, rIsK, rEq, rNe, tDrop, L2.start, List.map_cons, List.map_nil, List.length_cons, List.length_nil, Nat.reduceAdd, Nat.reduceSub, Nat.sub_self, List.replicate_zero, List.replicate_succ, List.append_nil, List.cons_append, List.nil_append, List.getElem?_cons_zero, List.getElem?_cons_succ, List.set_cons_zero, List.set_cons_succ, Option.some.injEq, List.cons.injEq, and_true, true_and, exists_eq_left, exists_eq_left', exists_eq_right, V.ty.injEq, V.int.injEq, V.bl.injEq, V.str.injEq, V.ref.injEq, exists_and_left, exists_const, reduceIte, reduceCtorEq, false_and, and_false, exists_false, or_false, false_or, Bool.not_true, Bool.not_false, Bool.false_eq_true, String.reduceEq, true_or, or_true, rNotT, tNNew, tNNotIn, tNGet, sNPut, tLenSetN, tPar, tAug, ipI, tDNotIn, sDPut, tDGet, tTup, tLst, tBM, tBM0, tM0, tM1, tSl, tPart, tNoPart]
      rw [← hzz]
      refine ⟨szle (m := 5000) (by ((try simp only [len_app]); omega)), szle (m := 5000) (by ((try simp only [len_app]); omega)), zz, true, tp, _, _, 100, rfl, by ((try simp only [len_app]); omega), by decide, tk, hr, sl, sc, fun p H5 s5 hp => ?_⟩
      exact ⟨.ref p, .ref pd, .tuple [.int _, .int _], rfl, .tup (.inl (.inl hp)) (.cons (.int _) (.cons (.int _) .nil)), .tup (.inl (.inl (s5 _ _ hpd))) (.cons (.int _) (.cons (.int _) .nil)), rfl, Nat.le_of_ble_eq_true rfl, fun H6 s6 => ⟨true, rfl, ifF rfl (hN _ _ ⟨s6 _ _ (s5 _ _ hD), rfl⟩)⟩⟩
    clear hq czz lay tk hr sl sc lzz hpd tp
    clear hzz zz
    rintro σ24 H24 ⟨hD, rfl⟩
    refine seq_with (fun σ' H' => H' D = some (.lst [V.str u0, V.str u1, V.str u2, V.str u3, V.str u4, V.str u5, V.str u6, V.str u7, V.str u8, V.str u9]) ∧ ∃ za : Str, za.cps.toList = bodyL u0.cps.toList u1.cps.toList u2.cps.toList u3.cps.toList one.cps.toList two.cps.toList (u4.cps.toList ++ 62 :: (u7.cps.toList ++ (Str.ofString "behind ").cps.toList)) ∧ za.length ≤ 300 ∧ σ' = [some (.ref a), some (.ref b), some (.str one), some (.str two), some (.ref D), some (.str zp), some (.str zt), some (.str zw), some (.str zc), some (.ref pd), some (.str za), xk]) (fun N hN => ?_) ?_
    · simp only [cxOf, tYes, eq_self, if_true, if_false, wipe, rLenQ, rIxTQ, rIxLQ, rIxSQ, rInt1Q, rTupQ, rAppQ, rPopQ, rPopAtQ, rRevQ, rListS, rReprP, tLenSetT, tChain, tRetN, tRet, tSeq, tAsg, gName, tVar, tC, tCons, tNil, tCB, tOp, rI0, rI, tAndV, tOrV, tNotV, tIf, tTest, tB, tNot, tAnd, tOr, tIfS, tNext, tCallR, rIsK, rEq, rNe, tDrop, L2.start, List.map_cons, List.map_nil, List.length_cons, List.length_nil, Nat.reduceAdd, Nat.reduceSub, Nat.sub_self, List.replicate_zero, List.replicate_succ, List.append_nil, List.cons_append, List.nil_append, List.getElem?_cons_zero, List.getElem?_cons_succ, List.set_cons_zero, List.set_cons_succ, Option.some.injEq, List.cons.injEq, and_true, true_and, exists_eq_left, exists_eq_left', exists_eq_right, V.ty.injEq, V.int.injEq, V.bl.injEq, V.str.injEq, V.ref.injEq, exists_and_left, exists_const, reduceIte, reduceCtorEq, false_and, and_false, exists_false, or_false, false_or, Bool.not_true, Bool.not_false, Bool.false_eq_true, String.reduceEq, true_or, or_true, rNotT, tNNew, tNNotIn, tNGet, sNPut, tLenSetN, tPar, tAug, ipI, tDNotIn, sDPut, tDGet, tTup, tLst, tBM, tBM0, tM0, tM1, tSl, tPart, tNoPart]
      exact ⟨szle (m := 5000) (by ((try simp only [len_app]); omega)), _, .inl (.inl hD), _, rfl, _, rfl, szle (m := 5000) (by ((try simp only [len_app]); omega)), szle (m := 5000) (by ((try simp only [len_app]); omega)), hN _ _ ⟨hD, _, by simp only [cps_app, hzp, C0, C1, C2, C3, C4, C5, C6, C7, C8, C9, C10, C11, C12, C13, C14, C15, C16, C17, C18, C19, C20, C21, C22, C23, bodyL, List.append_assoc, List.cons_append, List.nil_append, List.append_nil], by ((try simp only [len_app]); omega), rfl⟩⟩
    rintro σ25 H25 ⟨hD, za, hza, lza, rfl⟩
    refine seq_with (fun σ' H' => H' D = some (.lst [V.str u0, V.str u1, V.str u2, V.str u3, V.str u4, V.str u5, V.str u6, V.str u7, V.str u8, V.str u9]) ∧ ∃ pd, H' pd = some (.tup [.int ((1 + rowL za.cps.toList : Nat) : Int), .int ((1 + colL za.cps.toList : Nat) : Int)]) ∧ σ' = [some (.ref a), some (.ref b), some (.str one), some (.str two), some (.ref D), some (.str zp), some (.str zt), some (.str zw), some (.str zc), some (.ref pd), some (.str za), xk]) (fun N hN => ?_) ?_
    · simp only [cxOf, tYes, eq_self, if_true, if_false, wipe, rLenQ, rIxTQ, rIxLQ, rIxSQ, rInt1Q, rTupQ, rAppQ, rPopQ, rPopAtQ, rRevQ, rListS, rReprP, tLenSetT, tChain, tRetN, tRet, tSeq, tAsg, gName, tVar, tC, tCons, tNil, tCB, tOp, rI0, rI, tAndV, tOrV, tNotV, tIf, tTest, tB, tNot, tAnd, tOr, tIfS, tNext, tCallR, rIsK, rEq, rNe, tDrop, L2.start, List.map_cons, List.map_nil, List.length_cons, List.length_nil, Nat.reduceAdd, Nat.reduceSub, Nat.sub_self, List.replicate_zero, List.replicate_succ, List.append_nil, List.cons_append, List.nil_append, List.getElem?_cons_zero, List.getElem?_cons_succ, List.set_cons_zero, List.set_cons_succ, Option.some.injEq, List.cons.injEq, and_true, true_and, exists_eq_left, exists_eq_left', exists_eq_right, V.ty.injEq, V.int.injEq, V.bl.injEq, V.str.injEq, V.ref.injEq, exists_and_left, exists_const, reduceIte, reduceCtorEq, false_and, and_false, exists_false, or_false, false_or, Bool.not_true, Bool.not_false, Bool.false_eq_true, String.reduceEq, true_or, or_true, rNotT, tNNew, tNNotIn, tNGet, sNPut, tLenSetN, tPar, tAug, ipI, tDNotIn, sDPut, tDGet, tTup, tLst, tBM, tBM0, tM0, tM1, tSl, tPart, tNoPart]
      exact ⟨za, rfl, by ((try simp only [len_app]); omega), fun p H5 s5 hp => hN _ _ ⟨s5 _ _ hD, p, hp, rfl⟩⟩
    rintro σ26 H26 ⟨hD, pd, hpd, rfl⟩
    obtain ⟨zz, hzz⟩ : ∃ zz, zz = za ++ Str.ofString "\"" ++ one ++ Str.ofString "\n\"" ++ two ++ Str.ofString "\";" := ⟨_, rfl⟩
    have czz : zz.cps.toList = za.cps.toList ++ (34 :: (one.cps.toList ++ 10 :: 34 :: (two.cps.toList ++ [34, 59]))) := by rw [hzz]; simp only [cps_app, C0, C1, C2, C3, C4, C5, C6, C7, C8, C9, C10, C11, C12, C13, C14, C15, C16, C17, C18, C19, C20, C21, C22, C23, List.append_assoc, List.cons_append, List.nil_append, List.append_nil]
    have lzz : zz.length ≤ 1000 := by rw [hzz]; ((try simp only [len_app]); omega)
    have lay : Laid (1 + (one.cps.toList.length + (10 :: 34 :: (two.cps.toList ++ [34, 59])).length)) (bodyT one two [tkM 62, tkW "behind", tkB]) zz.cps.toList := by
      have t0 := (lay_body g0.1 g1.1 g2.1 g3.1 q1 q2 (lay_again (r := 10 :: 34 :: (two.cps.toList ++ [34, 59])) g4.1 g7.1 q1 (.inr ⟨10, _, rfl, rfl⟩)))
      rw [czz, hza]
      simp only [C0, C1, C2, C3, C4, C5, C6, C7, C8, C9, C10, C11, C12, C13, C14, C15, C16, C17, C18, C19, C20, C21, C22, C23, putBL, progBL, againL, bodyL, List.append_assoc, List.cons_append, List.nil_append, List.append_nil] at t0 ⊢
      exact t0
    have hq : 1 + (one.cps.toList.length + (10 :: 34 :: (two.cps.toList ++ [34, 59])).length) = ((34 :: (one.cps.toList ++ 10 :: 34 :: (two.cps.toList ++ [34, 59])))).length := by simp only [List.length_cons, List.length_append, List.length_nil]; omega
    obtain ⟨tp, tk, hr⟩ := bad_place (broken := za) (rest := (34 :: (one.cps.toList ++ 10 :: 34 :: (two.cps.toList ++ [34, 59])))) (rule := Str.ofString "<work>") lay czz hq (by intro e; cases e) (fun e => run_again e)
    obtain ⟨sl, sc⟩ := place_small (z := za) (by ((try simp only [len_app]); omega))
    simp only [cxOf, tYes, eq_self, if_true, if_false, wipe, rLenQ, rIxTQ, rIxLQ, rIxSQ, rInt1Q, rTupQ, rAppQ, rPopQ, rPopAtQ, rRevQ, rListS, rReprP, tLenSetT, tChain, tRetN, tRet, tSeq, tAsg, gName, tVar, tC, tCons, tNil, tCB, tOp, rI0, rI, tAndV, tOrV, tNotV, tIf, tTest, tB, tNot, tAnd, tOr, tIfS, tNext, tCallR, rIsK, rEq, rNe, tDrop, L2.start, List.map_cons, List.map_nil, List.length_cons, List.length_nil, Nat.reduceAdd, Nat.reduceSub, Nat.sub_self, List.replicate_zero, List.replicate_succ, List.append_nil, List.cons_append, List.nil_append, List.getElem?_cons_zero, List.getElem?_cons_succ, List.set_cons_zero, List.set_cons_succ, Option.some.injEq, List.cons.injEq, and_true, true_and, exists_eq_left, exists_eq_left', exists_eq_right, V.ty.injEq, V.int.injEq, V.bl.injEq, V.str.injEq, V.ref.injEq, exists_and_left, exists_const, reduceIte, reduceCtorEq, false_and, and_false, exists_false, or_false, false_or, Bool.not_true, Bool.not_false, Bool.false_eq_true, String.reduceEq, true_or, or_true, rNotT, tNNew, tNNotIn, tNGet, sNPut, tLenSetN, tPar, tAug, ipI, tDNotIn, sDPut, tDGet, tTup, tLst, tBM, tBM0, tM0, tM1, tSl, tPart, tNoPart]
    rw [← hzz]
    refine ⟨szle (m := 5000) (by ((try simp only [len_app]); omega)), szle (m := 5000) (by ((try simp only [len_app]); omega)), szle (m := 5000) (by ((try simp only [len_app]); omega)), szle (m := 5000) (by ((try simp only [len_app]); omega)), szle (m := 5000) (by ((try simp only [len_app]); omega)), zz, false, tp, _, _, 100, rfl, by ((try simp only [len_app]); omega), by decide, tk, hr, sl, sc, fun p H5 s5 hp => ?_⟩
    exact ⟨.ref p, .ref pd, .tuple [.int _, .int _], rfl, .tup (.inl (.inl hp)) (.cons (.int _) (.cons (.int _) .nil)), .tup (.inl (.inl (s5 _ _ hpd))) (.cons (.int _) (.cons (.int _) .nil)), rfl, Nat.le_of_ble_eq_true rfl, fun H6 s6 => q _⟩
end
end K02

namespace K02
open PySem PySem.Spec PyProof.Rows L2 Sg
theorem facts {P : Program} [PF P] {w : World} {K : PySem.W.Frag} {h : Heap} {mg : Str → Option Value} {f : Addr} (X : K.In h) (G : h.Ns mainGlobals mg) (hfa : mg ("law" : Str) = some (.ref f)) (c : SaysZ exB fas fns tabs sups w K) :
    ∃ fd : FuncData, (∀ (s : Shared) (v : Value), BindsTo s fd ⟨[v], []⟩ [("script", v)]) ∧ ∀ base : Heap, K.In base → base.Ns mainGlobals mg → FnOk P w K mg base L2.CX0 12 f fd ["script"] (spLaw K) := by
  have T := tx_mk X G c.y.1 c.y.2 (fun i {d} h => c.sup i h)
  obtain ⟨fd0, F0⟩ := T.d_law
  have same := hfa.symm.trans T.g_law
  cases same
  have bound := FunD.bindsA (ps := ["script"]) F0 fun _ _ _ _ _ _ us hl => match us, hl with | [_], _ => rfl
  exact ⟨fd0, fun s v => bound s [v] rfl, fun base _ _ => fn_law T F0⟩
end K02
open PySem PySem.W PySem.Calls PyProof.Rows
theorem PySem.Challenge.cw_signwright_k01_quotes_and_remarks_holds : PySem.Challenge.rw_signwright_k01_quotes_and_remarks.Holds := by
  w_on; o_law
  refine HandSHeadRun.head_any (r := OpenLaw.row PySem.Challenge.rw_signwright_k01_quotes_and_remarks) (q := view (OpenLaw.row PySem.Challenge.rw_signwright_k01_quotes_and_remarks).prog [49]) (H := K02.hk) (ob := K02.ob) (M := 6000) (loose := K02.loose) (d := HandSHeadRun.topDef (OpenLaw.row PySem.Challenge.rw_signwright_k01_quotes_and_remarks).prog 49) (kwd := []) K02.ob_eq
    (by kernel_rfl) (fun s => by kernel_rfl) K02.run (by kernel_rfl) (by kernel_rfl) (by kernel_rfl) (by rfl) (by first | assumption | decide +kernel) (by decide +kernel) ⟨rfl, rfl, rfl, rfl, rfl, by decide +kernel⟩ ?hw ?hc
  case hw => w_witness2
  case hc =>
    refine L2.walk_ofE (l := PySem.Challenge.rw_signwright_k01_quotes_and_remarks) (n := 63) (k := 12) (x := "script") (CX := L2.CX0) rfl (by decide) (by kernel_rfl) ⟨rfl, by decide, by decide⟩ ?F (fun _ _ _ _ z => z)
    intro w mg fa h Y G hmg0
    obtain ⟨K, KX, said⟩ := Y
    haveI : K02.PF (PySem.Challenge.rw_signwright_k01_quotes_and_remarks).prog := ⟨by kernel_rfl, by kernel_rfl⟩
    have hmg : mg ("law" : PySem.Str) = some (.ref fa) := by
      have name_is : (HandSHeadRun.topDef (OpenLaw.row PySem.Challenge.rw_signwright_k01_quotes_and_remarks).prog 49).name = ("law" : PySem.Str) := by kernel_rfl
      rw [← name_is]
      exact hmg0
    obtain ⟨fd, hb, hF⟩ := K02.facts (P := (PySem.Challenge.rw_signwright_k01_quotes_and_remarks).prog) (w := w) KX G hmg said
    exact ⟨K, fd, K02.spLaw K, KX, hb, fun H a xs _ _ hS => ⟨a, xs, rfl, hS, fun _ => rfl⟩, hF⟩
