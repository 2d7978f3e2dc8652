import PyProof.Rows.All
import Wide.All
import OpenK.AllK
import Wide.FinOn
import Lean
import HandS.ForMost
import HandS.ForExc
import HandS.Defaults
import HandS.Head0
import HandS.Head1
import HandS.Head2
import HandS.HeadEnd
import HandS.HeadHook1
import HandS.HeadHook2
import HandS.IsInst
import HandS.TupAny
import HandS.Style
import HandS.TryMany
import HandS.ExcIs
import PyProof.Rows.SetFrom
import PyProof.StrWalks
import KE.GoesEnum
import KE.KDictDisplayH
import PyProof.ListStr
import PyProof.StrLawsRepr
import PyProof.Rows.StrFirst
import PySem.Challenge.RW_signwright_k36_first_texts
set_option Elab.async false
set_option linter.all false
set_option maxRecDepth 100000
set_option maxHeartbeats 0
namespace Sg
open PySem PySem.Spec PyProof.Rows L2
/-! ### plain data by kinds; isinstance of built-in classes -/
abbrev FnP (K : PySem.W.Frag) (x : Str) (st : Stmt) (f : Addr) (fd : FuncData) : Prop := FunD K x x (defArgs st) (defBody st) (defScope st) [] [] f fd
inductive Kd (K : PySem.W.Frag) (H : Hp) : V → Prop where
  | int (i : Int) : Kd K H (.int i)
  | bl (b : Bool) : Kd K H (.bl b)
  | non : Kd K H .non
  | str (x : Str) : Kd K H (.str x)
  | tup {a : Addr} {xs : List V} (h : SqT K H a xs) : Kd K H (.ref a)
def kdn : V → String
  | .int _ => "int"
  | .bl _ => "bool"
  | .non => "NoneType"
  | .str _ => "str"
  | _ => "tuple"
theorem sqT_ty {K : PySem.W.Frag} {H : Hp} {a : Addr} {xs : List V} (h : SqT K H a xs) : TyX K H (.ref a) (.type "tuple") := by
  rcases h with (h | ⟨o, h⟩) | ⟨o, its, n, h1, h2, _⟩
  · exact .base (.tup h)
  · exact .fTuple h
  · exact .kTuple h1 h2
theorem Kd.ty {K : PySem.W.Frag} {H : Hp} {x : V} (h : Kd K H x) : TyX K H x (.type (kdn x)) := by
  cases h with
  | int i => exact .base (.int i)
  | bl i => exact .base (.bl i)
  | non => exact .base .non
  | str i => exact .base (.str i)
  | tup h => exact sqT_ty h
def isaB (n : String) (x : V) : Bool := match x with
  | .int _ => n == "int"
  | .bl _ => n == "int" || n == "bool"
  | .str _ => n == "str"
  | .ref _ => n == "tuple"
  | _ => false
theorem Kd.kit {K : PySem.W.Frag} {H : Hp} {x : V} (h : Kd K H x) {n : String} (hn : n = "int" ∨ n = "bool" ∨ n = "str" ∨ n = "tuple") : PySem.W.kitOne K (.type (kdn x)) (.type n) = some (isaB n x) := by
  refine kit_ty ?_
  have a1 : kitB "int" "int" = some true ∧ kitB "int" "bool" = some false ∧ kitB "int" "str" = some false ∧ kitB "int" "tuple" = some false := by decide +kernel
  have a2 : kitB "bool" "int" = some true ∧ kitB "bool" "bool" = some true ∧ kitB "bool" "str" = some false ∧ kitB "bool" "tuple" = some false := by decide +kernel
  have a3 : kitB "NoneType" "int" = some false ∧ kitB "NoneType" "bool" = some false ∧ kitB "NoneType" "str" = some false ∧ kitB "NoneType" "tuple" = some false := by decide +kernel
  have a4 : kitB "str" "int" = some false ∧ kitB "str" "bool" = some false ∧ kitB "str" "str" = some true ∧ kitB "str" "tuple" = some false := by decide +kernel
  have a5 : kitB "tuple" "int" = some false ∧ kitB "tuple" "bool" = some false ∧ kitB "tuple" "str" = some false ∧ kitB "tuple" "tuple" = some true := by decide +kernel
  rcases hn with rfl | rfl | rfl | rfl <;> cases h <;> simp only [kdn, isaB, a1, a2, a3, a4, a5] <;> decide
/-- isinstance(x, T), x plain data, T one of int, bool, str, tuple -/
def rIsK (K : PySem.W.Frag) : List V → Hp → VK → Prop := fun xs H Q => match xs with
  | [x, .ty n] => (n = "int" ∨ n = "bool" ∨ n = "str" ∨ n = "tuple") ∧ Kd K H x ∧ Q (.bl (isaB n x)) H
  | _ => False
theorem call_isK {X : Cx} : CallR X (.builtin "isinstance") (rIsK X.K) := by
  intro pins s σ H xs us Q I r h
  match xs, h with
  | [x, .ty n], ⟨hn, hx, q⟩ => exact call_isi pins s σ H _ us Q I r ⟨x, .ty n, _, _, _, rfl, .ty n, hx.ty, hx.kit hn, q⟩
/-! ### defs, and calls of them -/
structure Dk (P : Program) (w : World) (K : PySem.W.Frag) (mg : Str → Option Value) (base : Heap) (k : Nat) (x : Str) (ps : List Str) (sp : Sp) : Prop where
  ok : ∃ fd, FnOk P w K mg base (L2.CX P w) k (He.ga K x) fd ps sp ∧ Binds K fd ps []
  kp : PySem.W.keepIn K (.ref (He.ga K x)) = true
  gm : mg x = some (.ref (He.ga K x))
def tCallR (sp : Sp) (W : WX) (t : TA) : TE := fun σ H Q => t σ H fun vs H1 => sp vs H1 Q fun cls d H' => W cls d σ H'
theorem pe_callR {X : Cx} {k : Nat} {x : Str} {ps : List Str} {sp : Sp} {W : WX} {e : Expr} {es : List Expr} {t : TA} {p pos : Pos} (D : Dk X.prog X.w X.K X.mg X.base k x ps sp) (hr : Room k X.A) (tk : Takes X W) (ha : PA X (e :: es) t) (hg : Gl X x := by rfl)
    (hdb : (x == ("__debug__" : Str)) = false := by decide) (he : starEach (e :: es) X.env = (false, eval e X.env) :: starEach es X.env := by rfl) (hpl : (backTo pos (starEach es X.env)).any (·.1) = false := by rfl) :
    PE X (.Call (.Name x p) (e :: es) [] pos) (tCallR sp W t) := by
  obtain ⟨fd, F, B⟩ := D.ok
  exact pe_callS (E := fun σ cls d H' => W cls d σ H') F hr hg D.gm D.kp B (fun σ => passAt tk σ) ha hdb he hpl
structure ExcF (K : PySem.W.Frag) (mg : Str → Option Value) (x : Str) : Prop where
  gm : mg x = some (.ref (He.ga K x))
  ex : PySem.W.excIn K (He.ga K x) He.veBase "ValueError.__new__" = true
  kp : PySem.W.keepIn K (.ref (He.ga K x)) = true
  sb : PySem.W.subIn K (.ref (He.ga K x)) (.type "BaseException") = some true
  tc : PySem.W.typeIn K (.ref (He.ga K x)) = some (.type "type")
theorem excF_mk {K : PySem.W.Frag} {mg : Str → Option Value} {x : Str} (g : mg x = some (.ref (He.ga K x))) (c : (He.Fa.exc x).ok K = true) : ExcF K mg x :=
  let ⟨h1, h2, h3, h4⟩ := He.exc_ok c
  ⟨g, h1, h2, h3, h4⟩
theorem ExcF.rs {X : Cx} {mg : Str → Option Value} {x : Str} (h : ExcF X.K mg x) : Raises X (.ref (He.ga X.K x)) := raises_own h.sb h.tc
/-! ### the hook of facts, with one Bool more -/
def obsX (ex : PySem.W.Frag → Bool) (fa : List He.Fa) (fn : List He.DefD) (K : PySem.W.Frag) : Bool × He.AlD := (ex K, He.obsD fa fn K)
def obsXG (n : Nat) (ex : PySem.W.Frag → Bool) (fa : List He.Fa) (fn : List He.DefD) (g : Addr → Option Obj) : Bool × He.AlD := obsX ex fa fn (He.frG g (He.asD g n))
def SaysX (ex : PySem.W.Frag → Bool) (fa : List He.Fa) (fn : List He.DefD) (K : PySem.W.Frag) : Prop := He.SaysD fa fn K ∧ ex K = true
def hookX (n : Nat) (ex : PySem.W.Frag → Bool) (fa : List He.Fa) (fn : List He.DefD) : PySem.W.Hook where
  α := Bool × He.AlD
  obs := fun s => obsXG n ex fa fn s.heap.get?
  val := fun _ => (true, He.valD fn)
  says := fun _ h => ∃ K : PySem.W.Frag, K.In h ∧ SaysX ex fa fn K
  of := fun _ _ e => ⟨_, He.frG_in, congrArg (fun z : Bool × He.AlD => z.2) e, congrArg (fun z : Bool × He.AlD => z.1) e⟩
  keeps := fun _ _ _ ⟨K, hK, c⟩ k => ⟨K, PySem.W.Frag.In.keeps hK k, c⟩
theorem obsXG_eq {n : Nat} {ex : PySem.W.Frag → Bool} {fa : List He.Fa} {fn : List He.DefD} {g : Addr → Option Obj} {s : Shared} (h : ∀ a, g a = s.heap.get? a) : obsXG n ex fa fn g = (hookX n ex fa fn).obs s := by
  have e : g = s.heap.get? := funext h
  rw [e]; rfl
/-! ### heaps -/
/-- what stood but the list at p is as it was -/
def But (p : Addr) (H H' : Hp) : Prop := ∀ b o, b ≠ p → H b = some o → H' b = some o
/-- tuples stay -/
def TK (H H' : Hp) : Prop := (∀ b xs, H b = some (.tup xs) → H' b = some (.tup xs)) ∧ ∀ b o u, H b = some (.frz o u) → H' b = some (.frz o u)
theorem TK.refl (H : Hp) : TK H H := ⟨fun _ _ h => h, fun _ _ _ h => h⟩
theorem TK.trans {H H1 H2 : Hp} (a : TK H H1) (b : TK H1 H2) : TK H H2 := ⟨fun c xs h => b.1 c xs (a.1 c xs h), fun c o u h => b.2 c o u (a.2 c o u h)⟩
theorem TK.of_same {H H' : Hp} (s : Same H H') : TK H H' := ⟨fun b _ h => s b _ h, fun b _ _ h => s b _ h⟩
theorem TK.of_but {H H' : Hp} {p : Addr} {xs : List V} (s : But p H H') (hp : H p = some (.lst xs)) : TK H H' :=
  ⟨fun b _ h => s b _ (fun z => by rw [z, hp] at h; cases h) h, fun b _ _ h => s b _ (fun z => by rw [z, hp] at h; cases h) h⟩
theorem TK.sqT {K : PySem.W.Frag} {H H' : Hp} {a : Addr} {xs : List V} (k : TK H H') (h : SqT K H a xs) : SqT K H' a xs := by
  rcases h with (h | ⟨o, h⟩) | h
  · exact .inl (.inl (k.1 _ _ h))
  · exact .inl (.inr ⟨o, k.2 _ _ _ h⟩)
  · exact .inr h
theorem Same.sqT {K : PySem.W.Frag} {H H' : Hp} {a : Addr} {xs : List V} (e : Same H H') (h : SqT K H a xs) : SqT K H' a xs := (TK.of_same e).sqT h
theorem same_upd {H : Hp} {p : Addr} {o : HO} (h : H p = none) : Same H (upd H p o) := fun b x e => by
  rw [upd_ne (ne_of_none e h)]
  exact e
theorem But.refl (p : Addr) (H : Hp) : But p H H := fun _ _ _ h => h
theorem But.trans {p : Addr} {H H1 H2 : Hp} (a : But p H H1) (b : But p H1 H2) : But p H H2 := fun c o n h => b c o n (a c o n h)
theorem But.of_same {p : Addr} {H H' : Hp} (s : Same H H') : But p H H' := fun b o _ h => s b o h
theorem But.upd {p : Addr} {H : Hp} {o : HO} : But p H (upd H p o) := fun b _ n h => by rw [upd_ne n]; exact h
/-! ### loops over any iterator of a known number of turns -/
theorem for_gen {J : It} {n : Nat} {g : TG} {tb : TS} {D : Ends} {σ : L2.St} {H : Hp} (Pv : Nat → L2.St → Hp → Prop) (h0 : Pv 0 σ H) (hg : ∀ i σ H, i < n → Pv i σ H → J.go i H) (he : ∀ σ H, Pv n σ H → J.stop n H)
    (hs : ∀ i x σ H H', i < n → Pv i σ H → J.yld i H x H' → g x σ H' fun σ2 H2 => tb { D with nx := Pv (i + 1), ct := Pv (i + 1), bk := D.nx } σ2 H2) (hd : ∀ σ H, Pv n σ H → D.nx σ H) :
    ∃ W : Nat → Nat → L2.St → Hp → Prop, (∃ m, W 0 m σ H) ∧ ∀ i m σ H, W i m σ H →
      (J.stop i H ∧ D.nx σ H) ∨ (J.go i H ∧ ∃ N : L2.St → Hp → Prop, (∀ σ' H', N σ' H' → ∃ m', m' < m ∧ W (i + 1) m' σ' H') ∧ ∀ x H', J.yld i H x H' → g x σ H' fun σ2 H2 => tb { D with nx := N, ct := N, bk := D.nx } σ2 H2) := by
  refine ⟨fun i m σ H => m + i = n ∧ Pv i σ H, ⟨n, rfl, h0⟩, fun i m σ H hW => ?_⟩
  obtain ⟨e, p⟩ := hW
  cases m with
  | zero =>
    have e2 : i = n := by omega
    subst e2
    exact .inl ⟨he σ H p, hd σ H p⟩
  | succ m =>
    have hlt : i < n := by omega
    exact .inr ⟨hg i σ H hlt p, Pv (i + 1), fun σ' H' p' => ⟨m, Nat.lt_succ_self m, by omega, p'⟩, fun x H' y => hs i x σ H H' hlt p y⟩
theorem lc_gen {J : It} {n : Nat} {g : TG} {tt : TT} {te : TE} {vs : List Nat} {σ : L2.St} {H1 : Hp} {D : Addr} {Qd : Hp → Prop} (Pv : Nat → Hp → Prop) (h0 : Pv 0 (upd H1 D (.lst []))) (hg : ∀ i H, i < n → Pv i H → J.go i H) (he : ∀ H, Pv n H → J.stop n H)
    (hs : ∀ i x H H', i < n → Pv i H → J.yld i H x H' → g x (wipe σ vs) H' fun σ2 H2 => wipe σ2 vs = wipe σ vs ∧ tt σ2 H2 fun b H3 =>
      if b = true then te σ2 H3 fun y H4 => ∃ acc, H4 D = some (.lst acc) ∧ acc.length < sizeLine ∧ Pv (i + 1) (upd H4 D (.lst (acc ++ [y]))) else Pv (i + 1) H3) (hd : ∀ H, Pv n H → Qd H) :
    ∃ W : Nat → Nat → Hp → Prop, (∃ m, W 0 m (upd H1 D (.lst []))) ∧ ∀ i m H, W i m H →
      (J.stop i H ∧ Qd H) ∨ (J.go i H ∧ ∃ Nx : Hp → Prop, (∀ H', Nx H' → ∃ m', m' < m ∧ W (i + 1) m' H') ∧ ∀ x H', J.yld i H x H' → g x (wipe σ vs) H' fun σ2 H2 => wipe σ2 vs = wipe σ vs ∧ tt σ2 H2 fun b H3 =>
        if b = true then te σ2 H3 fun y H4 => ∃ acc, H4 D = some (.lst acc) ∧ acc.length < sizeLine ∧ Nx (upd H4 D (.lst (acc ++ [y]))) else Nx H3) := by
  refine ⟨fun i m H => m + i = n ∧ Pv i H, ⟨n, rfl, h0⟩, fun i m H hW => ?_⟩
  obtain ⟨e, p⟩ := hW
  cases m with
  | zero =>
    have e2 : i = n := by omega
    subst e2
    exact .inl ⟨he H p, hd H p⟩
  | succ m =>
    have hlt : i < n := by omega
    exact .inr ⟨hg i H hlt p, Pv (i + 1), fun H' p' => ⟨m, Nat.lt_succ_self m, by omega, p'⟩, fun x H' y => hs i x H H' hlt p y⟩
end Sg

/-! set(..) of a text: its signs, each once -/
namespace Sg
open PySem
section
variable {κ : Type} [DecidableEq κ]
def addOne (acc : List κ) (v : κ) : List κ := if v ∈ acc then acc else acc ++ [v]
def once (l : List κ) : List κ := l.foldl addOne []
theorem addOne_mem {acc : List κ} {v k : κ} : k ∈ addOne acc v ↔ k ∈ acc ∨ k = v := by
  unfold addOne
  by_cases h : v ∈ acc
  · rw [if_pos h]
    exact ⟨.inl, fun q => q.elim id fun e => e ▸ h⟩
  · rw [if_neg h, List.mem_append, List.mem_singleton]
theorem addOne_len {acc : List κ} {v : κ} : (addOne acc v).length ≤ acc.length + 1 := by
  unfold addOne
  by_cases h : v ∈ acc
  · rw [if_pos h]; exact Nat.le_succ _
  · rw [if_neg h, List.length_append]; exact Nat.le_refl _
theorem once_snoc (l : List κ) (v : κ) : once (l ++ [v]) = addOne (once l) v := by
  unfold once
  rw [List.foldl_append]
  rfl
theorem once_len (l : List κ) : (once l).length ≤ l.length := by
  have h : ∀ (l acc : List κ), (l.foldl addOne acc).length ≤ acc.length + l.length := by
    intro l
    induction l with
    | nil => intro acc; exact Nat.le_refl _
    | cons a r ih =>
      intro acc
      have h1 := ih (addOne acc a)
      have h2 := addOne_len (acc := acc) (v := a)
      show ((r.foldl addOne (addOne acc a))).length ≤ acc.length + (r.length + 1)
      omega
  have h1 := h l []
  rw [List.length_nil, Nat.zero_add] at h1
  exact h1
theorem once_mem (l : List κ) (k : κ) : k ∈ once l ↔ k ∈ l := by
  have h : ∀ (l acc : List κ), k ∈ l.foldl addOne acc ↔ k ∈ acc ∨ k ∈ l := by
    intro l
    induction l with
    | nil => intro acc; simp
    | cons a r ih =>
      intro acc
      show k ∈ r.foldl addOne (addOne acc a) ↔ _
      rw [ih, addOne_mem, List.mem_cons]
      exact or_assoc
  have h1 := h l []
  simpa [once] using h1
theorem once_nodup_self {l : List κ} (h : l.Nodup) : once l = l := by
  have key : ∀ (r acc : List κ), (acc ++ r).Nodup → r.foldl addOne acc = acc ++ r := by
    intro r
    induction r with
    | nil => intro acc _; simp
    | cons a r ih =>
      intro acc hn
      have hna : a ∉ acc := fun hm => by
        have := List.nodup_append.mp hn
        exact this.2.2 a hm a (List.mem_cons_self ..) rfl
      show r.foldl addOne (addOne acc a) = _
      have e : addOne acc a = acc ++ [a] := if_neg hna
      rw [e, ih (acc ++ [a]) (by simpa using hn)]
      simp
  have := key l [] (by simpa using h)
  simpa [once] using this
end
section
variable {prog : Program} {w : World} {A : Around} {R : Result → Shared → Prop} {it : Addr} {fp wr : List Addr} {G : Array GenState → Array GenState → Prop} {n : Nat} {Pk : Nat → Value → Prop} {Sx : Nat → Shared → Prop}
variable {κ : Type} [DecidableEq κ]
def upto (val : Nat → κ) (i : Nat) : List κ := once ((List.range i).map val)
theorem upto_zero (val : Nat → κ) : upto val 0 = [] := rfl
theorem upto_succ (val : Nat → κ) (i : Nat) : upto val (i + 1) = addOne (upto val i) (val i) := by
  unfold upto
  rw [List.range_succ, List.map_append, List.map_singleton, once_snoc]
theorem upto_len (val : Nat → κ) (i : Nat) : (upto val i).length ≤ i := by
  have h := once_len ((List.range i).map val)
  rw [List.length_map, List.length_range] at h
  exact h
theorem setOf_as {knd : KeyKind prog w κ} {h : Heap} {a : Addr} {S T : κ → Bool} {m q : Nat} (x : h.SetOf knd a S m) (e : ∀ k, S k = T k) (en : m = q) : h.SetOf knd a T q := by
  obtain rfl : S = T := funext e
  subst en
  exact x
theorem upto_add (val : Nat → κ) (i : Nat) (k : κ) : (decide (k ∈ upto val i) || decide (k = val i)) = decide (k ∈ upto val (i + 1)) := by
  rw [upto_succ]
  by_cases h : k ∈ addOne (upto val i) (val i)
  · rw [decide_eq_true h]
    rcases addOne_mem.mp h with q | q
    · simp [q]
    · simp [q]
  · rw [decide_eq_false h]
    have h1 : ¬ k ∈ upto val i := fun q => h (addOne_mem.mpr (.inl q))
    have h2 : ¬ k = val i := fun q => h (addOne_mem.mpr (.inr q))
    simp [h1, h2]
theorem upto_count (val : Nat → κ) (i : Nat) : (if decide (val i ∈ upto val i) = true then (upto val i).length else (upto val i).length + 1) = (upto val (i + 1)).length := by
  rw [upto_succ]
  unfold addOne
  by_cases h : val i ∈ upto val i
  · rw [decide_eq_true h, if_pos rfl, if_pos h]
  · rw [decide_eq_false h, if_neg Bool.false_ne_true, if_neg h, List.length_append]
    rfl
/-- set.update over any walk of values that are keys of a kind -/
theorem code_upd {knd : KeyKind prog w κ} (Wk : WalksS prog w A.in1 it fp wr G n Pk Sx) (a : Addr) (haf : a ∉ fp) (val : Nat → κ) (hval : ∀ i v, Pk i v → knd.is (val i) v = true ∧ v.scannable = true) (hb : n + 1 < scanBound) :
    ∀ (m i : Nat) (s : Shared), m + i = n → Sx i s → s.heap.SetOf knd a (fun k => decide (k ∈ upto val i)) (upto val i).length →
      (∀ s', Moved (a :: wr) G s s' → s'.heap.SetOf knd a (fun k => decide (k ∈ upto val n)) (upto val n).length → R (.ok (.ret .none)) s') →
      codeAny (model prog w) A (.builtin "set.update.loop" ⟨[.ref a, .ref it], []⟩) R s := by
  have haw : a ∉ wr := fun q => haf (Wk.sub _ q)
  have sub : ∀ b ∈ wr, b ∈ a :: wr := fun b q => List.mem_cons_of_mem _ q
  have keep : ∀ {s s' : Shared} {S : κ → Bool} {q : Nat}, Moved wr G s s' → s.heap.SetOf knd a S q → s'.heap.SetOf knd a S q := fun hm ⟨o, es, ep, t, ho, r⟩ => ⟨o, es, ep, t, hm.heap a _ haw ho, r⟩
  intro m
  induction m with
  | zero =>
    intro i s e hst hS hR
    obtain rfl : i = n := by omega
    refine codeAny_builtin PyProof.Rows.F.entry_set_update_loop ?_
    rw [Around.under_plainId PyProof.Rows.F.plain_set_update_loop _]
    refine wpAny_bind (Wk.done s _ _ hst fun s' hm => ?_)
    show wpAny _ A.in1 (ret Value.none) _ _ s'
    exact wpAny_pure (hR s' (hm.mono sub) (keep hm hS))
  | succ m ih =>
    intro i s e hst hS hR
    have hlt : i < n := by omega
    refine codeAny_builtin PyProof.Rows.F.entry_set_update_loop ?_
    rw [Around.under_plainId PyProof.Rows.F.plain_set_update_loop _]
    refine wpAny_bind (Wk.item i s _ _ hlt hst fun v s' hP hst' hm => ?_)
    obtain ⟨hk, hsc⟩ := hval i v hP
    show wpAny _ A.in1 (holding [v] (setAdd a v) >>= _) _ _ s'
    refine wpAny_bind (wpAny_holding ?_)
    unfold setAdd
    refine wpAny_holding (wpAny_bind (knd.pyHash hk ?_))
    have room : (upto val i).length + 1 < scanBound := by
      have := upto_len val i
      omega
    have hS1 := keep hm hS
    refine wpAny_setAddHashed_of (knd := knd) (s := { s' with toks := s'.toks + 1 }) hk hsc hS1 room fun h' sb hS2 => ?_
    have hS3 := setOf_as hS2 (upto_add val i) (upto_count val i)
    refine wpAny_pure ⟨plainId_quiet PyProof.Rows.F.plain_set_update_loop _, ih (i + 1) _ (by omega) (Wk.frame _ s' _ _ hst' (Nat.le_succ _) fun b q o z => ?_) hS3 fun s2 hm2 hS4 => ?_⟩
    · rw [sb.2 b fun z2 : b = a => haf (by rw [← z2]; exact q)]
      exact z
    · refine hR s2 (Moved.trans Wk.gtrans ((hm.mono sub).then_heap (Nat.le_succ _) fun b o q z => ?_) hm2) hS4
      rw [sb.2 b fun z2 : b = a => q (by rw [z2]; exact List.mem_cons_self)]
      exact z
end
namespace FX
theorem sub_str_set : isSubtype (.type "str") (.type "set") = pure false := by rw [isSubtype_type]; kernel_rfl
theorem sub_str_frozenset : isSubtype (.type "str") (.type "frozenset") = pure false := by rw [isSubtype_type]; kernel_rfl
end FX
def sgn (c : Nat) : Str := ⟨#[c]⟩
section
variable {prog : Program} {w : World} {A : Around} {E : Value → Shared → Prop} {s : Shared}
theorem call_set_text {x : Str} {u : Tok} {Q : Value → Shared → Prop} (hh : A.handled = none) (hb : x.cps.size + 1 < scanBound)
    (h : ∀ (h' : Heap) (tk : Nat), h'.SetOf (strKind prog w) s.heap.objs.size (fun k => decide (k ∈ upto (fun i => sgn (x.cps.getD i 0)) x.cps.size)) (upto (fun i => sgn (x.cps.getD i 0)) x.cps.size).length →
      (∀ b o, b < s.heap.objs.size → s.heap.get? b = some o → h'.get? b = some o) → Q (.ref s.heap.objs.size) { s with heap := h', toks := tk }) :
    wpAny (model prog w) A (call (.type "set") [.str x u]) Q E s := by
  obtain ⟨c, tl, hmro⟩ := F.called_set.mro
  have hmade := F.called_set.made
  have hsub := F.called_set.sub
  refine wpAny_call (codeAny_of_tree ?_)
  show wpAny _ _ (callAny (.type "set") _) _ _ _
  refine wpAny_pure ⟨Code.quiet_builtin _ (by decide +kernel), codeAny_builtin F.entry_type_call ?_⟩
  rw [Around.under_plain (weight_type_call_type "set" [.str x u] []) rfl]
  have h1 := F.called_set.notType
  have h2 := F.called_set.canCreate
  have hct := F.typeCall_set_1 (.str x u)
  repeat (any_goals (first | assumption | wp_step))
  have fresh : ∀ led : Bool, (s.heap.push { cls := .type "set", dict := none, data := .set #[] 0 (.fresh 0 0 led) }).get? s.heap.objs.size = some { cls := .type "set", dict := none, data := .set #[] 0 (.fresh 0 0 led) } := fun led => Heap.get?_push_size _ rfl
  refine codeAny_mono (code_set_new_1 (.str x u) (E := E) (Q₁ := fun z s₁ => ∃ led : Bool, z = .ref s.heap.objs.size ∧ s₁ = { s with heap := s.heap.push { cls := .type "set", dict := none, data := .set #[] 0 (.fresh 0 0 led) } }) fun led => ⟨led, rfl, rfl⟩) fun r s₁ hr => ?_
  cases r with
  | error e => exact hr
  | ok fl =>
    cases fl with
    | ret z =>
      obtain ⟨led, rfl, rfl⟩ := hr
      have hT : Shared.TypeIs { s with heap := s.heap.push { cls := .type "set", dict := none, data := .set #[] 0 (.fresh 0 0 led) } } (.ref s.heap.objs.size) "set" := ⟨_, fresh led, rfl⟩
      have hli := F.called_set.init.lookup
      have hbi := F.called_set.init.bind (.ref s.heap.objs.size)
      repeat (any_goals (first | assumption | wp_step))
      refine codeAny_mono (codeAny_call_builtin (R := wants (fun r s₂ => r = .none ∧ ∃ h' tk, s₂ = { s with heap := h', toks := tk } ∧
          h'.SetOf (strKind prog w) s.heap.objs.size (fun k => decide (k ∈ upto (fun i => sgn (x.cps.getD i 0)) x.cps.size)) (upto (fun i => sgn (x.cps.getD i 0)) x.cps.size).length ∧
          (∀ b o, b < s.heap.objs.size → s.heap.get? b = some o → h'.get? b = some o)) E) F.called_set.init.plain F.entry_set_init (check_set_init_1 hT ?_)) fun r₂ s₂ hr₂ => ?_
      · have hsls := FX.sub_str_set
        have hslf := FX.sub_str_frozenset
        unfold Builtin.«set.__init__» noKeywords Builtin.Frozenset.updateFrom
        generalize hPI : pyIter = PI
        wp_walk
        subst hPI
        refine wpAny_pyIter_str fun o Sx mk st0 => ?_
        refine wpAny_bind (wpAny_runValue ?_)
        have hh3 : A.in1.in1.in1.handled = none := by simp [hh]
        have hsz : (s.heap.push { cls := .type "set", dict := none, data := .set #[] 0 (.fresh 0 0 led) }).objs.size = s.heap.objs.size + 1 := Heap.size_push ..
        have haf : s.heap.objs.size ∉ [(s.heap.push { cls := .type "set", dict := none, data := .set #[] 0 (.fresh 0 0 led) }).objs.size] := by
          rw [hsz]
          simp
        have hset : ((s.heap.push { cls := .type "set", dict := none, data := .set #[] 0 (.fresh 0 0 led) }).push o).get? s.heap.objs.size = some { cls := .type "set", dict := none, data := .set #[] 0 (.fresh 0 0 led) } := Heap.get?_push_of_some _ (fresh led)
        refine code_upd (knd := strKind prog w) (n := x.cps.size) ((mk _ hh3).toS) s.heap.objs.size haf (fun i => sgn (x.cps.getD i 0)) (fun i v hv => ?_) hb x.cps.size 0 _ (Nat.add_zero _) st0 ?_ fun s' hm hS => ?_
        · obtain ⟨c, u', hc, rfl⟩ := hv
          have e : x.cps.getD i 0 = c := by
            rw [Array.getD_eq_getD_getElem?, hc]
            rfl
          exact ⟨by show (strKind prog w).is (sgn (x.cps.getD i 0)) (.str ⟨#[c]⟩ u') = true; rw [e]; exact strKind_is _ _ _ _, rfl⟩
        · exact setOf_as ((PyProof.Rows.setObjOf_fresh (knd := strKind prog w) led).setOf hset (by unfold scanBound; omega)) (fun _ => rfl) rfl
        · obtain ⟨h', g', d', tk', os'⟩ := s'
          obtain rfl : g' = s.gens := hm.gens
          obtain rfl : d' = s.drawn := hm.drawn
          obtain rfl : os' = s.os := hm.os
          refine wpAny_pure (wpAny_pure ⟨rfl, h', tk', rfl, hS, fun b o2 hlt e => ?_⟩)
          refine hm.heap b o2 ?_ (Heap.get?_push_of_some _ (Heap.get?_push_of_some _ e))
          rw [hsz]
          simp only [List.mem_cons, List.not_mem_nil, or_false, not_or]
          exact ⟨Nat.ne_of_lt hlt, Nat.ne_of_lt (Nat.lt_succ_of_lt hlt)⟩
      · cases r₂ with
        | error e => exact hr₂
        | ok fl₂ =>
          cases fl₂ with
          | ret r =>
            obtain ⟨rfl, h', tk, rfl, hS', hk'⟩ := hr₂
            repeat (any_goals (first | assumption | wp_step))
            exact h _ _ hS' hk'
          | _ => exact hr₂.elim
    | _ => exact hr.elim
end
end Sg

/-! rules: len(set(text)), enumerate(tuple), repr of plain values, list(text), {(a, b): v} -/
namespace Sg
open PySem PySem.Spec PyProof.Rows L2
def signsOf (x : Str) : List Str := x.cps.toList.map sgn
/-! ### len(set(text)) -/
def tLenSetT (ta : TE) : TE := fun σ H Q => ta σ H fun x H1 => match x with
  | .str z => z.length ≤ 1000 ∧ Q (.int ((once (signsOf z)).length : Nat)) H1
  | _ => False
theorem upto_text (z : Str) : upto (fun i => sgn (z.cps.getD i 0)) z.cps.size = once (signsOf z) := by
  unfold upto signsOf
  congr 1
  apply List.ext_getElem?
  intro i
  rw [List.getElem?_map, List.getElem?_map]
  by_cases h : i < z.cps.size
  · rw [List.getElem?_range h, Array.getElem?_toList, Array.getElem?_eq_getElem h, Option.map_some, Option.map_some, Array.getD_eq_getD_getElem?, Array.getElem?_eq_getElem h]
    rfl
  · rw [List.getElem?_eq_none (by simpa using h), Array.getElem?_toList, Array.getElem?_eq_none (by simpa using h)]
    rfl
theorem pe_lenSetT {X : Cx} {a : Expr} {ta : TE} {p p2 q pos : Pos} (hg : Gl X "len") (hm : X.mg "len" = none) (hg2 : Gl X "set") (hm2 : X.mg "set" = none) (ha : PE X a ta) (hc : X.calm = true)
    (na : starEach [a] X.env = (false, eval a X.env) :: starEach [] X.env := by rfl) : PE X (.Call (.Name "len" p) [.Call (.Name "set" p2) [a] [] q] [] pos) (tLenSetT ta) := by
  refine ⟨fun pins s σ H Q I h => ?_⟩
  refine Call_ (ld_blt I hg hm PySem.boot_len ?_)
  refine PyProof.Rows.callWith_builtin1 (PyProof.Rows.args_cons ?_ rfl) rfl rfl
  refine Call_ (ld_blt I hg2 hm2 PyProof.Rows.boot_set ?_)
  refine PyProof.Rows.callWith_type1 (PyProof.Rows.args_cons (thn (ha.run pins s σ H _ I h) fun v s1 ⟨x, H1, I1, r1, q1⟩ => PyProof.Rows.args_nil ?_) na) na rfl
  match x, q1 with
  | .str z, ⟨hz, q2⟩ =>
    obtain ⟨u, rfl⟩ := r1
    refine call_set_text (I1.ok.hd hc) (by unfold scanBound; show z.length + 1 < _; omega) fun h' tk hS hk => PyProof.Rows.args_nil ?_
    rw [upto_text] at hS
    obtain ⟨o, es, ep, t, ho, hex, hd, _, _, _, hf, hn⟩ := hS
    have I2 : Inv X pins σ H1 { s1 with heap := h', toks := tk } := I1.kept fun b o e => hk b o (Heap.lt_size e) e
    have hlen : (once (signsOf z)).length ≤ 1000 := by
      have h1 := once_len (signsOf z)
      unfold signsOf at h1
      rw [List.length_map, Array.length_toList] at h1
      exact Nat.le_trans h1 hz
    exact call_len_set ho hex hd hf (by rw [hn] <;> omega) ⟨.int ((once (signsOf z)).length : Nat), H1, I2.tok _, ⟨_, by rw [hn]⟩, q2⟩
/-! ### repr of None, a bool, an int, a text -/
def rReprP : List V → Hp → VK → Prop := fun xs H Q => match xs with
  | [.non] => Q (.str "None") H
  | [.bl b] => Q (.str (if b then "True" else "False")) H
  | [.int i] => i.natAbs.log2 < 1920 ∧ Q (.str (toString i)) H
  | [.str z] => (reprText z).length ≤ sizeLine ∧ Q (.str (reprText z)) H
  | _ => False
theorem call_reprP {X : Cx} : CallR X (.builtin "repr") rReprP := by
  intro pins s σ H xs us Q I r h
  match xs, h with
  | [.non], q =>
    obtain ⟨u, rfl, rfl⟩ := vals1 r
    exact PySem.P.repr_of_none ⟨.str _, H, I.tok _, ⟨_, rfl⟩, q⟩
  | [.bl b], q =>
    obtain ⟨u, rfl, rfl⟩ := vals1 r
    exact PySem.P.repr_of_bool ⟨.str _, H, I.tok _, ⟨_, rfl⟩, q⟩
  | [.int i], ⟨hz, q⟩ =>
    obtain ⟨u, rfl, t, rfl⟩ := vals1 r
    exact PySem.P.repr_of_int hz ⟨.str _, H, I.tok _, ⟨_, rfl⟩, q⟩
  | [.str z], ⟨hz, q⟩ =>
    obtain ⟨u, rfl, t, rfl⟩ := vals1 r
    exact PySem.P.repr_of_str ⟨.str _, H, I.tok _, ⟨_, rfl⟩, q⟩ hz
/-! ### list(text) -/
def rListS : List V → Hp → VK → Prop := fun xs H Q => match xs with
  | [.str z] => z.length ≤ sizeLine ∧ ∀ l, H l = none → Q (.ref l) (upd H l (.lst ((signsOf z).map V.str)))
  | _ => False
theorem vals_signs {z : Str} : ∀ {acc : Array Value}, ItemsOf (SignAt z) acc z.cps.size → Vals ((signsOf z).map V.str) acc.toList := by
  intro acc h
  have key : ∀ (n : Nat) (xs : List V) (us : List Value), xs.length = n → us.length = n → (∀ (i : Nat) (x : V) (u : Value), xs[i]? = some x → us[i]? = some u → RelV x u) → Vals xs us := by
    intro n
    induction n with
    | zero =>
      intro xs us h1 h2 _
      rw [List.length_eq_zero_iff.mp h1, List.length_eq_zero_iff.mp h2]
      exact .nil
    | succ n ih =>
      intro xs us h1 h2 hr
      match xs, us, h1, h2 with
      | x :: xs, u :: us, h1, h2 => exact .cons (hr 0 x u rfl rfl) (ih xs us (by simpa using h1) (by simpa using h2) fun i y v e1 e2 => hr (i + 1) y v e1 e2)
  have hs : acc.size = z.cps.size := h.1
  refine key z.cps.size _ _ (by simp [signsOf]) (by simp [hs]) fun i x u e1 e2 => ?_
  have hi : i < z.cps.size := by
    have := (List.getElem?_eq_some_iff.mp e2).1
    simpa [hs] using this
  obtain ⟨c, t, hc, hu⟩ := h.2 i u (by simpa using e2)
  rw [List.getElem?_map] at e1
  unfold signsOf at e1
  rw [List.getElem?_map, Array.getElem?_toList, hc] at e1
  have e : V.str (sgn c) = x := Option.some.inj e1
  rw [← e]
  exact ⟨t, hu⟩
theorem call_listS {X : Cx} (hc : X.calm = true) : CallR X (.type "list") rListS := by
  intro pins s σ H xs us Q I r h
  match xs, h with
  | [.str z], ⟨hz, q⟩ =>
    obtain ⟨u, rfl, t, rfl⟩ := vals1 r
    refine call_list_str (I.ok.hd hc) z t (fun h' tk acc' c' kp e hit => ?_) hz
    have hv := vals_signs hit
    have hlen : ((signsOf z).map V.str).length ≤ sizeLine := by
      rw [List.length_map]; unfold signsOf; rw [List.length_map, Array.length_toList]; exact hz
    exact ⟨.ref s.heap.objs.size, _, I.laid (t' := tk) kp (Nat.le_refl _) (show ObjOk X.prog X.w _ h' _ (.lst _) from ⟨hlen, acc'.toList, c', hv, by simpa using e⟩), rfl, q _ (I.hok.fresh (Nat.le_refl _))⟩
/-! ### {k: v}, k a tuple of ints and texts -/
def tDispT (tk tv : TE) : TE := fun σ H Q => ∀ p, H p = none → tk σ (upd H p (.dT [])) fun x H1 => tv σ H1 fun y H2 => H2 p = some (.dT []) ∧ ∃ (b : Addr) (ks : List Key), x = .ref b ∧ H2 b = some (.tup (ks.map kV)) ∧ Q (.ref p) (upd H2 p (.dT [(ks, y)]))
theorem pe_dispT {X : Cx} {k v : Expr} {tk tv : TE} {pos : Pos} (hu : X.A.units + 1 < cLine) (hk : PE X k tk) (hv : PE X v tv) : PE X (.Dict [some k] [v] pos) (tDispT tk tv) := by
  refine ⟨fun pins s σ H Q I q => ?_⟩
  have hn := I.hok.fresh (Nat.le_refl s.heap.objs.size)
  have I1 := I.laid (a := s.heap.objs.size) (o := .dT []) (h' := s.heap.push { cls := .type "dict", data := .dict #[] }) (t' := s.toks) (fun _ _ q => Heap.get?_push_of_some _ q) (Nat.le_refl _) (dt_empty s.heap I.big)
  have e : (evalEachOpt [some k] X.env).zip ((evalEach [v] X.env).map fun v => do let x ← v; standAt pos; pure x) = (pairTrees [some k] [v] X.env pos).map fun p => (some p.1, p.2) := zip_pairTrees [some k] [v] X.env pos rfl rfl
  have hl : (pairTrees [some k] [v] X.env pos).length = 1 := pairTrees_length [some k] [v] X.env pos rfl rfl
  rw [arm_eval_Dict, e, dictDisplay_pairs _ (fun z => by rw [z] at hl; cases hl) (by omega)]
  refine wpAny_bind (wpAny_standAt (wpAny_bind (wpAny_subDictH (knd := tupleKind (mixKind X.prog X.w)) (Nat.lt_of_succ_lt hu) (by omega) ?_)))
  refine pairTrees_cons_walk (thn (hk.run pins _ σ _ _ I1 (q _ hn)) fun u s1 ⟨x, H1, I2, rx, q1⟩ => thn (hv.run pins s1 σ H1 _ I2 q1) fun w2 s2 ⟨y, H2, I3, ry, e2, b, ks, ex, eb, q2⟩ => pairTrees_nil_walk ?_)
  subst ex
  cases (show u = Value.ref b from rx)
  obtain ⟨z, hd, xs, rel, dd⟩ := dt_of I3.hok e2
  cases rel
  refine ⟨[(ks, b, w2)], ⟨rfl, rfl, key_of I3.hok eb, True.intro⟩, dd, fun h' tk dd' hs => wpAny_pure ⟨.ref s.heap.objs.size, _, ?_, rfl, q2⟩⟩
  obtain ⟨o, es, ep, ho, h2, h3, h4, _, h5⟩ := dd'
  have hb : b ≠ s.heap.objs.size := ne_of eb e2 (fun z => nomatch z)
  refine d_write I3 (by rw [e2]; exact True.intro) hs ⟨o, ho⟩ ⟨by rw [sizeLine_eq]; show 1 ≤ _; omega, hd, [(ks, b, w2)], .cons ⟨rfl, ?_, ry⟩ .nil, o, es, ep, ho, h2, h3, h4, h5⟩
  rw [upd_ne hb]
  exact eb
/-! ### enumerate(tuple) -/
def IteT (K : PySem.W.Frag) (a : Addr) : It :=
  ⟨fun i H => ∃ (xs : List V) (x : V), SqT K H a xs ∧ xs[i]? = some x, fun i H v H' => ∃ T x, v = .ref T ∧ H T = none ∧ H' = upd H T (.tup [.int (i : Nat), x]) ∧ ∀ xs, SqT K H a xs → xs[i]? = some x, fun i H => ∃ xs : List V, SqT K H a xs ∧ xs.length ≤ i⟩
theorem turn_enumT {P : Program} {w : World} {K : PySem.W.Frag} {elts : List Expr} {kk : Nat} {tpos : Pos} (a e it : Addr) :
    Turn P w K (.Tuple elts kk tpos) (IteT K a) [e, it] e (fun i h => (∃ old, IsEnum h e it ((i : Nat) : Int) old) ∧ h.IsTupleIter it a i ∧ e ≠ it ∧ a ≠ e ∧ a ≠ it) where
  mem := by simp
  obj := fun i h st b hb => by
    obtain ⟨⟨old, he⟩, ⟨o, ho, hc, hd⟩, _⟩ := st
    have e' : b = e ∨ b = it := by simpa using hb
    rcases e' with z | z
    · exact z ▸ ⟨_, he, fun v q => nomatch q⟩
    · exact z ▸ ⟨o, ho, fun v q => by rw [hd] at q; cases q⟩
  keep := fun i h h' st k => by
    obtain ⟨⟨old, he⟩, hi, n1, n2, n3⟩ := st
    exact ⟨⟨old, k e (by simp) _ he⟩, hi.at fun o q => k it (by simp) o q, n1, n2, n3⟩
  item := by
    intro X hP hw hK hc i pins s σ H E I hf st hg
    subst hP hw hK
    obtain ⟨⟨old, he⟩, hit, n1, n2, n3⟩ := st
    obtain ⟨xs, x, hq, hx⟩ := hg
    obtain ⟨its, rv, p, hz⟩ := I.tuple hq
    obtain ⟨u, hu, ru⟩ := rv.get hx
    have hel : e < s.heap.objs.size := Heap.lt_size he
    have hil : it < s.heap.objs.size := by
      obtain ⟨_, q, _⟩ := hit
      exact Heap.lt_size q
    have low : ∀ b, b ∈ [e, it] → b < s.heap.objs.size := fun b hb => by
      have e' : b = e ∨ b = it := by simpa using hb
      rcases e' with z | z <;> rw [z] <;> assumption
    have hlt : i < its.toArray.size := by
      have := (List.getElem?_eq_some_iff.mp hu).1
      simpa using this
    refine wpAny_pyNext_enum_itemC (Draws.tuple (A := X.A.in1) (I.ok.hd hc) it a n3 its.toArray) he (⟨hit, p⟩ : s.heap.IsTupleIter it a i ∧ s.heap.IsTuple a its.toArray) hlt n1 (by simp [n1, Ne.symm n2]) fun y h' tk hy ho hst hT hsz hk => ?_
    have ey : y = u := by
      have h1 : its.toArray[i]? = some y := hy
      rw [List.getElem?_toArray, hu] at h1
      exact (Option.some.inj h1).symm
    subst ey
    refine ⟨_, rfl, wpAny_letOwnedTupleGo_enum (s := { s with heap := h', toks := tk + 1 }) ho fun h2 he2 sb => ?_⟩
    have hT2 : h2.get? s.heap.objs.size = some { cls := .type "tuple", data := .seq #[.int i tk, y] } := (sb.2 _ (Nat.ne_of_gt hel)).trans hT
    have made : ObjOk X.prog X.w (upd H s.heap.objs.size (.tup [.int (i : Nat), x])) h2 s.heap.objs.size (.tup [.int (i : Nat), x]) :=
      ⟨by show 2 ≤ sizeLine; decide, [.int i tk, y], .cons ⟨_, rfl⟩ (.cons ru .nil), ⟨_, hT2, rfl, _, rfl⟩⟩
    have out : ∀ b, b ∉ [e, it] → b ≠ e ∧ b ≠ it := fun b hb => ⟨fun z => hb (by simp [z]), fun z => hb (by simp [z])⟩
    have I1 : Inv X pins σ (upd H s.heap.objs.size (.tup [.int (i : Nat), x])) { s with heap := h2, toks := tk + 1 } :=
      I.turnedNew (ch := [e, it]) (fun b ob hb q => (sb.2 b (out b hb).1).trans (hk b ob (out b hb).1 (out b hb).2 q)) hf (Nat.le_refl _) made
    refine ⟨.ref s.heap.objs.size, _, I1, rfl, ⟨_, x, rfl, I.hok.fresh (Nat.le_refl _), rfl, fun ys hy => by rw [I.tuple_inj hy hq]; exact hx⟩, ⟨⟨y, ?_⟩, hst.1.at fun o q => (sb.2 it (Ne.symm n1)).trans q, n1, n2, n3⟩, fun b hb => ?_⟩
    · have e1 : ((i + 1 : Nat) : Int) = (i : Int) + 1 := by omega
      rw [e1]
      exact he2
    · rw [upd_ne (Nat.ne_of_lt (low b hb))]
      exact (hf b hb).1
  done := by
    intro X hP hw hK hc i pins s σ H E I hf st hg
    subst hP hw hK
    obtain ⟨⟨old, he⟩, hit, n1, n2, n3⟩ := st
    obtain ⟨xs, hq, hx⟩ := hg
    obtain ⟨its, rv, p, hz⟩ := I.tuple hq
    obtain ⟨f0, f1, f2, f3, f4, f5⟩ := hf it (by simp)
    have hl := rv.length
    have hnone : its.toArray[i]? = none := by
      rw [List.getElem?_toArray]
      exact List.getElem?_eq_none (by omega)
    have D : Draws X.prog X.w X.A.in1 it [it, a] i (fun _ _ => True) (fun j h => j = i ∧ h.IsTupleIter it a i ∧ h.IsTuple a its.toArray) :=
      { live := fun _ _ st => let ⟨o, ho, _⟩ := st.2.1; ⟨o, ho⟩
        frame := fun _ _ _ st k => ⟨st.1, st.2.1.at fun o q => k it (by simp) o q, st.2.2.at fun o q => k a (by simp) o q⟩
        item := fun j s Q E hj st _ => absurd hj (by rw [st.1]; exact Nat.lt_irrefl _)
        done := fun s Q E st hE => wpAny_nextOf_tuple_end (I.ok.hd hc) st.2.1 st.2.2 hnone hE }
    exact wpAny_pyNext_enum_endD D he ⟨rfl, hit, p⟩ fun h' eb => ⟨rfl, I.turned (t' := s.toks) (fun b o hb q => eb b o hb q) f0 f1 f3 f4 f5⟩
  self := fun A i s Q E st h => by
    obtain ⟨⟨_, he⟩, _⟩ := st
    exact wpAny_pyIter_enum he h
namespace FX
/-- enumerate(t) of a tuple: the maker's own tree -/
theorem meets_enumT (l : Addr) (items : Array Value) (n : Nat) (dct : Option Addr) (sl : Array (Option Value)) :
    Meets (Builtin.«enumerate.__new__» ⟨[.type "enumerate", .ref l], []⟩) (fun _ R s => s.heap.get? l = some { cls := .type "tuple", dict := dct, data := .seq items n, slots := sl } ∧
      R (.ok (.ret (.ref (s.heap.push { cls := .type "tuple_iterator", data := .fields #[.ref l, .int 0 0] }).objs.size)))
        { s with heap := (s.heap.push { cls := .type "tuple_iterator", data := .fields #[.ref l, .int 0 0] }).push { cls := .type "enumerate", data := .fields #[.none, .bool false, .ref s.heap.objs.size, rawInt 0, .none, .none] } }) :=
  .of_wp fun prog w A R s h => by
    obtain ⟨hp, g, d, tk, os⟩ := s
    obtain ⟨hl, h⟩ := h
    have hsub := sub_enumerate
    have hT : Heap.IsTuple (Shared.heap ⟨hp, g, d, tk, os⟩) l items := ⟨_, hl, rfl, n, rfl⟩
    wp_walk using AutoSeq1.wpAny_loadPart' hl
    refine wpAny_stack_any fun st => wpAny_pure ?_
    split
    · rename_i c _ _ _ _ _
      cases (c == Value.type "enumerate") <;>
      · wp_walk using AutoSeq1.wpAny_loadPart' hl, wpAny_pyIter_tuple hT
        exact ⟨_, rfl, h⟩
    · wp_walk using AutoSeq1.wpAny_loadPart' hl, wpAny_pyIter_tuple hT
      exact ⟨_, rfl, h⟩
end FX
theorem call_enumT {prog : Program} {w : World} {A : Around} {E : Value → Shared → Prop} {s : Shared} {l : Addr} {items : Array Value} {Q : Value → Shared → Prop} (ht : s.heap.IsTuple l items)
    (h : ∀ h', IsEnum h' (s.heap.objs.size + 1) s.heap.objs.size 0 .none → h'.IsTupleIter s.heap.objs.size l 0 → (∀ b o, s.heap.get? b = some o → h'.get? b = some o) → Q (.ref (s.heap.objs.size + 1)) { s with heap := h' }) :
    wpAny (model prog w) A (call (.type "enumerate") [.ref l]) Q E s := by
  obtain ⟨⟨c, dct, dt, sl⟩, hl, hc, n, hd⟩ := ht
  obtain rfl : c = .type "tuple" := hc
  obtain rfl : dt = .seq items n := hd
  refine callType_new F.called_enumerate (by decide) (F.typeCall_enumerate_1 _) (F.newCall_enumerate_1 _) (fun z => F.args_object_init_2 z _) F.entry_enumerate_new (FX.meets_enumT l items n dct sl) ⟨hl, ?_⟩
  have hz : (s.heap.push { cls := .type "tuple_iterator", data := .fields #[.ref l, .int 0 0] }).objs.size = s.heap.objs.size + 1 := Heap.size_push ..
  show _ ∧ _
  rw [hz]
  have he := Heap.get?_push_size (s.heap.push { cls := .type "tuple_iterator", data := .fields #[.ref l, .int 0 0] }) (o := { cls := .type "enumerate", data := .fields #[.none, .bool false, .ref s.heap.objs.size, rawInt 0, .none, .none] }) rfl
  rw [hz] at he
  exact ⟨⟨_, he, rfl⟩, h _ he ⟨_, Heap.get?_push_of_some _ (Heap.get?_push_size _ rfl), rfl, rfl⟩ fun b o x => Heap.get?_push_of_some _ (Heap.get?_push_of_some _ x)⟩
def iEnumT (K : PySem.W.Frag) (ta : TA) : TI := fun σ H R => ta σ H fun vs H1 => ∃ a xs, vs = [.ref a] ∧ SqT K H1 a xs ∧ R (IteT K a) H1
theorem pi_enumT {X : Cx} {e : Expr} {ta : TA} {p pos tpos : Pos} {elts : List Expr} {kk : Nat} (hg : Gl X "enumerate") (hm : X.mg "enumerate" = none) (ha : PA X [e] ta) (hs : starEach [e] X.env = [(false, eval e X.env)] := by rfl) :
    PI X (.Tuple elts kk tpos) (.Call (.Name "enumerate" p) [e] [] pos) (iEnumT X.K ta) := by
  refine ⟨fun pins s σ H R I h => ?_⟩
  refine Call_ (ld_blt I hg hm boot_enumerate (PyProof.Rows.callWith_type1 (thn (ha.run pos pins s σ H _ I h) fun us s1 ⟨vs, H1, I1, r1, q1⟩ => ?_) hs rfl))
  obtain ⟨a, xs, rfl, hq, q⟩ := q1
  obtain ⟨u, rfl, ru⟩ := vals1 r1
  cases ru
  obtain ⟨its, rv, p', hz⟩ := I1.tuple hq
  have hal : a < s1.heap.objs.size := p'.lt
  refine call_enumT p' fun h' he hit hk => wpAny_pyIter_enum he ?_
  have I2 : Inv X pins σ H1 { s1 with heap := h' } := I1.kept (t' := s1.toks) hk
  refine ⟨s1.heap.objs.size + 1, [s1.heap.objs.size + 1, s1.heap.objs.size], _, _, H1, rfl, I2, turn_enumT a (s1.heap.objs.size + 1) s1.heap.objs.size, ⟨⟨.none, he⟩, hit, Nat.succ_ne_self _, Nat.ne_of_lt (Nat.lt_succ_of_lt hal), Nat.ne_of_lt hal⟩, fun b hb => ?_, q⟩
  have hle : s1.heap.objs.size ≤ b := by
    have e' : b = s1.heap.objs.size + 1 ∨ b = s1.heap.objs.size := by simpa using hb
    rcases e' with z | z <;> rw [z]
    · exact Nat.le_succ _
    · exact Nat.le_refl _
  exact I1.fpOk hle (I1.hok.fresh hle)
end Sg

/-! try: .. with several clauses, each with «as» or without -/
namespace Sg
open PySem PySem.Spec PyProof.Rows L2
abbrev SuiteT : Type := Addr → Value → Option Addr → TS
/-- the ends of a suite whose name (slot i) goes behind it -/
def endsOff (i : Nat) (D : Ends) : Ends := { nx := fun σ' H' => D.nx (σ'.set i none) H', rt := D.rt, bk := fun σ' H' => D.bk (σ'.set i none) H', ct := fun σ' H' => D.ct (σ'.set i none) H' }
/-- what the clauses wish of an exception of the body, from the first on -/
def wCl (K : PySem.W.Frag) (Wo : WX) (D : Ends) : List (Value × Option Nat × SuiteT) → WX
  | [] => Wo
  | (c, oi, ts) :: r => fun cls d σ H => ∃ b, PySem.W.exmOne K cls c = some b ∧
    (b = true → ∀ a, H a = none → match oi with
      | none => ts a cls d D σ H
      | some i => ts a cls d (endsOff i D) (σ.set i (some (.ref a))) H) ∧ (b = false → wCl K Wo D r cls d σ H)
inductive ClOk (X : Cx) : List ExceptHandler → List (Value × Option Nat × SuiteT) → Prop
  | nil : ClOk X [] []
  | one {x : Str} {c : Value} {ts : SuiteT} {b₀ : Stmt} {su : List Stmt} {np pos' : Pos} {hds : List ExceptHandler} {l : List (Value × Option Nat × SuiteT)} (hc : Names X x c)
      (hsu : ∀ (a : Addr) (oe : Obj) (cls : Value) (d : Option Addr) (pn : List (Addr × Obj)), Zc cls d oe → (∃ vs, oe.data = .fields vs) → PSs (X.suite a ((a, oe) :: pn)) (b₀ :: su) (ts a cls d)) (r : ClOk X hds l) :
      ClOk X (.ExceptHandler (some (.Name x np)) none (b₀ :: su) pos' :: hds) ((c, none, ts) :: l)
  | named {x n : Str} {i : Nat} {c : Value} {ts : SuiteT} {b₀ : Stmt} {su : List Stmt} {np pos' : Pos} {hds : List ExceptHandler} {l : List (Value × Option Nat × SuiteT)} (hc : Names X x c)
      (hN : X.N.Nodup) (hi : X.N[i]? = some n) (hln : X.env.kindOf n = some .local)
      (hsu : ∀ (a : Addr) (oe : Obj) (cls : Value) (d : Option Addr) (pn : List (Addr × Obj)), Zc cls d oe → (∃ vs, oe.data = .fields vs) → PSs (X.suite a ((a, oe) :: pn)) (b₀ :: su) (ts a cls d)) (r : ClOk X hds l) :
      ClOk X (.ExceptHandler (some (.Name x np)) (some n) (b₀ :: su) pos' :: hds) ((c, some i, ts) :: l)
section
variable {X : Cx} {body : List Stmt} {h₀ : ExceptHandler} {hds : List ExceptHandler} {l : List (Value × Option Nat × SuiteT)} {pos : Pos} {tb : WX → TS} {Wo : WX}
theorem ps_try_cl (hs : X.stack = X.env :: X.outer) (hf : X.env.frame = some X.env.locals) (tk : Takes X Wo)
    (hb : ∀ (W : WX) (pn : List (Addr × Obj)) (xe : Value → Shared → Prop), Takes (X.tr pn xe) W → PassesOwn (model X.prog X.w) X.A X.env xe → PSs (X.tr pn xe) body (tb W))
    (hh : ClOk X (h₀ :: hds) l) : PS X (.Try body (h₀ :: hds) [] [] pos) (fun D σ H => tb (wCl X.K Wo D l) D σ H) := by
  refine ⟨fun pins s σ H D I hgo => ?_⟩
  have ok := I.ok
  have frm : X.A.frames = some (X.env :: X.outer) := ok.frames.trans (by rw [hs])
  refine wpAny_Try_except ?_
  refine wpAny_mono ((hb (wCl X.K Wo D l) (X.pn ++ pins) (fun e g₁ => wpAny (model X.prog X.w) X.A (noteFrame e X.env) (fun _ g₂ => wpAny (model X.prog X.w) X.A (setFlight e none) (fun _ g₃ =>
    wpAny (model X.prog X.w) X.A (handleBy e X.env (h₀ :: hds)) (SP X pins D) X.xe g₃) X.xe g₂) X.xe g₁) (fun u g gx => ?_) PassesOwn.looking).run [] s σ H D (I.toTry _) hgo) (fun fl g1 hsp => ?_) (fun e g1 he => he)
  · obtain ⟨a, B, sI, pins2, σ2, H2, cls, d, rfl, J0, nb, up, sky, na, os, ag, wish⟩ := gx
    have J : Inv X pins σ2 H2 sI := J0.ofTry ok
    have sky2 : Sky B (X.env :: X.outer) a (Zc cls d) X.env.locals g.heap := hs ▸ sky
    show wpAny (model X.prog X.w) X.A (noteFrame (.ref a) X.env) _ _ _
    refine Sky.land Zc.steady frm hf sky2 fun k3 fly up3 => ?_
    have J3 : Inv X pins σ2 H2 { g with heap := k3 } := J.landed nb fly.1 (up.trans up3) os ag
    obtain ⟨o3, f3, at3, z3, dt3⟩ := fly.there
    have apart : a ∉ frs (X.env :: X.outer) := fun hm => by
      obtain ⟨_, o', e', hnf⟩ := fly.2.2.1.mem hm
      rw [at3] at e'
      cases e'
      exact hnf _ dt3
    have nL : a ≠ X.env.locals := fun z => apart (List.mem_filterMap.mpr ⟨X.env, List.mem_cons_self, by rw [hf, z]⟩)
    have nF : a ∉ X.fs := fun hm => by
      obtain ⟨e, he, q⟩ := List.mem_filterMap.mp hm
      exact apart (List.mem_filterMap.mpr ⟨e, List.mem_cons_of_mem _ he, q⟩)
    have S3 := J3.suite at3 dt3 na nL nF
    have LT : PySem.W.Looks (model X.prog X.w) k3 (typeOf (.ref a)) cls := fun A Q E s k q => wpAny_typeOf_ref (k _ _ at3) (z3.1 ▸ q)
    have named : ∀ {x : Str} {c : Value} {np : Pos}, Names X x c → ∀ {Q : Value → Shared → Prop} {E : Value → Shared → Prop}, Q c { g with heap := k3 } → wpAny (model X.prog X.w) (X.A.mark (some (.ref a))) (eval (.Name x np) X.env) Q E { g with heap := k3 } := by
      intro x c np hc Q E q
      obtain ⟨hg, hdbg, hm | ⟨hm, hv, hnn⟩⟩ := hc
      · exact ld_glob (X := X.suite a ((a, o3) :: (X.pn ++ pins))) S3 hg hm q hdbg
      · exact ld_blt (X := X.suite a ((a, o3) :: (X.pn ++ pins))) S3 hg hm hv q hnn hdbg
    have go : ∀ {hs2 : List ExceptHandler} {l2 : List (Value × Option Nat × SuiteT)}, ClOk X hs2 l2 → wCl X.K Wo D l2 cls d σ2 H2 →
        wpAny (model X.prog X.w) X.A (handleBy (.ref a) X.env hs2) (SP X pins D) X.xe { g with heap := k3 } := by
      intro hs2 l2 hk
      induction hk with
      | nil =>
        intro wq
        refine wpAny_handleBy_nil ?_
        obtain ⟨_, _, _, oe, vs, T, oT, ts', at4, hz, dt4, h1, hr⟩ := id fly
        unfold PySem.passOn
        refine wpAny_bind (wpAny_field at4 dt4 h1 ?_)
        rw [if_neg (show ¬ ((Value.ref T == Value.none) = true) from by simp)]
        have fin : wpAny (model X.prog X.w) X.A (setFlight (.ref a) X.env.frame) (fun _ g4 => wpAny (model X.prog X.w) X.A (throw (.ref a) : Sem Flow) (SP X pins D) X.xe g4) X.xe { g with heap := k3 } := by
          rw [hf]
          refine HandSPX.setFlight_upZ fly fun k4 held up4 => wpAny_throw (tk _ _ ?_)
          exact ⟨a, B, sI, pins, σ2, H2, cls, d, rfl, J, nb, (up.trans up3).trans up4, .inr (.inr (hs ▸ held)), na, os, ag, wq⟩
        first
          | exact wpAny_bind (wpAny_pure (wpAny_bind fin))
          | exact wpAny_bind fin
      | @one x c ts b₀ su np pos' hds2 l2 hc hsu r ih =>
        intro wq
        obtain ⟨b, hb1, hyes, hno⟩ := wq
        refine wpAny_handleBy_cons (codeAny_handlers_test ?_) (by intro q; cases q)
        refine named hc ((PySem.W.exm_one (M := model X.prog X.w) (J3.kIn) LT hb1).here ?_)
        cases b with
        | false => exact ih (hno rfl)
        | true =>
          refine codeAny_handlers_suite ?_
          refine HandSPX.lands_againZ fly fun k4 fl4 up4 => ?_
          have J4 : Inv X pins σ2 H2 { g with heap := k4 } := J.landed nb fl4.1 ((up.trans up3).trans up4) os ag
          obtain ⟨o4, f4, at4, z4, dt4⟩ := fl4.there
          refine wpAny_mono ((hsu a o4 cls d (X.pn ++ pins) z4 ⟨_, dt4⟩).run [] _ _ H2 _ (J4.suite at4 dt4 na nL nF) (hyes rfl a na)) (fun fl g6 q6 => ?_) (fun _ _ z => False.elim z)
          cases fl with
          | ret u => obtain ⟨v6, σ6, H6, S6, r6, q6⟩ := q6; exact ⟨_, _, _, S6.unsuite ok, r6, q6⟩
          | _ => obtain ⟨σ6, H6, S6, q6⟩ := q6; exact ⟨_, _, S6.unsuite ok, q6⟩
      | @named x n i c ts b₀ su np pos' hds2 l2 hc hN hi hln hsu r ih =>
        intro wq
        obtain ⟨b, hb1, hyes, hno⟩ := wq
        refine wpAny_handleBy_cons (codeAny_handlers_test ?_) (by intro q; cases q)
        refine named hc ((PySem.W.exm_one (M := model X.prog X.w) (J3.kIn) LT hb1).here ?_)
        cases b with
        | false => exact ih (hno rfl)
        | true =>
          refine codeAny_handlers_suite_as ?_
          refine HandSPX.lands_againZ fly fun k4 fl4 up4 => ?_
          have J4 : Inv X pins σ2 H2 { g with heap := k4 } := J.landed nb fl4.1 ((up.trans up3).trans up4) os ag
          obtain ⟨o4, f4, at4, z4, dt4⟩ := fl4.there
          have S4 := J4.suite at4 dt4 na nL nF
          refine store_ok (X := X.suite a ((a, o4) :: (X.pn ++ pins))) (v := .ref a) S4 hN hi (.inl hln) rfl (fun g5 S5 => ?_) (.inr hln)
          refine wpAny_mono ((hsu a o4 cls d (X.pn ++ pins) z4 ⟨_, dt4⟩).run [] g5 _ H2 _ S5 (hyes rfl a na)) (fun fl g6 q6 => ?_) (fun _ _ z => False.elim z)
          have gone : ∀ {σ6 : L2.St} {H6 : Hp} {Q : Shared → Prop}, Inv (X.suite a ((a, o4) :: (X.pn ++ pins))) [] σ6 H6 g6 → (∀ g7, Inv X pins (σ6.set i none) H6 g7 → Q g7) →
              wpAny (model X.prog X.w) X.A (do bindName X.env n .none; unbindBehindTheSuite X.env n pos') (fun _ g7 => Q g7) X.xe g6 := fun S6 hq => gone_ok (S6.unsuite ok) hN hi hln hq
          cases fl with
          | ret u => obtain ⟨v6, σ6, H6, S6, r6, q6⟩ := q6; exact gone S6 fun g7 J7 => ⟨_, _, _, J7, r6, q6⟩
          | _ => obtain ⟨σ6, H6, S6, q6⟩ := q6; exact gone S6 fun g7 J7 => ⟨_, _, J7, q6⟩
    exact go hh wish
  · cases fl with
    | next => obtain ⟨σ', H', J', q⟩ := hsp; exact wpAny_execs_nil ⟨σ', H', J'.ofTry ok, q⟩
    | ret u => obtain ⟨v, σ', H', J', r, q⟩ := hsp; exact ⟨v, σ', H', J'.ofTry ok, r, q⟩
    | _ => obtain ⟨σ', H', J', q⟩ := hsp; exact ⟨σ', H', J'.ofTry ok, q⟩
end
/-! ### isinstance(e, C), e the exception that the suite holds, without an own dict -/
def rIsX (K : PySem.W.Frag) (a : Addr) (cls : Value) (d : Option Addr) : List V → Hp → VK → Prop := fun xs H Q => ∃ (D : Addr) (c : V) (cv : Value) (b : Bool), cls = .ref D ∧ d = none ∧ ExcC K D ∧ xs = [.ref a, c] ∧
  (∀ u, RelV c u → u = cv) ∧ PySem.W.kitOne K (.ref D) cv = some b ∧ Q (.bl b) H
theorem call_isX {X : Cx} {a : Addr} {oe : Obj} {cls : Value} {d : Option Addr} {pn : List (Addr × Obj)} (hz : Zc cls d oe) (hf : ∃ vs, oe.data = .fields vs) : CallR (X.suite a ((a, oe) :: pn)) (.builtin "isinstance") (rIsX X.K a cls d) := by
  intro pins s σ H xs us Q I r h
  obtain ⟨D, c, cv, b, rfl, rfl, C, hx, hcv, e, q⟩ := h
  exact call_isE C hz hf pins s σ H xs us Q I r ⟨c, cv, b, hx, hcv, e, q⟩
theorem takesNo {X : Cx} {a : Addr} {pn : List (Addr × Obj)} : Takes (X.suite a pn) (fun _ _ _ _ => False) := takes0
def eqF (a b : Option (Option Value)) : Bool := decide (a = b)
def excCB (K : PySem.W.Frag) (D : Addr) : Bool := eqF (PySem.W.findIn K (.ref D) "__getattribute__") (some (some (.builtin "BaseException.__getattribute__"))) && (eqF (PySem.W.findIn K (.ref D) "__getattr__") (some none) && (decide (PySem.W.subIn K (.ref D) (.type "BaseException") = some true) &&
  (PySem.W.hasDictIn K D && (eqF (PySem.W.findIn K (.ref D) "__class__") (some (some (.builtin "object.__class__"))) && (eqF (PySem.W.specialIn K (.builtin "object.__class__") "__get__") (some (some (.builtin "getset_descriptor.__get__"))) &&
  (decide (PySem.W.takesIn K (.builtin "object.__class__") = some true) && decide (PySem.W.mroIn K D (.type "object") = some true)))))))
theorem excCB_ok {K : PySem.W.Frag} {D : Addr} (h : excCB K D = true) : ExcC K D := by
  obtain ⟨h1, h⟩ := He.ba h
  obtain ⟨h2, h⟩ := He.ba h
  obtain ⟨h3, h⟩ := He.ba h
  obtain ⟨h4, h⟩ := He.ba h
  obtain ⟨h5, h⟩ := He.ba h
  obtain ⟨h6, h⟩ := He.ba h
  obtain ⟨h7, h8⟩ := He.ba h
  exact ⟨of_decide_eq_true h1, of_decide_eq_true h2, of_decide_eq_true h3, h4, of_decide_eq_true h5, of_decide_eq_true h6, of_decide_eq_true h7, of_decide_eq_true h8⟩
theorem exAt {l : List Bool} (h : l.all id = true) {i : Nat} {b : Bool} (e : l[i]? = some b) : b = true := List.all_eq_true.mp h b (List.mem_of_getElem? e)
end Sg

/-! readings by the shape of the values -/
namespace Sg
open PySem PySem.Spec PyProof.Rows L2
section
variable {X : Cx}
def rLenQ (K : PySem.W.Frag) : List V → Hp → VK → Prop := fun xs H Q => match xs with
  | [.ref p] => ∃ ys, (SqL K H p ys ∨ SqT K H p ys) ∧ Q (.int ys.length) H
  | [.str z] => z.length ≤ sizeLine ∧ Q (.int z.length) H
  | _ => False
theorem call_lenQ : CallR X (.builtin "len") (rLenQ X.K) := by
  intro pins s σ H xs us Q I r h
  match xs, h with
  | [.ref p], ⟨ys, hq, q⟩ => exact call_len_seq pins s σ H _ us Q I r ⟨p, ys, rfl, hq, q⟩
  | [.str z], ⟨hz, q⟩ => exact call_len_str pins s σ H _ us Q I r ⟨z, rfl, hz, q⟩
def rIxTQ (K : PySem.W.Frag) : R2 := fun x y H Q => match x, y with
  | .ref p, .int i => ∃ xs v, SqT K H p xs ∧ atI xs i = some v ∧ Q v H
  | _, _ => False
theorem ix_tupQ : IxR X (rIxTQ X.K) := by
  intro value slice pins s σ H x y v u Q I rx ry h hs
  match x, y, h with
  | .ref p, .int i, ⟨xs, w, h1, h2, q⟩ => exact ix_tup value slice pins s σ H _ _ v u Q I rx ry ⟨p, xs, i, w, rfl, rfl, h1, h2, q⟩ hs
def rIxLQ (K : PySem.W.Frag) : R2 := fun x y H Q => match x, y with
  | .ref p, .int i => ∃ xs v, SqL K H p xs ∧ atI xs i = some v ∧ Q v H
  | _, _ => False
theorem ix_listQ : IxR X (rIxLQ X.K) := by
  intro value slice pins s σ H x y v u Q I rx ry h hs
  match x, y, h with
  | .ref p, .int i, ⟨xs, w, h1, h2, q⟩ => exact ix_list value slice pins s σ H _ _ v u Q I rx ry ⟨p, xs, i, w, rfl, rfl, h1, h2, q⟩ hs
def rIxSQ : R2 := fun x y H Q => match x, y with
  | .str z, .int i => ∃ c, z.length ≤ sizeLine ∧ atI z.cps.toList i = some c ∧ Q (.str (sgn c)) H
  | _, _ => False
theorem ix_strQ : IxR X rIxSQ := by
  intro value slice pins s σ H x y v u Q I rx ry h hs
  match x, y, h with
  | .str z, .int i, ⟨c, h1, h2, q⟩ => exact ix_str value slice pins s σ H _ _ v u Q I rx ry ⟨z, i, c, rfl, rfl, h1, h2, q⟩ hs
def rInt1Q : List V → Hp → VK → Prop := fun xs H Q => match xs with
  | [.int i] => Q (.int i) H
  | [.bl k] => Q (.int (if k then 1 else 0)) H
  | _ => False
theorem call_int1Q : CallR X (.type "int") rInt1Q := by
  intro pins s σ H xs us Q I r h
  match xs, h with
  | [.int i], q => exact call_int1 pins s σ H _ us Q I r (.inl ⟨i, rfl, q⟩)
  | [.bl k], q => exact call_int1 pins s σ H _ us Q I r (.inr ⟨k, rfl, q⟩)
def rTupQ (K : PySem.W.Frag) : List V → Hp → VK → Prop := fun xs H Q => match xs with
  | [.ref p] => ∃ ys, SqL K H p ys ∧ ∀ l, H l = none → Q (.ref l) (upd H l (.tup ys))
  | _ => False
/-- tuple(list) -/
theorem call_tupQ : CallR X (.type "tuple") (rTupQ X.K) := by
  intro pins s σ H xs us Q I r h
  match xs, h with
  | [.ref p], ⟨ys, h1, q⟩ => exact call_tuple_of pins s σ H _ us Q I r ⟨p, ys, rfl, .inl ⟨h1, q⟩⟩
def rAppQ : V → List V → Hp → VK → Prop := fun x vs H Q => match x, vs with
  | .ref l, [y] => ∃ xs, H l = some (.lst xs) ∧ xs.length < sizeLine ∧ Q .non (upd H l (.lst (xs ++ [y])))
  | _, _ => False
theorem mt_appQ : MtR X "list.append" rAppQ := by
  intro pins s σ H x vs v us Q I rx rv h
  match x, vs, h with
  | .ref l, [y], ⟨xs, h1, h2, q⟩ => exact mt_append pins s σ H _ _ v us Q I rx rv ⟨l, xs, y, rfl, rfl, h1, h2, q⟩
def rPopQ : V → List V → Hp → VK → Prop := fun x vs H Q => match x, vs with
  | .ref l, [] => ∃ xs y, H l = some (.lst (xs ++ [y])) ∧ Q y (upd H l (.lst xs))
  | _, _ => False
theorem mt_popQ : MtR X "list.pop" rPopQ := by
  intro pins s σ H x vs v us Q I rx rv h
  match x, vs, h with
  | .ref l, [], ⟨xs, y, h1, q⟩ =>
    refine mt_pop pins s σ H _ _ v us Q I rx rv ⟨l, xs ++ [y], y, rfl, rfl, h1, ?_, ?_⟩
    · rw [List.length_append, List.length_singleton, Nat.add_sub_cancel, List.getElem?_append_right (Nat.le_refl _), Nat.sub_self]
      rfl
    · rw [List.dropLast_concat]
      exact q
def rPopAtQ : V → List V → Hp → VK → Prop := fun x vs H Q => match x, vs with
  | .ref l, [.int i] => ∃ xs y, H l = some (.lst xs) ∧ 0 ≤ i ∧ i < 2 ^ 62 ∧ xs[i.toNat]? = some y ∧ Q y (upd H l (.lst (xs.eraseIdx i.toNat)))
  | _, _ => False
theorem mt_popAtQ : MtR X "list.pop" rPopAtQ := by
  intro pins s σ H x vs v us Q I rx rv h
  match x, vs, h with
  | .ref l, [.int i], ⟨xs, y, h1, h0, hi, h2, q⟩ =>
    refine mt_popAt pins s σ H _ _ v us Q I rx rv ⟨l, xs, i, i.toNat, y, rfl, rfl, h1, by omega, by omega, ?_, h2, q⟩
    have hlt := (List.getElem?_eq_some_iff.mp h2).1
    unfold seqIndex?
    dsimp only
    rw [if_neg (show ¬ i < 0 by omega), if_pos (by simp; omega)]
def rRevQ : V → List V → Hp → VK → Prop := fun x vs H Q => match x, vs with
  | .ref l, [] => ∃ xs, H l = some (.lst xs) ∧ Q .non (upd H l (.lst xs.reverse))
  | _, _ => False
theorem mt_revQ : MtR X "list.reverse" rRevQ := by
  intro pins s σ H x vs v us Q I rx rv h
  match x, vs, h with
  | .ref l, [], ⟨xs, h1, q⟩ => exact mt_reverse pins s σ H _ _ v us Q I rx rv ⟨l, xs, rfl, rfl, h1, q⟩
end
theorem lst_ty {K : PySem.W.Frag} {H : Hp} {p : Addr} {ys : List V} (h : H p = some (.lst ys)) : tyV K "list" (.ref p) H := .inl ⟨rfl, _, .inl (.inl h)⟩
end Sg

/-! breadth-first search over numbered steps, in plain Lean -/
namespace Sg
section
variable {α β : Type} [DecidableEq α] [DecidableEq β]
abbrev Met (α : Type) : Type := List (α × List Nat)
def addStep (stp : α → Nat → α) (a : α) (p : List Nat) (acc : Met α) (x : Nat) : Met α := if stp a x ∈ acc.map Prod.fst then acc else acc ++ [(stp a x, p ++ [x])]
def expand (n : Nat) (stp : α → Nat → α) (acc : Met α) (a : α) (p : List Nat) : Met α := (List.range n).foldl (addStep stp a p) acc
def expandTo (stp : α → Nat → α) (acc : Met α) (a : α) (p : List Nat) (k : Nat) : Met α := (List.range k).foldl (addStep stp a p) acc
def bfs (n : Nat) (stp : α → Nat → α) (tst : α → Bool) : Nat → Nat → Met α → Option (List Nat)
  | 0, _, _ => none
  | f + 1, i, acc => match acc[i]? with
    | none => none
    | some (a, p) => if tst a then some p else bfs n stp tst f (i + 1) (expand n stp acc a p)
theorem expandTo_zero (stp : α → Nat → α) (acc : Met α) (a : α) (p : List Nat) : expandTo stp acc a p 0 = acc := rfl
theorem expandTo_succ (stp : α → Nat → α) (acc : Met α) (a : α) (p : List Nat) (k : Nat) : expandTo stp acc a p (k + 1) = addStep stp a p (expandTo stp acc a p k) k := by
  unfold expandTo
  rw [List.range_succ, List.foldl_append]
  rfl
/-- what holds of all that is met -/
structure MetOk (n : Nat) (stp : α → Nat → α) (s : α) (acc : Met α) : Prop where
  nd : (acc.map Prod.fst).Nodup
  way : ∀ e ∈ acc, e.1 = e.2.foldl stp s ∧ (∀ x ∈ e.2, x < n) ∧ e.2.length < acc.length
theorem met_start (n : Nat) (stp : α → Nat → α) (s : α) : MetOk n stp s [(s, [])] where
  nd := by simp
  way := by
    intro e he
    obtain rfl := List.mem_singleton.mp he
    exact ⟨rfl, by simp, by simp⟩
theorem met_add {n : Nat} {stp : α → Nat → α} {s : α} {acc : Met α} (h : MetOk n stp s acc) {a : α} {p : List Nat} (hm : (a, p) ∈ acc) {x : Nat} (hx : x < n) : MetOk n stp s (addStep stp a p acc x) := by
  unfold addStep
  by_cases c : stp a x ∈ acc.map Prod.fst
  · rw [if_pos c]; exact h
  · rw [if_neg c]
    refine ⟨?_, ?_⟩
    · rw [List.map_append, List.nodup_append]
      refine ⟨h.nd, by simp, fun y hy z hz => ?_⟩
      obtain rfl := List.mem_singleton.mp hz
      exact fun e => c ((show y = stp a x from e) ▸ hy)
    · intro e he
      rw [List.length_append]
      rcases List.mem_append.mp he with he | he
      · obtain ⟨h1, h2, h3⟩ := h.way e he
        exact ⟨h1, h2, by simp; omega⟩
      · obtain rfl := List.mem_singleton.mp he
        obtain ⟨h1, h2, h3⟩ := h.way _ hm
        have h1' : a = p.foldl stp s := h1
        refine ⟨?_, ?_, ?_⟩
        · show stp a x = (p ++ [x]).foldl stp s
          rw [List.foldl_append, ← h1']
          rfl
        · intro y hy
          rcases List.mem_append.mp hy with hy | hy
          · exact h2 y hy
          · rw [List.mem_singleton.mp hy]; exact hx
        · show (p ++ [x]).length < _
          have h3' : p.length < acc.length := h3
          simp
          omega
theorem addStep_sub {stp : α → Nat → α} {a : α} {p : List Nat} {acc : Met α} {x : Nat} : ∃ more, addStep stp a p acc x = acc ++ more := by
  unfold addStep
  by_cases c : stp a x ∈ acc.map Prod.fst
  · rw [if_pos c]; exact ⟨[], by simp⟩
  · rw [if_neg c]; exact ⟨_, rfl⟩
theorem expandTo_sub {stp : α → Nat → α} {acc : Met α} {a : α} {p : List Nat} : ∀ k, ∃ more, expandTo stp acc a p k = acc ++ more
  | 0 => ⟨[], by rw [expandTo_zero]; simp⟩
  | k + 1 => by
    obtain ⟨m1, e1⟩ := expandTo_sub (stp := stp) (acc := acc) (a := a) (p := p) k
    obtain ⟨m2, e2⟩ := addStep_sub (stp := stp) (a := a) (p := p) (acc := expandTo stp acc a p k) (x := k)
    exact ⟨m1 ++ m2, by rw [expandTo_succ, e2, e1, List.append_assoc]⟩
theorem met_expandTo {n : Nat} {stp : α → Nat → α} {s : α} {acc : Met α} (h : MetOk n stp s acc) {a : α} {p : List Nat} (hm : (a, p) ∈ acc) : ∀ k, k ≤ n → MetOk n stp s (expandTo stp acc a p k)
  | 0, _ => h
  | k + 1, hk => by
    rw [expandTo_succ]
    obtain ⟨more, e⟩ := expandTo_sub (stp := stp) (acc := acc) (a := a) (p := p) k
    exact met_add (met_expandTo h hm k (by omega)) (by rw [e]; exact List.mem_append_left _ hm) (by omega)
theorem met_expand {n : Nat} {stp : α → Nat → α} {s : α} {acc : Met α} (h : MetOk n stp s acc) {a : α} {p : List Nat} (hm : (a, p) ∈ acc) : MetOk n stp s (expand n stp acc a p) := met_expandTo h hm n (Nat.le_refl _)
/-- what is found leads to where the test holds -/
theorem bfs_way {n : Nat} {stp : α → Nat → α} {s : α} {tst : α → Bool} : ∀ {f i : Nat} {acc : Met α} {p : List Nat}, MetOk n stp s acc → bfs n stp tst f i acc = some p → tst (p.foldl stp s) = true ∧ ∀ x ∈ p, x < n
  | 0, _, _, _, _, e => nomatch e
  | f + 1, i, acc, p, h, e => by
    unfold bfs at e
    cases hi : acc[i]? with
    | none => rw [hi] at e; cases e
    | some ap =>
      obtain ⟨a, q⟩ := ap
      rw [hi] at e
      have hm : (a, q) ∈ acc := List.mem_of_getElem? hi
      have e2 : (if tst a then some q else bfs n stp tst f (i + 1) (expand n stp acc a q)) = some p := e
      by_cases c : tst a = true
      · rw [if_pos c] at e2
        obtain rfl := Option.some.inj e2
        obtain ⟨h1, h2, _⟩ := h.way _ hm
        have h1' : a = q.foldl stp s := h1
        exact ⟨by rw [← h1']; exact c, h2⟩
      · rw [if_neg c] at e2
        exact bfs_way (met_expand h hm) e2
/-- the met ones are few -/
theorem nodup_few : ∀ {l u : List α}, l.Nodup → (∀ a ∈ l, a ∈ u) → l.length ≤ u.length
  | [], _, _, _ => Nat.zero_le _
  | a :: l, u, h, hs => by
    obtain ⟨h1, h2⟩ := List.nodup_cons.mp h
    have ha : a ∈ u := hs a List.mem_cons_self
    have hl : (u.erase a).length = u.length - 1 := List.length_erase_of_mem ha
    have hpos : 0 < u.length := List.length_pos_of_mem ha
    have := nodup_few (l := l) (u := u.erase a) h2 fun b hb => (List.mem_erase_of_ne (fun e : b = a => h1 (e ▸ hb))).mpr (hs b (List.mem_cons_of_mem _ hb))
    rw [List.length_cons]
    omega
theorem met_few {n : Nat} {stp : α → Nat → α} {s : α} {acc : Met α} (h : MetOk n stp s acc) {u : List α} (hs : s ∈ u) (hc : ∀ a ∈ u, ∀ x, x < n → stp a x ∈ u) : acc.length ≤ u.length := by
  have hin : ∀ (p : List Nat) (a : α), a ∈ u → (∀ x ∈ p, x < n) → p.foldl stp a ∈ u := by
    intro p
    induction p with
    | nil => intro a ha _; exact ha
    | cons x r ih => intro a ha hp; exact ih _ (hc a ha x (hp x List.mem_cons_self)) fun y hy => hp y (List.mem_cons_of_mem _ hy)
  have := nodup_few (l := acc.map Prod.fst) (u := u) h.nd fun a ha => by
    obtain ⟨e, he, rfl⟩ := List.mem_map.mp ha
    obtain ⟨h1, h2, _⟩ := h.way e he
    rw [h1]
    exact hin _ _ hs h2
  rwa [List.length_map] at this
/-- more turns than things tell the same -/
theorem bfs_more {n : Nat} {stp : α → Nat → α} {s : α} {tst : α → Bool} {u : List α} (hs : s ∈ u) (hc : ∀ a ∈ u, ∀ x, x < n → stp a x ∈ u) : ∀ {f g i : Nat} {acc : Met α}, MetOk n stp s acc → u.length < f + i → u.length < g + i → bfs n stp tst f i acc = bfs n stp tst g i acc
  | 0, 0, _, _, _, _, _ => rfl
  | 0, g + 1, i, acc, h, hf, _ => by
    have := met_few h hs hc
    have hn : acc[i]? = none := List.getElem?_eq_none (by omega)
    unfold bfs
    rw [hn]
  | f + 1, 0, i, acc, h, _, hg => by
    have := met_few h hs hc
    have hn : acc[i]? = none := List.getElem?_eq_none (by omega)
    unfold bfs
    rw [hn]
  | f + 1, g + 1, i, acc, h, hf, hg => by
    unfold bfs
    cases hi : acc[i]? with
    | none => rfl
    | some ap =>
      obtain ⟨a, q⟩ := ap
      have hm : (a, q) ∈ acc := List.mem_of_getElem? hi
      show (if tst a then some q else _) = (if tst a then some q else _)
      rw [bfs_more hs hc (f := f) (g := g) (met_expand h hm) (by omega) (by omega)]
/-- another name for each thing -/
def ren (g : α → β) (acc : Met α) : Met β := acc.map fun e => (g e.1, e.2)
theorem ren_add {stp : α → Nat → α} {stq : β → Nat → β} {g : α → β} (gi : ∀ a b, g a = g b → a = b) {a : α} {p : List Nat} {acc : Met α} {x : Nat} (hg : g (stp a x) = stq (g a) x) : addStep stq (g a) p (ren g acc) x = ren g (addStep stp a p acc x) := by
  unfold addStep ren
  have e : (stq (g a) x ∈ (acc.map fun e => (g e.1, e.2)).map Prod.fst) ↔ (stp a x ∈ acc.map Prod.fst) := by
    rw [← hg]
    simp only [List.map_map, List.mem_map, Function.comp]
    constructor
    · rintro ⟨e, he, h⟩
      exact ⟨e, he, gi _ _ h⟩
    · rintro ⟨e, he, h⟩
      exact ⟨e, he, by rw [h]⟩
  by_cases c : stp a x ∈ acc.map Prod.fst
  · rw [if_pos (e.mpr c), if_pos c]
  · rw [if_neg (fun z => c (e.mp z)), if_neg c, List.map_append, ← hg]
    rfl
theorem ren_expandTo {stp : α → Nat → α} {stq : β → Nat → β} {g : α → β} (gi : ∀ a b, g a = g b → a = b) {n : Nat} {a : α} {p : List Nat} {acc : Met α} (hg : ∀ x, x < n → g (stp a x) = stq (g a) x) : ∀ k, k ≤ n → expandTo stq (ren g acc) (g a) p k = ren g (expandTo stp acc a p k)
  | 0, _ => rfl
  | k + 1, hk => by
    rw [expandTo_succ, expandTo_succ, ren_expandTo gi hg k (by omega), ren_add gi (hg k (by omega))]
theorem ren_bfs {n : Nat} {stp : α → Nat → α} {stq : β → Nat → β} {tst : α → Bool} {tsq : β → Bool} {g : α → β} (gi : ∀ a b, g a = g b → a = b) (hg : ∀ a x, x < n → g (stp a x) = stq (g a) x) (ht : ∀ a, tst a = tsq (g a)) :
    ∀ (f i : Nat) (acc : Met α), bfs n stq tsq f i (ren g acc) = bfs n stp tst f i acc
  | 0, _, _ => rfl
  | f + 1, i, acc => by
    unfold bfs
    have e : (ren g acc)[i]? = (acc[i]?).map fun e => (g e.1, e.2) := by
      unfold ren
      rw [List.getElem?_map]
    rw [e]
    cases hi : acc[i]? with
    | none => rfl
    | some ap =>
      obtain ⟨a, q⟩ := ap
      show (if tsq (g a) then some q else bfs n stq tsq f (i + 1) (expandTo stq (ren g acc) (g a) q n)) = (if tst a then some q else bfs n stp tst f (i + 1) (expand n stp acc a q))
      rw [ht a, ren_expandTo gi (fun x hx => hg a x hx) n (Nat.le_refl _), ren_bfs gi hg ht f (i + 1) _]
      rfl
end
end Sg
namespace Sg
section
variable {α : Type} [DecidableEq α]
theorem bfs_end {n : Nat} {stp : α → Nat → α} {tst : α → Bool} {f i : Nat} {acc : Met α} (h : acc.length ≤ i) : bfs n stp tst f i acc = none := by
  cases f with
  | zero => rfl
  | succ f =>
    unfold bfs
    rw [List.getElem?_eq_none h]
theorem bfs_hit {n : Nat} {stp : α → Nat → α} {tst : α → Bool} {f i : Nat} {acc : Met α} {a : α} {p : List Nat} (h : acc[i]? = some (a, p)) (t : tst a = true) : bfs n stp tst (f + 1) i acc = some p := by
  show (match acc[i]? with | none => none | some (a, p) => if tst a then some p else bfs n stp tst f (i + 1) (expand n stp acc a p)) = _
  rw [h]
  exact if_pos t
theorem bfs_go {n : Nat} {stp : α → Nat → α} {tst : α → Bool} {f i : Nat} {acc : Met α} {a : α} {p : List Nat} (h : acc[i]? = some (a, p)) (t : tst a = false) : bfs n stp tst (f + 1) i acc = bfs n stp tst f (i + 1) (expandTo stp acc a p n) := by
  show (match acc[i]? with | none => none | some (a, p) => if tst a then some p else bfs n stp tst f (i + 1) (expand n stp acc a p)) = _
  rw [h]
  exact if_neg (by rw [t]; exact Bool.false_ne_true)
theorem met_closed {n : Nat} {stp : α → Nat → α} {s : α} {acc : Met α} (h : MetOk n stp s acc) (C : α → Prop) (hs : C s) (hc : ∀ a x, C a → x < n → C (stp a x)) : ∀ e ∈ acc, C e.1 := by
  have hin : ∀ (p : List Nat) (a : α), C a → (∀ x ∈ p, x < n) → C (p.foldl stp a) := by
    intro p
    induction p with
    | nil => intro a ha _; exact ha
    | cons x r ih => intro a ha hp; exact ih _ (hc a x ha (hp x List.mem_cons_self)) fun y hy => hp y (List.mem_cons_of_mem _ hy)
  intro e he
  obtain ⟨h1, h2, _⟩ := h.way e he
  rw [h1]
  exact hin _ _ hs h2
end
end Sg

/-! lookers as data -/
namespace Sg
open PySem PySem.Spec PyProof.Rows L2
def isWh : V → Bool
  | .int i => decide (0 ≤ i)
  | _ => false
def isBt : V → Bool
  | .int i => decide (0 ≤ i) && decide (i ≤ 1)
  | _ => false
def isSt (n : Int) : V → Bool
  | .int i => decide (0 ≤ i) && decide (i < n)
  | _ => false
/-- a tuple of how many things -/
def RowB (K : PySem.W.Frag) (H : Hp) (x : V) (n : Int) (b : Bool) : Prop :=
  (∃ a xs, x = .ref a ∧ SqT K H a xs ∧ b = decide ((xs.length : Int) = n)) ∨ (Kd K H x ∧ isaB "tuple" x = false ∧ b = false)
/-- one to five unlike signs -/
def sgB (z : Str) : Bool := decide (1 ≤ z.length) && (decide (z.length ≤ 5) && decide ((once (signsOf z)).length = z.length))
abbrev LRow : Type := Int × List Int
def RSt (K : PySem.W.Frag) (H : Hp) (v : V) (r : LRow) : Prop := ∃ a b, v = .ref a ∧ SqT K H a [.int r.1, .ref b] ∧ SqT K H b (r.2.map V.int)
def RRows (K : PySem.W.Frag) (H : Hp) (b : Addr) (rs : List LRow) : Prop := ∃ vs, SqT K H b vs ∧ Paired (RSt K H) vs rs
def RLk (K : PySem.W.Frag) (H : Hp) (v : V) (z : Str) (rs : List LRow) : Prop := ∃ a b, v = .ref a ∧ SqT K H a [.str z, .ref b] ∧ RRows K H b rs
structure RowsOk (n : Nat) (rs : List LRow) : Prop where
  pos : 1 ≤ rs.length
  top : rs.length ≤ 600
  bit : ∀ r ∈ rs, r.1 = 0 ∨ r.1 = 1
  wid : ∀ r ∈ rs, r.2.length = n
  to : ∀ r ∈ rs, ∀ q ∈ r.2, 0 ≤ q ∧ q < (rs.length : Int)
structure SignsOk (z : Str) : Prop where
  pos : 1 ≤ z.length
  top : z.length ≤ 5
  nd : z.cps.toList.Nodup
  low : ∀ c ∈ z.cps.toList, c < 128
theorem signs_once {z : Str} (h : z.cps.toList.Nodup) : (once (signsOf z)).length = z.length := by
  have hn : (signsOf z).Nodup := by
    unfold signsOf
    refine List.Pairwise.map _ (fun a b hab e => hab ?_) h
    have e2 : (#[a] : Array Nat) = #[b] := congrArg Str.cps e
    have e3 : [a] = [b] := congrArg Array.toList e2
    exact (List.cons.inj e3).1
  rw [once_nodup_self hn]
  unfold signsOf
  rw [List.length_map, Array.length_toList]
  rfl
theorem SignsOk.sgB {z : Str} (h : SignsOk z) : sgB z = true := by
  unfold Sg.sgB
  rw [decide_eq_true h.pos, decide_eq_true h.top, decide_eq_true (signs_once h.nd)]
  rfl
theorem pr_mono {α β : Type} {F G : α → β → Prop} {l : List α} {m : List β} (h : Paired F l m) (f : ∀ a b, F a b → G a b) : Paired G l m := by
  induction h with
  | nil => exact .nil
  | cons r _ ih => exact .cons (f _ _ r) ih
theorem pr_get {α β : Type} {F : α → β → Prop} {l : List α} {m : List β} (h : Paired F l m) : ∀ {i : Nat} {a : α}, l[i]? = some a → ∃ b, m[i]? = some b ∧ F a b := by
  induction h with
  | nil => intro i a e; simp at e
  | cons r _ ih =>
    intro i a e
    cases i with
    | zero =>
      obtain rfl := Option.some.inj e
      exact ⟨_, rfl, r⟩
    | succ i => exact ih e
theorem pr_get' {α β : Type} {F : α → β → Prop} {l : List α} {m : List β} (h : Paired F l m) : ∀ {i : Nat} {b : β}, m[i]? = some b → ∃ a, l[i]? = some a ∧ F a b := by
  induction h with
  | nil => intro i b e; simp at e
  | cons r _ ih =>
    intro i b e
    cases i with
    | zero =>
      obtain rfl := Option.some.inj e
      exact ⟨_, rfl, r⟩
    | succ i => exact ih e
theorem RSt.mono {K : PySem.W.Frag} {H H' : Hp} (k : TK H H') {v : V} {r : LRow} (h : RSt K H v r) : RSt K H' v r := by
  obtain ⟨a, b, e, h1, h2⟩ := h
  exact ⟨a, b, e, k.sqT h1, k.sqT h2⟩
theorem RRows.mono {K : PySem.W.Frag} {H H' : Hp} (k : TK H H') {b : Addr} {rs : List LRow} (h : RRows K H b rs) : RRows K H' b rs := by
  obtain ⟨vs, h1, h2⟩ := h
  exact ⟨vs, k.sqT h1, pr_mono h2 fun _ _ r => r.mono k⟩
theorem RLk.mono {K : PySem.W.Frag} {H H' : Hp} (k : TK H H') {v : V} {z : Str} {rs : List LRow} (h : RLk K H v z rs) : RLk K H' v z rs := by
  obtain ⟨a, b, e, h1, h2⟩ := h
  exact ⟨a, b, e, k.sqT h1, h2.mono k⟩
/-- tests that come out -/
theorem ifT {A B : Prop} {c : Bool} (hc : c = true) (h : A) : if c = true then A else B := by
  rw [if_pos hc]
  exact h
theorem ifF {A B : Prop} {c : Bool} (hc : c = false) (h : B) : if c = true then A else B := by
  rw [hc, if_neg Bool.false_ne_true]
  exact h
theorem szle {n m : Nat} (h : n ≤ m) (hm : m ≤ 1000000 := by omega) : n ≤ sizeLine := by
  rw [sizeLine_eq]
  omega
theorem szlt {n m : Nat} (h : n ≤ m) (hm : m ≤ 1000000 := by omega) : n < sizeLine := by
  rw [sizeLine_eq]
  omega
end Sg

namespace Sg
open PySem PySem.Spec PyProof.Rows L2
/-! ### lookers, what they do -/
def rowOf (rs : List LRow) (p : Int) : LRow := rs.getD p.toNat (0, [])
def nxt (rs : List LRow) (p : Int) (x : Nat) : Int := (rowOf rs p).2.getD x 0
def endAt (rs : List LRow) (p : Int) : Int := (rowOf rs p).1
def InSt (rs : List LRow) (p : Int) : Prop := 0 ≤ p ∧ p < (rs.length : Int)
theorem rowOf_get {rs : List LRow} {p : Int} (h : InSt rs p) : rs[p.toNat]? = some (rowOf rs p) := by
  unfold rowOf
  have : p.toNat < rs.length := by have := h.1; have := h.2; omega
  rw [List.getD_eq_getElem?_getD, List.getElem?_eq_getElem this]
  rfl
theorem rowOf_mem {rs : List LRow} {p : Int} (h : InSt rs p) : rowOf rs p ∈ rs := List.mem_of_getElem? (rowOf_get h)
theorem nxt_get {n : Nat} {rs : List LRow} (ok : RowsOk n rs) {p : Int} (h : InSt rs p) {x : Nat} (hx : x < n) : (rowOf rs p).2[x]? = some (nxt rs p x) := by
  unfold nxt
  have : x < (rowOf rs p).2.length := by rw [ok.wid _ (rowOf_mem h)]; exact hx
  rw [List.getD_eq_getElem?_getD, List.getElem?_eq_getElem this]
  rfl
theorem nxt_in {n : Nat} {rs : List LRow} (ok : RowsOk n rs) {p : Int} (h : InSt rs p) {x : Nat} (hx : x < n) : InSt rs (nxt rs p x) := ok.to _ (rowOf_mem h) _ (List.mem_of_getElem? (nxt_get ok h hx))
theorem endAt_bit {n : Nat} {rs : List LRow} (ok : RowsOk n rs) {p : Int} (h : InSt rs p) : endAt rs p = 0 ∨ endAt rs p = 1 := ok.bit _ (rowOf_mem h)
theorem in_zero {n : Nat} {rs : List LRow} (ok : RowsOk n rs) : InSt rs 0 := ⟨Int.le_refl _, by have := ok.pos; omega⟩
/-- reading a state of a looker -/
theorem RRows.at {K : PySem.W.Frag} {H : Hp} {b : Addr} {rs : List LRow} (h : RRows K H b rs) {p : Int} (hp : InSt rs p) :
    ∃ vs a1 b1, SqT K H b vs ∧ atI vs p = some (.ref a1) ∧ SqT K H a1 [.int (endAt rs p), .ref b1] ∧ SqT K H b1 ((rowOf rs p).2.map V.int) := by
  obtain ⟨vs, h1, h2⟩ := h
  obtain ⟨v, hv, a1, b1, rfl, h3, h4⟩ := pr_get' h2 (rowOf_get hp)
  refine ⟨vs, a1, b1, h1, ?_, h3, h4⟩
  have e : p = ((p.toNat : Nat) : Int) := by have := hp.1; omega
  exact L2.at_of e hv
theorem row_at {n : Nat} {rs : List LRow} (ok : RowsOk n rs) {p : Int} (h : InSt rs p) {x : Nat} (hx : x < n) : atI ((rowOf rs p).2.map V.int) (x : Int) = some (.int (nxt rs p x)) :=
  atI_nat (by rw [List.getElem?_map, nxt_get ok h hx]; rfl)
/-! ### texts by places of signs -/
def textOf (z : Str) (p : List Nat) : Str := ⟨(p.map fun x => z.cps.getD x 0).toArray⟩
theorem str_ext {x y : Str} (h : x.cps.toList = y.cps.toList) : x = y := by
  obtain ⟨a⟩ := x
  obtain ⟨b⟩ := y
  have e : a = b := Array.toList_inj.mp h
  rw [e]
theorem joinL_nil : ∀ l : List (List Nat), TL.joinL [] l = l.flatten
  | [] => rfl
  | [p] => by simp [TL.joinL]
  | p :: q :: r => by
    show p ++ ([] ++ TL.joinL [] (q :: r)) = _
    rw [List.nil_append, joinL_nil (q :: r)]
    rfl
theorem flatten_ones : ∀ l : List Nat, ((l.map fun c => [c]).flatten) = l
  | [] => rfl
  | c :: r => by
    show [c] ++ (r.map fun c => [c]).flatten = _
    rw [flatten_ones r]
    rfl
theorem join_signs (l : List Nat) : Txt.join (Str.ofString "") (l.map sgn) = ⟨l.toArray⟩ := by
  apply str_ext
  rw [TL.join_eq]
  have h := TL.tl_join (Str.ofString "") (l.map sgn)
  have e : TL.tl (Str.ofString "") = [] := by decide
  rw [e, joinL_nil, List.map_map] at h
  have e2 : (l.map (TL.tl ∘ sgn)).flatten = l := flatten_ones l
  rw [e2] at h
  exact h
theorem sum_ones : ∀ l : List Nat, ((l.map sgn).map (·.length)).sum = l.length
  | [] => rfl
  | c :: r => by
    show (1 : Nat) + ((r.map sgn).map (·.length)).sum = r.length + 1
    rw [sum_ones r]
    omega
theorem find_sign {z : Str} {i c : Nat} (nd : z.cps.toList.Nodup) (hi : z.cps.toList[i]? = some c) : Txt.find z (sgn c) = (i : Int) := by
  have at_i : ∀ j, StrLaws.At z (sgn c) z.length j ↔ z.cps.toList[j]? = some c := by
    intro j
    rw [TL.at_iff (by show [c] ≠ []; simp)]
    show TL.pre [c] (z.cps.toList.drop j) = true ↔ _
    cases hd : z.cps.toList.drop j with
    | nil =>
      have : z.cps.toList[j]? = none := by
        have h := congrArg (fun l : List Nat => l[0]?) hd
        simp only [List.getElem?_drop] at h
        simpa using h
      rw [this]
      constructor
      · intro h; cases h
      · intro h; cases h
    | cons a r =>
      have : z.cps.toList[j]? = some a := by
        have h := congrArg (fun l : List Nat => l[0]?) hd
        simp only [List.getElem?_drop] at h
        simpa using h
      rw [this]
      constructor
      · intro h
        have h2 : ([a] == [c]) = true := h
        have h3 : [a] = [c] := beq_iff_eq.mp h2
        rw [(List.cons.inj h3).1]
      · intro h
        obtain rfl := Option.some.inj h
        show ([a] == [a]) = true
        exact beq_self_eq_true _
  rcases find_whole z (sgn c) with ⟨_, h⟩ | ⟨k, e, h1, _⟩
  · exact absurd ((at_i i).mpr hi) (h i)
  · rw [e]
    have h2 := (at_i k).mp h1
    obtain ⟨q1, e1⟩ := List.getElem?_eq_some_iff.mp h2
    obtain ⟨q2, e2⟩ := List.getElem?_eq_some_iff.mp hi
    have : k = i := (List.getElem_inj nd).mp (e1.trans e2.symm)
    rw [this]
/-! ### how a thing was met: the dict of what came ahead -/
theorem dget_mono {H H' : Hp} (s : Same H H') {d : Addr} {y : V} {r : Option V} (h : DGet H d y r) : DGet H' d y r := by
  have rd : ∀ {a : Addr} {u : HO}, Rd H a u → Rd H' a u := fun h => h.elim (fun h => .inl (s _ _ h)) fun ⟨o, h⟩ => .inr ⟨o, s _ _ h⟩
  rcases h with ⟨kvs, k, h1, h2, h3⟩ | ⟨kvs, k, b, h1, h2, h3, h4⟩
  · exact .inl ⟨kvs, k, rd h1, h2, h3⟩
  · exact .inr ⟨kvs, k, b, rd h1, h2, s _ _ h3, h4⟩
inductive Chain (K : PySem.W.Frag) (H : Hp) (d : Addr) : V → List Nat → Prop where
  | root {y : V} (h : DGet H d y (some .non)) : Chain K H d y []
  | step {y y' : V} {t : Addr} {x : Nat} {p : List Nat} (h : DGet H d y (some (.ref t))) (ht : SqT K H t [y', .int (x : Int)]) (r : Chain K H d y' p) : Chain K H d y (p ++ [x])
theorem Chain.mono {K : PySem.W.Frag} {H H' : Hp} {d : Addr} (s : Same H H') {y : V} {p : List Nat} (h : Chain K H d y p) : Chain K H' d y p := by
  induction h with
  | root h => exact .root (dget_mono s h)
  | step h ht _ ih => exact .step (dget_mono s h) (Same.sqT s ht) ih
/-- what the dict tells of a key that was met by q -/
def StepV (K : PySem.W.Frag) (H : Hp) (d : Addr) (v : V) (q : List Nat) : Prop := (v = .non ∧ q = []) ∨ ∃ t y x q0, v = .ref t ∧ SqT K H t [y, .int ((x : Nat) : Int)] ∧ Chain K H d y q0 ∧ q = q0 ++ [x]
theorem Chain.get {K : PySem.W.Frag} {H : Hp} {d : Addr} {y : V} {p : List Nat} (h : Chain K H d y p) : ∃ v, DGet H d y (some v) ∧ StepV K H d v p := by
  cases h with
  | root h => exact ⟨_, h, .inl ⟨rfl, rfl⟩⟩
  | step h ht r => exact ⟨_, h, .inr ⟨_, _, _, _, rfl, ht, r, rfl⟩⟩
theorem StepV.mono {K : PySem.W.Frag} {H H' : Hp} {d : Addr} (s : Same H H') {v : V} {q : List Nat} (h : StepV K H d v q) : StepV K H' d v q := by
  rcases h with h | ⟨t, y, x, q0, h1, h2, h3, h4⟩
  · exact .inl h
  · exact .inr ⟨t, y, x, q0, h1, Same.sqT s h2, h3.mono s, h4⟩
def sgs (z : Str) (q : List Nat) : List V := q.map fun x => V.str (sgn (z.cps.getD x 0))
theorem at_sign {z : Str} {x : Nat} (h : x < z.length) : atI z.cps.toList (x : Int) = some (z.cps.getD x 0) := by
  refine atI_nat ?_
  rw [Array.getElem?_toList, Array.getElem?_eq_getElem h, Array.getD_eq_getD_getElem?, Array.getElem?_eq_getElem h]
  rfl
end Sg

namespace Sg
open PySem PySem.Spec PyProof.Rows L2
theorem sqT_upd {K : PySem.W.Frag} {H : Hp} {p a : Addr} {o u : HO} {xs : List V} (hp : H p = some u) (nt : ∀ ys, u ≠ .tup ys) (nf : ∀ q v, u ≠ .frz q v) (h : SqT K H a xs) : SqT K (upd H p o) a xs := by
  rcases h with (h | ⟨q, h⟩) | h
  · exact .inl (.inl (by rw [upd_ne (fun z => nt _ (by rw [z, hp] at h; exact Option.some.inj h))]; exact h))
  · exact .inl (.inr ⟨q, by rw [upd_ne (fun z => nf _ _ (by rw [z, hp] at h; exact Option.some.inj h))]; exact h⟩)
  · exact .inr h
theorem Chain.grow {K : PySem.W.Frag} {H H' : Hp} {d : Addr} (hd : ∀ y v, DGet H d y (some v) → DGet H' d y (some v)) (ht : ∀ a xs, SqT K H a xs → SqT K H' a xs) {y : V} {p : List Nat} (h : Chain K H d y p) : Chain K H' d y p := by
  induction h with
  | root h => exact .root (hd _ _ h)
  | step h h2 _ ih => exact .step (hd _ _ h) (ht _ _ h2) ih
/-- a list changes: the dict tells the same -/
theorem dget_lst {H : Hp} {d l : Addr} {xs ys : List V} (hl : H l = some (.lst xs)) {y v : V} (h : DGet H d y (some v)) : DGet (upd H l (.lst ys)) d y (some v) := by
  have rd : ∀ {a : Addr} {u : HO}, (∀ zs, u ≠ .lst zs) → Rd H a u → Rd (upd H l (.lst ys)) a u := fun {a u} n h => by
    rcases h with h | ⟨o, h⟩
    · exact .inl (by rw [upd_ne (fun z => n xs (by rw [z, hl] at h; exact (Option.some.inj h).symm))]; exact h)
    · exact .inr ⟨o, by rw [upd_ne (fun z => by rw [z, hl] at h; cases h)]; exact h⟩
  rcases h with ⟨kvs, k, h1, h2, h3⟩ | ⟨kvs, k, b, h1, h2, h3, h4⟩
  · exact .inl ⟨kvs, k, rd (fun zs => nofun) h1, h2, h3⟩
  · exact .inr ⟨kvs, k, b, rd (fun zs => nofun) h1, h2, by rw [upd_ne (fun z => by rw [z, hl] at h3; cases h3)]; exact h3, h4⟩
/-! ### dicts with int keys -/
theorem dget_int {H : Hp} {d : Addr} {kvs : List (Key × V)} (hd : H d = some (.dK kvs)) {y : V} {r : Option V} (h : DGet H d y r) : ∃ k, y = kV k ∧ r = valV kvs k := by
  rcases h with ⟨kvs', k, h1, h2, h3⟩ | ⟨kvs', k, b, h1, _⟩
  · rcases h1 with h1 | ⟨o, h1⟩
    · rw [hd] at h1
      have e : kvs = kvs' := by injection Option.some.inj h1
      exact ⟨k, h2, e ▸ h3⟩
    · rw [hd] at h1; cases h1
  · rcases h1 with h1 | ⟨o, h1⟩ <;> (rw [hd] at h1; cases h1)
theorem dget_putK {H : Hp} {d : Addr} {kvs : List (Key × V)} (hd : H d = some (.dK kvs)) {k0 : Key} {w : V} (hn : valV kvs k0 = none) {y v : V} (h : DGet H d y (some v)) : DGet (upd H d (.dK (putK kvs k0 w))) d y (some v) := by
  obtain ⟨k, rfl, hk⟩ := dget_int hd h
  refine .inl ⟨_, k, .inl upd_same, rfl, ?_⟩
  rw [valV_put, if_neg (fun z => by rw [z, hn] at hk; cases hk)]
  exact hk
structure CameI (K : PySem.W.Frag) (H0 : Hp) (dc lo : Addr) (acc : Met Int) (H : Hp) : Prop where
  same : Same H0 H
  n1 : H0 dc = none
  n2 : H0 lo = none
  dict : ∃ kvs, H dc = some (.dK kvs) ∧ (∀ a, (valV kvs (.inl a)).isSome = true ↔ a ∈ acc.map Prod.fst) ∧ kvs.length ≤ acc.length
  list : H lo = some (.lst (acc.map fun e => V.int e.1))
  chain : ∀ e ∈ acc, Chain K H dc (.int e.1) e.2
theorem CameI.other {K : PySem.W.Frag} {H0 H : Hp} {dc lo : Addr} {acc : Met Int} (c : CameI K H0 dc lo acc H) {T : Addr} {o : HO} (hT : H T = none) : CameI K H0 dc lo acc (upd H T o) := by
  have s : Same H (upd H T o) := same_upd hT
  obtain ⟨kvs, h1, h2, h3⟩ := c.dict
  exact ⟨Same.trans c.same s, c.n1, c.n2, ⟨kvs, s _ _ h1, h2, h3⟩, s _ _ c.list, fun e he => (c.chain e he).mono s⟩
theorem CameI.add {K : PySem.W.Frag} {H0 H : Hp} {dc lo : Addr} {acc : Met Int} (c : CameI K H0 dc lo acc H) {kvs : List (Key × V)} (hd : H dc = some (.dK kvs)) {a : Int} {p : List Nat} (hm : (a, p) ∈ acc) {x : Nat} {T : Addr} (hT : SqT K H T [.int a, .int (x : Int)]) {y : Int} (hy : y ∉ acc.map Prod.fst) :
    CameI K H0 dc lo (acc ++ [(y, p ++ [x])]) (upd (upd H dc (.dK (putK kvs (.inl y) (.ref T)))) lo (.lst ((acc.map fun e => V.int e.1) ++ [.int y]))) := by
  obtain ⟨kvs', h1, h2, h3⟩ := c.dict
  have ek : kvs' = kvs := by
    rw [hd] at h1
    injection Option.some.inj h1 with e
    exact e.symm
  subst ek
  have hn : valV kvs' (.inl y) = none := by
    cases e : valV kvs' (.inl y) with
    | none => rfl
    | some v => exact absurd ((h2 y).mp (by rw [e]; rfl)) hy
  have hne : dc ≠ lo := ne_of hd c.list (fun z => nomatch z)
  have l1 : (upd H dc (.dK (putK kvs' (.inl y) (.ref T)))) lo = some (.lst (acc.map fun e => V.int e.1)) := by rw [upd_ne (Ne.symm hne)]; exact c.list
  have dg : ∀ y' v, DGet H dc y' (some v) → DGet (upd (upd H dc (.dK (putK kvs' (.inl y) (.ref T)))) lo (.lst ((acc.map fun e => V.int e.1) ++ [.int y]))) dc y' (some v) := fun y' v h => dget_lst l1 (dget_putK hd hn h)
  have st : ∀ a xs, SqT K H a xs → SqT K (upd (upd H dc (.dK (putK kvs' (.inl y) (.ref T)))) lo (.lst ((acc.map fun e => V.int e.1) ++ [.int y]))) a xs := fun a xs h => sqT_upd l1 (fun _ => nofun) (fun _ _ => nofun) (sqT_upd hd (fun _ => nofun) (fun _ _ => nofun) h)
  refine ⟨fun b o hb => ?_, c.n1, c.n2, ⟨putK kvs' (.inl y) (.ref T), by rw [upd_ne hne, upd_same], fun b => ?_, ?_⟩, ?_, fun e he => ?_⟩
  · rw [upd_ne (ne_of_none hb c.n2), upd_ne (ne_of_none hb c.n1)]
    exact c.same b o hb
  · rw [valV_put, List.map_append, List.mem_append]
    by_cases e : (Sum.inl b : Key) = Sum.inl y
    · rw [if_pos e]
      have e2 : b = y := Sum.inl.inj e
      exact ⟨fun _ => .inr (by rw [e2]; simp), fun _ => rfl⟩
    · rw [if_neg e, h2 b]
      have e2 : b ≠ y := fun z => e (by rw [z])
      exact ⟨.inl, fun h => h.elim id fun h => absurd (by simpa using h) e2⟩
  · have := length_putK kvs' (.inl y) (.ref T)
    rw [List.length_append]
    simp
    omega
  · rw [upd_same, List.map_append]
    rfl
  · rcases List.mem_append.mp he with he | he
    · exact (c.chain e he).grow dg st
    · obtain rfl := List.mem_singleton.mp he
      refine .step (y' := .int a) (t := T) ?_ (st _ _ hT) ((c.chain _ hm).grow dg st)
      refine dget_lst l1 (.inl ⟨_, .inl y, .inl upd_same, rfl, ?_⟩)
      rw [valV_put, if_pos rfl]
end Sg
namespace Sg
open PySem PySem.Spec PyProof.Rows L2
theorem CameI.start {K : PySem.W.Frag} {H H1 : Hp} {dc lo : Addr} {s : Int} (n1 : H dc = none) (e1 : H1 = upd (upd H dc (.dK [])) dc (.dK [(.inl s, .non)])) (n2 : H1 lo = none) : CameI K H dc lo [(s, [])] (upd H1 lo (.lst [.int s])) := by
  have hne : dc ≠ lo := fun z => by rw [← z, e1, upd_same] at n2; cases n2
  have l1 : H1 dc = some (.dK [(.inl s, .non)]) := by rw [e1, upd_same]
  have h0 : H lo = none := by rw [e1, upd_ne (Ne.symm hne), upd_ne (Ne.symm hne)] at n2; exact n2
  refine ⟨fun b o hb => ?_, n1, h0, ⟨_, by rw [upd_ne hne]; exact l1, fun a => ?_, Nat.le_refl _⟩, by rw [upd_same]; rfl, fun e he => ?_⟩
  · rw [upd_ne (ne_of_none hb h0), e1, upd_ne (ne_of_none hb n1), upd_ne (ne_of_none hb n1)]
    exact hb
  · by_cases c : s = a
    · subst c
      simp [valV]
    · simp [valV, c, Ne.symm c]
  · obtain rfl := List.mem_singleton.mp he
    exact .root (dget_mono (same_upd n2) (.inl ⟨_, .inl s, .inl l1, rfl, by simp [valV]⟩))
def stR (n : Nat) : List Int := (List.range n).map Int.ofNat
theorem mem_stR {rs : List LRow} {p : Int} : p ∈ stR rs.length ↔ InSt rs p := by
  unfold stR
  rw [List.mem_map]
  constructor
  · rintro ⟨x, hx, rfl⟩
    have := List.mem_range.mp hx
    exact ⟨Int.natCast_nonneg _, by show ((x : Nat) : Int) < _; omega⟩
  · rintro ⟨h1, h2⟩
    exact ⟨p.toNat, List.mem_range.mpr (by omega), by show ((p.toNat : Nat) : Int) = p; omega⟩
theorem stR_len (n : Nat) : (stR n).length = n := by simp [stR]
end Sg

namespace Sg
open PySem PySem.Spec PyProof.Rows L2
/-! ### dicts whose keys are pairs of ints -/
abbrev IP : Type := Int × Int
def kyP (a : IP) : List Key := [.inl a.1, .inl a.2]
theorem kyP_inj {a b : IP} (h : kyP a = kyP b) : a = b := by
  unfold kyP at h
  obtain ⟨h1, h2⟩ := List.cons.inj h
  exact Prod.ext (Sum.inl.inj h1) (Sum.inl.inj (List.cons.inj h2).1)
def tuP (a : IP) : HO := .tup [.int a.1, .int a.2]
theorem dget_tup {H : Hp} {d : Addr} {kvs : List (List Key × V)} (hd : H d = some (.dT kvs)) {y : V} {r : Option V} (h : DGet H d y r) : ∃ k b, y = .ref b ∧ H b = some (.tup (k.map kV)) ∧ r = valV kvs k := by
  rcases h with ⟨kvs', k, h1, _⟩ | ⟨kvs', k, b, h1, h2, h3, h4⟩
  · rcases h1 with h1 | ⟨o, h1⟩ <;> (rw [hd] at h1; cases h1)
  · rcases h1 with h1 | ⟨o, h1⟩
    · rw [hd] at h1
      have e : kvs = kvs' := by injection Option.some.inj h1
      exact ⟨k, b, h2, h3, e ▸ h4⟩
    · rw [hd] at h1; cases h1
theorem dget_putT {H : Hp} {d : Addr} {kvs : List (List Key × V)} (hd : H d = some (.dT kvs)) {k0 : List Key} {w : V} (hn : valV kvs k0 = none) {y v : V} (h : DGet H d y (some v)) : DGet (upd H d (.dT (putK kvs k0 w))) d y (some v) := by
  obtain ⟨k, b, rfl, hb, hk⟩ := dget_tup hd h
  refine .inr ⟨_, k, b, .inl upd_same, rfl, by rw [upd_ne (fun z => by rw [z, hd] at hb; cases hb)]; exact hb, ?_⟩
  rw [valV_put, if_neg (fun z => by rw [z, hn] at hk; cases hk)]
  exact hk
structure CameT (K : PySem.W.Frag) (H0 : Hp) (dc lo : Addr) (acc : Met IP) (H : Hp) (os : List Addr) : Prop where
  same : Same H0 H
  n1 : H0 dc = none
  n2 : H0 lo = none
  dict : ∃ kvs, H dc = some (.dT kvs) ∧ (∀ a, (valV kvs (kyP a)).isSome = true ↔ a ∈ acc.map Prod.fst) ∧ kvs.length ≤ acc.length
  list : H lo = some (.lst (os.map V.ref))
  chain : Paired (fun o e => H o = some (tuP e.1) ∧ Chain K H dc (.ref o) e.2) os acc
theorem CameT.other {K : PySem.W.Frag} {H0 H : Hp} {dc lo : Addr} {acc : Met IP} {os : List Addr} (c : CameT K H0 dc lo acc H os) {T : Addr} {o : HO} (hT : H T = none) : CameT K H0 dc lo acc (upd H T o) os := by
  have s : Same H (upd H T o) := same_upd hT
  obtain ⟨kvs, h1, h2, h3⟩ := c.dict
  exact ⟨Same.trans c.same s, c.n1, c.n2, ⟨kvs, s _ _ h1, h2, h3⟩, s _ _ c.list, pr_mono c.chain fun o e h => ⟨s _ _ h.1, h.2.mono s⟩⟩
theorem pr_snoc {α β : Type} {F : α → β → Prop} {l : List α} {m : List β} (h : Paired F l m) {a : α} {b : β} (r : F a b) : Paired F (l ++ [a]) (m ++ [b]) := by
  induction h with
  | nil => exact .cons r .nil
  | cons r' _ ih => exact .cons r' ih
theorem pr_len {α β : Type} {F : α → β → Prop} {l : List α} {m : List β} (h : Paired F l m) : l.length = m.length := by
  induction h with
  | nil => rfl
  | cons _ _ ih => rw [List.length_cons, List.length_cons, ih]
theorem CameT.add {K : PySem.W.Frag} {H0 H : Hp} {dc lo : Addr} {acc : Met IP} {os : List Addr} (c : CameT K H0 dc lo acc H os) {kvs : List (List Key × V)} (hd : H dc = some (.dT kvs)) {o : Addr} {p : List Nat} (hc : Chain K H dc (.ref o) p) {x : Nat} {T : Addr} (hT : SqT K H T [.ref o, .int (x : Int)]) {y : IP} {t : Addr} (ht : H t = some (tuP y)) (hy : y ∉ acc.map Prod.fst) :
    CameT K H0 dc lo (acc ++ [(y, p ++ [x])]) (upd (upd H dc (.dT (putK kvs (kyP y) (.ref T)))) lo (.lst (os.map V.ref ++ [.ref t]))) (os ++ [t]) := by
  obtain ⟨kvs', h1, h2, h3⟩ := c.dict
  have ek : kvs' = kvs := by
    rw [hd] at h1
    injection Option.some.inj h1 with e
    exact e.symm
  subst ek
  have hn : valV kvs' (kyP y) = none := by
    cases e : valV kvs' (kyP y) with
    | none => rfl
    | some v => exact absurd ((h2 y).mp (by rw [e]; rfl)) hy
  have hne : dc ≠ lo := ne_of hd c.list (fun z => nomatch z)
  have l1 : (upd H dc (.dT (putK kvs' (kyP y) (.ref T)))) lo = some (.lst (os.map V.ref)) := by rw [upd_ne (Ne.symm hne)]; exact c.list
  have dg : ∀ y' v, DGet H dc y' (some v) → DGet (upd (upd H dc (.dT (putK kvs' (kyP y) (.ref T)))) lo (.lst (os.map V.ref ++ [.ref t]))) dc y' (some v) := fun y' v h => dget_lst l1 (dget_putT hd hn h)
  have st : ∀ a xs, SqT K H a xs → SqT K (upd (upd H dc (.dT (putK kvs' (kyP y) (.ref T)))) lo (.lst (os.map V.ref ++ [.ref t]))) a xs := fun a xs h => sqT_upd l1 (fun _ => nofun) (fun _ _ => nofun) (sqT_upd hd (fun _ => nofun) (fun _ _ => nofun) h)
  have tu : ∀ a e, H a = some (tuP e) → (upd (upd H dc (.dT (putK kvs' (kyP y) (.ref T)))) lo (.lst (os.map V.ref ++ [.ref t]))) a = some (tuP e) := fun a e h => by
    rw [upd_ne (fun z => by rw [z, c.list] at h; cases h), upd_ne (fun z => by rw [z, hd] at h; cases h)]
    exact h
  refine ⟨fun b o hb => ?_, c.n1, c.n2, ⟨putK kvs' (kyP y) (.ref T), by rw [upd_ne hne, upd_same], fun b => ?_, ?_⟩, ?_, ?_⟩
  · rw [upd_ne (ne_of_none hb c.n2), upd_ne (ne_of_none hb c.n1)]
    exact c.same b o hb
  · rw [valV_put, List.map_append, List.mem_append]
    by_cases e : kyP b = kyP y
    · rw [if_pos e]
      have e2 : b = y := kyP_inj e
      exact ⟨fun _ => .inr (by rw [e2]; simp), fun _ => rfl⟩
    · rw [if_neg e, h2 b]
      have e2 : b ≠ y := fun z => e (by rw [z])
      exact ⟨.inl, fun h => h.elim id fun h => absurd (by simpa using h) e2⟩
  · have := length_putK kvs' (kyP y) (.ref T)
    rw [List.length_append]
    simp
    omega
  · rw [upd_same, List.map_append]
    rfl
  · refine pr_snoc (pr_mono c.chain fun o e h => ⟨tu _ _ h.1, h.2.grow dg st⟩) ⟨tu _ _ ht, ?_⟩
    refine .step (y' := .ref o) (t := T) ?_ (st _ _ hT) (hc.grow dg st)
    refine dget_lst l1 (.inr ⟨_, kyP y, t, .inl upd_same, rfl, ?_, ?_⟩)
    · rw [upd_ne (fun z => by rw [z, hd] at ht; cases ht)]
      exact ht
    · rw [valV_put, if_pos rfl]
theorem CameT.start {K : PySem.W.Frag} {H H1 H2 : Hp} {dc lo b t : Addr} {s : IP} (n1 : H dc = none) (eb : H1 b = some (tuP s)) (es : Same (upd H dc (.dT [])) H1) (e1 : H1 dc = some (.dT [])) (e2 : H2 = upd H1 dc (.dT [(kyP s, .non)])) (n2 : H2 t = none) (n3 : (upd H2 t (tuP s)) lo = none) :
    CameT K H dc lo [(s, [])] (upd (upd H2 t (tuP s)) lo (.lst [.ref t])) [t] := by
  have k1 : H2 dc = some (.dT [(kyP s, .non)]) := by rw [e2, upd_same]
  have k2 : (upd H2 t (tuP s)) dc = some (.dT [(kyP s, .non)]) := same_upd n2 _ _ k1
  have hne : dc ≠ lo := fun z => by rw [← z, k2] at n3; cases n3
  have hb : ∀ a o, H a = some o → a ≠ dc ∧ H1 a = some o := fun a o ha => ⟨ne_of_none ha n1, es _ _ (same_upd n1 _ _ ha)⟩
  have s3 : Same (upd H2 t (tuP s)) (upd (upd H2 t (tuP s)) lo (.lst [.ref t])) := same_upd n3
  have t1 : (upd H2 t (tuP s)) t = some (tuP s) := upd_same
  have sm : Same H (upd (upd H2 t (tuP s)) lo (.lst [.ref t])) := fun a o ha => s3 _ _ (same_upd n2 _ _ (by rw [e2, upd_ne (hb a o ha).1]; exact (hb a o ha).2))
  refine ⟨sm, n1, ?_, ⟨_, s3 _ _ k2, fun a => ?_, Nat.le_refl _⟩, upd_same, .cons ⟨s3 _ _ t1, .root (dget_mono s3 (.inr ⟨_, kyP s, t, .inl k2, rfl, t1, by simp [valV]⟩))⟩ .nil⟩
  · cases e : H lo with
    | none => rfl
    | some o =>
      have := same_upd (o := tuP s) n2 _ _ (show H2 lo = some o by rw [e2, upd_ne (hb lo o e).1]; exact (hb lo o e).2)
      rw [n3] at this
      cases this
  · by_cases c : s = a
    · subst c
      simp [valV]
    · have : kyP s ≠ kyP a := fun z => c (kyP_inj z)
      simp [valV, this, Ne.symm c]
end Sg
namespace Sg
open PySem PySem.Spec PyProof.Rows L2
theorem CameT.grow {K : PySem.W.Frag} {H0 H : Hp} {dc lo : Addr} {acc : Met IP} {os : List Addr} (c : CameT K H0 dc lo acc H os) {kvs : List (List Key × V)} (hd : H dc = some (.dT kvs)) {y : IP} (hy : y ∉ acc.map Prod.fst) {v0 : V} {l : List V} :
    (∀ y' p, Chain K H dc y' p → Chain K (upd (upd H dc (.dT (putK kvs (kyP y) v0))) lo (.lst l)) dc y' p) ∧ ∀ a e, H a = some (tuP e) → (upd (upd H dc (.dT (putK kvs (kyP y) v0))) lo (.lst l)) a = some (tuP e) := by
  obtain ⟨kvs', h1, h2, h3⟩ := c.dict
  have ek : kvs' = kvs := by
    rw [hd] at h1
    injection Option.some.inj h1 with e
    exact e.symm
  subst ek
  have hn : valV kvs' (kyP y) = none := by
    cases e : valV kvs' (kyP y) with
    | none => rfl
    | some v => exact absurd ((h2 y).mp (by rw [e]; rfl)) hy
  have hne : dc ≠ lo := ne_of hd c.list (fun z => nomatch z)
  have l1 : (upd H dc (.dT (putK kvs' (kyP y) v0))) lo = some (.lst (os.map V.ref)) := by rw [upd_ne (Ne.symm hne)]; exact c.list
  refine ⟨fun y' p h => h.grow (fun y' v h => dget_lst l1 (dget_putT hd hn h)) fun a xs h => sqT_upd l1 (fun _ => nofun) (fun _ _ => nofun) (sqT_upd hd (fun _ => nofun) (fun _ _ => nofun) h), fun a e h => ?_⟩
  rw [upd_ne (fun z => by rw [z, c.list] at h; cases h), upd_ne (fun z => by rw [z, hd] at h; cases h)]
  exact h
end Sg

namespace Sg
open PySem PySem.Spec PyProof.Rows L2
/-! ### a tuple with one thing put in at a place -/
section
variable {K : PySem.W.Frag} {H : Hp} {Q : VK} {a b : Addr} {xs ys : List V}
theorem sl_take {i : Nat} (h : SqT K H a xs) (hi : i ≤ xs.length) (q : ∀ c H', Same H H' → SqT K H' c (xs.take i) → Q (.ref c) H') : rSlA K (.ref a) none (some (i : Int)) H Q := by
  have e : HT.sIx xs.length xs.length (some (i : Int)) = i := by rw [HT.sIx_nat]; omega
  refine ⟨a, xs, rfl, h, fun w => q a H (Same.refl H) ?_, fun _ p hp => q p _ (same_upd hp) (.inl (.inl ?_))⟩
  · have e2 := w.2
    rw [e] at e2
    rw [e2, List.take_length]
    exact h
  · rw [upd_same]
    unfold cutV
    rw [e, HT.sIx_none]
    rfl
theorem sl_drop {i : Nat} (h : SqT K H a xs) (hi : i ≤ xs.length) (q : ∀ c H', Same H H' → SqT K H' c (xs.drop i) → Q (.ref c) H') : rSlA K (.ref a) (some (i : Int)) none H Q := by
  have e : HT.sIx xs.length 0 (some (i : Int)) = i := by rw [HT.sIx_nat]; omega
  refine ⟨a, xs, rfl, h, fun w => q a H (Same.refl H) ?_, fun _ p hp => q p _ (same_upd hp) (.inl (.inl ?_))⟩
  · have e2 := w.1
    rw [e] at e2
    rw [e2]
    exact h
  · rw [upd_same]
    unfold cutV
    rw [e, HT.sIx_none, List.take_of_length_le (by rw [List.length_drop]; exact Nat.le_refl _)]
theorem cat_use (h1 : SqT K H a xs) (h2 : SqT K H b ys) (hl : xs.length + ys.length ≤ 1000000) (q : ∀ c H', Same H H' → SqT K H' c (xs ++ ys) → Q (.ref c) H') : rCatA K (.ref a) (.ref b) H Q :=
  ⟨a, b, xs, ys, rfl, rfl, h1, h2, szle hl, fun e => q b H (Same.refl H) (by rw [e]; exact h2), fun _ e => q a H (Same.refl H) (by rw [e, List.append_nil]; exact h1), fun _ _ p hp => q p _ (same_upd hp) (.inl (.inl upd_same))⟩
end
def putAt {α : Type} (l : List α) (i : Nat) (a : α) : List α := l.take i ++ [a] ++ l.drop (i + 1)
theorem putAt_len {α : Type} {l : List α} {i : Nat} (a : α) (h : i < l.length) : (putAt l i a).length = l.length := by
  unfold putAt
  rw [List.length_append, List.length_append, List.length_take, List.length_drop, List.length_singleton]
  omega
theorem putAt_mem {α : Type} {l : List α} {i : Nat} {a b : α} (h : b ∈ putAt l i a) : b ∈ l ∨ b = a := by
  unfold putAt at h
  rcases List.mem_append.mp h with h | h
  · rcases List.mem_append.mp h with h | h
    · exact .inl (List.mem_of_mem_take h)
    · exact .inr (List.mem_singleton.mp h)
  · exact .inl (List.mem_of_mem_drop h)
theorem putAt_map {α β : Type} (f : α → β) (l : List α) (i : Nat) (a : α) : putAt (l.map f) i (f a) = (putAt l i a).map f := by
  unfold putAt
  rw [List.map_append, List.map_append, List.map_take, List.map_drop]
  rfl
theorem pr_take {α β : Type} {F : α → β → Prop} {l : List α} {m : List β} (h : Paired F l m) : ∀ i, Paired F (l.take i) (m.take i) := by
  induction h with
  | nil => intro i; simp; exact .nil
  | cons r _ ih =>
    intro i
    cases i with
    | zero => exact .nil
    | succ i => exact .cons r (ih i)
theorem pr_drop {α β : Type} {F : α → β → Prop} {l : List α} {m : List β} (h : Paired F l m) : ∀ i, Paired F (l.drop i) (m.drop i) := by
  induction h with
  | nil => intro i; simp; exact .nil
  | cons r t ih =>
    intro i
    cases i with
    | zero => exact .cons r t
    | succ i => exact ih i
theorem pr_append {α β : Type} {F : α → β → Prop} {l l' : List α} {m m' : List β} (h : Paired F l m) (h' : Paired F l' m') : Paired F (l ++ l') (m ++ m') := by
  induction h with
  | nil => exact h'
  | cons r _ ih => exact .cons r ih
theorem pr_putAt {α β : Type} {F : α → β → Prop} {l : List α} {m : List β} (h : Paired F l m) {a : α} {b : β} (r : F a b) (i : Nat) : Paired F (putAt l i a) (putAt m i b) :=
  pr_append (pr_append (pr_take h i) (.cons r .nil)) (pr_drop h (i + 1))
theorem RowsOk.putAt {n : Nat} {rs : List LRow} (ok : RowsOk n rs) {i : Nat} (hi : i < rs.length) {r : LRow} (h1 : r.1 = 0 ∨ r.1 = 1) (h2 : r.2.length = n) (h3 : ∀ q ∈ r.2, 0 ≤ q ∧ q < (rs.length : Int)) : RowsOk n (Sg.putAt rs i r) := by
  have e := putAt_len r hi
  refine ⟨by rw [e]; exact ok.pos, by rw [e]; exact ok.top, fun x hx => ?_, fun x hx => ?_, fun x hx => ?_⟩
  · rcases putAt_mem hx with hx | rfl
    · exact ok.bit x hx
    · exact h1
  · rcases putAt_mem hx with hx | rfl
    · exact ok.wid x hx
    · exact h2
  · rw [e]
    rcases putAt_mem hx with hx | rfl
    · exact ok.to x hx
    · exact h3
end Sg
namespace Sg
open PySem PySem.Spec PyProof.Rows L2
theorem rest_use {K : PySem.W.Frag} {H : Hp} {Q : VK} {σ : L2.St} {j k i : Nat} {b c : Addr} {xs : List V} {v : V} (hj : σ[j]? = some (some (.ref b))) (hk : σ[k]? = some (some (.int (i : Int)))) (hb : SqT K H b xs) (hi : i < xs.length) (hl : xs.length ≤ 1000) (hc : SqT K H c (xs.take i)) (hp : ∀ p, H p = none → ∀ c' H', Same H H' → SqT K H' c' (putAt xs i v) → Q (.ref c') H') :
    1 ≤ sizeLine ∧ ∀ p, H p = none → rCatA K (.ref c) (.ref p) (upd H p (.tup [v])) fun x2 H1 => tSl (rSlA K) (tVar j) (tPart (tOp (rI0 fun i j => V.int (i + j)) (tVar k) (tC (V.int 1)))) tNoPart σ H1 fun y H2 => rCatA K x2 y H2 Q := by
  refine ⟨szle (m := 1) (Nat.le_refl _), fun p hp0 => ?_⟩
  have s1 : Same H (upd H p (.tup [v])) := same_upd hp0
  have lt : (xs.take i).length = i := by rw [List.length_take]; omega
  refine cat_use (Same.sqT s1 hc) (.inl (.inl upd_same)) (by rw [lt]; show i + 1 ≤ _; omega) fun c2 H2 s2 h2 => ?_
  refine ⟨_, hj, _, hk, _, _, rfl, rfl, _, rfl, ?_⟩
  have e1 : ((i : Nat) : Int) + 1 = ((i + 1 : Nat) : Int) := by omega
  show rSlA K (.ref b) (some (((i : Nat) : Int) + 1)) none H2 (fun y H2 => rCatA K (.ref c2) y H2 Q)
  rw [e1]
  refine sl_drop (Same.sqT s2 (Same.sqT s1 hb)) (by omega) fun c3 H3 s3 h3 => ?_
  refine cat_use (Same.sqT s3 h2) h3 ?_ fun c4 H4 s4 h4 => hp p hp0 c4 H4 (Same.trans s1 (Same.trans s2 (Same.trans s3 s4))) h4
  rw [List.length_append, lt, List.length_drop]
  show i + 1 + _ ≤ _
  omega
theorem take_use {K : PySem.W.Frag} {H : Hp} {Q : VK} {σ : L2.St} {j k i : Nat} {b : Addr} {xs : List V} (hj : σ[j]? = some (some (.ref b))) (hk : σ[k]? = some (some (.int (i : Int)))) (hb : SqT K H b xs) (hi : i < xs.length) (q : ∀ c H', Same H H' → SqT K H' c (xs.take i) → Q (.ref c) H') :
    tSl (rSlA K) (tVar j) tNoPart (tPart (tVar k)) σ H Q := by
  refine ⟨_, hj, _, hk, _, rfl, ?_⟩
  exact sl_take hb (by omega) q
theorem splice {K : PySem.W.Frag} {H : Hp} {Q : VK} {σ : L2.St} {j k i : Nat} {b : Addr} {xs : List V} {v : V} (hj : σ[j]? = some (some (.ref b))) (hk : σ[k]? = some (some (.int (i : Int)))) (hb : SqT K H b xs) (hi : i < xs.length) (hl : xs.length ≤ 1000) (q : ∀ c' H', Same H H' → SqT K H' c' (putAt xs i v) → Q (.ref c') H') :
    tSl (rSlA K) (tVar j) tNoPart (tPart (tVar k)) σ H fun x1 H1 => 1 ≤ sizeLine ∧ ∀ p, H1 p = none → rCatA K x1 (.ref p) (upd H1 p (.tup [v])) fun x2 H1 => tSl (rSlA K) (tVar j) (tPart (tOp (rI0 fun i j => V.int (i + j)) (tVar k) (tC (V.int 1)))) tNoPart σ H1 fun y H2 => rCatA K x2 y H2 Q :=
  take_use hj hk hb hi fun _ _ s1 h1 => rest_use hj hk (Same.sqT s1 hb) hi hl h1 fun _ _ c' H' s' h' => q c' H' (Same.trans s1 s') h'
end Sg
namespace Sg
open PySem PySem.Spec PyProof.Rows L2
/-- one statement, then the rest: what holds between -/
theorem seq_with {ta tb : TS} {D : Ends} {σ : L2.St} {H : Hp} (M : L2.St → Hp → Prop) (h : ∀ N : L2.St → Hp → Prop, (∀ σ' H', M σ' H' → N σ' H') → ta { D with nx := N } σ H) (tail : ∀ σ' H', M σ' H' → tb D σ' H') : tSeq ta tb D σ H := h _ tail
end Sg

namespace K36
open PySem PySem.Spec PyProof.Rows L2 Sg
def topS (i : Nat) : Stmt := PySem.Challenge.pw_signwright_k36_first_texts.main.body.getD i (.Pass ⟨0, 0, 0, 0⟩)
def dd (i : Nat) (x : Str) : He.DefD := ⟨(x, none), x, x, defArgs (topS i), defBody (topS i), defScope (topS i), [], []⟩
def fns0 : List He.DefD := [dd 5 "is_text_of", dd 6 "check_text", dd 10 "is_whole", dd 11 "is_bit", dd 12 "is_row", dd 13 "is_signs", dd 14 "is_state", dd 15 "is_looker_value", dd 17 "check_looker", dd 18 "check_same_signs", dd 20 "state_behind", dd 21 "path_of", dd 22 "first_text", dd 23 "first_unlike", dd 25 "takes", dd 26 "first_taken", dd 27 "alike", dd 29 "_law_draw", dd 30 "_law_pool", dd 31 "_law_signs", dd 32 "_law_same", dd 33 "_law_drawn_looker", dd 34 "_law_changed", dd 35 "_law_first", dd 36 "_law_refused", dd 37 "law"]
def fns : List He.DefD := fns0
def fas0 : List He.Fa := [.glo "is_text_of", .glo "check_text", .glo "is_whole", .glo "is_bit", .glo "is_row", .glo "is_signs", .glo "is_state", .glo "is_looker_value", .glo "check_looker", .glo "check_same_signs", .glo "state_behind", .glo "path_of", .glo "first_text", .glo "first_unlike", .glo "takes", .glo "first_taken", .glo "alike", .glo "_law_draw", .glo "_law_pool", .glo "_law_signs", .glo "_law_same", .glo "_law_drawn_looker", .glo "_law_changed", .glo "_law_first", .glo "_law_refused", .glo "law", .free "all", .free "isinstance", .free "str", .free "int"]
def fas1 : List He.Fa := [.free "bool", .free "tuple", .free "len", .free "set", .free "enumerate", .free "range", .free "min", .free "list", .free "repr", .free "ValueError", .glo "SignError", .glo "BadSigns", .glo "BadLooker", .exc "SignError", .exc "BadSigns", .exc "BadLooker", .int "MOST_SIGNS" 5, .int "MOST_LOOKER" 600, .exm "BadSigns" "BadSigns" true]
def fas : List He.Fa := fas0 ++ (fas1)
def loose0 : List PySem.Str := ["SignError", "BadSigns", "BadLooker", "MOST_SIGNS", "MOST_LOOKER", "is_text_of", "check_text", "is_whole", "is_bit", "is_row", "is_signs", "is_state", "is_looker_value", "check_looker", "check_same_signs", "state_behind", "path_of", "first_text", "first_unlike", "takes", "first_taken", "alike", "_law_draw", "_law_pool", "_law_signs", "_law_same", "_law_drawn_looker", "_law_changed", "_law_first", "_law_refused"]
def loose : List PySem.Str := loose0
abbrev R : PySem.W.OpenRow := PySem.W.OpenLaw.row PySem.Challenge.rw_signwright_k36_first_texts
def exL (K : PySem.W.Frag) : List Bool := [excCB K (He.ga K "BadSigns"), decide (PySem.W.kitOne K (.ref (He.ga K "BadSigns")) (.ref (He.ga K "SignError")) = some true), decide (PySem.W.kitOne K (.ref (He.ga K "BadSigns")) (.type "ValueError") = some true)]
def exB (K : PySem.W.Frag) : Bool := (exL K).all id
abbrev hk : PySem.W.Hook := hookX 4 exB fas fns
def ob (s : PySem.W.SharedT) : Bool × He.AlD := obsXG 4 exB fas fns (HandSHeadRun.getT s)
theorem ob_eq (s : PySem.W.SharedT) : ob s = hk.obs s.abs := obsXG_eq (HandSHeadRun.getT_eq s)
theorem run (w : World) : HandSHeadRun.RunEq R (PySem.W.view R.prog [37]) hk ob 4000 loose w := by
  intro os
  kernel_rfl
structure Tx (K : PySem.W.Frag) (mg : Str → Option Value) : Prop where
  g_is_text_of : mg "is_text_of" = some (.ref (He.ga K "is_text_of"))
  g_check_text : mg "check_text" = some (.ref (He.ga K "check_text"))
  g_is_whole : mg "is_whole" = some (.ref (He.ga K "is_whole"))
  g_is_bit : mg "is_bit" = some (.ref (He.ga K "is_bit"))
  g_is_row : mg "is_row" = some (.ref (He.ga K "is_row"))
  g_is_signs : mg "is_signs" = some (.ref (He.ga K "is_signs"))
  g_is_state : mg "is_state" = some (.ref (He.ga K "is_state"))
  g_is_looker_value : mg "is_looker_value" = some (.ref (He.ga K "is_looker_value"))
  g_check_looker : mg "check_looker" = some (.ref (He.ga K "check_looker"))
  g_check_same_signs : mg "check_same_signs" = some (.ref (He.ga K "check_same_signs"))
  g_state_behind : mg "state_behind" = some (.ref (He.ga K "state_behind"))
  g_path_of : mg "path_of" = some (.ref (He.ga K "path_of"))
  g_first_text : mg "first_text" = some (.ref (He.ga K "first_text"))
  g_first_unlike : mg "first_unlike" = some (.ref (He.ga K "first_unlike"))
  g_takes : mg "takes" = some (.ref (He.ga K "takes"))
  g_first_taken : mg "first_taken" = some (.ref (He.ga K "first_taken"))
  g_alike : mg "alike" = some (.ref (He.ga K "alike"))
  g__law_draw : mg "_law_draw" = some (.ref (He.ga K "_law_draw"))
  g__law_pool : mg "_law_pool" = some (.ref (He.ga K "_law_pool"))
  g__law_signs : mg "_law_signs" = some (.ref (He.ga K "_law_signs"))
  g__law_same : mg "_law_same" = some (.ref (He.ga K "_law_same"))
  g__law_drawn_looker : mg "_law_drawn_looker" = some (.ref (He.ga K "_law_drawn_looker"))
  g__law_changed : mg "_law_changed" = some (.ref (He.ga K "_law_changed"))
  g__law_first : mg "_law_first" = some (.ref (He.ga K "_law_first"))
  g__law_refused : mg "_law_refused" = some (.ref (He.ga K "_law_refused"))
  g_law : mg "law" = some (.ref (He.ga K "law"))
  f_all : mg "all" = none
  f_isinstance : mg "isinstance" = none
  f_str : mg "str" = none
  f_int : mg "int" = none
  f_bool : mg "bool" = none
  f_tuple : mg "tuple" = none
  f_len : mg "len" = none
  f_set : mg "set" = none
  f_enumerate : mg "enumerate" = none
  f_range : mg "range" = none
  f_min : mg "min" = none
  f_list : mg "list" = none
  f_repr : mg "repr" = none
  f_ValueError : mg "ValueError" = none
  e_SignError : ExcF K mg "SignError"
  e_BadSigns : ExcF K mg "BadSigns"
  e_BadLooker : ExcF K mg "BadLooker"
  c_MOST_SIGNS : ∃ t, mg "MOST_SIGNS" = some (.int 5 t)
  c_MOST_LOOKER : ∃ t, mg "MOST_LOOKER" = some (.int 600 t)
  x_BadSigns_BadSigns : PySem.W.exmOne K (.ref (He.ga K "BadSigns")) (.ref (He.ga K "BadSigns")) = some true
  d_is_text_of : ∃ fd, FnP K "is_text_of" (topS 5) (He.ga K "is_text_of") fd
  d_check_text : ∃ fd, FnP K "check_text" (topS 6) (He.ga K "check_text") fd
  d_is_whole : ∃ fd, FnP K "is_whole" (topS 10) (He.ga K "is_whole") fd
  d_is_bit : ∃ fd, FnP K "is_bit" (topS 11) (He.ga K "is_bit") fd
  d_is_row : ∃ fd, FnP K "is_row" (topS 12) (He.ga K "is_row") fd
  d_is_signs : ∃ fd, FnP K "is_signs" (topS 13) (He.ga K "is_signs") fd
  d_is_state : ∃ fd, FnP K "is_state" (topS 14) (He.ga K "is_state") fd
  d_is_looker_value : ∃ fd, FnP K "is_looker_value" (topS 15) (He.ga K "is_looker_value") fd
  d_check_looker : ∃ fd, FnP K "check_looker" (topS 17) (He.ga K "check_looker") fd
  d_check_same_signs : ∃ fd, FnP K "check_same_signs" (topS 18) (He.ga K "check_same_signs") fd
  d_state_behind : ∃ fd, FnP K "state_behind" (topS 20) (He.ga K "state_behind") fd
  d_path_of : ∃ fd, FnP K "path_of" (topS 21) (He.ga K "path_of") fd
  d_first_text : ∃ fd, FnP K "first_text" (topS 22) (He.ga K "first_text") fd
  d_first_unlike : ∃ fd, FnP K "first_unlike" (topS 23) (He.ga K "first_unlike") fd
  d_takes : ∃ fd, FnP K "takes" (topS 25) (He.ga K "takes") fd
  d_first_taken : ∃ fd, FnP K "first_taken" (topS 26) (He.ga K "first_taken") fd
  d_alike : ∃ fd, FnP K "alike" (topS 27) (He.ga K "alike") fd
  d__law_draw : ∃ fd, FnP K "_law_draw" (topS 29) (He.ga K "_law_draw") fd
  d__law_pool : ∃ fd, FnP K "_law_pool" (topS 30) (He.ga K "_law_pool") fd
  d__law_signs : ∃ fd, FnP K "_law_signs" (topS 31) (He.ga K "_law_signs") fd
  d__law_same : ∃ fd, FnP K "_law_same" (topS 32) (He.ga K "_law_same") fd
  d__law_drawn_looker : ∃ fd, FnP K "_law_drawn_looker" (topS 33) (He.ga K "_law_drawn_looker") fd
  d__law_changed : ∃ fd, FnP K "_law_changed" (topS 34) (He.ga K "_law_changed") fd
  d__law_first : ∃ fd, FnP K "_law_first" (topS 35) (He.ga K "_law_first") fd
  d__law_refused : ∃ fd, FnP K "_law_refused" (topS 36) (He.ga K "_law_refused") fd
  d_law : ∃ fd, FnP K "law" (topS 37) (He.ga K "law") fd
  q_BadSigns : ExcC K (He.ga K "BadSigns")
  k_BadSigns_SignError : PySem.W.kitOne K (.ref (He.ga K "BadSigns")) (.ref (He.ga K "SignError")) = some true
  k_BadSigns_ValueError : PySem.W.kitOne K (.ref (He.ga K "BadSigns")) (.type "ValueError") = some true
theorem tx_mk {K : PySem.W.Frag} {h : Heap} {mg : Str → Option Value} (X : K.In h) (G : h.Ns mainGlobals mg) (c : He.SaysD fas fns K) (cx : exB K = true) : Tx K mg where
  g_is_text_of := He.glo_ok X G (c.fact 0 (f := .glo "is_text_of") rfl)
  g_check_text := He.glo_ok X G (c.fact 1 (f := .glo "check_text") rfl)
  g_is_whole := He.glo_ok X G (c.fact 2 (f := .glo "is_whole") rfl)
  g_is_bit := He.glo_ok X G (c.fact 3 (f := .glo "is_bit") rfl)
  g_is_row := He.glo_ok X G (c.fact 4 (f := .glo "is_row") rfl)
  g_is_signs := He.glo_ok X G (c.fact 5 (f := .glo "is_signs") rfl)
  g_is_state := He.glo_ok X G (c.fact 6 (f := .glo "is_state") rfl)
  g_is_looker_value := He.glo_ok X G (c.fact 7 (f := .glo "is_looker_value") rfl)
  g_check_looker := He.glo_ok X G (c.fact 8 (f := .glo "check_looker") rfl)
  g_check_same_signs := He.glo_ok X G (c.fact 9 (f := .glo "check_same_signs") rfl)
  g_state_behind := He.glo_ok X G (c.fact 10 (f := .glo "state_behind") rfl)
  g_path_of := He.glo_ok X G (c.fact 11 (f := .glo "path_of") rfl)
  g_first_text := He.glo_ok X G (c.fact 12 (f := .glo "first_text") rfl)
  g_first_unlike := He.glo_ok X G (c.fact 13 (f := .glo "first_unlike") rfl)
  g_takes := He.glo_ok X G (c.fact 14 (f := .glo "takes") rfl)
  g_first_taken := He.glo_ok X G (c.fact 15 (f := .glo "first_taken") rfl)
  g_alike := He.glo_ok X G (c.fact 16 (f := .glo "alike") rfl)
  g__law_draw := He.glo_ok X G (c.fact 17 (f := .glo "_law_draw") rfl)
  g__law_pool := He.glo_ok X G (c.fact 18 (f := .glo "_law_pool") rfl)
  g__law_signs := He.glo_ok X G (c.fact 19 (f := .glo "_law_signs") rfl)
  g__law_same := He.glo_ok X G (c.fact 20 (f := .glo "_law_same") rfl)
  g__law_drawn_looker := He.glo_ok X G (c.fact 21 (f := .glo "_law_drawn_looker") rfl)
  g__law_changed := He.glo_ok X G (c.fact 22 (f := .glo "_law_changed") rfl)
  g__law_first := He.glo_ok X G (c.fact 23 (f := .glo "_law_first") rfl)
  g__law_refused := He.glo_ok X G (c.fact 24 (f := .glo "_law_refused") rfl)
  g_law := He.glo_ok X G (c.fact 25 (f := .glo "law") rfl)
  f_all := He.free_ok X G (c.fact 26 (f := .free "all") rfl)
  f_isinstance := He.free_ok X G (c.fact 27 (f := .free "isinstance") rfl)
  f_str := He.free_ok X G (c.fact 28 (f := .free "str") rfl)
  f_int := He.free_ok X G (c.fact 29 (f := .free "int") rfl)
  f_bool := He.free_ok X G (c.fact 30 (f := .free "bool") rfl)
  f_tuple := He.free_ok X G (c.fact 31 (f := .free "tuple") rfl)
  f_len := He.free_ok X G (c.fact 32 (f := .free "len") rfl)
  f_set := He.free_ok X G (c.fact 33 (f := .free "set") rfl)
  f_enumerate := He.free_ok X G (c.fact 34 (f := .free "enumerate") rfl)
  f_range := He.free_ok X G (c.fact 35 (f := .free "range") rfl)
  f_min := He.free_ok X G (c.fact 36 (f := .free "min") rfl)
  f_list := He.free_ok X G (c.fact 37 (f := .free "list") rfl)
  f_repr := He.free_ok X G (c.fact 38 (f := .free "repr") rfl)
  f_ValueError := He.free_ok X G (c.fact 39 (f := .free "ValueError") rfl)
  e_SignError := excF_mk (He.glo_ok X G (c.fact 40 (f := .glo "SignError") rfl)) (c.fact 43 (f := .exc "SignError") rfl)
  e_BadSigns := excF_mk (He.glo_ok X G (c.fact 41 (f := .glo "BadSigns") rfl)) (c.fact 44 (f := .exc "BadSigns") rfl)
  e_BadLooker := excF_mk (He.glo_ok X G (c.fact 42 (f := .glo "BadLooker") rfl)) (c.fact 45 (f := .exc "BadLooker") rfl)
  c_MOST_SIGNS := He.int_ok X G (c.fact 46 (f := .int "MOST_SIGNS" 5) rfl)
  c_MOST_LOOKER := He.int_ok X G (c.fact 47 (f := .int "MOST_LOOKER" 600) rfl)
  x_BadSigns_BadSigns := He.exm_ok (c.fact 48 (f := .exm "BadSigns" "BadSigns" true) rfl)
  d_is_text_of := c.def_ 0 (d := dd 5 "is_text_of") rfl
  d_check_text := c.def_ 1 (d := dd 6 "check_text") rfl
  d_is_whole := c.def_ 2 (d := dd 10 "is_whole") rfl
  d_is_bit := c.def_ 3 (d := dd 11 "is_bit") rfl
  d_is_row := c.def_ 4 (d := dd 12 "is_row") rfl
  d_is_signs := c.def_ 5 (d := dd 13 "is_signs") rfl
  d_is_state := c.def_ 6 (d := dd 14 "is_state") rfl
  d_is_looker_value := c.def_ 7 (d := dd 15 "is_looker_value") rfl
  d_check_looker := c.def_ 8 (d := dd 17 "check_looker") rfl
  d_check_same_signs := c.def_ 9 (d := dd 18 "check_same_signs") rfl
  d_state_behind := c.def_ 10 (d := dd 20 "state_behind") rfl
  d_path_of := c.def_ 11 (d := dd 21 "path_of") rfl
  d_first_text := c.def_ 12 (d := dd 22 "first_text") rfl
  d_first_unlike := c.def_ 13 (d := dd 23 "first_unlike") rfl
  d_takes := c.def_ 14 (d := dd 25 "takes") rfl
  d_first_taken := c.def_ 15 (d := dd 26 "first_taken") rfl
  d_alike := c.def_ 16 (d := dd 27 "alike") rfl
  d__law_draw := c.def_ 17 (d := dd 29 "_law_draw") rfl
  d__law_pool := c.def_ 18 (d := dd 30 "_law_pool") rfl
  d__law_signs := c.def_ 19 (d := dd 31 "_law_signs") rfl
  d__law_same := c.def_ 20 (d := dd 32 "_law_same") rfl
  d__law_drawn_looker := c.def_ 21 (d := dd 33 "_law_drawn_looker") rfl
  d__law_changed := c.def_ 22 (d := dd 34 "_law_changed") rfl
  d__law_first := c.def_ 23 (d := dd 35 "_law_first") rfl
  d__law_refused := c.def_ 24 (d := dd 36 "_law_refused") rfl
  d_law := c.def_ 25 (d := dd 37 "law") rfl
  q_BadSigns := excCB_ok (exAt cx (l := exL K) (i := 0) rfl)
  k_BadSigns_SignError := of_decide_eq_true (exAt cx (l := exL K) (i := 1) rfl)
  k_BadSigns_ValueError := of_decide_eq_true (exAt cx (l := exL K) (i := 2) rfl)
end K36

namespace K36
open PySem PySem.Spec PyProof.Rows L2 Sg
section
variable {P : Program} {w : World} {K : PySem.W.Frag} {mg : Str → Option Value} {base : Heap}
theorem sc_is_whole : FnScope ["value"] ["value"] (defScope (topS 10)) := ⟨rfl, rfl, rfl, by decide +kernel, rfl, by decide +kernel, by decide +kernel⟩
theorem bd_is_whole {K : PySem.W.Frag} {f : Addr} {fd : FuncData} (F : FnP K "is_whole" (topS 10) f fd) : Binds K fd ["value"] [] := F.bindsN fun _ _ _ _ _ _ us hl => match us, hl with | [_], _ => rfl
def spWh (K : PySem.W.Frag) : Sp := fun vs H Q _ => ∃ x, vs = [x] ∧ Kd K H x ∧ Q (.bl (isWh x)) H
theorem ok_is_whole (T : Tx K mg) : Dk P w K mg base 1 "is_whole" ["value"] (spWh K) := by
  obtain ⟨fd, F⟩ := T.d_is_whole
  refine ⟨⟨fd, F.ok sc_is_whole (fun vs H Q E h => ?_) (fun cdv A outer s H vs Q E hr h => ?_), bd_is_whole F⟩, F.kp, T.g_is_whole⟩
  · obtain ⟨x, rfl, _⟩ := h
    rfl
  · obtain ⟨x, rfl, hx, q⟩ := h
    refine ⟨_, PSs.nox (pss_one (ps_ret (pe_and (pe_callB call_isK (by rfl) T.f_isinstance PyProof.Rows.boot_isinstance (pa_cons (pv 0) (pa_cons (pe_bltn (v := .ty "int") (by rfl) T.f_int PyProof.Rows.boot_int rfl) pa_nil))) (pe_and (pe_not (pe_callB call_isK (by rfl) T.f_isinstance PyProof.Rows.boot_isinstance (pa_cons (pv 0) (pa_cons (pe_bltn (v := .ty "bool") (by rfl) T.f_bool PyProof.Rows.boot_bool rfl) pa_nil)))) (pe_one (pe_cmpR op_ge (pv 0) pe_int (nomark _))))))), ?_⟩
    simp only [cxOf, tYes, eq_self, if_true, if_false, wipe, rLenQ, rIxTQ, rIxLQ, rIxSQ, rInt1Q, rTupQ, rAppQ, rPopQ, rPopAtQ, rRevQ, rListS, rReprP, tLenSetT, tChain, tRetN, tRet, tSeq, tAsg, gName, tVar, tC, tCons, tNil, tCB, tOp, rI0, rI, tAndV, tOrV, tNotV, tIf, tTest, tB, tNot, tAnd, tOr, tIfS, tNext, tCallR, rIsK, rEq, rNe, tDrop, L2.start, List.map_cons, List.map_nil, List.length_cons, List.length_nil, Nat.reduceAdd, Nat.reduceSub, Nat.sub_self, List.replicate_zero, List.replicate_succ, List.append_nil, List.cons_append, List.nil_append, List.getElem?_cons_zero, List.getElem?_cons_succ, List.set_cons_zero, List.set_cons_succ, Option.some.injEq, List.cons.injEq, and_true, true_and, exists_eq_left, exists_eq_left', exists_eq_right, V.ty.injEq, V.int.injEq, V.bl.injEq, V.str.injEq, V.ref.injEq, exists_and_left, exists_const, reduceIte, reduceCtorEq, false_and, and_false, exists_false, or_false, false_or, Bool.not_true, Bool.not_false, Bool.false_eq_true, String.reduceEq, true_or, or_true]
    refine ⟨hx, ?_⟩
    cases hx <;> simp only [isaB, isWh] at q ⊢ <;> simp_all [Kd.int, Kd.bl, Kd.non, Kd.str]
theorem sc_is_bit : FnScope ["value"] ["value"] (defScope (topS 11)) := ⟨rfl, rfl, rfl, by decide +kernel, rfl, by decide +kernel, by decide +kernel⟩
theorem bd_is_bit {K : PySem.W.Frag} {f : Addr} {fd : FuncData} (F : FnP K "is_bit" (topS 11) f fd) : Binds K fd ["value"] [] := F.bindsN fun _ _ _ _ _ _ us hl => match us, hl with | [_], _ => rfl
def spBt (K : PySem.W.Frag) : Sp := fun vs H Q _ => ∃ x, vs = [x] ∧ Kd K H x ∧ Q (.bl (isBt x)) H
theorem ok_is_bit (T : Tx K mg) : Dk P w K mg base 2 "is_bit" ["value"] (spBt K) := by
  have D_is_whole := ok_is_whole (P := P) (w := w) (base := base) T
  obtain ⟨fd, F⟩ := T.d_is_bit
  refine ⟨⟨fd, F.ok sc_is_bit (fun vs H Q E h => ?_) (fun cdv A outer s H vs Q E hr h => ?_), bd_is_bit F⟩, F.kp, T.g_is_bit⟩
  · obtain ⟨x, rfl, _⟩ := h
    rfl
  · obtain ⟨x, rfl, hx, q⟩ := h
    refine ⟨_, PSs.nox (pss_one (ps_ret (pe_and (pe_callR D_is_whole (hr.mono (by decide)) takes0 (pa_cons (pv 0) pa_nil)) (pe_one (pe_cmpR op_le (pv 0) pe_int (nomark _)))))), ?_⟩
    simp only [cxOf, tYes, eq_self, if_true, if_false, wipe, rLenQ, rIxTQ, rIxLQ, rIxSQ, rInt1Q, rTupQ, rAppQ, rPopQ, rPopAtQ, rRevQ, rListS, rReprP, tLenSetT, tChain, tRetN, tRet, tSeq, tAsg, gName, tVar, tC, tCons, tNil, tCB, tOp, rI0, rI, tAndV, tOrV, tNotV, tIf, tTest, tB, tNot, tAnd, tOr, tIfS, tNext, tCallR, rIsK, rEq, rNe, tDrop, L2.start, List.map_cons, List.map_nil, List.length_cons, List.length_nil, Nat.reduceAdd, Nat.reduceSub, Nat.sub_self, List.replicate_zero, List.replicate_succ, List.append_nil, List.cons_append, List.nil_append, List.getElem?_cons_zero, List.getElem?_cons_succ, List.set_cons_zero, List.set_cons_succ, Option.some.injEq, List.cons.injEq, and_true, true_and, exists_eq_left, exists_eq_left', exists_eq_right, V.ty.injEq, V.int.injEq, V.bl.injEq, V.str.injEq, V.ref.injEq, exists_and_left, exists_const, reduceIte, reduceCtorEq, false_and, and_false, exists_false, or_false, false_or, Bool.not_true, Bool.not_false, Bool.false_eq_true, String.reduceEq, true_or, or_true]
    refine ⟨x, rfl, hx, _, rfl, ?_⟩
    cases hx <;> simp only [isBt, isWh] at q ⊢ <;> simp_all
    rename_i i
    by_cases h0 : 0 ≤ i <;> simp_all
    exact fun z => absurd z (by omega)
theorem sc_is_row : FnScope ["value", "size"] ["value", "size"] (defScope (topS 12)) := ⟨rfl, rfl, rfl, by decide +kernel, rfl, by decide +kernel, by decide +kernel⟩
theorem bd_is_row {K : PySem.W.Frag} {f : Addr} {fd : FuncData} (F : FnP K "is_row" (topS 12) f fd) : Binds K fd ["value", "size"] [] := F.bindsN fun _ _ _ _ _ _ us hl => match us, hl with | [_, _], _ => rfl
def spRw (K : PySem.W.Frag) : Sp := fun vs H Q _ => ∃ x n b, vs = [x, .int n] ∧ RowB K H x n b ∧ Q (.bl b) H
theorem ok_is_row (T : Tx K mg) : Dk P w K mg base 1 "is_row" ["value", "size"] (spRw K) := by
  obtain ⟨fd, F⟩ := T.d_is_row
  refine ⟨⟨fd, F.ok sc_is_row (fun vs H Q E h => ?_) (fun cdv A outer s H vs Q E hr h => ?_), bd_is_row F⟩, F.kp, T.g_is_row⟩
  · obtain ⟨x, n, b, rfl, _⟩ := h
    rfl
  · obtain ⟨x, n, b, rfl, hx, q⟩ := h
    refine ⟨_, PSs.nox (pss_one (ps_ret (pe_and (pe_callB call_isK (by rfl) T.f_isinstance PyProof.Rows.boot_isinstance (pa_cons (pv 0) (pa_cons (pe_bltn (v := .ty "tuple") (by rfl) T.f_tuple PyProof.Rows.boot_tuple rfl) pa_nil))) (pe_one (pe_cmpR op_eq (pe_callB call_lenQ (by rfl) T.f_len PySem.boot_len (pa_cons (pv 0) pa_nil)) (pv 1) (nomark _)))))), ?_⟩
    simp only [cxOf, tYes, eq_self, if_true, if_false, wipe, rLenQ, rIxTQ, rIxLQ, rIxSQ, rInt1Q, rTupQ, rAppQ, rPopQ, rPopAtQ, rRevQ, rListS, rReprP, tLenSetT, tChain, tRetN, tRet, tSeq, tAsg, gName, tVar, tC, tCons, tNil, tCB, tOp, rI0, rI, tAndV, tOrV, tNotV, tIf, tTest, tB, tNot, tAnd, tOr, tIfS, tNext, tCallR, rIsK, rEq, rNe, tDrop, L2.start, List.map_cons, List.map_nil, List.length_cons, List.length_nil, Nat.reduceAdd, Nat.reduceSub, Nat.sub_self, List.replicate_zero, List.replicate_succ, List.append_nil, List.cons_append, List.nil_append, List.getElem?_cons_zero, List.getElem?_cons_succ, List.set_cons_zero, List.set_cons_succ, Option.some.injEq, List.cons.injEq, and_true, true_and, exists_eq_left, exists_eq_left', exists_eq_right, V.ty.injEq, V.int.injEq, V.bl.injEq, V.str.injEq, V.ref.injEq, exists_and_left, exists_const, reduceIte, reduceCtorEq, false_and, and_false, exists_false, or_false, false_or, Bool.not_true, Bool.not_false, Bool.false_eq_true, String.reduceEq, true_or, or_true]
    rcases hx with ⟨a, xs, rfl, hx, rfl⟩ | ⟨hx, e, rfl⟩
    · refine ⟨.tup hx, ifT rfl ⟨xs, .inr hx, rfl, ?_⟩⟩
      simpa using q
    · exact ⟨hx, ifF e q⟩
theorem sc_is_signs : FnScope ["value"] ["value"] (defScope (topS 13)) := ⟨rfl, rfl, rfl, by decide +kernel, rfl, by decide +kernel, by decide +kernel⟩
theorem bd_is_signs {K : PySem.W.Frag} {f : Addr} {fd : FuncData} (F : FnP K "is_signs" (topS 13) f fd) : Binds K fd ["value"] [] := F.bindsN fun _ _ _ _ _ _ us hl => match us, hl with | [_], _ => rfl
def spSg : Sp := fun vs H Q _ => ∃ z, vs = [.str z] ∧ z.length ≤ 1000 ∧ Q (.bl (sgB z)) H
theorem ok_is_signs (T : Tx K mg) : Dk P w K mg base 1 "is_signs" ["value"] spSg := by
  obtain ⟨fd, F⟩ := T.d_is_signs
  refine ⟨⟨fd, F.ok sc_is_signs (fun vs H Q E h => ?_) (fun cdv A outer s H vs Q E hr h => ?_), bd_is_signs F⟩, F.kp, T.g_is_signs⟩
  · obtain ⟨z, rfl, _⟩ := h
    rfl
  · obtain ⟨z, rfl, hz, q⟩ := h
    obtain ⟨_, c_MOST_SIGNS⟩ := T.c_MOST_SIGNS
    refine ⟨_, PSs.nox (pss_cons (ps_if (PW.pt (pw_or (pt_not (pt_val (pe_callB call_isK (by rfl) T.f_isinstance PyProof.Rows.boot_isinstance (pa_cons (pv 0) (pa_cons (pe_bltn (v := .ty "str") (by rfl) T.f_str PyProof.Rows.boot_str rfl) pa_nil))))) (pw_or1 (pt_not (pt_chain op_le op_le pe_int (pe_callB call_lenQ (by rfl) T.f_len PySem.boot_len (pa_cons (pv 0) pa_nil)) (pe_glob (v := .int 5) (by rfl) c_MOST_SIGNS ⟨_, rfl⟩)))))) (pss_one (ps_ret pe_bl)) pss_nil)
      (pss_one (ps_ret (pe_cmpR op_eq (pe_lenSetT (by rfl) T.f_len (by rfl) T.f_set (pv 0) rfl) (pe_callB call_lenQ (by rfl) T.f_len PySem.boot_len (pa_cons (pv 0) pa_nil)) (nomark _))))), ?_⟩
    simp only [cxOf, tYes, eq_self, if_true, if_false, wipe, rLenQ, rIxTQ, rIxLQ, rIxSQ, rInt1Q, rTupQ, rAppQ, rPopQ, rPopAtQ, rRevQ, rListS, rReprP, tLenSetT, tChain, tRetN, tRet, tSeq, tAsg, gName, tVar, tC, tCons, tNil, tCB, tOp, rI0, rI, tAndV, tOrV, tNotV, tIf, tTest, tB, tNot, tAnd, tOr, tIfS, tNext, tCallR, rIsK, rEq, rNe, tDrop, L2.start, List.map_cons, List.map_nil, List.length_cons, List.length_nil, Nat.reduceAdd, Nat.reduceSub, Nat.sub_self, List.replicate_zero, List.replicate_succ, List.append_nil, List.cons_append, List.nil_append, List.getElem?_cons_zero, List.getElem?_cons_succ, List.set_cons_zero, List.set_cons_succ, Option.some.injEq, List.cons.injEq, and_true, true_and, exists_eq_left, exists_eq_left', exists_eq_right, V.ty.injEq, V.int.injEq, V.bl.injEq, V.str.injEq, V.ref.injEq, exists_and_left, exists_const, reduceIte, reduceCtorEq, false_and, and_false, exists_false, or_false, false_or, Bool.not_true, Bool.not_false, Bool.false_eq_true, String.reduceEq, true_or, or_true]
    refine ⟨.str z, ifF (by simp [isaB]) ⟨szle hz, ?_⟩⟩
    unfold sgB at q
    by_cases h1 : 1 ≤ z.length
    · refine ifT (decide_eq_true (by omega)) ?_
      by_cases h5 : z.length ≤ 5
      · refine ifF (by rw [decide_eq_true (by omega)]; rfl) ⟨hz, szle hz, rfl, ?_⟩
        rw [decide_eq_true h1, decide_eq_true h5] at q
        have e : decide (((once (signsOf z)).length : Int) = (z.length : Int)) = decide ((once (signsOf z)).length = z.length) := decide_eq_decide.mpr (by omega)
        rw [e]
        exact q
      · refine ifT (by rw [decide_eq_false (by omega)]; rfl) ?_
        simpa [h1, h5] using q
    · refine ifF (decide_eq_false (by omega)) ?_
      simpa [h1] using q
theorem sc_is_state : FnScope ["value", "many"] ["value", "many"] (defScope (topS 14)) := ⟨rfl, rfl, rfl, by decide +kernel, rfl, by decide +kernel, by decide +kernel⟩
theorem bd_is_state {K : PySem.W.Frag} {f : Addr} {fd : FuncData} (F : FnP K "is_state" (topS 14) f fd) : Binds K fd ["value", "many"] [] := F.bindsN fun _ _ _ _ _ _ us hl => match us, hl with | [_, _], _ => rfl
def spSt (K : PySem.W.Frag) : Sp := fun vs H Q _ => ∃ x n, vs = [x, .int n] ∧ Kd K H x ∧ Q (.bl (isSt n x)) H
theorem ok_is_state (T : Tx K mg) : Dk P w K mg base 2 "is_state" ["value", "many"] (spSt K) := by
  have D_is_whole := ok_is_whole (P := P) (w := w) (base := base) T
  obtain ⟨fd, F⟩ := T.d_is_state
  refine ⟨⟨fd, F.ok sc_is_state (fun vs H Q E h => ?_) (fun cdv A outer s H vs Q E hr h => ?_), bd_is_state F⟩, F.kp, T.g_is_state⟩
  · obtain ⟨x, n, rfl, _⟩ := h
    rfl
  · obtain ⟨x, n, rfl, hx, q⟩ := h
    refine ⟨_, PSs.nox (pss_one (ps_ret (pe_and (pe_callR D_is_whole (hr.mono (by decide)) takes0 (pa_cons (pv 0) pa_nil)) (pe_one (pe_cmpR op_lt (pv 0) (pv 1) (nomark _)))))), ?_⟩
    simp only [cxOf, tYes, eq_self, if_true, if_false, wipe, rLenQ, rIxTQ, rIxLQ, rIxSQ, rInt1Q, rTupQ, rAppQ, rPopQ, rPopAtQ, rRevQ, rListS, rReprP, tLenSetT, tChain, tRetN, tRet, tSeq, tAsg, gName, tVar, tC, tCons, tNil, tCB, tOp, rI0, rI, tAndV, tOrV, tNotV, tIf, tTest, tB, tNot, tAnd, tOr, tIfS, tNext, tCallR, rIsK, rEq, rNe, tDrop, L2.start, List.map_cons, List.map_nil, List.length_cons, List.length_nil, Nat.reduceAdd, Nat.reduceSub, Nat.sub_self, List.replicate_zero, List.replicate_succ, List.append_nil, List.cons_append, List.nil_append, List.getElem?_cons_zero, List.getElem?_cons_succ, List.set_cons_zero, List.set_cons_succ, Option.some.injEq, List.cons.injEq, and_true, true_and, exists_eq_left, exists_eq_left', exists_eq_right, V.ty.injEq, V.int.injEq, V.bl.injEq, V.str.injEq, V.ref.injEq, exists_and_left, exists_const, reduceIte, reduceCtorEq, false_and, and_false, exists_false, or_false, false_or, Bool.not_true, Bool.not_false, Bool.false_eq_true, String.reduceEq, true_or, or_true]
    refine ⟨x, rfl, hx, _, rfl, ?_⟩
    cases hx <;> simp only [isSt, isWh] at q ⊢ <;> simp_all
    rename_i i
    by_cases h0 : 0 ≤ i <;> simp_all
    exact fun z => absurd z (by omega)
theorem sc_is_text_of : FnScope ["signs", "value", "char"] ["signs", "value"] (defScope (topS 5)) := ⟨rfl, rfl, rfl, by decide +kernel, rfl, by decide +kernel, by decide +kernel⟩
theorem bd_is_text_of {K : PySem.W.Frag} {f : Addr} {fd : FuncData} (F : FnP K "is_text_of" (topS 5) f fd) : Binds K fd ["signs", "value"] [] := F.bindsN fun _ _ _ _ _ _ us hl => match us, hl with | [_, _], _ => rfl
def txB (z t : Str) : Bool := t.cps.toList.all fun c => decide (c ∈ z.cps.toList)
def spTx (K : PySem.W.Frag) : Sp := fun vs H Q _ => ∃ z v, vs = [.str z, v] ∧ ((∃ t, v = .str t ∧ t.length ≤ 100000 ∧ ∀ H', Same H H' → Q (.bl (txB z t)) H') ∨ (Kd K H v ∧ isaB "str" v = false ∧ Q (.bl false) H))
theorem ok_is_text_of (T : Tx K mg) : Dk P w K mg base 1 "is_text_of" ["signs", "value"] (spTx K) := by
  obtain ⟨fd, F⟩ := T.d_is_text_of
  refine ⟨⟨fd, F.ok sc_is_text_of (fun vs H Q E h => ?_) (fun cdv A outer s H vs Q E hr h => ?_), bd_is_text_of F⟩, F.kp, T.g_is_text_of⟩
  · obtain ⟨z, v, rfl, _⟩ := h
    rfl
  · obtain ⟨z, v, rfl, h⟩ := h
    refine ⟨_, PSs.nox (pss_cons (ps_if (pt_not (pt_val (pe_callB call_isK (by rfl) T.f_isinstance PyProof.Rows.boot_isinstance (pa_cons (pv 1) (pa_cons (pe_bltn (v := .ty "str") (by rfl) T.f_str PyProof.Rows.boot_str rfl) pa_nil))))) (pss_one (ps_ret pe_bl)) pss_nil)
      (pss_one (ps_ret (pe_callB (cr_all rfl) (by rfl) T.f_all (by decide +kernel) (pa_cons (pe_lc (own := [("char", 2)]) rfl sc_is_text_of.nd (pi_str (pv 1)) (blkOk_by (own := [("char", 2)]) (N := ["signs", "value", "char"]) (sc := defScope (topS 5)) (by decide +kernel)) (fun _ _ _ _ _ => (pg_name (i := 2) sc_is_text_of.nd rfl (.inl rfl))) (fun _ _ _ _ _ => pts_nil) (fun _ _ _ _ _ => (pe_cmpR op_in_sign (pv 2) (pv 0) rfl))) pa_nil))))), ?_⟩
    simp only [cxOf, tYes, eq_self, if_true, if_false, wipe, rLenQ, rIxTQ, rIxLQ, rIxSQ, rInt1Q, rTupQ, rAppQ, rPopQ, rPopAtQ, rRevQ, rListS, rReprP, tLenSetT, tChain, tRetN, tRet, tSeq, tAsg, gName, tVar, tC, tCons, tNil, tCB, tOp, rI0, rI, tAndV, tOrV, tNotV, tIf, tTest, tB, tNot, tAnd, tOr, tIfS, tNext, tCallR, rIsK, rEq, rNe, tDrop, L2.start, List.map_cons, List.map_nil, List.length_cons, List.length_nil, Nat.reduceAdd, Nat.reduceSub, Nat.sub_self, List.replicate_zero, List.replicate_succ, List.append_nil, List.cons_append, List.nil_append, List.getElem?_cons_zero, List.getElem?_cons_succ, List.set_cons_zero, List.set_cons_succ, Option.some.injEq, List.cons.injEq, and_true, true_and, exists_eq_left, exists_eq_left', exists_eq_right, V.ty.injEq, V.int.injEq, V.bl.injEq, V.str.injEq, V.ref.injEq, exists_and_left, exists_const, reduceIte, reduceCtorEq, false_and, and_false, exists_false, or_false, false_or, Bool.not_true, Bool.not_false, Bool.false_eq_true, String.reduceEq, true_or, or_true]
    rcases h with ⟨t, rfl, ht, q⟩ | ⟨hx, e, q⟩
    · refine ⟨.str t, ifF (by simp [isaB]) ⟨.str t, rfl, t, rfl, fun D hD => ?_⟩⟩
      refine lc_gen (n := t.cps.size) (fun i H' => Same H H' ∧ H' D = some (.lst ((t.cps.toList.take i).map fun c => V.bl (decide (c ∈ z.cps.toList))))) ⟨same_upd hD, upd_same⟩ (fun i H' hi _ => hi) (fun H' _ => Nat.le_refl _) ?_ ?_
      · rintro i x H1 H2 hi ⟨s1, e1⟩ ⟨rfl, c, hc, rfl⟩
        have hc2 : t.cps.toList[i]? = some c := by rw [Array.getElem?_toList]; exact hc
        refine ⟨rfl, ?_⟩
        simp only [cxOf, tYes, eq_self, if_true, if_false, wipe, rLenQ, rIxTQ, rIxLQ, rIxSQ, rInt1Q, rTupQ, rAppQ, rPopQ, rPopAtQ, rRevQ, rListS, rReprP, tLenSetT, tChain, tRetN, tRet, tSeq, tAsg, gName, tVar, tC, tCons, tNil, tCB, tOp, rI0, rI, tAndV, tOrV, tNotV, tIf, tTest, tB, tNot, tAnd, tOr, tIfS, tNext, tCallR, rIsK, rEq, rNe, tDrop, L2.start, List.map_cons, List.map_nil, List.length_cons, List.length_nil, Nat.reduceAdd, Nat.reduceSub, Nat.sub_self, List.replicate_zero, List.replicate_succ, List.append_nil, List.cons_append, List.nil_append, List.getElem?_cons_zero, List.getElem?_cons_succ, List.set_cons_zero, List.set_cons_succ, Option.some.injEq, List.cons.injEq, and_true, true_and, exists_eq_left, exists_eq_left', exists_eq_right, V.ty.injEq, V.int.injEq, V.bl.injEq, V.str.injEq, V.ref.injEq, exists_and_left, exists_const, reduceIte, reduceCtorEq, false_and, and_false, exists_false, or_false, false_or, Bool.not_true, Bool.not_false, Bool.false_eq_true, String.reduceEq, true_or, or_true]
        refine ⟨c, rfl, _, e1, ?_, ?_, ?_⟩
        · rw [List.length_map, List.length_take]
          exact szlt (m := 100000) (by have : t.cps.toList.length = t.length := Array.length_toList; omega)
        · exact fun b o hb => by rw [upd_ne (ne_of_none hb hD)]; exact s1 b o hb
        · rw [upd_same, List.take_add_one, hc2, List.map_append]
          rfl
      · rintro H1 ⟨s1, e1⟩
        have ee : t.cps.toList.take t.cps.size = t.cps.toList := List.take_of_length_le (by simp)
        rw [ee] at e1
        refine ⟨D, t.cps.toList.map fun c => decide (c ∈ z.cps.toList), rfl, .inl (.inl ?_), ?_⟩
        · rw [e1, List.map_map]
          rfl
        · have e2 : (t.cps.toList.map fun c => decide (c ∈ z.cps.toList)).all id = txB z t := by
            unfold txB
            rw [List.all_map]
            rfl
          rw [e2]
          exact q H1 s1
    · exact ⟨hx, ifT (by rw [e]; rfl) q⟩
theorem sc_is_looker_value : FnScope ["value", "signs", "states", "state", "to"] ["value"] (defScope (topS 15)) := ⟨rfl, rfl, rfl, by decide +kernel, rfl, by decide +kernel, by decide +kernel⟩
theorem bd_is_looker_value {K : PySem.W.Frag} {f : Addr} {fd : FuncData} (F : FnP K "is_looker_value" (topS 15) f fd) : Binds K fd ["value"] [] := F.bindsN fun _ _ _ _ _ _ us hl => match us, hl with | [_], _ => rfl
def spLv (K : PySem.W.Frag) : Sp := fun vs H Q _ => ∃ v z rs, vs = [v] ∧ RLk K H v z rs ∧ SignsOk z ∧ RowsOk z.length rs ∧ Q (.bl true) H
theorem ok_is_looker_value (T : Tx K mg) : Dk P w K mg base 3 "is_looker_value" ["value"] (spLv K) := by
  have D_is_row := ok_is_row (P := P) (w := w) (base := base) T
  have D_is_signs := ok_is_signs (P := P) (w := w) (base := base) T
  have D_is_bit := ok_is_bit (P := P) (w := w) (base := base) T
  have D_is_state := ok_is_state (P := P) (w := w) (base := base) T
  obtain ⟨fd, F⟩ := T.d_is_looker_value
  refine ⟨⟨fd, F.ok sc_is_looker_value (fun vs H Q E h => ?_) (fun cdv A outer s H vs Q E hr h => ?_), bd_is_looker_value F⟩, F.kp, T.g_is_looker_value⟩
  · obtain ⟨v, z, rs, rfl, _⟩ := h
    rfl
  · obtain ⟨v, z, rs, rfl, hv, hz, hr2, q⟩ := h
    obtain ⟨_, c_MOST_LOOKER⟩ := T.c_MOST_LOOKER
    refine ⟨_, PSs.nox (pss_cons (ps_if (PW.pt (pw_or (pt_not (pt_val (pe_callR D_is_row (hr.mono (by decide)) takes0 (pa_cons (pv 0) (pa_cons pe_int pa_nil))))) (pw_or (pt_not (pt_val (pe_callR D_is_signs (hr.mono (by decide)) takes0 (pa_cons (pe_ix ix_tupQ (pv 0) pe_int (fun _ _ => rfl)) pa_nil)))) (pw_or1 (pt_not (pt_val (pe_callB call_isK (by rfl) T.f_isinstance PyProof.Rows.boot_isinstance (pa_cons (pe_ix ix_tupQ (pv 0) pe_int (fun _ _ => rfl)) (pa_cons (pe_bltn (v := .ty "tuple") (by rfl) T.f_tuple PyProof.Rows.boot_tuple rfl) pa_nil))))))))) (pss_one (ps_ret pe_bl)) pss_nil)
      (pss_cons (ps_asg (pv 0) (pg_tup (by rfl) (pgs_cons (pg_name (i := 1) sc_is_looker_value.nd rfl (.inl rfl)) (pgs_cons (pg_name (i := 2) sc_is_looker_value.nd rfl (.inl rfl)) pgs_nil))))
      (pss_cons (ps_if (pt_not (pt_chain op_le op_le pe_int (pe_callB call_lenQ (by rfl) T.f_len PySem.boot_len (pa_cons (pv 2) pa_nil)) (pe_glob (v := .int 600) (by rfl) c_MOST_LOOKER ⟨_, rfl⟩))) (pss_one (ps_ret pe_bl)) pss_nil)
      (pss_cons (ps_for PassesOwn.never rfl (pi_tup (pv 2)) (pg_name (i := 3) sc_is_looker_value.nd rfl (.inl rfl)) (pss_cons (ps_if (PW.pt (pw_or (pt_not (pt_val (pe_callR D_is_row (hr.mono (by decide)) takes0 (pa_cons (pv 3) (pa_cons pe_int pa_nil))))) (pw_or (pt_not (pt_val (pe_callR D_is_bit (hr.mono (by decide)) takes0 (pa_cons (pe_ix ix_tupQ (pv 3) pe_int (fun _ _ => rfl)) pa_nil)))) (pw_or1 (pt_not (pt_val (pe_callR D_is_row (hr.mono (by decide)) takes0 (pa_cons (pe_ix ix_tupQ (pv 3) pe_int (fun _ _ => rfl)) (pa_cons (pe_callB call_lenQ (by rfl) T.f_len PySem.boot_len (pa_cons (pv 1) pa_nil)) pa_nil))))))))) (pss_one (ps_ret pe_bl)) pss_nil)
      (pss_one (ps_for PassesOwn.never rfl (pi_tup (pe_ix ix_tupQ (pv 3) pe_int (fun _ _ => rfl))) (pg_name (i := 4) sc_is_looker_value.nd rfl (.inl rfl)) (pss_one (ps_if (pt_not (pt_val (pe_callR D_is_state (hr.mono (by decide)) takes0 (pa_cons (pv 4) (pa_cons (pe_callB call_lenQ (by rfl) T.f_len PySem.boot_len (pa_cons (pv 2) pa_nil)) pa_nil))))) (pss_one (ps_ret pe_bl)) pss_nil))))))
      (pss_one (ps_ret pe_bl)))))), ?_⟩
    obtain ⟨a, b, rfl, ha, vs, hb, hp⟩ := hv
    have hlen : vs.length = rs.length := Paired.length hp
    have hk := hr2.pos
    have hk2 := hr2.top
    simp only [cxOf, tYes, eq_self, if_true, if_false, wipe, rLenQ, rIxTQ, rIxLQ, rIxSQ, rInt1Q, rTupQ, rAppQ, rPopQ, rPopAtQ, rRevQ, rListS, rReprP, tLenSetT, tChain, tRetN, tRet, tSeq, tAsg, gName, tVar, tC, tCons, tNil, tCB, tOp, rI0, rI, tAndV, tOrV, tNotV, tIf, tTest, tB, tNot, tAnd, tOr, tIfS, tNext, tCallR, rIsK, rEq, rNe, tDrop, L2.start, List.map_cons, List.map_nil, List.length_cons, List.length_nil, Nat.reduceAdd, Nat.reduceSub, Nat.sub_self, List.replicate_zero, List.replicate_succ, List.append_nil, List.cons_append, List.nil_append, List.getElem?_cons_zero, List.getElem?_cons_succ, List.set_cons_zero, List.set_cons_succ, Option.some.injEq, List.cons.injEq, and_true, true_and, exists_eq_left, exists_eq_left', exists_eq_right, V.ty.injEq, V.int.injEq, V.bl.injEq, V.str.injEq, V.ref.injEq, exists_and_left, exists_const, reduceIte, reduceCtorEq, false_and, and_false, exists_false, or_false, false_or, Bool.not_true, Bool.not_false, Bool.false_eq_true, String.reduceEq, true_or, or_true]
    refine ⟨.ref a, 2, true, rfl, .inl ⟨a, _, rfl, ha, rfl⟩, true, rfl, ifF rfl ⟨_, ha, _, rfl, ?_⟩⟩
    refine ⟨z, rfl, by have := hz.top; omega, _, rfl, ifF (by rw [hz.sgB]; rfl) ⟨_, ha, _, rfl, .tup hb, ifF (by simp [isaB]) ?_⟩⟩
    refine ⟨a, _, rfl, ha, rfl, _, _, rfl, _, _, rfl, rfl, ?_⟩
    simp only [cxOf, tYes, eq_self, if_true, if_false, wipe, rLenQ, rIxTQ, rIxLQ, rIxSQ, rInt1Q, rTupQ, rAppQ, rPopQ, rPopAtQ, rRevQ, rListS, rReprP, tLenSetT, tChain, tRetN, tRet, tSeq, tAsg, gName, tVar, tC, tCons, tNil, tCB, tOp, rI0, rI, tAndV, tOrV, tNotV, tIf, tTest, tB, tNot, tAnd, tOr, tIfS, tNext, tCallR, rIsK, rEq, rNe, tDrop, L2.start, List.map_cons, List.map_nil, List.length_cons, List.length_nil, Nat.reduceAdd, Nat.reduceSub, Nat.sub_self, List.replicate_zero, List.replicate_succ, List.append_nil, List.cons_append, List.nil_append, List.getElem?_cons_zero, List.getElem?_cons_succ, List.set_cons_zero, List.set_cons_succ, Option.some.injEq, List.cons.injEq, and_true, true_and, exists_eq_left, exists_eq_left', exists_eq_right, V.ty.injEq, V.int.injEq, V.bl.injEq, V.str.injEq, V.ref.injEq, exists_and_left, exists_const, reduceIte, reduceCtorEq, false_and, and_false, exists_false, or_false, false_or, Bool.not_true, Bool.not_false, Bool.false_eq_true, String.reduceEq, true_or, or_true]
    refine ⟨vs, .inr hb, ifT (decide_eq_true (by omega)) (ifF (by rw [decide_eq_true (by omega)]; rfl) ?_)⟩
    refine ⟨.ref b, rfl, b, rfl, ⟨vs, hb⟩, for_tup (K := K) (a := b) (xs := vs) (fun i σ H' => H' = H ∧ ∃ x3 x4, σ = [some (.ref a), some (.str z), some (.ref b), x3, x4]) ⟨rfl, _, _, rfl⟩ (fun i σ H' _ h => h.1 ▸ hb) (fun i x σ H' hi hP => ?_) (fun σ H' hP => ?_)⟩
    · obtain ⟨rfl, x3, x4, rfl⟩ := hP
      obtain ⟨⟨e, row⟩, hr, a1, b1, rfl, h1, h2⟩ := pr_get hp hi
      have hm := List.mem_of_getElem? hr
      have hbit := hr2.bit _ hm
      have hwid := hr2.wid _ hm
      have hto := hr2.to _ hm
      simp only [cxOf, tYes, eq_self, if_true, if_false, wipe, rLenQ, rIxTQ, rIxLQ, rIxSQ, rInt1Q, rTupQ, rAppQ, rPopQ, rPopAtQ, rRevQ, rListS, rReprP, tLenSetT, tChain, tRetN, tRet, tSeq, tAsg, gName, tVar, tC, tCons, tNil, tCB, tOp, rI0, rI, tAndV, tOrV, tNotV, tIf, tTest, tB, tNot, tAnd, tOr, tIfS, tNext, tCallR, rIsK, rEq, rNe, tDrop, L2.start, List.map_cons, List.map_nil, List.length_cons, List.length_nil, Nat.reduceAdd, Nat.reduceSub, Nat.sub_self, List.replicate_zero, List.replicate_succ, List.append_nil, List.cons_append, List.nil_append, List.getElem?_cons_zero, List.getElem?_cons_succ, List.set_cons_zero, List.set_cons_succ, Option.some.injEq, List.cons.injEq, and_true, true_and, exists_eq_left, exists_eq_left', exists_eq_right, V.ty.injEq, V.int.injEq, V.bl.injEq, V.str.injEq, V.ref.injEq, exists_and_left, exists_const, reduceIte, reduceCtorEq, false_and, and_false, exists_false, or_false, false_or, Bool.not_true, Bool.not_false, Bool.false_eq_true, String.reduceEq, true_or, or_true]
      refine ⟨.ref a1, 2, true, rfl, .inl ⟨a1, _, rfl, h1, rfl⟩, true, rfl, ifF rfl ⟨_, h1, _, rfl, ?_⟩⟩
      refine ⟨.int e, rfl, .int e, _, rfl, ifF ?_ ⟨_, h1, _, rfl, szle (m := 5) hz.top, ?_⟩⟩
      · have hbit2 : e = 0 ∨ e = 1 := hbit
        rcases hbit2 with rfl | rfl <;> rfl
      refine ⟨.ref b1, _, true, rfl, .inl ⟨b1, _, rfl, h2, ?_⟩, true, rfl, ifF rfl ?_⟩
      · have hwid2 : row.length = z.length := hwid
        rw [List.length_map]
        exact (decide_eq_true (by simp [hwid2])).symm
      refine ⟨.ref a1, rfl, _, _, h1, rfl, b1, rfl, ⟨_, h2⟩, for_tup (K := K) (a := b1) (xs := row.map V.int) (fun i σ H2 => H2 = H' ∧ ∃ x4, σ = [some (.ref a), some (.str z), some (.ref b), some (.ref a1), x4]) ⟨rfl, _, rfl⟩ (fun i σ H2 _ h => h.1 ▸ h2) (fun j x σ H2 hj hP => ?_) (fun σ H2 hP => ?_)⟩
      · obtain ⟨rfl, x4, rfl⟩ := hP
        obtain ⟨t, ht, rfl⟩ : ∃ t, row[j]? = some t ∧ V.int t = x := by
          rw [List.getElem?_map, Option.map_eq_some_iff] at hj
          exact hj
        have hq := hto t (List.mem_of_getElem? ht)
        simp only [cxOf, tYes, eq_self, if_true, if_false, wipe, rLenQ, rIxTQ, rIxLQ, rIxSQ, rInt1Q, rTupQ, rAppQ, rPopQ, rPopAtQ, rRevQ, rListS, rReprP, tLenSetT, tChain, tRetN, tRet, tSeq, tAsg, gName, tVar, tC, tCons, tNil, tCB, tOp, rI0, rI, tAndV, tOrV, tNotV, tIf, tTest, tB, tNot, tAnd, tOr, tIfS, tNext, tCallR, rIsK, rEq, rNe, tDrop, L2.start, List.map_cons, List.map_nil, List.length_cons, List.length_nil, Nat.reduceAdd, Nat.reduceSub, Nat.sub_self, List.replicate_zero, List.replicate_succ, List.append_nil, List.cons_append, List.nil_append, List.getElem?_cons_zero, List.getElem?_cons_succ, List.set_cons_zero, List.set_cons_succ, Option.some.injEq, List.cons.injEq, and_true, true_and, exists_eq_left, exists_eq_left', exists_eq_right, V.ty.injEq, V.int.injEq, V.bl.injEq, V.str.injEq, V.ref.injEq, exists_and_left, exists_const, reduceIte, reduceCtorEq, false_and, and_false, exists_false, or_false, false_or, Bool.not_true, Bool.not_false, Bool.false_eq_true, String.reduceEq, true_or, or_true]
        refine ⟨vs, .inr hb, .int t, _, rfl, .int t, _, rfl, ifF ?_ ⟨rfl, _, rfl⟩⟩
        simp [isSt, hlen, hq.1, hq.2]
      · obtain ⟨rfl, x4, rfl⟩ := hP
        exact ⟨rfl, _, _, rfl⟩
    · obtain ⟨rfl, x3, x4, rfl⟩ := hP
      exact q
end
end K36

namespace K36
open PySem PySem.Spec PyProof.Rows L2 Sg
section
variable {P : Program} {w : World} {K : PySem.W.Frag} {mg : Str → Option Value} {base : Heap}
theorem sc_check_text : FnScope ["signs", "value"] ["signs", "value"] (defScope (topS 6)) := ⟨rfl, rfl, rfl, by decide +kernel, rfl, by decide +kernel, by decide +kernel⟩
theorem bd_check_text {K : PySem.W.Frag} {f : Addr} {fd : FuncData} (F : FnP K "check_text" (topS 6) f fd) : Binds K fd ["signs", "value"] [] := F.bindsN fun _ _ _ _ _ _ us hl => match us, hl with | [_, _], _ => rfl
def spCt (K : PySem.W.Frag) : Sp := fun vs H Q E => ∃ z t, vs = [.str z, .str t] ∧ t.length ≤ 100000 ∧ (txB z t = true → ∀ H', Same H H' → Q .non H') ∧ (txB z t = false → ∀ H', Same H H' → E (.ref (He.ga K "BadSigns")) none H')
theorem ok_check_text (T : Tx K mg) : Dk P w K mg base 2 "check_text" ["signs", "value"] (spCt K) := by
  have D_is_text_of := ok_is_text_of (P := P) (w := w) (base := base) T
  obtain ⟨fd, F⟩ := T.d_check_text
  refine ⟨⟨fd, F.ok sc_check_text (fun vs H Q E h => ?_) (fun cdv A outer s H vs Q E hr h => ?_), bd_check_text F⟩, F.kp, T.g_check_text⟩
  · obtain ⟨z, t, rfl, _⟩ := h
    rfl
  · obtain ⟨z, t, rfl, ht, q1, q2⟩ := h
    refine ⟨_, (pss_one (ps_if (pt_not (pt_val (pe_callR D_is_text_of (hr.mono (by decide)) (takes_of rfl rfl rfl rfl) (pa_cons (pv 0) (pa_cons (pv 1) pa_nil))))) (pss_one (ps_raise rfl (takes_of rfl rfl rfl rfl) (pmk_own PySem.F.excBase_ValueError T.e_BadSigns.ex T.e_BadSigns.gm T.e_BadSigns.kp T.e_BadSigns.rs rfl))) pss_nil)), ?_⟩
    simp only [cxOf, tYes, eq_self, if_true, if_false, wipe, rLenQ, rIxTQ, rIxLQ, rIxSQ, rInt1Q, rTupQ, rAppQ, rPopQ, rPopAtQ, rRevQ, rListS, rReprP, tLenSetT, tChain, tRetN, tRet, tSeq, tAsg, gName, tVar, tC, tCons, tNil, tCB, tOp, rI0, rI, tAndV, tOrV, tNotV, tIf, tTest, tB, tNot, tAnd, tOr, tIfS, tNext, tCallR, rIsK, rEq, rNe, tDrop, L2.start, List.map_cons, List.map_nil, List.length_cons, List.length_nil, Nat.reduceAdd, Nat.reduceSub, Nat.sub_self, List.replicate_zero, List.replicate_succ, List.append_nil, List.cons_append, List.nil_append, List.getElem?_cons_zero, List.getElem?_cons_succ, List.set_cons_zero, List.set_cons_succ, Option.some.injEq, List.cons.injEq, and_true, true_and, exists_eq_left, exists_eq_left', exists_eq_right, V.ty.injEq, V.int.injEq, V.bl.injEq, V.str.injEq, V.ref.injEq, exists_and_left, exists_const, reduceIte, reduceCtorEq, false_and, and_false, exists_false, or_false, false_or, Bool.not_true, Bool.not_false, Bool.false_eq_true, String.reduceEq, true_or, or_true]
    refine ⟨z, .str t, rfl, .inl ⟨t, rfl, ht, fun H' s1 => ⟨_, rfl, ?_⟩⟩⟩
    cases e : txB z t with
    | true => exact ifF rfl (q1 e H' s1)
    | false => exact ifT rfl (q2 e H' s1)
theorem sc_check_looker : FnScope ["value"] ["value"] (defScope (topS 17)) := ⟨rfl, rfl, rfl, by decide +kernel, rfl, by decide +kernel, by decide +kernel⟩
theorem bd_check_looker {K : PySem.W.Frag} {f : Addr} {fd : FuncData} (F : FnP K "check_looker" (topS 17) f fd) : Binds K fd ["value"] [] := F.bindsN fun _ _ _ _ _ _ us hl => match us, hl with | [_], _ => rfl
def spCl (K : PySem.W.Frag) : Sp := fun vs H Q _ => ∃ v z rs, vs = [v] ∧ RLk K H v z rs ∧ SignsOk z ∧ RowsOk z.length rs ∧ Q .non H
theorem ok_check_looker (T : Tx K mg) : Dk P w K mg base 4 "check_looker" ["value"] (spCl K) := by
  have D_is_looker_value := ok_is_looker_value (P := P) (w := w) (base := base) T
  obtain ⟨fd, F⟩ := T.d_check_looker
  refine ⟨⟨fd, F.ok sc_check_looker (fun vs H Q E h => ?_) (fun cdv A outer s H vs Q E hr h => ?_), bd_check_looker F⟩, F.kp, T.g_check_looker⟩
  · obtain ⟨v, z, rs, rfl, _⟩ := h
    rfl
  · obtain ⟨v, z, rs, rfl, hv, hz, hr2, q⟩ := h
    refine ⟨_, (pss_one (ps_if (pt_not (pt_val (pe_callR D_is_looker_value (hr.mono (by decide)) (takes_of rfl rfl rfl rfl) (pa_cons (pv 0) pa_nil)))) (pss_one (ps_raise rfl (takes_of rfl rfl rfl rfl) (pmk_own PySem.F.excBase_ValueError T.e_BadLooker.ex T.e_BadLooker.gm T.e_BadLooker.kp T.e_BadLooker.rs rfl))) pss_nil)), ?_⟩
    simp only [cxOf, tYes, eq_self, if_true, if_false, wipe, rLenQ, rIxTQ, rIxLQ, rIxSQ, rInt1Q, rTupQ, rAppQ, rPopQ, rPopAtQ, rRevQ, rListS, rReprP, tLenSetT, tChain, tRetN, tRet, tSeq, tAsg, gName, tVar, tC, tCons, tNil, tCB, tOp, rI0, rI, tAndV, tOrV, tNotV, tIf, tTest, tB, tNot, tAnd, tOr, tIfS, tNext, tCallR, rIsK, rEq, rNe, tDrop, L2.start, List.map_cons, List.map_nil, List.length_cons, List.length_nil, Nat.reduceAdd, Nat.reduceSub, Nat.sub_self, List.replicate_zero, List.replicate_succ, List.append_nil, List.cons_append, List.nil_append, List.getElem?_cons_zero, List.getElem?_cons_succ, List.set_cons_zero, List.set_cons_succ, Option.some.injEq, List.cons.injEq, and_true, true_and, exists_eq_left, exists_eq_left', exists_eq_right, V.ty.injEq, V.int.injEq, V.bl.injEq, V.str.injEq, V.ref.injEq, exists_and_left, exists_const, reduceIte, reduceCtorEq, false_and, and_false, exists_false, or_false, false_or, Bool.not_true, Bool.not_false, Bool.false_eq_true, String.reduceEq, true_or, or_true]
    exact ⟨v, z, rs, rfl, hv, hz, hr2, true, rfl, ifF rfl q⟩
theorem sc_check_same_signs : FnScope ["one", "other"] ["one", "other"] (defScope (topS 18)) := ⟨rfl, rfl, rfl, by decide +kernel, rfl, by decide +kernel, by decide +kernel⟩
theorem bd_check_same_signs {K : PySem.W.Frag} {f : Addr} {fd : FuncData} (F : FnP K "check_same_signs" (topS 18) f fd) : Binds K fd ["one", "other"] [] := F.bindsN fun _ _ _ _ _ _ us hl => match us, hl with | [_, _], _ => rfl
def spCs (K : PySem.W.Frag) : Sp := fun vs H Q E => ∃ v1 z1 rs1 v2 z2 rs2, vs = [v1, v2] ∧ RLk K H v1 z1 rs1 ∧ RLk K H v2 z2 rs2 ∧ (z1 = z2 → Q .non H) ∧ (z1 ≠ z2 → E (.ref (He.ga K "BadSigns")) none H)
theorem ok_check_same_signs (T : Tx K mg) : Dk P w K mg base 1 "check_same_signs" ["one", "other"] (spCs K) := by
  obtain ⟨fd, F⟩ := T.d_check_same_signs
  refine ⟨⟨fd, F.ok sc_check_same_signs (fun vs H Q E h => ?_) (fun cdv A outer s H vs Q E hr h => ?_), bd_check_same_signs F⟩, F.kp, T.g_check_same_signs⟩
  · obtain ⟨v1, z1, rs1, v2, z2, rs2, rfl, _⟩ := h
    rfl
  · obtain ⟨v1, z1, rs1, v2, z2, rs2, rfl, ⟨a1, b1, rfl, h1, _⟩, ⟨a2, b2, rfl, h2, _⟩, q1, q2⟩ := h
    refine ⟨_, (pss_one (ps_if (pt_cmpR op_ne (pe_ix ix_tupQ (pv 0) pe_int (fun _ _ => rfl)) (pe_ix ix_tupQ (pv 1) pe_int (fun _ _ => rfl)) (nomark _)) (pss_one (ps_raise rfl (takes_of rfl rfl rfl rfl) (pmk_own PySem.F.excBase_ValueError T.e_BadSigns.ex T.e_BadSigns.gm T.e_BadSigns.kp T.e_BadSigns.rs rfl))) pss_nil)), ?_⟩
    simp only [cxOf, tYes, eq_self, if_true, if_false, wipe, rLenQ, rIxTQ, rIxLQ, rIxSQ, rInt1Q, rTupQ, rAppQ, rPopQ, rPopAtQ, rRevQ, rListS, rReprP, tLenSetT, tChain, tRetN, tRet, tSeq, tAsg, gName, tVar, tC, tCons, tNil, tCB, tOp, rI0, rI, tAndV, tOrV, tNotV, tIf, tTest, tB, tNot, tAnd, tOr, tIfS, tNext, tCallR, rIsK, rEq, rNe, tDrop, L2.start, List.map_cons, List.map_nil, List.length_cons, List.length_nil, Nat.reduceAdd, Nat.reduceSub, Nat.sub_self, List.replicate_zero, List.replicate_succ, List.append_nil, List.cons_append, List.nil_append, List.getElem?_cons_zero, List.getElem?_cons_succ, List.set_cons_zero, List.set_cons_succ, Option.some.injEq, List.cons.injEq, and_true, true_and, exists_eq_left, exists_eq_left', exists_eq_right, V.ty.injEq, V.int.injEq, V.bl.injEq, V.str.injEq, V.ref.injEq, exists_and_left, exists_const, reduceIte, reduceCtorEq, false_and, and_false, exists_false, or_false, false_or, Bool.not_true, Bool.not_false, Bool.false_eq_true, String.reduceEq, true_or, or_true]
    refine ⟨_, h1, _, rfl, _, h2, _, rfl, rfl, ?_⟩
    by_cases e : z1 = z2
    · exact ifF (by rw [e]; simp) (q1 e)
    · exact ifT (by simp [e]) (q2 e)
theorem sc_state_behind : FnScope ["signs", "states", "state", "text", "sign"] ["signs", "states", "state", "text"] (defScope (topS 20)) := ⟨rfl, rfl, rfl, by decide +kernel, rfl, by decide +kernel, by decide +kernel⟩
theorem bd_state_behind {K : PySem.W.Frag} {f : Addr} {fd : FuncData} (F : FnP K "state_behind" (topS 20) f fd) : Binds K fd ["signs", "states", "state", "text"] [] := F.bindsN fun _ _ _ _ _ _ us hl => match us, hl with | [_, _, _, _], _ => rfl
def walkS (z : Str) (rs : List LRow) (p : Int) (l : List Nat) : Int := l.foldl (fun p c => nxt rs p (z.cps.toList.idxOf c)) p
def spSb (K : PySem.W.Frag) : Sp := fun vs H Q _ => ∃ z b rs p t, vs = [.str z, .ref b, .int p, .str t] ∧ RRows K H b rs ∧ SignsOk z ∧ RowsOk z.length rs ∧ InSt rs p ∧ txB z t = true ∧ Q (.int (walkS z rs p t.cps.toList)) H
theorem ok_state_behind (T : Tx K mg) : Dk P w K mg base 1 "state_behind" ["signs", "states", "state", "text"] (spSb K) := by
  obtain ⟨fd, F⟩ := T.d_state_behind
  refine ⟨⟨fd, F.ok sc_state_behind (fun vs H Q E h => ?_) (fun cdv A outer s H vs Q E hr h => ?_), bd_state_behind F⟩, F.kp, T.g_state_behind⟩
  · obtain ⟨z, b, rs, p, t, rfl, _⟩ := h
    rfl
  · obtain ⟨z, b, rs, p, t, rfl, hb, hz, hr2, hp, ht, q⟩ := h
    refine ⟨_, PSs.nox (pss_cons (ps_for PassesOwn.never rfl (pi_str (pv 3)) (pg_name (i := 4) sc_state_behind.nd rfl (.inl rfl)) (pss_one (ps_set (i := 2) sc_state_behind.nd rfl (.inl rfl) (pe_ix ix_tupQ (pe_ix ix_tupQ (pe_ix ix_tupQ (pv 1) (pv 2) (fun _ _ => rfl)) pe_int (fun _ _ => rfl)) (pe_m1 PySem.F.slot_str_find PySem.F.type_str_find mt_find (pv 0) (pv 4)) (fun _ _ => rfl)))))
      (pss_one (ps_ret (pv 2)))), ?_⟩
    simp only [cxOf, tYes, eq_self, if_true, if_false, wipe, rLenQ, rIxTQ, rIxLQ, rIxSQ, rInt1Q, rTupQ, rAppQ, rPopQ, rPopAtQ, rRevQ, rListS, rReprP, tLenSetT, tChain, tRetN, tRet, tSeq, tAsg, gName, tVar, tC, tCons, tNil, tCB, tOp, rI0, rI, tAndV, tOrV, tNotV, tIf, tTest, tB, tNot, tAnd, tOr, tIfS, tNext, tCallR, rIsK, rEq, rNe, tDrop, L2.start, List.map_cons, List.map_nil, List.length_cons, List.length_nil, Nat.reduceAdd, Nat.reduceSub, Nat.sub_self, List.replicate_zero, List.replicate_succ, List.append_nil, List.cons_append, List.nil_append, List.getElem?_cons_zero, List.getElem?_cons_succ, List.set_cons_zero, List.set_cons_succ, Option.some.injEq, List.cons.injEq, and_true, true_and, exists_eq_left, exists_eq_left', exists_eq_right, V.ty.injEq, V.int.injEq, V.bl.injEq, V.str.injEq, V.ref.injEq, exists_and_left, exists_const, reduceIte, reduceCtorEq, false_and, and_false, exists_false, or_false, false_or, Bool.not_true, Bool.not_false, Bool.false_eq_true, String.reduceEq, true_or, or_true]
    refine ⟨.str t, rfl, t, rfl, for_gen (n := t.cps.size) (fun i σ H' => H' = H ∧ InSt rs (walkS z rs p (t.cps.toList.take i)) ∧ ∃ x4, σ = [some (.str z), some (.ref b), some (.int (walkS z rs p (t.cps.toList.take i))), some (.str t), x4]) ⟨rfl, hp, _, rfl⟩ (fun i σ H' hi _ => hi) (fun σ H' _ => Nat.le_refl _) ?_ ?_⟩
    · rintro i x σ H1 H2 hi ⟨rfl, hin, x4, rfl⟩ ⟨rfl, c, hc, rfl⟩
      have hc2 : t.cps.toList[i]? = some c := by rw [Array.getElem?_toList]; exact hc
      have hcm : c ∈ z.cps.toList := of_decide_eq_true (List.all_eq_true.mp ht c (List.mem_of_getElem? hc2))
      have hx : z.cps.toList.idxOf c < z.cps.toList.length := List.idxOf_lt_length_of_mem hcm
      have hxi : z.cps.toList[z.cps.toList.idxOf c]? = some c := by
        rw [List.getElem?_eq_getElem hx]
        exact congrArg some (List.getElem_idxOf hx)
      have hxl : z.cps.toList.idxOf c < z.length := by
        have e : z.cps.toList.length = z.length := Array.length_toList
        omega
      obtain ⟨vs, a1, b1, h1, h2, h3, h4⟩ := hb.at hin
      simp only [cxOf, tYes, eq_self, if_true, if_false, wipe, rLenQ, rIxTQ, rIxLQ, rIxSQ, rInt1Q, rTupQ, rAppQ, rPopQ, rPopAtQ, rRevQ, rListS, rReprP, tLenSetT, tChain, tRetN, tRet, tSeq, tAsg, gName, tVar, tC, tCons, tNil, tCB, tOp, rI0, rI, tAndV, tOrV, tNotV, tIf, tTest, tB, tNot, tAnd, tOr, tIfS, tNext, tCallR, rIsK, rEq, rNe, tDrop, L2.start, List.map_cons, List.map_nil, List.length_cons, List.length_nil, Nat.reduceAdd, Nat.reduceSub, Nat.sub_self, List.replicate_zero, List.replicate_succ, List.append_nil, List.cons_append, List.nil_append, List.getElem?_cons_zero, List.getElem?_cons_succ, List.set_cons_zero, List.set_cons_succ, Option.some.injEq, List.cons.injEq, and_true, true_and, exists_eq_left, exists_eq_left', exists_eq_right, V.ty.injEq, V.int.injEq, V.bl.injEq, V.str.injEq, V.ref.injEq, exists_and_left, exists_const, reduceIte, reduceCtorEq, false_and, and_false, exists_false, or_false, false_or, Bool.not_true, Bool.not_false, Bool.false_eq_true, String.reduceEq, true_or, or_true]
      have step : walkS z rs p (t.cps.toList.take (i + 1)) = nxt rs (walkS z rs p (t.cps.toList.take i)) (z.cps.toList.idxOf c) := by
        unfold walkS
        rw [List.take_add_one, hc2, List.foldl_append]
        rfl
      have ef : Txt.find z ⟨#[c]⟩ = ((z.cps.toList.idxOf c : Nat) : Int) := find_sign hz.nd hxi
      refine ⟨vs, h1, _, h2, _, h3, _, rfl, ?_⟩
      refine ⟨.str z, rfl, ⟨z, rfl⟩, .str ⟨#[c]⟩, rfl, z, rfl, ⟨#[c]⟩, rfl, ?_⟩
      rw [ef]
      refine ⟨_, h4, _, row_at hr2 hin hxl, rfl, ?_, ?_, _, rfl⟩
      · rw [step]
        exact nxt_in hr2 hin hxl
      · rw [step]
    · rintro σ H1 ⟨rfl, hin, x4, rfl⟩
      have ee : t.cps.toList.take t.cps.size = t.cps.toList := List.take_of_length_le (by simp)
      rw [ee]
      exact ⟨_, rfl, q⟩
theorem sc_path_of : FnScope ["signs", "came", "key", "letters", "step", "before", "place"] ["signs", "came", "key"] (defScope (topS 21)) := ⟨rfl, rfl, rfl, by decide +kernel, rfl, by decide +kernel, by decide +kernel⟩
theorem bd_path_of {K : PySem.W.Frag} {f : Addr} {fd : FuncData} (F : FnP K "path_of" (topS 21) f fd) : Binds K fd ["signs", "came", "key"] [] := F.bindsN fun _ _ _ _ _ _ us hl => match us, hl with | [_, _, _], _ => rfl
def spPo (K : PySem.W.Frag) : Sp := fun vs H Q _ => ∃ z d y p, vs = [.str z, .ref d, y] ∧ z.length ≤ 1000 ∧ Chain K H d y p ∧ (∀ x ∈ p, x < z.length) ∧ p.length ≤ 500000 ∧ ∀ H', Same H H' → Q (.str (textOf z p)) H'
def PoI (K : PySem.W.Frag) (H : Hp) (z : Str) (d : Addr) (y : V) (l : Addr) (p : List Nat) (m : Nat) (σ : L2.St) (H' : Hp) : Prop :=
  ∃ v q1 q2 x5 x6, m = q1.length ∧ p = q1 ++ q2 ∧ StepV K H d v q1 ∧ Same H H' ∧ H' l = some (.lst (sgs z q2.reverse)) ∧ σ = [some (.str z), some (.ref d), some y, some (.ref l), some v, x5, x6]
theorem ok_path_of (T : Tx K mg) : Dk P w K mg base 1 "path_of" ["signs", "came", "key"] (spPo K) := by
  obtain ⟨fd, F⟩ := T.d_path_of
  refine ⟨⟨fd, F.ok sc_path_of (fun vs H Q E h => ?_) (fun cdv A outer s H vs Q E hr h => ?_), bd_path_of F⟩, F.kp, T.g_path_of⟩
  · obtain ⟨z, d, y, p, rfl, _⟩ := h
    rfl
  · obtain ⟨z, d, y, p, rfl, hz, hc, hp, hl, q⟩ := h
    refine ⟨_, PSs.nox (pss_cons (ps_set (i := 3) sc_path_of.nd rfl (.inl rfl) (pe_lst pa_nil))
      (pss_cons (ps_set (i := 4) sc_path_of.nd rfl (.inl rfl) (pe_dget (hu_of hr) (pv 1) (pv 2) (fun _ _ => rfl)))
      (pss_cons (ps_while PassesOwn.never (pt_cmpR op_notN (pv 4) pe_non (nomark _)) (pss_cons (ps_asg (pv 4) (pg_tup (by rfl) (pgs_cons (pg_name (i := 5) sc_path_of.nd rfl (.inl rfl)) (pgs_cons (pg_name (i := 6) sc_path_of.nd rfl (.inl rfl)) pgs_nil))))
      (pss_cons (ps_expr (pe_bm PySem.F.plainAttrs_list PySem.F.slot_list_append PySem.F.type_list_append mt_appQ (pv 3) (pa_cons (pe_ix ix_strQ (pv 0) (pv 6) (fun _ _ => rfl)) pa_nil)))
      (pss_one (ps_set (i := 4) sc_path_of.nd rfl (.inl rfl) (pe_dget (hu_of hr) (pv 1) (pv 5) (fun _ _ => rfl)))))))
      (pss_one (ps_ret (pe_join pe_str (pe_revL (pv 3)))))))), ?_⟩
    simp only [cxOf, tYes, eq_self, if_true, if_false, wipe, rLenQ, rIxTQ, rIxLQ, rIxSQ, rInt1Q, rTupQ, rAppQ, rPopQ, rPopAtQ, rRevQ, rListS, rReprP, tLenSetT, tChain, tRetN, tRet, tSeq, tAsg, gName, tVar, tC, tCons, tNil, tCB, tOp, rI0, rI, tAndV, tOrV, tNotV, tIf, tTest, tB, tNot, tAnd, tOr, tIfS, tNext, tCallR, rIsK, rEq, rNe, tDrop, L2.start, List.map_cons, List.map_nil, List.length_cons, List.length_nil, Nat.reduceAdd, Nat.reduceSub, Nat.sub_self, List.replicate_zero, List.replicate_succ, List.append_nil, List.cons_append, List.nil_append, List.getElem?_cons_zero, List.getElem?_cons_succ, List.set_cons_zero, List.set_cons_succ, Option.some.injEq, List.cons.injEq, and_true, true_and, exists_eq_left, exists_eq_left', exists_eq_right, V.ty.injEq, V.int.injEq, V.bl.injEq, V.str.injEq, V.ref.injEq, exists_and_left, exists_const, reduceIte, reduceCtorEq, false_and, and_false, exists_false, or_false, false_or, Bool.not_true, Bool.not_false, Bool.false_eq_true, String.reduceEq, true_or, or_true]
    refine ⟨Nat.zero_le _, fun l hl0 => ?_⟩
    have s0 : Same H (upd H l (.lst [])) := same_upd hl0
    obtain ⟨v, hv, hs⟩ := hc.get
    refine ⟨.ref d, rfl, y, rfl, d, v, rfl, dget_mono s0 hv, PoI K H z d y l p, ⟨p.length, v, p, [], none, none, rfl, by simp, hs, s0, by rw [upd_same]; rfl, rfl⟩, ?_⟩
    rintro m σ H1 ⟨v, q1, q2, x5, x6, rfl, rfl, hs, s1, hl1, rfl⟩
    simp only [cxOf, tYes, eq_self, if_true, if_false, wipe, rLenQ, rIxTQ, rIxLQ, rIxSQ, rInt1Q, rTupQ, rAppQ, rPopQ, rPopAtQ, rRevQ, rListS, rReprP, tLenSetT, tChain, tRetN, tRet, tSeq, tAsg, gName, tVar, tC, tCons, tNil, tCB, tOp, rI0, rI, tAndV, tOrV, tNotV, tIf, tTest, tB, tNot, tAnd, tOr, tIfS, tNext, tCallR, rIsK, rEq, rNe, tDrop, L2.start, List.map_cons, List.map_nil, List.length_cons, List.length_nil, Nat.reduceAdd, Nat.reduceSub, Nat.sub_self, List.replicate_zero, List.replicate_succ, List.append_nil, List.cons_append, List.nil_append, List.getElem?_cons_zero, List.getElem?_cons_succ, List.set_cons_zero, List.set_cons_succ, Option.some.injEq, List.cons.injEq, and_true, true_and, exists_eq_left, exists_eq_left', exists_eq_right, V.ty.injEq, V.int.injEq, V.bl.injEq, V.str.injEq, V.ref.injEq, exists_and_left, exists_const, reduceIte, reduceCtorEq, false_and, and_false, exists_false, or_false, false_or, Bool.not_true, Bool.not_false, Bool.false_eq_true, String.reduceEq, true_or, or_true]
    rcases hs with ⟨rfl, rfl⟩ | ⟨t, y1, x, q0, rfl, ht, hc1, rfl⟩
    · refine ifF rfl ⟨⟨_, rfl⟩, .ref l, rfl, l, _, rfl, .inl (.inl hl1), fun r hr0 => ?_⟩
      simp only [cxOf, tYes, eq_self, if_true, if_false, wipe, rLenQ, rIxTQ, rIxLQ, rIxSQ, rInt1Q, rTupQ, rAppQ, rPopQ, rPopAtQ, rRevQ, rListS, rReprP, tLenSetT, tChain, tRetN, tRet, tSeq, tAsg, gName, tVar, tC, tCons, tNil, tCB, tOp, rI0, rI, tAndV, tOrV, tNotV, tIf, tTest, tB, tNot, tAnd, tOr, tIfS, tNext, tCallR, rIsK, rEq, rNe, tDrop, L2.start, List.map_cons, List.map_nil, List.length_cons, List.length_nil, Nat.reduceAdd, Nat.reduceSub, Nat.sub_self, List.replicate_zero, List.replicate_succ, List.append_nil, List.cons_append, List.nil_append, List.getElem?_cons_zero, List.getElem?_cons_succ, List.set_cons_zero, List.set_cons_succ, Option.some.injEq, List.cons.injEq, and_true, true_and, exists_eq_left, exists_eq_left', exists_eq_right, V.ty.injEq, V.int.injEq, V.bl.injEq, V.str.injEq, V.ref.injEq, exists_and_left, exists_const, reduceIte, reduceCtorEq, false_and, and_false, exists_false, or_false, false_or, Bool.not_true, Bool.not_false, Bool.false_eq_true, String.reduceEq, true_or, or_true]
      have e1 : (sgs z q2.reverse).reverse = ((textOf z q2).cps.toList.map sgn).map V.str := by
        unfold sgs textOf
        rw [List.map_reverse, List.reverse_reverse, List.map_map, List.map_map]
        rfl
      refine ⟨(textOf z q2).cps.toList.map sgn, .inl (.inl (.inl ?_)), ?_, ?_⟩
      · rw [upd_same, e1]
      · rw [sum_ones]
        have e2 : (textOf z q2).cps.toList.length = q2.length := by simp [textOf]
        have e3 : (Str.ofString "").length = 0 := by decide
        rw [e2, e3]
        simp at hl
        omega
      · rw [join_signs]
        have e4 : (⟨(textOf z q2).cps.toList.toArray⟩ : Str) = textOf z ([] ++ q2) := by
          apply str_ext
          simp
        rw [e4]
        exact q _ fun b o hb => by rw [upd_ne (ne_of_none (s1 b o hb) hr0)]; exact s1 b o hb
    · refine ifT rfl ⟨PoI K H z d y l (q0 ++ [x] ++ q2) q0.length, fun σ' H' hw => ⟨q0.length, by simp, hw⟩, ?_⟩
      refine ⟨t, _, rfl, Same.sqT s1 ht, rfl, _, _, rfl, _, _, rfl, rfl, ?_⟩
      have hx : x < z.length := hp x (by simp)
      obtain ⟨v2, hv2, hs2⟩ := hc1.get
      refine ⟨.ref l, rfl, lst_ty hl1, .str z, rfl, .int x, rfl, z.cps.getD x 0, szle hz, at_sign hx, _, hl1, ?_, ?_⟩
      · unfold sgs
        rw [List.length_map, List.length_reverse]
        simp at hl
        exact szlt (m := 500000) (by omega)
      · have hne : ∀ b o, H b = some o → b ≠ l := fun b o hb => ne_of_none hb hl0
        have s2 : Same H (upd H1 l (.lst (sgs z q2.reverse ++ [V.str (sgn (z.cps.getD x 0))]))) := fun b o hb => by rw [upd_ne (hne b o hb)]; exact s1 b o hb
        refine ⟨.ref d, rfl, y1, rfl, d, v2, rfl, dget_mono s2 hv2, v2, q0, x :: q2, _, _, rfl, by simp, hs2, s2, ?_, rfl⟩
        rw [upd_same]
        unfold sgs
        simp
end
end K36

namespace K36
open PySem PySem.Spec PyProof.Rows L2 Sg
section
variable {P : Program} {w : World} {K : PySem.W.Frag} {mg : Str → Option Value} {base : Heap}
theorem sc_first_text : FnScope ["signs", "states", "came", "order", "at", "state", "place", "to"] ["signs", "states"] (defScope (topS 22)) := ⟨rfl, rfl, rfl, by decide +kernel, rfl, by decide +kernel, by decide +kernel⟩
theorem bd_first_text {K : PySem.W.Frag} {f : Addr} {fd : FuncData} (F : FnP K "first_text" (topS 22) f fd) : Binds K fd ["signs", "states"] [] := F.bindsN fun _ _ _ _ _ _ us hl => match us, hl with | [_, _], _ => rfl
def stpF (rs : List LRow) (p : Int) (x : Nat) : Int := nxt rs p x
def tstF (rs : List LRow) (p : Int) : Bool := endAt rs p != 0
def firstR (z : Str) (rs : List LRow) : Option (List Nat) := bfs z.length (stpF rs) (tstF rs) (rs.length + 1) 0 [(0, [])]
def oText (z : Str) : Option (List Nat) → V
  | none => .non
  | some p => .str (textOf z p)
def spFt (K : PySem.W.Frag) : Sp := fun vs H Q _ => ∃ z b rs, vs = [.str z, .ref b] ∧ RRows K H b rs ∧ SignsOk z ∧ RowsOk z.length rs ∧ ∀ H', Same H H' → Q (oText z (firstR z rs)) H'
def FtI (K : PySem.W.Frag) (H : Hp) (z : Str) (b : Addr) (rs : List LRow) (dc lo : Addr) (m : Nat) (σ : L2.St) (H' : Hp) : Prop :=
  ∃ i acc x5 x6 x7, m + i = rs.length + 1 ∧ bfs z.length (stpF rs) (tstF rs) m i acc = firstR z rs ∧ MetOk z.length (stpF rs) 0 acc ∧ CameI K H dc lo acc H' ∧
    σ = [some (.str z), some (.ref b), some (.ref dc), some (.ref lo), some (.int ((i : Nat) : Int)), x5, x6, x7]
def FtJ (K : PySem.W.Frag) (H : Hp) (z : Str) (b : Addr) (rs : List LRow) (dc lo : Addr) (i : Nat) (acc : Met Int) (a : Int) (p : List Nat) (k : Nat) (σ : L2.St) (H' : Hp) : Prop :=
  ∃ x6 x7, CameI K H dc lo (expandTo (stpF rs) acc a p k) H' ∧ σ = [some (.str z), some (.ref b), some (.ref dc), some (.ref lo), some (.int ((i : Nat) : Int)), some (.int a), x6, x7]
theorem ok_first_text (T : Tx K mg) : Dk P w K mg base 2 "first_text" ["signs", "states"] (spFt K) := by
  have D_path_of := ok_path_of (P := P) (w := w) (base := base) T
  obtain ⟨fd, F⟩ := T.d_first_text
  refine ⟨⟨fd, F.ok sc_first_text (fun vs H Q E h => ?_) (fun cdv A outer s H vs Q E hr h => ?_), bd_first_text F⟩, F.kp, T.g_first_text⟩
  · obtain ⟨z, b, rs, rfl, _⟩ := h
    rfl
  · obtain ⟨z, b, rs, rfl, hb, hz, hr2, q⟩ := h
    refine ⟨_, PSs.nox (pss_cons (ps_set (i := 2) sc_first_text.nd rfl (.inl rfl) (pe_disp (pps_cons pe_int pe_non pps_nil) (by rfl) (by rfl) (fun z => by cases z) (by decide)))
      (pss_cons (ps_set (i := 3) sc_first_text.nd rfl (.inl rfl) (pe_lst (pa_cons pe_int pa_nil)))
      (pss_cons (ps_set (i := 4) sc_first_text.nd rfl (.inl rfl) pe_int)
      (pss_cons (ps_while PassesOwn.never (pt_cmpR op_lt (pv 4) (pe_callB call_lenQ (by rfl) T.f_len PySem.boot_len (pa_cons (pv 3) pa_nil)) (nomark _)) (pss_cons (ps_set (i := 5) sc_first_text.nd rfl (.inl rfl) (pe_ix ix_listQ (pv 3) (pv 4) (fun _ _ => rfl)))
      (pss_cons (ps_if (pt_truth (pe_ix ix_tupQ (pe_ix ix_tupQ (pv 1) (pv 5) (fun _ _ => rfl)) pe_int (fun _ _ => rfl)) (by intro _; rfl)) (pss_one (ps_ret (pe_callR D_path_of (hr.mono (by decide)) takes0 (pa_cons (pv 0) (pa_cons (pv 2) (pa_cons (pv 5) pa_nil)))))) pss_nil)
      (pss_cons (ps_for PassesOwn.never rfl (pi_enumT (by rfl) T.f_enumerate (pa_cons (pe_ix ix_tupQ (pe_ix ix_tupQ (pv 1) (pv 5) (fun _ _ => rfl)) pe_int (fun _ _ => rfl)) pa_nil)) (pg_tup (by rfl) (pgs_cons (pg_name (i := 6) sc_first_text.nd rfl (.inl rfl)) (pgs_cons (pg_name (i := 7) sc_first_text.nd rfl (.inl rfl)) pgs_nil))) (pss_one (ps_if (pt_cmp (pc_dnotin (hu_of hr) (pv 7) (pv 2))) (pss_cons (ps_dput (hu_of hr) (pv 2) (pv 7) (pe_tup (pa_cons (pv 5) (pa_cons (pv 6) pa_nil))) rfl)
      (pss_one (ps_expr (pe_bm PySem.F.plainAttrs_list PySem.F.slot_list_append PySem.F.type_list_append mt_appQ (pv 3) (pa_cons (pv 7) pa_nil))))) pss_nil)))
      (pss_one (ps_aug (i := 4) sc_first_text.nd rfl (.inl rfl) pe_int ip_add))))))
      (pss_one (ps_ret pe_non)))))), ?_⟩
    simp only [cxOf, tYes, eq_self, if_true, if_false, wipe, rLenQ, rIxTQ, rIxLQ, rIxSQ, rInt1Q, rTupQ, rAppQ, rPopQ, rPopAtQ, rRevQ, rListS, rReprP, tLenSetT, tChain, tRetN, tRet, tSeq, tAsg, gName, tVar, tC, tCons, tNil, tCB, tOp, rI0, rI, tAndV, tOrV, tNotV, tIf, tTest, tB, tNot, tAnd, tOr, tIfS, tNext, tCallR, rIsK, rEq, rNe, tDrop, L2.start, List.map_cons, List.map_nil, List.length_cons, List.length_nil, Nat.reduceAdd, Nat.reduceSub, Nat.sub_self, List.replicate_zero, List.replicate_succ, List.append_nil, List.cons_append, List.nil_append, List.getElem?_cons_zero, List.getElem?_cons_succ, List.set_cons_zero, List.set_cons_succ, Option.some.injEq, List.cons.injEq, and_true, true_and, exists_eq_left, exists_eq_left', exists_eq_right, V.ty.injEq, V.int.injEq, V.bl.injEq, V.str.injEq, V.ref.injEq, exists_and_left, exists_const, reduceIte, reduceCtorEq, false_and, and_false, exists_false, or_false, false_or, Bool.not_true, Bool.not_false, Bool.false_eq_true, String.reduceEq, true_or, or_true]
    intro dc hdc
    refine ⟨upd_same, [(.inl 0, .non)], rfl, by decide, ?_⟩
    simp only [cxOf, tYes, eq_self, if_true, if_false, wipe, rLenQ, rIxTQ, rIxLQ, rIxSQ, rInt1Q, rTupQ, rAppQ, rPopQ, rPopAtQ, rRevQ, rListS, rReprP, tLenSetT, tChain, tRetN, tRet, tSeq, tAsg, gName, tVar, tC, tCons, tNil, tCB, tOp, rI0, rI, tAndV, tOrV, tNotV, tIf, tTest, tB, tNot, tAnd, tOr, tIfS, tNext, tCallR, rIsK, rEq, rNe, tDrop, L2.start, List.map_cons, List.map_nil, List.length_cons, List.length_nil, Nat.reduceAdd, Nat.reduceSub, Nat.sub_self, List.replicate_zero, List.replicate_succ, List.append_nil, List.cons_append, List.nil_append, List.getElem?_cons_zero, List.getElem?_cons_succ, List.set_cons_zero, List.set_cons_succ, Option.some.injEq, List.cons.injEq, and_true, true_and, exists_eq_left, exists_eq_left', exists_eq_right, V.ty.injEq, V.int.injEq, V.bl.injEq, V.str.injEq, V.ref.injEq, exists_and_left, exists_const, reduceIte, reduceCtorEq, false_and, and_false, exists_false, or_false, false_or, Bool.not_true, Bool.not_false, Bool.false_eq_true, String.reduceEq, true_or, or_true]
    refine ⟨szle (m := 1) (Nat.le_refl _), fun lo hlo => ?_⟩
    refine ⟨FtI K H z b rs dc lo, ⟨rs.length + 1, 0, [(0, [])], none, none, none, rfl, rfl, met_start _ _ _, CameI.start hdc rfl hlo, rfl⟩, ?_⟩
    rintro m σ H1 ⟨i, acc, x5, x6, x7, hm, hR, hM, hC, rfl⟩
    simp only [cxOf, tYes, eq_self, if_true, if_false, wipe, rLenQ, rIxTQ, rIxLQ, rIxSQ, rInt1Q, rTupQ, rAppQ, rPopQ, rPopAtQ, rRevQ, rListS, rReprP, tLenSetT, tChain, tRetN, tRet, tSeq, tAsg, gName, tVar, tC, tCons, tNil, tCB, tOp, rI0, rI, tAndV, tOrV, tNotV, tIf, tTest, tB, tNot, tAnd, tOr, tIfS, tNext, tCallR, rIsK, rEq, rNe, tDrop, L2.start, List.map_cons, List.map_nil, List.length_cons, List.length_nil, Nat.reduceAdd, Nat.reduceSub, Nat.sub_self, List.replicate_zero, List.replicate_succ, List.append_nil, List.cons_append, List.nil_append, List.getElem?_cons_zero, List.getElem?_cons_succ, List.set_cons_zero, List.set_cons_succ, Option.some.injEq, List.cons.injEq, and_true, true_and, exists_eq_left, exists_eq_left', exists_eq_right, V.ty.injEq, V.int.injEq, V.bl.injEq, V.str.injEq, V.ref.injEq, exists_and_left, exists_const, reduceIte, reduceCtorEq, false_and, and_false, exists_false, or_false, false_or, Bool.not_true, Bool.not_false, Bool.false_eq_true, String.reduceEq, true_or, or_true]
    refine ⟨_, .inl (.inl (.inl hC.list)), ?_⟩
    rw [List.length_map]
    have hIn : ∀ e ∈ acc, InSt rs e.1 := met_closed hM (InSt rs) (in_zero hr2) fun a x ha hx => nxt_in hr2 ha hx
    have hfew : acc.length ≤ rs.length := by
      have := met_few hM (u := stR rs.length) (mem_stR.mpr (in_zero hr2)) fun a ha x hx => mem_stR.mpr (nxt_in hr2 (mem_stR.mp ha) hx)
      rwa [stR_len] at this
    by_cases hi : i < acc.length
    · refine ifT (decide_eq_true (by omega)) ?_
      obtain ⟨m, rfl⟩ : ∃ m', m = m' + 1 := ⟨m - 1, by omega⟩
      refine ⟨FtI K H z b rs dc lo m, fun σ' H' hw => ⟨m, Nat.lt_succ_self m, hw⟩, ?_⟩
      obtain ⟨⟨a, p⟩, hap⟩ : ∃ ap, acc[i]? = some ap := ⟨_, List.getElem?_eq_getElem hi⟩
      have hmem : (a, p) ∈ acc := List.mem_of_getElem? hap
      have ha : InSt rs a := hIn _ hmem
      obtain ⟨vs, a1, b1, h1, h2, h3, h4⟩ := hb.at ha
      refine ⟨_, .inl (.inl hC.list), .int a, atI_nat (by rw [List.getElem?_map, hap]; rfl), ?_⟩
      simp only [cxOf, tYes, eq_self, if_true, if_false, wipe, rLenQ, rIxTQ, rIxLQ, rIxSQ, rInt1Q, rTupQ, rAppQ, rPopQ, rPopAtQ, rRevQ, rListS, rReprP, tLenSetT, tChain, tRetN, tRet, tSeq, tAsg, gName, tVar, tC, tCons, tNil, tCB, tOp, rI0, rI, tAndV, tOrV, tNotV, tIf, tTest, tB, tNot, tAnd, tOr, tIfS, tNext, tCallR, rIsK, rEq, rNe, tDrop, L2.start, List.map_cons, List.map_nil, List.length_cons, List.length_nil, Nat.reduceAdd, Nat.reduceSub, Nat.sub_self, List.replicate_zero, List.replicate_succ, List.append_nil, List.cons_append, List.nil_append, List.getElem?_cons_zero, List.getElem?_cons_succ, List.set_cons_zero, List.set_cons_succ, Option.some.injEq, List.cons.injEq, and_true, true_and, exists_eq_left, exists_eq_left', exists_eq_right, V.ty.injEq, V.int.injEq, V.bl.injEq, V.str.injEq, V.ref.injEq, exists_and_left, exists_const, reduceIte, reduceCtorEq, false_and, and_false, exists_false, or_false, false_or, Bool.not_true, Bool.not_false, Bool.false_eq_true, String.reduceEq, true_or, or_true]
      refine ⟨vs, Same.sqT hC.same h1, _, h2, _, Same.sqT hC.same h3, _, rfl, tstF rs a, rfl, ?_⟩
      by_cases ht : tstF rs a = true
      · refine ifT ht ?_
        refine ⟨z, dc, .int a, p, rfl, by have := hz.top; omega, hC.chain _ hmem, (hM.way _ hmem).2.1, ?_, fun H' s => ?_⟩
        · have := (hM.way _ hmem).2.2
          have h600 := hr2.top
          show p.length ≤ _
          have : p.length < acc.length := this
          omega
        · rw [bfs_hit hap ht] at hR
          have := q H' (Same.trans hC.same s)
          rw [← hR] at this
          exact this
      · have ht' : tstF rs a = false := by simpa using ht
        refine ifF ht' ?_
        refine ⟨.ref b, rfl, .int a, rfl, vs, _, Same.sqT hC.same h1, h2, _, _, Same.sqT hC.same h3, rfl, b1, _, rfl, Same.sqT hC.same h4, ?_⟩
        refine for_gen (n := z.length) (FtJ K H z b rs dc lo i acc a p) ⟨x6, x7, hC, rfl⟩ ?_ ?_ ?_ ?_
        · rintro k σ H2 hk ⟨y6, y7, c, rfl⟩
          exact ⟨_, .int (nxt rs a k), Same.sqT c.same h4, by rw [List.getElem?_map, nxt_get hr2 ha hk]; rfl⟩
        · rintro σ H2 ⟨y6, y7, c, rfl⟩
          exact ⟨_, Same.sqT c.same h4, by rw [List.length_map, hr2.wid _ (rowOf_mem ha)]; exact Nat.le_refl _⟩
        · rintro k x σ H2 H3 hk ⟨y6, y7, c, rfl⟩ ⟨Tp, y, rfl, hT0, rfl, hy⟩
          have hy2 := hy _ (Same.sqT c.same h4)
          rw [List.getElem?_map, nxt_get hr2 ha hk] at hy2
          obtain rfl := Option.some.inj hy2
          have c1 := c.other (o := .tup [.int (k : Int), .int (nxt rs a k)]) hT0
          obtain ⟨kvs, d1, d2, d3⟩ := c1.dict
          have hM2 := met_expandTo hM hmem k (by omega)
          have hfew2 : (expandTo (stpF rs) acc a p k).length ≤ rs.length := by
            have := met_few hM2 (u := stR rs.length) (mem_stR.mpr (in_zero hr2)) fun a ha x hx => mem_stR.mpr (nxt_in hr2 (mem_stR.mp ha) hx)
            rwa [stR_len] at this
          have h600 := hr2.top
          refine ⟨Tp, _, rfl, .inl (.inl upd_same), rfl, _, _, rfl, _, _, rfl, rfl, ?_⟩
          refine ⟨.int (nxt rs a k), rfl, .ref dc, rfl, dc, valV kvs (.inl (nxt rs a k)), rfl, .k (k := .inl (nxt rs a k)) d1, _, rfl, ?_⟩
          by_cases hin : nxt rs a k ∈ (expandTo (stpF rs) acc a p k).map Prod.fst
          · refine ifF (by rw [(d2 _).mpr hin]; rfl) ⟨_, _, ?_, rfl⟩
            rw [expandTo_succ]
            unfold addStep
            rw [if_pos (show stpF rs a k ∈ _ from hin)]
            exact c1
          · have hno : (valV kvs (.inl (nxt rs a k))).isSome = false := by
              cases e : (valV kvs (.inl (nxt rs a k))).isSome with
              | false => rfl
              | true => exact absurd ((d2 _).mp e) hin
            refine ifT (by rw [hno]; rfl) ?_
            refine ⟨.int a, rfl, .int (k : Int), rfl, szle (m := 2) (Nat.le_refl _), fun T2 hT2 => ?_⟩
            have c2 := c1.other (o := .tup [.int a, .int (k : Int)]) hT2
            obtain ⟨kvs2, e1, e2, e3⟩ := c2.dict
            refine ⟨.ref dc, rfl, .int (nxt rs a k), rfl, dc, _, rfl, .k (k := .inl (nxt rs a k)) e1 (szlt (m := 600) (by omega)), ?_⟩
            have hm2 : (a, p) ∈ expandTo (stpF rs) acc a p k := by
              obtain ⟨more, e⟩ := expandTo_sub (stp := stpF rs) (acc := acc) (a := a) (p := p) k
              rw [e]
              exact List.mem_append_left _ hmem
            have c3 := c2.add e1 hm2 (x := k) (T := T2) (.inl (.inl upd_same)) (y := nxt rs a k) hin
            have hne : lo ≠ dc := fun z => by rw [z] at c2; have := c2.list; rw [e1] at this; cases this
            refine ⟨.ref lo, rfl, lst_ty (ys := (expandTo (stpF rs) acc a p k).map fun e => V.int e.1) (by rw [upd_ne hne]; exact c2.list), .int (nxt rs a k), rfl, _, by rw [upd_ne hne]; exact c2.list, ?_, _, _, ?_, rfl⟩
            · rw [List.length_map]
              exact szlt (m := 600) (by omega)
            · rw [expandTo_succ]
              unfold addStep
              rw [if_neg (show ¬ stpF rs a k ∈ _ from hin)]
              exact c3
        · rintro σ H2 ⟨y6, y7, c, rfl⟩
          simp only [cxOf, tYes, eq_self, if_true, if_false, wipe, rLenQ, rIxTQ, rIxLQ, rIxSQ, rInt1Q, rTupQ, rAppQ, rPopQ, rPopAtQ, rRevQ, rListS, rReprP, tLenSetT, tChain, tRetN, tRet, tSeq, tAsg, gName, tVar, tC, tCons, tNil, tCB, tOp, rI0, rI, tAndV, tOrV, tNotV, tIf, tTest, tB, tNot, tAnd, tOr, tIfS, tNext, tCallR, rIsK, rEq, rNe, tDrop, L2.start, List.map_cons, List.map_nil, List.length_cons, List.length_nil, Nat.reduceAdd, Nat.reduceSub, Nat.sub_self, List.replicate_zero, List.replicate_succ, List.append_nil, List.cons_append, List.nil_append, List.getElem?_cons_zero, List.getElem?_cons_succ, List.set_cons_zero, List.set_cons_succ, Option.some.injEq, List.cons.injEq, and_true, true_and, exists_eq_left, exists_eq_left', exists_eq_right, V.ty.injEq, V.int.injEq, V.bl.injEq, V.str.injEq, V.ref.injEq, exists_and_left, exists_const, reduceIte, reduceCtorEq, false_and, and_false, exists_false, or_false, false_or, Bool.not_true, Bool.not_false, Bool.false_eq_true, String.reduceEq, true_or, or_true]
          rw [bfs_go hap ht'] at hR
          exact ⟨_, rfl, _, _, rfl, rfl, i + 1, _, _, _, _, by omega, hR, met_expand hM hmem, c, rfl⟩
    · refine ifF (decide_eq_false (by omega)) ?_
      rw [bfs_end (by omega)] at hR
      have := q H1 hC.same
      rw [← hR] at this
      exact this
end
end K36

namespace K36
open PySem PySem.Spec PyProof.Rows L2 Sg
section
variable {P : Program} {w : World} {K : PySem.W.Frag} {mg : Str → Option Value} {base : Heap}
theorem sc_first_unlike : FnScope ["signs", "one", "other", "came", "order", "at", "pair", "first", "second", "place", "to"] ["signs", "one", "other"] (defScope (topS 23)) := ⟨rfl, rfl, rfl, by decide +kernel, rfl, by decide +kernel, by decide +kernel⟩
theorem bd_first_unlike {K : PySem.W.Frag} {f : Addr} {fd : FuncData} (F : FnP K "first_unlike" (topS 23) f fd) : Binds K fd ["signs", "one", "other"] [] := F.bindsN fun _ _ _ _ _ _ us hl => match us, hl with | [_, _, _], _ => rfl
def stpU (r1 r2 : List LRow) (p : IP) (x : Nat) : IP := (nxt r1 p.1 x, nxt r2 p.2 x)
def tstU (r1 r2 : List LRow) (p : IP) : Bool := decide (endAt r1 p.1 ≠ endAt r2 p.2)
def unlikeR (z : Str) (r1 r2 : List LRow) : Option (List Nat) := bfs z.length (stpU r1 r2) (tstU r1 r2) (r1.length * r2.length + 1) 0 [((0, 0), [])]
def stP (n m : Nat) : List IP := (stR n).flatMap fun a => (stR m).map fun b => (a, b)
theorem mem_stP {r1 r2 : List LRow} {p : IP} : p ∈ stP r1.length r2.length ↔ InSt r1 p.1 ∧ InSt r2 p.2 := by
  unfold stP
  rw [List.mem_flatMap]
  constructor
  · rintro ⟨a, ha, hp⟩
    obtain ⟨b, hb, rfl⟩ := List.mem_map.mp hp
    exact ⟨mem_stR.mp ha, mem_stR.mp hb⟩
  · rintro ⟨h1, h2⟩
    exact ⟨p.1, mem_stR.mpr h1, List.mem_map.mpr ⟨p.2, mem_stR.mpr h2, rfl⟩⟩
theorem flat_len {α β : Type} (f : α → List β) (m : Nat) (h : ∀ a, (f a).length = m) : ∀ l : List α, (l.flatMap f).length = l.length * m
  | [] => by simp
  | a :: l => by rw [List.flatMap_cons, List.length_append, h, flat_len f m h l, List.length_cons, Nat.succ_mul, Nat.add_comm]
theorem stP_len (n m : Nat) : (stP n m).length = n * m := by
  unfold stP
  rw [flat_len _ m (fun a => by rw [List.length_map, stR_len]), stR_len]
theorem zeroU {n : Nat} {r1 r2 : List LRow} (o1 : RowsOk n r1) (o2 : RowsOk n r2) : (0, 0) ∈ stP r1.length r2.length := mem_stP.mpr ⟨in_zero o1, in_zero o2⟩
theorem stepU {n : Nat} {r1 r2 : List LRow} (o1 : RowsOk n r1) (o2 : RowsOk n r2) : ∀ a ∈ stP r1.length r2.length, ∀ x, x < n → stpU r1 r2 a x ∈ stP r1.length r2.length := fun a ha x hx =>
  mem_stP.mpr ⟨nxt_in o1 (mem_stP.mp ha).1 hx, nxt_in o2 (mem_stP.mp ha).2 hx⟩
def spFu (K : PySem.W.Frag) : Sp := fun vs H Q _ => ∃ z b1 r1 b2 r2, vs = [.str z, .ref b1, .ref b2] ∧ RRows K H b1 r1 ∧ RRows K H b2 r2 ∧ SignsOk z ∧ RowsOk z.length r1 ∧ RowsOk z.length r2 ∧ ∀ H', Same H H' → Q (oText z (unlikeR z r1 r2)) H'
def FuI (K : PySem.W.Frag) (H : Hp) (z : Str) (b1 b2 : Addr) (r1 r2 : List LRow) (dc lo : Addr) (m : Nat) (σ : L2.St) (H' : Hp) : Prop :=
  ∃ i acc os y1 y2 y3 y4 y5, m + i = r1.length * r2.length + 1 ∧ bfs z.length (stpU r1 r2) (tstU r1 r2) m i acc = unlikeR z r1 r2 ∧ MetOk z.length (stpU r1 r2) (0, 0) acc ∧ CameT K H dc lo acc H' os ∧
    σ = [some (.str z), some (.ref b1), some (.ref b2), some (.ref dc), some (.ref lo), some (.int ((i : Nat) : Int)), y1, y2, y3, y4, y5]
def FuJ (K : PySem.W.Frag) (H : Hp) (z : Str) (b1 b2 : Addr) (r1 r2 : List LRow) (dc lo : Addr) (i : Nat) (acc : Met IP) (o f1 f2 : Addr) (a : IP) (p : List Nat) (k : Nat) (σ : L2.St) (H' : Hp) : Prop :=
  ∃ os y4 y5, CameT K H dc lo (expandTo (stpU r1 r2) acc a p k) H' os ∧ H' o = some (tuP a) ∧ Chain K H' dc (.ref o) p ∧
    σ = [some (.str z), some (.ref b1), some (.ref b2), some (.ref dc), some (.ref lo), some (.int ((i : Nat) : Int)), some (.ref o), some (.ref f1), some (.ref f2), y4, y5]
theorem ok_first_unlike (T : Tx K mg) : Dk P w K mg base 2 "first_unlike" ["signs", "one", "other"] (spFu K) := by
  have D_path_of := ok_path_of (P := P) (w := w) (base := base) T
  obtain ⟨fd, F⟩ := T.d_first_unlike
  refine ⟨⟨fd, F.ok sc_first_unlike (fun vs H Q E h => ?_) (fun cdv A outer s H vs Q E hr h => ?_), bd_first_unlike F⟩, F.kp, T.g_first_unlike⟩
  · obtain ⟨z, b1, r1, b2, r2, rfl, _⟩ := h
    rfl
  · obtain ⟨z, b1, r1, b2, r2, rfl, hb1, hb2, hz, o1, o2, q⟩ := h
    refine ⟨_, PSs.nox (pss_cons (ps_set (i := 3) sc_first_unlike.nd rfl (.inl rfl) (pe_dispT (hu_of hr) (pe_tup (pa_cons pe_int (pa_cons pe_int pa_nil))) pe_non))
      (pss_cons (ps_set (i := 4) sc_first_unlike.nd rfl (.inl rfl) (pe_lst (pa_cons (pe_tup (pa_cons pe_int (pa_cons pe_int pa_nil))) pa_nil)))
      (pss_cons (ps_set (i := 5) sc_first_unlike.nd rfl (.inl rfl) pe_int)
      (pss_cons (ps_while PassesOwn.never (pt_cmpR op_lt (pv 5) (pe_callB call_lenQ (by rfl) T.f_len PySem.boot_len (pa_cons (pv 4) pa_nil)) (nomark _)) (pss_cons (ps_set (i := 6) sc_first_unlike.nd rfl (.inl rfl) (pe_ix ix_listQ (pv 4) (pv 5) (fun _ _ => rfl)))
      (pss_cons (ps_par (i := 7) (j := 8) (by rfl) sc_first_unlike.nd rfl rfl (by decide) rfl rfl (pa_cons (pe_ix ix_tupQ (pv 1) (pe_ix ix_tupQ (pv 6) pe_int (fun _ _ => rfl)) (fun _ _ => rfl)) (pa_cons (pe_ix ix_tupQ (pv 2) (pe_ix ix_tupQ (pv 6) pe_int (fun _ _ => rfl)) (fun _ _ => rfl)) pa_nil)) (by rfl))
      (pss_cons (ps_if (pt_cmpR op_ne (pe_ix ix_tupQ (pv 7) pe_int (fun _ _ => rfl)) (pe_ix ix_tupQ (pv 8) pe_int (fun _ _ => rfl)) (nomark _)) (pss_one (ps_ret (pe_callR D_path_of (hr.mono (by decide)) takes0 (pa_cons (pv 0) (pa_cons (pv 3) (pa_cons (pv 6) pa_nil)))))) pss_nil)
      (pss_cons (ps_for PassesOwn.never rfl (pi_range1 (by rfl) T.f_range (pa_cons (pe_callB call_lenQ (by rfl) T.f_len PySem.boot_len (pa_cons (pv 0) pa_nil)) pa_nil)) (pg_name (i := 9) sc_first_unlike.nd rfl (.inl rfl)) (pss_cons (ps_set (i := 10) sc_first_unlike.nd rfl (.inl rfl) (pe_tup (pa_cons (pe_ix ix_tupQ (pe_ix ix_tupQ (pv 7) pe_int (fun _ _ => rfl)) (pv 9) (fun _ _ => rfl)) (pa_cons (pe_ix ix_tupQ (pe_ix ix_tupQ (pv 8) pe_int (fun _ _ => rfl)) (pv 9) (fun _ _ => rfl)) pa_nil))))
      (pss_one (ps_if (pt_cmp (pc_dnotin (hu_of hr) (pv 10) (pv 3))) (pss_cons (ps_dput (hu_of hr) (pv 3) (pv 10) (pe_tup (pa_cons (pv 6) (pa_cons (pv 9) pa_nil))) rfl)
      (pss_one (ps_expr (pe_bm PySem.F.plainAttrs_list PySem.F.slot_list_append PySem.F.type_list_append mt_appQ (pv 4) (pa_cons (pv 10) pa_nil))))) pss_nil))))
      (pss_one (ps_aug (i := 5) sc_first_unlike.nd rfl (.inl rfl) pe_int ip_add)))))))
      (pss_one (ps_ret pe_non)))))), ?_⟩
    simp only [cxOf, tYes, eq_self, if_true, if_false, wipe, rLenQ, rIxTQ, rIxLQ, rIxSQ, rInt1Q, rTupQ, rAppQ, rPopQ, rPopAtQ, rRevQ, rListS, rReprP, tLenSetT, tChain, tRetN, tRet, tSeq, tAsg, gName, tVar, tC, tCons, tNil, tCB, tOp, rI0, rI, tAndV, tOrV, tNotV, tIf, tTest, tB, tNot, tAnd, tOr, tIfS, tNext, tCallR, rIsK, rEq, rNe, tDrop, L2.start, List.map_cons, List.map_nil, List.length_cons, List.length_nil, Nat.reduceAdd, Nat.reduceSub, Nat.sub_self, List.replicate_zero, List.replicate_succ, List.append_nil, List.cons_append, List.nil_append, List.getElem?_cons_zero, List.getElem?_cons_succ, List.set_cons_zero, List.set_cons_succ, Option.some.injEq, List.cons.injEq, and_true, true_and, exists_eq_left, exists_eq_left', exists_eq_right, V.ty.injEq, V.int.injEq, V.bl.injEq, V.str.injEq, V.ref.injEq, exists_and_left, exists_const, reduceIte, reduceCtorEq, false_and, and_false, exists_false, or_false, false_or, Bool.not_true, Bool.not_false, Bool.false_eq_true, String.reduceEq, true_or, or_true]
    intro dc hdc
    refine ⟨szle (m := 2) (Nat.le_refl _), fun T0 hT0 => ?_⟩
    have edc : (upd (upd H dc (.dT [])) T0 (.tup [V.int 0, V.int 0])) dc = some (.dT []) := same_upd hT0 _ _ upd_same
    refine ⟨edc, T0, kyP (0, 0), rfl, upd_same, ?_⟩
    simp only [cxOf, tYes, eq_self, if_true, if_false, wipe, rLenQ, rIxTQ, rIxLQ, rIxSQ, rInt1Q, rTupQ, rAppQ, rPopQ, rPopAtQ, rRevQ, rListS, rReprP, tLenSetT, tChain, tRetN, tRet, tSeq, tAsg, gName, tVar, tC, tCons, tNil, tCB, tOp, rI0, rI, tAndV, tOrV, tNotV, tIf, tTest, tB, tNot, tAnd, tOr, tIfS, tNext, tCallR, rIsK, rEq, rNe, tDrop, L2.start, List.map_cons, List.map_nil, List.length_cons, List.length_nil, Nat.reduceAdd, Nat.reduceSub, Nat.sub_self, List.replicate_zero, List.replicate_succ, List.append_nil, List.cons_append, List.nil_append, List.getElem?_cons_zero, List.getElem?_cons_succ, List.set_cons_zero, List.set_cons_succ, Option.some.injEq, List.cons.injEq, and_true, true_and, exists_eq_left, exists_eq_left', exists_eq_right, V.ty.injEq, V.int.injEq, V.bl.injEq, V.str.injEq, V.ref.injEq, exists_and_left, exists_const, reduceIte, reduceCtorEq, false_and, and_false, exists_false, or_false, false_or, Bool.not_true, Bool.not_false, Bool.false_eq_true, String.reduceEq, true_or, or_true]
    refine ⟨szle (m := 2) (Nat.le_refl _), fun T1 hT1 => ⟨szle (m := 1) (Nat.le_refl _), fun lo hlo => ?_⟩⟩
    refine ⟨FuI K H z b1 b2 r1 r2 dc lo, ⟨r1.length * r2.length + 1, 0, [((0, 0), [])], [T1], none, none, none, none, none, rfl, rfl, met_start _ _ _, CameT.start hdc upd_same (same_upd hT0) edc rfl hT1 hlo, rfl⟩, ?_⟩
    rintro m σ H1 ⟨i, acc, os, y1, y2, y3, y4, y5, hm, hR, hM, hC, rfl⟩
    simp only [cxOf, tYes, eq_self, if_true, if_false, wipe, rLenQ, rIxTQ, rIxLQ, rIxSQ, rInt1Q, rTupQ, rAppQ, rPopQ, rPopAtQ, rRevQ, rListS, rReprP, tLenSetT, tChain, tRetN, tRet, tSeq, tAsg, gName, tVar, tC, tCons, tNil, tCB, tOp, rI0, rI, tAndV, tOrV, tNotV, tIf, tTest, tB, tNot, tAnd, tOr, tIfS, tNext, tCallR, rIsK, rEq, rNe, tDrop, L2.start, List.map_cons, List.map_nil, List.length_cons, List.length_nil, Nat.reduceAdd, Nat.reduceSub, Nat.sub_self, List.replicate_zero, List.replicate_succ, List.append_nil, List.cons_append, List.nil_append, List.getElem?_cons_zero, List.getElem?_cons_succ, List.set_cons_zero, List.set_cons_succ, Option.some.injEq, List.cons.injEq, and_true, true_and, exists_eq_left, exists_eq_left', exists_eq_right, V.ty.injEq, V.int.injEq, V.bl.injEq, V.str.injEq, V.ref.injEq, exists_and_left, exists_const, reduceIte, reduceCtorEq, false_and, and_false, exists_false, or_false, false_or, Bool.not_true, Bool.not_false, Bool.false_eq_true, String.reduceEq, true_or, or_true]
    refine ⟨_, .inl (.inl (.inl hC.list)), ?_⟩
    rw [List.length_map]
    have hlen := pr_len hC.chain
    have hfew : acc.length ≤ r1.length * r2.length := by
      have := met_few hM (zeroU o1 o2) (stepU o1 o2)
      rwa [stP_len] at this
    by_cases hi : i < acc.length
    · refine ifT (decide_eq_true (by omega)) ?_
      obtain ⟨m, rfl⟩ : ∃ m', m = m' + 1 := ⟨m - 1, by omega⟩
      refine ⟨FuI K H z b1 b2 r1 r2 dc lo m, fun σ' H' hw => ⟨m, Nat.lt_succ_self m, hw⟩, ?_⟩
      obtain ⟨⟨a, p⟩, hap⟩ : ∃ ap, acc[i]? = some ap := ⟨_, List.getElem?_eq_getElem hi⟩
      have hmem : (a, p) ∈ acc := List.mem_of_getElem? hap
      obtain ⟨o, ho, ho1, ho2⟩ := pr_get' hC.chain hap
      obtain ⟨ha1, ha2⟩ : InSt r1 a.1 ∧ InSt r2 a.2 := mem_stP.mp (met_closed hM (fun a => a ∈ stP r1.length r2.length) (zeroU o1 o2) (fun a x ha hx => stepU o1 o2 a ha x hx) _ hmem)
      obtain ⟨vs1, a1, c1, h11, h12, h13, h14⟩ := hb1.at ha1
      obtain ⟨vs2, a2, c2, h21, h22, h23, h24⟩ := hb2.at ha2
      have hto : SqT K H1 o [.int a.1, .int a.2] := .inl (.inl ho1)
      refine ⟨_, .inl (.inl hC.list), .ref o, atI_nat (by rw [List.getElem?_map, ho]; rfl), ?_⟩
      simp only [cxOf, tYes, eq_self, if_true, if_false, wipe, rLenQ, rIxTQ, rIxLQ, rIxSQ, rInt1Q, rTupQ, rAppQ, rPopQ, rPopAtQ, rRevQ, rListS, rReprP, tLenSetT, tChain, tRetN, tRet, tSeq, tAsg, gName, tVar, tC, tCons, tNil, tCB, tOp, rI0, rI, tAndV, tOrV, tNotV, tIf, tTest, tB, tNot, tAnd, tOr, tIfS, tNext, tCallR, rIsK, rEq, rNe, tDrop, L2.start, List.map_cons, List.map_nil, List.length_cons, List.length_nil, Nat.reduceAdd, Nat.reduceSub, Nat.sub_self, List.replicate_zero, List.replicate_succ, List.append_nil, List.cons_append, List.nil_append, List.getElem?_cons_zero, List.getElem?_cons_succ, List.set_cons_zero, List.set_cons_succ, Option.some.injEq, List.cons.injEq, and_true, true_and, exists_eq_left, exists_eq_left', exists_eq_right, V.ty.injEq, V.int.injEq, V.bl.injEq, V.str.injEq, V.ref.injEq, exists_and_left, exists_const, reduceIte, reduceCtorEq, false_and, and_false, exists_false, or_false, false_or, Bool.not_true, Bool.not_false, Bool.false_eq_true, String.reduceEq, true_or, or_true, tPar, tAug, ipI, tDNotIn, sDPut, tDGet, tTup, tLst, tBM, tBM0]
      refine ⟨_, hto, .int a.1, rfl, vs1, Same.sqT hC.same h11, .ref a1, h12, _, hto, .int a.2, rfl, vs2, Same.sqT hC.same h21, .ref a2, h22, _, _, ⟨rfl, rfl⟩, ?_⟩
      refine ⟨_, Same.sqT hC.same h13, .int (endAt r1 a.1), rfl, _, Same.sqT hC.same h23, .int (endAt r2 a.2), rfl, rfl, ?_⟩
      by_cases ht : tstU r1 r2 a = true
      · have hne : endAt r1 a.1 ≠ endAt r2 a.2 := of_decide_eq_true ht
        refine ifT (by simp [hne]) ?_
        refine ⟨z, dc, .ref o, p, rfl, by have := hz.top; omega, ho2, (hM.way _ hmem).2.1, ?_, fun H' s => ?_⟩
        · have := (hM.way _ hmem).2.2
          have h1 := o1.top
          have h2 := o2.top
          have h3 : r1.length * r2.length ≤ 600 * 600 := Nat.mul_le_mul h1 h2
          show p.length ≤ _
          have : p.length < acc.length := this
          omega
        · rw [bfs_hit hap ht] at hR
          have := q H' (Same.trans hC.same s)
          rw [← hR] at this
          exact this
      · have ht' : tstU r1 r2 a = false := by simpa using ht
        have heq : endAt r1 a.1 = endAt r2 a.2 := Classical.byContradiction fun z => ht (decide_eq_true z)
        refine ifF (by simp [heq]) ?_
        have hz5 := hz.top
        refine ⟨.str z, rfl, ⟨szle (m := 5) hz.top, (z.length : Int), rfl, by omega, by omega, ?_⟩⟩
        have en : ((z.length : Nat) : Int).toNat = z.length := Int.toNat_natCast _
        rw [en]
        refine for_range (FuJ K H z b1 b2 r1 r2 dc lo i acc o a1 a2 a p) ⟨os, y4, y5, hC, ho1, ho2, rfl⟩ ?_ ?_
        · rintro k σ H2 hk ⟨os2, w4, w5, c, hc1, hc2, rfl⟩
          simp only [cxOf, tYes, eq_self, if_true, if_false, wipe, rLenQ, rIxTQ, rIxLQ, rIxSQ, rInt1Q, rTupQ, rAppQ, rPopQ, rPopAtQ, rRevQ, rListS, rReprP, tLenSetT, tChain, tRetN, tRet, tSeq, tAsg, gName, tVar, tC, tCons, tNil, tCB, tOp, rI0, rI, tAndV, tOrV, tNotV, tIf, tTest, tB, tNot, tAnd, tOr, tIfS, tNext, tCallR, rIsK, rEq, rNe, tDrop, L2.start, List.map_cons, List.map_nil, List.length_cons, List.length_nil, Nat.reduceAdd, Nat.reduceSub, Nat.sub_self, List.replicate_zero, List.replicate_succ, List.append_nil, List.cons_append, List.nil_append, List.getElem?_cons_zero, List.getElem?_cons_succ, List.set_cons_zero, List.set_cons_succ, Option.some.injEq, List.cons.injEq, and_true, true_and, exists_eq_left, exists_eq_left', exists_eq_right, V.ty.injEq, V.int.injEq, V.bl.injEq, V.str.injEq, V.ref.injEq, exists_and_left, exists_const, reduceIte, reduceCtorEq, false_and, and_false, exists_false, or_false, false_or, Bool.not_true, Bool.not_false, Bool.false_eq_true, String.reduceEq, true_or, or_true, tPar, tAug, ipI, tDNotIn, sDPut, tDGet, tTup, tLst, tBM, tBM0]
          have e0 : (0 : Int) + (k : Int) = (k : Int) := Int.zero_add _
          rw [e0]
          have s2 := c.same
          refine ⟨_, Same.sqT s2 h13, .ref c1, rfl, _, Same.sqT s2 h14, .int (nxt r1 a.1 k), row_at o1 ha1 hk, _, Same.sqT s2 h23, .ref c2, rfl, _, Same.sqT s2 h24, .int (nxt r2 a.2 k), row_at o2 ha2 hk, szle (m := 2) (Nat.le_refl _), fun T2 hT2 => ?_⟩
          have g1 := c.other (o := .tup [.int (nxt r1 a.1 k), .int (nxt r2 a.2 k)]) hT2
          have t2 : (upd H2 T2 (.tup [.int (nxt r1 a.1 k), .int (nxt r2 a.2 k)])) T2 = some (tuP (stpU r1 r2 a k)) := upd_same
          obtain ⟨kvs, d1, d2, d3⟩ := g1.dict
          have hM2 := met_expandTo hM hmem k (by omega)
          have hfew2 : (expandTo (stpU r1 r2) acc a p k).length ≤ r1.length * r2.length := by
            have := met_few hM2 (zeroU o1 o2) (stepU o1 o2)
            rwa [stP_len] at this
          have hbig : r1.length * r2.length ≤ 600 * 600 := Nat.mul_le_mul o1.top o2.top
          refine ⟨valV kvs (kyP (stpU r1 r2 a k)), .t (k := kyP (stpU r1 r2 a k)) d1 t2, ?_⟩
          by_cases hin : stpU r1 r2 a k ∈ (expandTo (stpU r1 r2) acc a p k).map Prod.fst
          · refine ifF (by rw [(d2 _).mpr hin]; rfl) ⟨os2, _, _, ?_, same_upd hT2 _ _ hc1, hc2.mono (same_upd hT2), rfl⟩
            rw [expandTo_succ]
            unfold addStep
            rw [if_pos hin]
            exact g1
          · have hno : (valV kvs (kyP (stpU r1 r2 a k))).isSome = false := by
              cases e : (valV kvs (kyP (stpU r1 r2 a k))).isSome with
              | false => rfl
              | true => exact absurd ((d2 _).mp e) hin
            refine ifT (by rw [hno]; rfl) ⟨szle (m := 2) (Nat.le_refl _), fun T3 hT3 => ?_⟩
            have g2 := g1.other (o := .tup [.ref o, .int (k : Int)]) hT3
            obtain ⟨kvs2, e1, e2, e3⟩ := g2.dict
            have t3 : (upd (upd H2 T2 (.tup [.int (nxt r1 a.1 k), .int (nxt r2 a.2 k)])) T3 (.tup [.ref o, .int (k : Int)])) T2 = some (tuP (stpU r1 r2 a k)) := same_upd hT3 _ _ t2
            have hne : lo ≠ dc := fun z => by rw [z] at g2; have := g2.list; rw [e1] at this; cases this
            have hcc := (hc2.mono (same_upd (o := .tup [.int (nxt r1 a.1 k), .int (nxt r2 a.2 k)]) hT2)).mono (same_upd (o := .tup [.ref o, .int (k : Int)]) hT3)
            have g3 := g2.add e1 hcc (x := k) (T := T3) (.inl (.inl upd_same)) t3 hin
            have ll := g2.list
            refine ⟨_, .t (k := kyP (stpU r1 r2 a k)) e1 t3 (szlt (m := 360000) (by omega)), lst_ty (ys := os2.map V.ref) (by rw [upd_ne hne]; exact ll), _, by rw [upd_ne hne]; exact ll, ?_, (os2 ++ [T2] : List Addr), _, _, ?_, ?_, ?_, rfl⟩
            · rw [List.length_map, pr_len c.chain]
              exact szlt (m := 360000) (by omega)
            · rw [expandTo_succ]
              unfold addStep
              rw [if_neg hin]
              exact g3
            · exact (g2.grow e1 hin).2 _ _ (same_upd hT3 _ _ (same_upd hT2 _ _ hc1))
            · exact (g2.grow e1 hin).1 _ _ hcc
        · rintro σ H2 ⟨os2, y6, y7, c, hc1, hc2, rfl⟩
          simp only [cxOf, tYes, eq_self, if_true, if_false, wipe, rLenQ, rIxTQ, rIxLQ, rIxSQ, rInt1Q, rTupQ, rAppQ, rPopQ, rPopAtQ, rRevQ, rListS, rReprP, tLenSetT, tChain, tRetN, tRet, tSeq, tAsg, gName, tVar, tC, tCons, tNil, tCB, tOp, rI0, rI, tAndV, tOrV, tNotV, tIf, tTest, tB, tNot, tAnd, tOr, tIfS, tNext, tCallR, rIsK, rEq, rNe, tDrop, L2.start, List.map_cons, List.map_nil, List.length_cons, List.length_nil, Nat.reduceAdd, Nat.reduceSub, Nat.sub_self, List.replicate_zero, List.replicate_succ, List.append_nil, List.cons_append, List.nil_append, List.getElem?_cons_zero, List.getElem?_cons_succ, List.set_cons_zero, List.set_cons_succ, Option.some.injEq, List.cons.injEq, and_true, true_and, exists_eq_left, exists_eq_left', exists_eq_right, V.ty.injEq, V.int.injEq, V.bl.injEq, V.str.injEq, V.ref.injEq, exists_and_left, exists_const, reduceIte, reduceCtorEq, false_and, and_false, exists_false, or_false, false_or, Bool.not_true, Bool.not_false, Bool.false_eq_true, String.reduceEq, true_or, or_true, tPar, tAug, ipI, tDNotIn, sDPut, tDGet, tTup, tLst, tBM, tBM0]
          rw [bfs_go hap ht'] at hR
          exact ⟨i + 1, _, _, _, _, _, _, _, by omega, hR, met_expand hM hmem, c, rfl⟩
    · refine ifF (decide_eq_false (by omega)) ?_
      rw [bfs_end (by omega)] at hR
      have := q H1 hC.same
      rw [← hR] at this
      exact this
end
end K36

namespace K36
open PySem PySem.Spec PyProof.Rows L2 Sg
section
variable {P : Program} {w : World} {K : PySem.W.Frag} {mg : Str → Option Value} {base : Heap}
theorem sc_takes : FnScope ["looker", "text", "signs", "states"] ["looker", "text"] (defScope (topS 25)) := ⟨rfl, rfl, rfl, by decide +kernel, rfl, by decide +kernel, by decide +kernel⟩
theorem bd_takes {K : PySem.W.Frag} {f : Addr} {fd : FuncData} (F : FnP K "takes" (topS 25) f fd) : Binds K fd ["looker", "text"] [] := F.bindsN fun _ _ _ _ _ _ us hl => match us, hl with | [_, _], _ => rfl
def endB (z : Str) (rs : List LRow) (t : Str) : Int := endAt rs (walkS z rs 0 t.cps.toList)
def spTk (K : PySem.W.Frag) : Sp := fun vs H Q _ => ∃ v z rs t, vs = [v, .str t] ∧ RLk K H v z rs ∧ SignsOk z ∧ RowsOk z.length rs ∧ txB z t = true ∧ t.length ≤ 100000 ∧ ∀ H', Same H H' → Q (.int (endB z rs t)) H'
theorem walk_in {z : Str} {rs : List LRow} (ok : RowsOk z.length rs) : ∀ (l : List Nat), (∀ c ∈ l, c ∈ z.cps.toList) → ∀ p, InSt rs p → InSt rs (walkS z rs p l)
  | [], _, _, hp => hp
  | c :: l, h, p, hp => by
    have hx : z.cps.toList.idxOf c < z.cps.toList.length := List.idxOf_lt_length_of_mem (h c List.mem_cons_self)
    have e : z.cps.toList.length = z.length := Array.length_toList
    exact walk_in ok l (fun c hc => h c (List.mem_cons_of_mem _ hc)) _ (nxt_in ok hp (by omega))
theorem ok_takes (T : Tx K mg) : Dk P w K mg base 5 "takes" ["looker", "text"] (spTk K) := by
  have D_check_looker := ok_check_looker (P := P) (w := w) (base := base) T
  have D_check_text := ok_check_text (P := P) (w := w) (base := base) T
  have D_state_behind := ok_state_behind (P := P) (w := w) (base := base) T
  obtain ⟨fd, F⟩ := T.d_takes
  refine ⟨⟨fd, F.ok sc_takes (fun vs H Q E h => ?_) (fun cdv A outer s H vs Q E hr h => ?_), bd_takes F⟩, F.kp, T.g_takes⟩
  · obtain ⟨v, z, rs, t, rfl, _⟩ := h
    rfl
  · obtain ⟨v, z, rs, t, rfl, hv, hz, ok, ht, htl, q⟩ := h
    refine ⟨_, PSs.nox (pss_cons (ps_expr (pe_callR D_check_looker (hr.mono (by decide)) takes0 (pa_cons (pv 0) pa_nil)))
      (pss_cons (ps_asg (pv 0) (pg_tup (by rfl) (pgs_cons (pg_name (i := 2) sc_takes.nd rfl (.inl rfl)) (pgs_cons (pg_name (i := 3) sc_takes.nd rfl (.inl rfl)) pgs_nil))))
      (pss_cons (ps_expr (pe_callR D_check_text (hr.mono (by decide)) takes0 (pa_cons (pv 2) (pa_cons (pv 1) pa_nil))))
      (pss_one (ps_ret (pe_ix ix_tupQ (pe_ix ix_tupQ (pv 3) (pe_callR D_state_behind (hr.mono (by decide)) takes0 (pa_cons (pv 2) (pa_cons (pv 3) (pa_cons pe_int (pa_cons (pv 1) pa_nil))))) (fun _ _ => rfl)) pe_int (fun _ _ => rfl))))))), ?_⟩
    simp only [cxOf, tYes, eq_self, if_true, if_false, wipe, rLenQ, rIxTQ, rIxLQ, rIxSQ, rInt1Q, rTupQ, rAppQ, rPopQ, rPopAtQ, rRevQ, rListS, rReprP, tLenSetT, tChain, tRetN, tRet, tSeq, tAsg, gName, tVar, tC, tCons, tNil, tCB, tOp, rI0, rI, tAndV, tOrV, tNotV, tIf, tTest, tB, tNot, tAnd, tOr, tIfS, tNext, tCallR, rIsK, rEq, rNe, tDrop, L2.start, List.map_cons, List.map_nil, List.length_cons, List.length_nil, Nat.reduceAdd, Nat.reduceSub, Nat.sub_self, List.replicate_zero, List.replicate_succ, List.append_nil, List.cons_append, List.nil_append, List.getElem?_cons_zero, List.getElem?_cons_succ, List.set_cons_zero, List.set_cons_succ, Option.some.injEq, List.cons.injEq, and_true, true_and, exists_eq_left, exists_eq_left', exists_eq_right, V.ty.injEq, V.int.injEq, V.bl.injEq, V.str.injEq, V.ref.injEq, exists_and_left, exists_const, reduceIte, reduceCtorEq, false_and, and_false, exists_false, or_false, false_or, Bool.not_true, Bool.not_false, Bool.false_eq_true, String.reduceEq, true_or, or_true, tPar, tAug, ipI, tDNotIn, sDPut, tDGet, tTup, tLst, tBM, tBM0]
    refine ⟨v, z, rs, rfl, hv, hz, ok, ?_⟩
    obtain ⟨a, b, rfl, h1, hb⟩ := hv
    refine ⟨a, _, rfl, h1, rfl, _, _, rfl, _, _, rfl, rfl, ?_⟩
    refine ⟨.str z, rfl, .str t, rfl, z, t, rfl, htl, fun _ H1 s1 => ?_, fun e => by rw [ht] at e; cases e⟩
    have hb2 : RRows K H1 b rs := hb.mono (TK.of_same s1)
    simp only [cxOf, tYes, eq_self, if_true, if_false, wipe, rLenQ, rIxTQ, rIxLQ, rIxSQ, rInt1Q, rTupQ, rAppQ, rPopQ, rPopAtQ, rRevQ, rListS, rReprP, tLenSetT, tChain, tRetN, tRet, tSeq, tAsg, gName, tVar, tC, tCons, tNil, tCB, tOp, rI0, rI, tAndV, tOrV, tNotV, tIf, tTest, tB, tNot, tAnd, tOr, tIfS, tNext, tCallR, rIsK, rEq, rNe, tDrop, L2.start, List.map_cons, List.map_nil, List.length_cons, List.length_nil, Nat.reduceAdd, Nat.reduceSub, Nat.sub_self, List.replicate_zero, List.replicate_succ, List.append_nil, List.cons_append, List.nil_append, List.getElem?_cons_zero, List.getElem?_cons_succ, List.set_cons_zero, List.set_cons_succ, Option.some.injEq, List.cons.injEq, and_true, true_and, exists_eq_left, exists_eq_left', exists_eq_right, V.ty.injEq, V.int.injEq, V.bl.injEq, V.str.injEq, V.ref.injEq, exists_and_left, exists_const, reduceIte, reduceCtorEq, false_and, and_false, exists_false, or_false, false_or, Bool.not_true, Bool.not_false, Bool.false_eq_true, String.reduceEq, true_or, or_true, tPar, tAug, ipI, tDNotIn, sDPut, tDGet, tTup, tLst, tBM, tBM0]
    refine ⟨z, b, rs, 0, t, rfl, hb2, hz, ok, in_zero ok, ht, ?_⟩
    have hin : InSt rs (walkS z rs 0 t.cps.toList) := walk_in ok _ (fun c hc => of_decide_eq_true (List.all_eq_true.mp ht c hc)) _ (in_zero ok)
    obtain ⟨vs, a1, b1, g1, g2, g3, g4⟩ := hb2.at hin
    exact ⟨vs, g1, _, g2, _, g3, _, rfl, q _ s1⟩
theorem sc_first_taken : FnScope ["looker"] ["looker"] (defScope (topS 26)) := ⟨rfl, rfl, rfl, by decide +kernel, rfl, by decide +kernel, by decide +kernel⟩
theorem bd_first_taken {K : PySem.W.Frag} {f : Addr} {fd : FuncData} (F : FnP K "first_taken" (topS 26) f fd) : Binds K fd ["looker"] [] := F.bindsN fun _ _ _ _ _ _ us hl => match us, hl with | [_], _ => rfl
def spTf (K : PySem.W.Frag) : Sp := fun vs H Q _ => ∃ v z rs, vs = [v] ∧ RLk K H v z rs ∧ SignsOk z ∧ RowsOk z.length rs ∧ ∀ H', Same H H' → Q (oText z (firstR z rs)) H'
theorem ok_first_taken (T : Tx K mg) : Dk P w K mg base 5 "first_taken" ["looker"] (spTf K) := by
  have D_check_looker := ok_check_looker (P := P) (w := w) (base := base) T
  have D_first_text := ok_first_text (P := P) (w := w) (base := base) T
  obtain ⟨fd, F⟩ := T.d_first_taken
  refine ⟨⟨fd, F.ok sc_first_taken (fun vs H Q E h => ?_) (fun cdv A outer s H vs Q E hr h => ?_), bd_first_taken F⟩, F.kp, T.g_first_taken⟩
  · obtain ⟨v, z, rs, rfl, _⟩ := h
    rfl
  · obtain ⟨v, z, rs, rfl, hv, hz, ok, q⟩ := h
    refine ⟨_, PSs.nox (pss_cons (ps_expr (pe_callR D_check_looker (hr.mono (by decide)) takes0 (pa_cons (pv 0) pa_nil)))
      (pss_one (ps_ret (pe_callR D_first_text (hr.mono (by decide)) takes0 (pa_cons (pe_ix ix_tupQ (pv 0) pe_int (fun _ _ => rfl)) (pa_cons (pe_ix ix_tupQ (pv 0) pe_int (fun _ _ => rfl)) pa_nil)))))), ?_⟩
    simp only [cxOf, tYes, eq_self, if_true, if_false, wipe, rLenQ, rIxTQ, rIxLQ, rIxSQ, rInt1Q, rTupQ, rAppQ, rPopQ, rPopAtQ, rRevQ, rListS, rReprP, tLenSetT, tChain, tRetN, tRet, tSeq, tAsg, gName, tVar, tC, tCons, tNil, tCB, tOp, rI0, rI, tAndV, tOrV, tNotV, tIf, tTest, tB, tNot, tAnd, tOr, tIfS, tNext, tCallR, rIsK, rEq, rNe, tDrop, L2.start, List.map_cons, List.map_nil, List.length_cons, List.length_nil, Nat.reduceAdd, Nat.reduceSub, Nat.sub_self, List.replicate_zero, List.replicate_succ, List.append_nil, List.cons_append, List.nil_append, List.getElem?_cons_zero, List.getElem?_cons_succ, List.set_cons_zero, List.set_cons_succ, Option.some.injEq, List.cons.injEq, and_true, true_and, exists_eq_left, exists_eq_left', exists_eq_right, V.ty.injEq, V.int.injEq, V.bl.injEq, V.str.injEq, V.ref.injEq, exists_and_left, exists_const, reduceIte, reduceCtorEq, false_and, and_false, exists_false, or_false, false_or, Bool.not_true, Bool.not_false, Bool.false_eq_true, String.reduceEq, true_or, or_true, tPar, tAug, ipI, tDNotIn, sDPut, tDGet, tTup, tLst, tBM, tBM0]
    refine ⟨v, z, rs, rfl, hv, hz, ok, ?_⟩
    obtain ⟨a, b, rfl, h1, hb⟩ := hv
    simp only [cxOf, tYes, eq_self, if_true, if_false, wipe, rLenQ, rIxTQ, rIxLQ, rIxSQ, rInt1Q, rTupQ, rAppQ, rPopQ, rPopAtQ, rRevQ, rListS, rReprP, tLenSetT, tChain, tRetN, tRet, tSeq, tAsg, gName, tVar, tC, tCons, tNil, tCB, tOp, rI0, rI, tAndV, tOrV, tNotV, tIf, tTest, tB, tNot, tAnd, tOr, tIfS, tNext, tCallR, rIsK, rEq, rNe, tDrop, L2.start, List.map_cons, List.map_nil, List.length_cons, List.length_nil, Nat.reduceAdd, Nat.reduceSub, Nat.sub_self, List.replicate_zero, List.replicate_succ, List.append_nil, List.cons_append, List.nil_append, List.getElem?_cons_zero, List.getElem?_cons_succ, List.set_cons_zero, List.set_cons_succ, Option.some.injEq, List.cons.injEq, and_true, true_and, exists_eq_left, exists_eq_left', exists_eq_right, V.ty.injEq, V.int.injEq, V.bl.injEq, V.str.injEq, V.ref.injEq, exists_and_left, exists_const, reduceIte, reduceCtorEq, false_and, and_false, exists_false, or_false, false_or, Bool.not_true, Bool.not_false, Bool.false_eq_true, String.reduceEq, true_or, or_true, tPar, tAug, ipI, tDNotIn, sDPut, tDGet, tTup, tLst, tBM, tBM0]
    exact ⟨_, h1, _, rfl, _, h1, _, rfl, z, b, rs, rfl, hb, hz, ok, q⟩
theorem sc_alike : FnScope ["one", "other"] ["one", "other"] (defScope (topS 27)) := ⟨rfl, rfl, rfl, by decide +kernel, rfl, by decide +kernel, by decide +kernel⟩
theorem bd_alike {K : PySem.W.Frag} {f : Addr} {fd : FuncData} (F : FnP K "alike" (topS 27) f fd) : Binds K fd ["one", "other"] [] := F.bindsN fun _ _ _ _ _ _ us hl => match us, hl with | [_, _], _ => rfl
def spAl (K : PySem.W.Frag) : Sp := fun vs H Q E => ∃ v1 z1 r1 v2 z2 r2, vs = [v1, v2] ∧ RLk K H v1 z1 r1 ∧ RLk K H v2 z2 r2 ∧ SignsOk z1 ∧ SignsOk z2 ∧ RowsOk z1.length r1 ∧ RowsOk z2.length r2 ∧ (z1 = z2 → ∀ H', Same H H' → Q (oText z1 (unlikeR z1 r1 r2)) H') ∧ (z1 ≠ z2 → E (.ref (He.ga K "BadSigns")) none H)
theorem ok_alike (T : Tx K mg) : Dk P w K mg base 5 "alike" ["one", "other"] (spAl K) := by
  have D_check_looker := ok_check_looker (P := P) (w := w) (base := base) T
  have D_check_same_signs := ok_check_same_signs (P := P) (w := w) (base := base) T
  have D_first_unlike := ok_first_unlike (P := P) (w := w) (base := base) T
  obtain ⟨fd, F⟩ := T.d_alike
  refine ⟨⟨fd, F.ok sc_alike (fun vs H Q E h => ?_) (fun cdv A outer s H vs Q E hr h => ?_), bd_alike F⟩, F.kp, T.g_alike⟩
  · obtain ⟨v1, z1, r1, v2, z2, r2, rfl, _⟩ := h
    rfl
  · obtain ⟨v1, z1, r1, v2, z2, r2, rfl, hv1, hv2, hz1, hz2, o1, o2, q1, q2⟩ := h
    refine ⟨_, (pss_cons (ps_expr (pe_callR D_check_looker (hr.mono (by decide)) (takes_of rfl rfl rfl rfl) (pa_cons (pv 0) pa_nil)))
      (pss_cons (ps_expr (pe_callR D_check_looker (hr.mono (by decide)) (takes_of rfl rfl rfl rfl) (pa_cons (pv 1) pa_nil)))
      (pss_cons (ps_expr (pe_callR D_check_same_signs (hr.mono (by decide)) (takes_of rfl rfl rfl rfl) (pa_cons (pv 0) (pa_cons (pv 1) pa_nil))))
      (pss_one (ps_ret (pe_callR D_first_unlike (hr.mono (by decide)) (takes_of rfl rfl rfl rfl) (pa_cons (pe_ix ix_tupQ (pv 0) pe_int (fun _ _ => rfl)) (pa_cons (pe_ix ix_tupQ (pv 0) pe_int (fun _ _ => rfl)) (pa_cons (pe_ix ix_tupQ (pv 1) pe_int (fun _ _ => rfl)) pa_nil))))))))), ?_⟩
    simp only [cxOf, tYes, eq_self, if_true, if_false, wipe, rLenQ, rIxTQ, rIxLQ, rIxSQ, rInt1Q, rTupQ, rAppQ, rPopQ, rPopAtQ, rRevQ, rListS, rReprP, tLenSetT, tChain, tRetN, tRet, tSeq, tAsg, gName, tVar, tC, tCons, tNil, tCB, tOp, rI0, rI, tAndV, tOrV, tNotV, tIf, tTest, tB, tNot, tAnd, tOr, tIfS, tNext, tCallR, rIsK, rEq, rNe, tDrop, L2.start, List.map_cons, List.map_nil, List.length_cons, List.length_nil, Nat.reduceAdd, Nat.reduceSub, Nat.sub_self, List.replicate_zero, List.replicate_succ, List.append_nil, List.cons_append, List.nil_append, List.getElem?_cons_zero, List.getElem?_cons_succ, List.set_cons_zero, List.set_cons_succ, Option.some.injEq, List.cons.injEq, and_true, true_and, exists_eq_left, exists_eq_left', exists_eq_right, V.ty.injEq, V.int.injEq, V.bl.injEq, V.str.injEq, V.ref.injEq, exists_and_left, exists_const, reduceIte, reduceCtorEq, false_and, and_false, exists_false, or_false, false_or, Bool.not_true, Bool.not_false, Bool.false_eq_true, String.reduceEq, true_or, or_true, tPar, tAug, ipI, tDNotIn, sDPut, tDGet, tTup, tLst, tBM, tBM0]
    refine ⟨v1, z1, r1, rfl, hv1, hz1, o1, v2, z2, r2, rfl, hv2, hz2, o2, v1, z1, r1, v2, z2, r2, rfl, hv1, hv2, fun ez => ?_, q2⟩
    obtain ⟨a1, b1, rfl, h1, hb1⟩ := hv1
    obtain ⟨a2, b2, rfl, h2, hb2⟩ := hv2
    subst ez
    simp only [cxOf, tYes, eq_self, if_true, if_false, wipe, rLenQ, rIxTQ, rIxLQ, rIxSQ, rInt1Q, rTupQ, rAppQ, rPopQ, rPopAtQ, rRevQ, rListS, rReprP, tLenSetT, tChain, tRetN, tRet, tSeq, tAsg, gName, tVar, tC, tCons, tNil, tCB, tOp, rI0, rI, tAndV, tOrV, tNotV, tIf, tTest, tB, tNot, tAnd, tOr, tIfS, tNext, tCallR, rIsK, rEq, rNe, tDrop, L2.start, List.map_cons, List.map_nil, List.length_cons, List.length_nil, Nat.reduceAdd, Nat.reduceSub, Nat.sub_self, List.replicate_zero, List.replicate_succ, List.append_nil, List.cons_append, List.nil_append, List.getElem?_cons_zero, List.getElem?_cons_succ, List.set_cons_zero, List.set_cons_succ, Option.some.injEq, List.cons.injEq, and_true, true_and, exists_eq_left, exists_eq_left', exists_eq_right, V.ty.injEq, V.int.injEq, V.bl.injEq, V.str.injEq, V.ref.injEq, exists_and_left, exists_const, reduceIte, reduceCtorEq, false_and, and_false, exists_false, or_false, false_or, Bool.not_true, Bool.not_false, Bool.false_eq_true, String.reduceEq, true_or, or_true, tPar, tAug, ipI, tDNotIn, sDPut, tDGet, tTup, tLst, tBM, tBM0]
    exact ⟨_, h1, _, rfl, _, h1, _, rfl, _, h2, _, rfl, z1, b1, r1, b2, r2, rfl, hb1, hb2, hz1, o1, o2, q1 rfl⟩
end
end K36

namespace K36
open PySem PySem.Spec PyProof.Rows L2 Sg
section
variable {P : Program} {w : World} {K : PySem.W.Frag} {mg : Str → Option Value} {base : Heap}
theorem sc__law_draw : FnScope ["pool", "many"] ["pool", "many"] (defScope (topS 29)) := ⟨rfl, rfl, rfl, by decide +kernel, rfl, by decide +kernel, by decide +kernel⟩
theorem bd__law_draw {K : PySem.W.Frag} {f : Addr} {fd : FuncData} (F : FnP K "_law_draw" (topS 29) f fd) : Binds K fd ["pool", "many"] [] := F.bindsN fun _ _ _ _ _ _ us hl => match us, hl with | [_, _], _ => rfl
def PoolL (H : Hp) (l : Addr) : Prop := ∃ js : List Int, H l = some (.lst (js.map V.int))
def spDr : Sp := fun vs H Q _ => ∃ l n, vs = [.ref l, .int n] ∧ PoolL H l ∧ 0 < n ∧ ∀ r H', 0 ≤ r → r < n → But l H H' → PoolL H' l → Q (.int r) H'
theorem ok__law_draw (T : Tx K mg) : Dk P w K mg base 1 "_law_draw" ["pool", "many"] spDr := by
  obtain ⟨fd, F⟩ := T.d__law_draw
  refine ⟨⟨fd, F.ok sc__law_draw (fun vs H Q E h => ?_) (fun cdv A outer s H vs Q E hr h => ?_), bd__law_draw F⟩, F.kp, T.g__law_draw⟩
  · obtain ⟨l, n, rfl, _⟩ := h
    rfl
  · obtain ⟨l, n, rfl, ⟨js, hl⟩, hn, q⟩ := h
    refine ⟨_, PSs.nox (pss_cons (ps_if (pt_cmpR op_gt (pe_callB call_lenQ (by rfl) T.f_len PySem.boot_len (pa_cons (pv 0) pa_nil)) pe_int (nomark _)) (pss_one (ps_ret (pe_op op_mod (pe_callTy call_int1Q (by rfl) T.f_int PyProof.Rows.boot_int (pa_cons (pe_bm0 PySem.F.plainAttrs_list PySem.F.slot_list_pop PySem.F.type_list_pop mt_popQ (pv 0)) pa_nil)) (pv 1)))) pss_nil)
      (pss_one (ps_ret pe_int))), ?_⟩
    simp only [cxOf, tYes, eq_self, if_true, if_false, wipe, rLenQ, rIxTQ, rIxLQ, rIxSQ, rInt1Q, rTupQ, rAppQ, rPopQ, rPopAtQ, rRevQ, rListS, rReprP, tLenSetT, tChain, tRetN, tRet, tSeq, tAsg, gName, tVar, tC, tCons, tNil, tCB, tOp, rI0, rI, tAndV, tOrV, tNotV, tIf, tTest, tB, tNot, tAnd, tOr, tIfS, tNext, tCallR, rIsK, rEq, rNe, tDrop, L2.start, List.map_cons, List.map_nil, List.length_cons, List.length_nil, Nat.reduceAdd, Nat.reduceSub, Nat.sub_self, List.replicate_zero, List.replicate_succ, List.append_nil, List.cons_append, List.nil_append, List.getElem?_cons_zero, List.getElem?_cons_succ, List.set_cons_zero, List.set_cons_succ, Option.some.injEq, List.cons.injEq, and_true, true_and, exists_eq_left, exists_eq_left', exists_eq_right, V.ty.injEq, V.int.injEq, V.bl.injEq, V.str.injEq, V.ref.injEq, exists_and_left, exists_const, reduceIte, reduceCtorEq, false_and, and_false, exists_false, or_false, false_or, Bool.not_true, Bool.not_false, Bool.false_eq_true, String.reduceEq, true_or, or_true, tPar, tAug, ipI, tDNotIn, sDPut, tDGet, tTup, tLst, tBM, tBM0]
    refine ⟨_, .inl (.inl (.inl hl)), ?_⟩
    rw [List.length_map]
    by_cases h0 : 0 < js.length
    · refine ifT (decide_eq_true (by omega)) ⟨lst_ty hl, js.dropLast.map V.int, .int (js.getLast (List.ne_nil_of_length_pos h0)), ?_, hn, ?_⟩
      · rw [hl, ← List.map_singleton, ← List.map_append, List.dropLast_concat_getLast]
      · refine q _ _ (Int.emod_nonneg _ (by omega)) (Int.emod_lt_of_pos _ hn) But.upd ⟨_, upd_same⟩
    · exact ifF (decide_eq_false (by omega)) (q _ _ (Int.le_refl _) hn (But.refl _ _) ⟨_, hl⟩)

theorem sc__law_pool : FnScope ["script", "pool", "seed", "at", "cell", "rest", "k", "one"] ["script"] (defScope (topS 30)) := ⟨rfl, rfl, rfl, by decide +kernel, rfl, by decide +kernel, by decide +kernel⟩
theorem bd__law_pool {K : PySem.W.Frag} {f : Addr} {fd : FuncData} (F : FnP K "_law_pool" (topS 30) f fd) : Binds K fd ["script"] [] := F.bindsN fun _ _ _ _ _ _ us hl => match us, hl with | [_], _ => rfl
def PlS (H : Hp) (a l : Addr) (n : Nat) (seed y3 y4 y5 y6 y7 : Option V) (σ : L2.St) (H' : Hp) : Prop :=
  (∃ js : List Int, H' l = some (.lst (js.map V.int)) ∧ js.length ≤ n) ∧ Same H H' ∧ σ = [some (.ref a), some (.ref l), seed, y3, y4, y5, y6, y7]
def PlA (H : Hp) (a l : Addr) (c i : Nat) (σ : L2.St) (H' : Hp) : Prop := ∃ (sd : Int) (y3 y4 y5 y6 y7 : Option V), PlS H a l (c + 60 * i) (some (.int sd)) y3 y4 y5 y6 y7 σ H'
def PlB (H : Hp) (a l : Addr) (c : Nat) (sd at' ce : Int) (y7 : Option V) (i : Nat) (σ : L2.St) (H' : Hp) : Prop := ∃ (rs : Int) (y6 : Option V), PlS H a l (c + i) (some (.int sd)) (some (.int at')) (some (.int ce)) (some (.int rs)) y6 y7 σ H'
def PlC (H : Hp) (a l : Addr) (c : Nat) (sd at' ce : Int) (y5 : Option V) (i : Nat) (σ : L2.St) (H' : Hp) : Prop := ∃ (on : Int) (y6 : Option V), PlS H a l (c + i) (some (.int sd)) (some (.int at')) (some (.int ce)) y5 y6 (some (.int on)) σ H'
def PlD (H : Hp) (a l : Addr) (c i : Nat) (σ : L2.St) (H' : Hp) : Prop := ∃ (sd : Int) (y3 y4 y5 y6 y7 : Option V), PlS H a l (c + i) (some (.int sd)) y3 y4 y5 y6 y7 σ H'
theorem pl_put {H H1 : Hp} {l : Addr} {js : List Int} {n : Nat} (hl0 : H l = none) (s : Same H H1) (hl : H1 l = some (.lst (js.map V.int))) (hn : js.length ≤ n) (j : Int) :
    (∃ ks : List Int, (upd H1 l (.lst (js.map V.int ++ [V.int j]))) l = some (.lst (ks.map V.int)) ∧ ks.length ≤ n + 1) ∧ Same H (upd H1 l (.lst (js.map V.int ++ [V.int j]))) := by
  refine ⟨⟨js ++ [j], by rw [upd_same, List.map_append]; rfl, by rw [List.length_append]; exact Nat.succ_le_succ hn⟩, fun b o hb => ?_⟩
  rw [upd_ne (ne_of_none hb hl0)]
  exact s b o hb
theorem cmR {i j : Int} (h : -(2 ^ 64) < j ∧ j < 2 ^ 64 := by decide) : CMul i j := .inr h
theorem cmL {i j : Int} (h : -(2 ^ 64) < i ∧ i < 2 ^ 64 := by decide) : CMul i j := .inl h
def spPl (K : PySem.W.Frag) : Sp := fun vs H Q _ => ∃ (a : Addr) (ns : List Int), vs = [.ref a] ∧ SqL K H a (ns.map V.int) ∧ ∀ l H', H l = none → Same H H' → PoolL H' l → Q (.ref l) H'
theorem ok__law_pool (T : Tx K mg) : Dk P w K mg base 1 "_law_pool" ["script"] (spPl K) := by
  obtain ⟨fd, F⟩ := T.d__law_pool
  refine ⟨⟨fd, F.ok sc__law_pool (fun vs H Q E h => ?_) (fun cdv A outer s H vs Q E hr h => ?_), bd__law_pool F⟩, F.kp, T.g__law_pool⟩
  · obtain ⟨a, ns, rfl, _⟩ := h
    rfl
  · obtain ⟨a, ns, rfl, ha, q⟩ := h
    refine ⟨_, PSs.nox (pss_cons (ps_set (i := 1) sc__law_pool.nd rfl (.inl rfl) (pe_lst pa_nil))
      (pss_cons (ps_set (i := 2) sc__law_pool.nd rfl (.inl rfl) pe_int)
      (pss_cons (ps_for PassesOwn.never rfl (pi_range1 (by rfl) T.f_range (pa_cons (pe_callB (call_min2 rfl) (by rfl) T.f_min PyProof.Rows.boot_min (pa_cons (pe_callB call_lenQ (by rfl) T.f_len PySem.boot_len (pa_cons (pv 0) pa_nil)) (pa_cons pe_int pa_nil))) pa_nil)) (pg_name (i := 3) sc__law_pool.nd rfl (.inl rfl)) (pss_cons (ps_set (i := 4) sc__law_pool.nd rfl (.inl rfl) (pe_callTy call_int1Q (by rfl) T.f_int PyProof.Rows.boot_int (pa_cons (pe_ix ix_listQ (pv 0) (pv 3) (fun _ _ => rfl)) pa_nil)))
      (pss_cons (ps_set (i := 2) sc__law_pool.nd rfl (.inl rfl) (pe_op op_mod (pe_op op_add (pe_op op_add (pe_op op_mul (pv 2) pe_int) (pe_op op_mod (pv 4) pe_int)) (pv 3)) pe_int))
      (pss_one (ps_if (pt_cmpR op_ge (pv 4) (pe_op op_pow pe_int pe_int) (nomark _)) (pss_cons (ps_set (i := 5) sc__law_pool.nd rfl (.inl rfl) (pv 4))
      (pss_one (ps_for PassesOwn.never rfl (pi_range1 (by rfl) T.f_range (pa_cons pe_int pa_nil)) (pg_name (i := 6) sc__law_pool.nd rfl (.inl rfl)) (pss_one (ps_if (pt_cmpR op_gt (pv 5) pe_int (nomark _)) (pss_cons (ps_expr (pe_bm PySem.F.plainAttrs_list PySem.F.slot_list_append PySem.F.type_list_append mt_appQ (pv 1) (pa_cons (pe_op op_mod (pv 5) pe_int) pa_nil)))
      (pss_one (ps_set (i := 5) sc__law_pool.nd rfl (.inl rfl) (pe_op op_fdiv (pv 5) pe_int)))) pss_nil))))) (pss_cons (ps_set (i := 7) sc__law_pool.nd rfl (.inl rfl) (pe_op op_add (pe_op op_mod (pv 4) pe_int) pe_int))
      (pss_one (ps_for PassesOwn.never rfl (pi_range1 (by rfl) T.f_range (pa_cons pe_int pa_nil)) (pg_name (i := 6) sc__law_pool.nd rfl (.inl rfl)) (pss_cons (ps_set (i := 7) sc__law_pool.nd rfl (.inl rfl) (pe_op op_mod (pe_op op_add (pe_op op_mul (pv 7) pe_int) (pe_op op_mul pe_int (pe_op op_add (pe_op op_add (pv 3) (pv 6)) pe_int))) pe_int))
      (pss_one (ps_expr (pe_bm PySem.F.plainAttrs_list PySem.F.slot_list_append PySem.F.type_list_append mt_appQ (pv 1) (pa_cons (pe_op op_mod (pe_op op_fdiv (pe_op op_mod (pe_op op_mul (pv 7) pe_int) pe_int) pe_int) pe_int) pa_nil)))))))))))))
      (pss_cons (ps_for PassesOwn.never rfl (pi_range1 (by rfl) T.f_range (pa_cons pe_int pa_nil)) (pg_name (i := 6) sc__law_pool.nd rfl (.inl rfl)) (pss_cons (ps_set (i := 2) sc__law_pool.nd rfl (.inl rfl) (pe_op op_mod (pe_op op_add (pe_op op_add (pe_op op_mul (pv 2) pe_int) (pe_op op_mul pe_int (pv 6))) pe_int) pe_int))
      (pss_one (ps_expr (pe_bm PySem.F.plainAttrs_list PySem.F.slot_list_append PySem.F.type_list_append mt_appQ (pv 1) (pa_cons (pe_op op_mod (pe_op op_fdiv (pe_op op_mod (pe_op op_mul (pv 2) pe_int) pe_int) pe_int) pe_int) pa_nil))))))
      (pss_cons (ps_expr (pe_bm0 PySem.F.plainAttrs_list PySem.F.slot_list_reverse PySem.F.type_list_reverse mt_revQ (pv 1)))
      (pss_one (ps_ret (pv 1)))))))), ?_⟩
    simp only [cxOf, tYes, eq_self, if_true, if_false, wipe, rLenQ, rIxTQ, rIxLQ, rIxSQ, rInt1Q, rTupQ, rAppQ, rPopQ, rPopAtQ, rRevQ, rListS, rReprP, tLenSetT, tChain, tRetN, tRet, tSeq, tAsg, gName, tVar, tC, tCons, tNil, tCB, tOp, rI0, rI, tAndV, tOrV, tNotV, tIf, tTest, tB, tNot, tAnd, tOr, tIfS, tNext, tCallR, rIsK, rEq, rNe, tDrop, L2.start, List.map_cons, List.map_nil, List.length_cons, List.length_nil, Nat.reduceAdd, Nat.reduceSub, Nat.sub_self, List.replicate_zero, List.replicate_succ, List.append_nil, List.cons_append, List.nil_append, List.getElem?_cons_zero, List.getElem?_cons_succ, List.set_cons_zero, List.set_cons_succ, Option.some.injEq, List.cons.injEq, and_true, true_and, exists_eq_left, exists_eq_left', exists_eq_right, V.ty.injEq, V.int.injEq, V.bl.injEq, V.str.injEq, V.ref.injEq, exists_and_left, exists_const, reduceIte, reduceCtorEq, false_and, and_false, exists_false, or_false, false_or, Bool.not_true, Bool.not_false, Bool.false_eq_true, String.reduceEq, true_or, or_true, tPar, tAug, ipI, tDNotIn, sDPut, tDGet, tTup, tLst, tBM, tBM0]
    refine ⟨Nat.zero_le _, fun l hl0 => ?_⟩
    have ne : ∀ b o, H b = some o → b ≠ l := fun b o hb => ne_of_none hb hl0
    have sA : Same H (upd H l (.lst [])) := same_upd hl0
    refine ⟨.ref a, rfl, ns.map V.int, .inl (Same.seq sA ha), _, _, rfl, _, rfl, ?_, ?_, ?_⟩
    · split <;> omega
    · split <;> omega
    have hn63 : (if (63 : Int) < ((ns.map V.int).length : Int) then (63 : Int) else ((ns.map V.int).length : Int)).toNat ≤ 63 ∧ (if (63 : Int) < ((ns.map V.int).length : Int) then (63 : Int) else ((ns.map V.int).length : Int)).toNat ≤ ns.length := by
      rw [List.length_map]
      split <;> omega
    generalize (if (63 : Int) < ((ns.map V.int).length : Int) then (63 : Int) else ((ns.map V.int).length : Int)).toNat = N at hn63 ⊢
    refine for_range (PlA H a l 0) ⟨7, none, none, none, none, none, ⟨[], upd_same, Nat.zero_le _⟩, sA, rfl⟩ ?_ ?_
    · rintro i σ H1 hi ⟨sd, y3, y4, y5, y6, y7, ⟨js, hl, hjs⟩, s1, rfl⟩
      have e0 : (0 : Int) + (i : Int) = (i : Int) := Int.zero_add _
      rw [e0]
      simp only [cxOf, tYes, eq_self, if_true, if_false, wipe, rLenQ, rIxTQ, rIxLQ, rIxSQ, rInt1Q, rTupQ, rAppQ, rPopQ, rPopAtQ, rRevQ, rListS, rReprP, tLenSetT, tChain, tRetN, tRet, tSeq, tAsg, gName, tVar, tC, tCons, tNil, tCB, tOp, rI0, rI, tAndV, tOrV, tNotV, tIf, tTest, tB, tNot, tAnd, tOr, tIfS, tNext, tCallR, rIsK, rEq, rNe, tDrop, L2.start, List.map_cons, List.map_nil, List.length_cons, List.length_nil, Nat.reduceAdd, Nat.reduceSub, Nat.sub_self, List.replicate_zero, List.replicate_succ, List.append_nil, List.cons_append, List.nil_append, List.getElem?_cons_zero, List.getElem?_cons_succ, List.set_cons_zero, List.set_cons_succ, Option.some.injEq, List.cons.injEq, and_true, true_and, exists_eq_left, exists_eq_left', exists_eq_right, V.ty.injEq, V.int.injEq, V.bl.injEq, V.str.injEq, V.ref.injEq, exists_and_left, exists_const, reduceIte, reduceCtorEq, false_and, and_false, exists_false, or_false, false_or, Bool.not_true, Bool.not_false, Bool.false_eq_true, String.reduceEq, true_or, or_true, tPar, tAug, ipI, tDNotIn, sDPut, tDGet, tTup, tLst, tBM, tBM0]
      have hget : (ns.map V.int)[i]? = some (.int (ns.getD i 0)) := by
        have : i < ns.length := by omega
        rw [List.getElem?_map, List.getD_eq_getElem?_getD, List.getElem?_eq_getElem this]
        rfl
      refine ⟨_, Same.seq s1 ha, .int (ns.getD i 0), atI_nat hget, cmR, by decide, by decide, ⟨by decide, by decide, by decide⟩, ?_⟩
      by_cases hbig : (10 : Int) ^ Int.toNat 18 ≤ ns.getD i 0
      · refine ifT (decide_eq_true hbig) ⟨60, rfl, by omega, by omega, ?_⟩
        refine for_range (PlB H a l (60 * i) ((sd * 31 + ns.getD i 0 % 999983 + i) % 2147483647) i (ns.getD i 0) y7) ⟨ns.getD i 0, y6, ⟨js, hl, by omega⟩, s1, rfl⟩ ?_ ?_
        · rintro k σ H2 hk ⟨rs, z6, ⟨js2, hl2, hjs2⟩, s2, rfl⟩
          simp only [cxOf, tYes, eq_self, if_true, if_false, wipe, rLenQ, rIxTQ, rIxLQ, rIxSQ, rInt1Q, rTupQ, rAppQ, rPopQ, rPopAtQ, rRevQ, rListS, rReprP, tLenSetT, tChain, tRetN, tRet, tSeq, tAsg, gName, tVar, tC, tCons, tNil, tCB, tOp, rI0, rI, tAndV, tOrV, tNotV, tIf, tTest, tB, tNot, tAnd, tOr, tIfS, tNext, tCallR, rIsK, rEq, rNe, tDrop, L2.start, List.map_cons, List.map_nil, List.length_cons, List.length_nil, Nat.reduceAdd, Nat.reduceSub, Nat.sub_self, List.replicate_zero, List.replicate_succ, List.append_nil, List.cons_append, List.nil_append, List.getElem?_cons_zero, List.getElem?_cons_succ, List.set_cons_zero, List.set_cons_succ, Option.some.injEq, List.cons.injEq, and_true, true_and, exists_eq_left, exists_eq_left', exists_eq_right, V.ty.injEq, V.int.injEq, V.bl.injEq, V.str.injEq, V.ref.injEq, exists_and_left, exists_const, reduceIte, reduceCtorEq, false_and, and_false, exists_false, or_false, false_or, Bool.not_true, Bool.not_false, Bool.false_eq_true, String.reduceEq, true_or, or_true, tPar, tAug, ipI, tDNotIn, sDPut, tDGet, tTup, tLst, tBM, tBM0]
          by_cases hr : 0 < rs
          · refine ifT (decide_eq_true hr) ⟨lst_ty hl2, by decide, _, hl2, ?_, ⟨by decide, by decide⟩, ?_⟩
            · rw [List.length_map]
              exact szlt (m := 100000) (by have : k < 60 := hk; omega)
            · have pp := pl_put hl0 s2 hl2 hjs2 (rs % 5040)
              exact ⟨_, _, pp.1, pp.2, rfl⟩
          · exact ifF (decide_eq_false hr) ⟨_, _, ⟨js2, hl2, by omega⟩, s2, rfl⟩
        · rintro σ H2 ⟨rs, z6, ⟨js2, hl2, hjs2⟩, s2, rfl⟩
          have e60 : (60 : Int).toNat = 60 := rfl
          exact ⟨_, _, _, _, _, _, ⟨js2, hl2, by omega⟩, s2, rfl⟩
      · refine ifF (decide_eq_false hbig) ⟨by decide, 3, rfl, by omega, by omega, ?_⟩
        refine for_range (PlC H a l (60 * i) ((sd * 31 + ns.getD i 0 % 999983 + i) % 2147483647) i (ns.getD i 0) y5) ⟨ns.getD i 0 % 999983 + 1, y6, ⟨js, hl, by omega⟩, s1, rfl⟩ ?_ ?_
        · rintro k σ H2 hk ⟨on, z6, ⟨js2, hl2, hjs2⟩, s2, rfl⟩
          simp only [cxOf, tYes, eq_self, if_true, if_false, wipe, rLenQ, rIxTQ, rIxLQ, rIxSQ, rInt1Q, rTupQ, rAppQ, rPopQ, rPopAtQ, rRevQ, rListS, rReprP, tLenSetT, tChain, tRetN, tRet, tSeq, tAsg, gName, tVar, tC, tCons, tNil, tCB, tOp, rI0, rI, tAndV, tOrV, tNotV, tIf, tTest, tB, tNot, tAnd, tOr, tIfS, tNext, tCallR, rIsK, rEq, rNe, tDrop, L2.start, List.map_cons, List.map_nil, List.length_cons, List.length_nil, Nat.reduceAdd, Nat.reduceSub, Nat.sub_self, List.replicate_zero, List.replicate_succ, List.append_nil, List.cons_append, List.nil_append, List.getElem?_cons_zero, List.getElem?_cons_succ, List.set_cons_zero, List.set_cons_succ, Option.some.injEq, List.cons.injEq, and_true, true_and, exists_eq_left, exists_eq_left', exists_eq_right, V.ty.injEq, V.int.injEq, V.bl.injEq, V.str.injEq, V.ref.injEq, exists_and_left, exists_const, reduceIte, reduceCtorEq, false_and, and_false, exists_false, or_false, false_or, Bool.not_true, Bool.not_false, Bool.false_eq_true, String.reduceEq, true_or, or_true, tPar, tAug, ipI, tDNotIn, sDPut, tDGet, tTup, tLst, tBM, tBM0]
          have pp := pl_put hl0 s2 hl2 hjs2
          refine ⟨cmR, cmL, by decide, lst_ty hl2, cmR, by decide, ⟨by decide, by decide⟩, by decide, _, hl2, ?_, _, _, (pp _).1, (pp _).2, rfl⟩
          rw [List.length_map]
          exact szlt (m := 100000) (by have : k < 3 := hk; omega)
        · rintro σ H2 ⟨on, z6, ⟨js2, hl2, hjs2⟩, s2, rfl⟩
          have e3 : (3 : Int).toNat = 3 := rfl
          exact ⟨_, _, _, _, _, _, ⟨js2, hl2, by omega⟩, s2, rfl⟩
    · rintro σ H1 ⟨sd, y3, y4, y5, y6, y7, ⟨js, hl, hjs⟩, s1, rfl⟩
      simp only [cxOf, tYes, eq_self, if_true, if_false, wipe, rLenQ, rIxTQ, rIxLQ, rIxSQ, rInt1Q, rTupQ, rAppQ, rPopQ, rPopAtQ, rRevQ, rListS, rReprP, tLenSetT, tChain, tRetN, tRet, tSeq, tAsg, gName, tVar, tC, tCons, tNil, tCB, tOp, rI0, rI, tAndV, tOrV, tNotV, tIf, tTest, tB, tNot, tAnd, tOr, tIfS, tNext, tCallR, rIsK, rEq, rNe, tDrop, L2.start, List.map_cons, List.map_nil, List.length_cons, List.length_nil, Nat.reduceAdd, Nat.reduceSub, Nat.sub_self, List.replicate_zero, List.replicate_succ, List.append_nil, List.cons_append, List.nil_append, List.getElem?_cons_zero, List.getElem?_cons_succ, List.set_cons_zero, List.set_cons_succ, Option.some.injEq, List.cons.injEq, and_true, true_and, exists_eq_left, exists_eq_left', exists_eq_right, V.ty.injEq, V.int.injEq, V.bl.injEq, V.str.injEq, V.ref.injEq, exists_and_left, exists_const, reduceIte, reduceCtorEq, false_and, and_false, exists_false, or_false, false_or, Bool.not_true, Bool.not_false, Bool.false_eq_true, String.reduceEq, true_or, or_true, tPar, tAug, ipI, tDNotIn, sDPut, tDGet, tTup, tLst, tBM, tBM0]
      refine ⟨600, rfl, by omega, by omega, ?_⟩
      refine for_range (PlD H a l (60 * N)) ⟨sd, y3, y4, y5, y6, y7, ⟨js, hl, by omega⟩, s1, rfl⟩ ?_ ?_
      · rintro k σ H2 hk ⟨sd, y3, y4, y5, y6, y7, ⟨js, hl, hjs⟩, s1, rfl⟩
        simp only [cxOf, tYes, eq_self, if_true, if_false, wipe, rLenQ, rIxTQ, rIxLQ, rIxSQ, rInt1Q, rTupQ, rAppQ, rPopQ, rPopAtQ, rRevQ, rListS, rReprP, tLenSetT, tChain, tRetN, tRet, tSeq, tAsg, gName, tVar, tC, tCons, tNil, tCB, tOp, rI0, rI, tAndV, tOrV, tNotV, tIf, tTest, tB, tNot, tAnd, tOr, tIfS, tNext, tCallR, rIsK, rEq, rNe, tDrop, L2.start, List.map_cons, List.map_nil, List.length_cons, List.length_nil, Nat.reduceAdd, Nat.reduceSub, Nat.sub_self, List.replicate_zero, List.replicate_succ, List.append_nil, List.cons_append, List.nil_append, List.getElem?_cons_zero, List.getElem?_cons_succ, List.set_cons_zero, List.set_cons_succ, Option.some.injEq, List.cons.injEq, and_true, true_and, exists_eq_left, exists_eq_left', exists_eq_right, V.ty.injEq, V.int.injEq, V.bl.injEq, V.str.injEq, V.ref.injEq, exists_and_left, exists_const, reduceIte, reduceCtorEq, false_and, and_false, exists_false, or_false, false_or, Bool.not_true, Bool.not_false, Bool.false_eq_true, String.reduceEq, true_or, or_true, tPar, tAug, ipI, tDNotIn, sDPut, tDGet, tTup, tLst, tBM, tBM0]
        have pp := pl_put hl0 s1 hl hjs
        refine ⟨cmR, cmL, by decide, lst_ty hl, cmR, by decide, ⟨by decide, by decide⟩, by decide, _, hl, ?_, _, _, _, _, _, _, (pp _).1, (pp _).2, rfl⟩
        rw [List.length_map]
        exact szlt (m := 100000) (by have : k < 600 := hk; omega)
      · rintro σ H2 ⟨sd, y3, y4, y5, y6, y7, ⟨js, hl, hjs⟩, s1, rfl⟩
        simp only [cxOf, tYes, eq_self, if_true, if_false, wipe, rLenQ, rIxTQ, rIxLQ, rIxSQ, rInt1Q, rTupQ, rAppQ, rPopQ, rPopAtQ, rRevQ, rListS, rReprP, tLenSetT, tChain, tRetN, tRet, tSeq, tAsg, gName, tVar, tC, tCons, tNil, tCB, tOp, rI0, rI, tAndV, tOrV, tNotV, tIf, tTest, tB, tNot, tAnd, tOr, tIfS, tNext, tCallR, rIsK, rEq, rNe, tDrop, L2.start, List.map_cons, List.map_nil, List.length_cons, List.length_nil, Nat.reduceAdd, Nat.reduceSub, Nat.sub_self, List.replicate_zero, List.replicate_succ, List.append_nil, List.cons_append, List.nil_append, List.getElem?_cons_zero, List.getElem?_cons_succ, List.set_cons_zero, List.set_cons_succ, Option.some.injEq, List.cons.injEq, and_true, true_and, exists_eq_left, exists_eq_left', exists_eq_right, V.ty.injEq, V.int.injEq, V.bl.injEq, V.str.injEq, V.ref.injEq, exists_and_left, exists_const, reduceIte, reduceCtorEq, false_and, and_false, exists_false, or_false, false_or, Bool.not_true, Bool.not_false, Bool.false_eq_true, String.reduceEq, true_or, or_true, tPar, tAug, ipI, tDNotIn, sDPut, tDGet, tTup, tLst, tBM, tBM0]
        refine ⟨lst_ty hl, _, hl, q l _ hl0 (fun b o hb => ?_) ⟨js.reverse, by rw [upd_same, List.map_reverse]⟩⟩
        rw [upd_ne (ne b o hb)]
        exact s1 b o hb

end
end K36

namespace K36
open PySem PySem.Spec PyProof.Rows L2 Sg
section
variable {P : Program} {w : World} {K : PySem.W.Frag} {mg : Str → Option Value} {base : Heap}
theorem sc__law_signs : FnScope ["pool", "many", "row", "signs", "k"] ["pool", "many"] (defScope (topS 31)) := ⟨rfl, rfl, rfl, by decide +kernel, rfl, by decide +kernel, by decide +kernel⟩
theorem bd__law_signs {K : PySem.W.Frag} {f : Addr} {fd : FuncData} (F : FnP K "_law_signs" (topS 31) f fd) : Binds K fd ["pool", "many"] [] := F.bindsN fun _ _ _ _ _ _ us hl => match us, hl with | [_, _], _ => rfl
def spLs : Sp := fun vs H Q _ => ∃ l m, vs = [.ref l, .int m] ∧ PoolL H l ∧ 1 ≤ m ∧ m ≤ 5 ∧ ∀ (z : Str) H', SignsOk z → (z.length : Int) = m → But l H H' → PoolL H' l → Q (.str z) H'
def LsS (H : Hp) (l r : Addr) (m : Int) (k : Nat) (σ : L2.St) (H' : Hp) : Prop :=
  ∃ (z : Str) (cs : List Nat) (x4 : Option V), σ = [some (.ref l), some (.int m), some (.ref r), some (.str z), x4] ∧ But l H H' ∧ PoolL H' l ∧ H' r = some (.lst (cs.map fun c => .str (sgn c))) ∧ z.length = k ∧ cs.length + k = 36 ∧
    (z.cps.toList ++ cs).Nodup ∧ ∀ c ∈ z.cps.toList ++ cs, c < 128
theorem snoc_cps (z : Str) (c : Nat) : (z ++ sgn c).cps.toList = z.cps.toList ++ [c] := by
  show (z.cps ++ #[c]).toList = _
  rw [Array.toList_append]
theorem snoc_len (z : Str) (c : Nat) : (z ++ sgn c).length = z.length + 1 := by
  show (z.cps ++ #[c]).size = _
  rw [Array.size_append]
  rfl
theorem erase_perm {α : Type} : ∀ {l : List α} {i : Nat} {c : α}, l[i]? = some c → (c :: l.eraseIdx i).Perm l
  | [], i, c, h => by simp at h
  | a :: l, 0, c, h => by
    obtain rfl := Option.some.inj h
    exact List.Perm.refl _
  | a :: l, i + 1, c, h => (List.Perm.swap a c _).trans (List.Perm.cons a (erase_perm (l := l) (i := i) h))
theorem mapErase {α β : Type} (f : α → β) : ∀ (l : List α) (i : Nat), (l.map f).eraseIdx i = (l.eraseIdx i).map f
  | [], _ => rfl
  | _ :: _, 0 => rfl
  | a :: l, i + 1 => congrArg (f a :: ·) (mapErase f l i)
theorem ok__law_signs (T : Tx K mg) : Dk P w K mg base 2 "_law_signs" ["pool", "many"] spLs := by
  have D__law_draw := ok__law_draw (P := P) (w := w) (base := base) T
  obtain ⟨fd, F⟩ := T.d__law_signs
  refine ⟨⟨fd, F.ok sc__law_signs (fun vs H Q E h => ?_) (fun cdv A outer s H vs Q E hr h => ?_), bd__law_signs F⟩, F.kp, T.g__law_signs⟩
  · obtain ⟨l, m, rfl, _⟩ := h
    rfl
  · obtain ⟨l, m, rfl, ⟨js, hp⟩, hm1, hm5, q⟩ := h
    refine ⟨_, PSs.nox (pss_cons (ps_set (i := 2) sc__law_signs.nd rfl (.inl rfl) (pe_callTy (call_listS rfl) (by rfl) T.f_list PyProof.Rows.boot_list (pa_cons pe_str pa_nil)))
      (pss_cons (ps_set (i := 3) sc__law_signs.nd rfl (.inl rfl) pe_str)
      (pss_cons (ps_for PassesOwn.never rfl (pi_range1 (by rfl) T.f_range (pa_cons (pv 1) pa_nil)) (pg_name (i := 4) sc__law_signs.nd rfl (.inl rfl)) (pss_one (ps_set (i := 3) sc__law_signs.nd rfl (.inl rfl) (pe_op op_add_str (pv 3) (pe_bm PySem.F.plainAttrs_list PySem.F.slot_list_pop PySem.F.type_list_pop mt_popAtQ (pv 2) (pa_cons (pe_callR D__law_draw (hr.mono (by decide)) takes0 (pa_cons (pv 0) (pa_cons (pe_callB call_lenQ (by rfl) T.f_len PySem.boot_len (pa_cons (pv 2) pa_nil)) pa_nil))) pa_nil))))))
      (pss_one (ps_ret (pv 3)))))), ?_⟩
    simp only [cxOf, tYes, eq_self, if_true, if_false, wipe, rLenQ, rIxTQ, rIxLQ, rIxSQ, rInt1Q, rTupQ, rAppQ, rPopQ, rPopAtQ, rRevQ, rListS, rReprP, tLenSetT, tChain, tRetN, tRet, tSeq, tAsg, gName, tVar, tC, tCons, tNil, tCB, tOp, rI0, rI, tAndV, tOrV, tNotV, tIf, tTest, tB, tNot, tAnd, tOr, tIfS, tNext, tCallR, rIsK, rEq, rNe, tDrop, L2.start, List.map_cons, List.map_nil, List.length_cons, List.length_nil, Nat.reduceAdd, Nat.reduceSub, Nat.sub_self, List.replicate_zero, List.replicate_succ, List.append_nil, List.cons_append, List.nil_append, List.getElem?_cons_zero, List.getElem?_cons_succ, List.set_cons_zero, List.set_cons_succ, Option.some.injEq, List.cons.injEq, and_true, true_and, exists_eq_left, exists_eq_left', exists_eq_right, V.ty.injEq, V.int.injEq, V.bl.injEq, V.str.injEq, V.ref.injEq, exists_and_left, exists_const, reduceIte, reduceCtorEq, false_and, and_false, exists_false, or_false, false_or, Bool.not_true, Bool.not_false, Bool.false_eq_true, String.reduceEq, true_or, or_true, tPar, tAug, ipI, tDNotIn, sDPut, tDGet, tTup, tLst, tBM, tBM0]
    refine ⟨szle (m := 36) (by decide), fun r hr0 => ?_⟩
    have hlr : l ≠ r := ne_of_none hp hr0
    refine ⟨.int m, rfl, m, rfl, by omega, by omega, ?_⟩
    refine for_range (LsS H l r m) ⟨Str.ofString "", _, none, rfl, But.of_same (same_upd hr0), ⟨js, by rw [upd_ne hlr]; exact hp⟩, upd_same.trans (congrArg (fun v => some (HO.lst v)) (List.map_map ..)), rfl, by decide, by decide, by decide⟩ ?_ ?_
    · rintro k σ H1 hk ⟨z, cs, x4, rfl, hb, hpl, hcs, hz, hck, hnd, hlow⟩
      simp only [cxOf, tYes, eq_self, if_true, if_false, wipe, rLenQ, rIxTQ, rIxLQ, rIxSQ, rInt1Q, rTupQ, rAppQ, rPopQ, rPopAtQ, rRevQ, rListS, rReprP, tLenSetT, tChain, tRetN, tRet, tSeq, tAsg, gName, tVar, tC, tCons, tNil, tCB, tOp, rI0, rI, tAndV, tOrV, tNotV, tIf, tTest, tB, tNot, tAnd, tOr, tIfS, tNext, tCallR, rIsK, rEq, rNe, tDrop, L2.start, List.map_cons, List.map_nil, List.length_cons, List.length_nil, Nat.reduceAdd, Nat.reduceSub, Nat.sub_self, List.replicate_zero, List.replicate_succ, List.append_nil, List.cons_append, List.nil_append, List.getElem?_cons_zero, List.getElem?_cons_succ, List.set_cons_zero, List.set_cons_succ, Option.some.injEq, List.cons.injEq, and_true, true_and, exists_eq_left, exists_eq_left', exists_eq_right, V.ty.injEq, V.int.injEq, V.bl.injEq, V.str.injEq, V.ref.injEq, exists_and_left, exists_const, reduceIte, reduceCtorEq, false_and, and_false, exists_false, or_false, false_or, Bool.not_true, Bool.not_false, Bool.false_eq_true, String.reduceEq, true_or, or_true, tPar, tAug, ipI, tDNotIn, sDPut, tDGet, tTup, tLst, tBM, tBM0]
      refine ⟨lst_ty hcs, _, .inl (.inl (.inl hcs)), l, _, rfl, hpl, ?_, ?_⟩
      · rw [List.length_map]; omega
      · intro i H2 hi0 hi hb2 hpl2
        rw [List.length_map] at hi
        have hcs2 := hb2 r _ (Ne.symm hlr) hcs
        obtain ⟨c, hc⟩ : ∃ c, cs[i.toNat]? = some c := ⟨_, List.getElem?_eq_getElem (by omega)⟩
        refine ⟨_, hcs2, hi0, by omega, .str (sgn c), by rw [List.getElem?_map, hc]; rfl, _, rfl, ?_, ?_⟩
        · rw [show (sgn c).length = 1 from rfl]
          exact szle (m := 100) (by omega)
        · have pm := erase_perm hc
          have hm : ((z ++ sgn c).cps.toList ++ cs.eraseIdx i.toNat).Perm (z.cps.toList ++ cs) := by
            rw [snoc_cps, List.append_assoc]
            exact List.Perm.append_left _ pm
          refine ⟨z ++ sgn c, cs.eraseIdx i.toNat, _, rfl, ?_, ?_, ?_, by rw [snoc_len, hz], ?_, hm.nodup_iff.mpr hnd, fun c' hc' => hlow c' (hm.mem_iff.mp hc')⟩
          · intro b o hbl ho
            rw [upd_ne (fun e => by subst e; have := hb b o hbl ho; rw [hr0] at ho; cases ho)]
            exact hb2 b o hbl (hb b o hbl ho)
          · obtain ⟨js2, h2⟩ := hpl2
            exact ⟨js2, by rw [upd_ne hlr]; exact h2⟩
          · rw [upd_same, mapErase]
          · rw [List.length_eraseIdx_of_lt (by omega)]
            omega
    · rintro σ H1 ⟨z, cs, x4, rfl, hb, hpl, hcs, hz, hck, hnd, hlow⟩
      refine ⟨_, rfl, q z H1 ⟨by omega, by omega, (List.nodup_append.mp hnd).1, fun c hc => hlow c (List.mem_append_left _ hc)⟩ (by omega) hb hpl⟩

theorem sc__law_same : FnScope ["one", "other"] ["one", "other"] (defScope (topS 32)) := ⟨rfl, rfl, rfl, by decide +kernel, rfl, by decide +kernel, by decide +kernel⟩
theorem bd__law_same {K : PySem.W.Frag} {f : Addr} {fd : FuncData} (F : FnP K "_law_same" (topS 32) f fd) : Binds K fd ["one", "other"] [] := F.bindsN fun _ _ _ _ _ _ us hl => match us, hl with | [_, _], _ => rfl
def spSm : Sp := fun vs H Q _ => ∃ v, vs = [v, v] ∧ (v = .non ∨ ∃ t, v = .str t ∧ t.length ≤ 90000 ∧ ∀ c ∈ t.cps.toList, c < 128) ∧ Q (.bl true) H
theorem ok__law_same (T : Tx K mg) : Dk P w K mg base 1 "_law_same" ["one", "other"] spSm := by
  obtain ⟨fd, F⟩ := T.d__law_same
  refine ⟨⟨fd, F.ok sc__law_same (fun vs H Q E h => ?_) (fun cdv A outer s H vs Q E hr h => ?_), bd__law_same F⟩, F.kp, T.g__law_same⟩
  · obtain ⟨v, rfl, _⟩ := h
    rfl
  · obtain ⟨v, rfl, hv, q⟩ := h
    refine ⟨_, PSs.nox (pss_one (ps_ret (pe_and (pe_cmpR op_eq (pv 0) (pv 1) (nomark _)) (pe_one (pe_cmpR op_eq (pe_callB call_reprP (by rfl) T.f_repr (by decide +kernel) (pa_cons (pv 0) pa_nil)) (pe_callB call_reprP (by rfl) T.f_repr (by decide +kernel) (pa_cons (pv 1) pa_nil)) (nomark _)))))), ?_⟩
    rcases hv with rfl | ⟨t, rfl, ht, hlow⟩
    · simp only [cxOf, tYes, eq_self, if_true, if_false, wipe, rLenQ, rIxTQ, rIxLQ, rIxSQ, rInt1Q, rTupQ, rAppQ, rPopQ, rPopAtQ, rRevQ, rListS, rReprP, tLenSetT, tChain, tRetN, tRet, tSeq, tAsg, gName, tVar, tC, tCons, tNil, tCB, tOp, rI0, rI, tAndV, tOrV, tNotV, tIf, tTest, tB, tNot, tAnd, tOr, tIfS, tNext, tCallR, rIsK, rEq, rNe, tDrop, L2.start, List.map_cons, List.map_nil, List.length_cons, List.length_nil, Nat.reduceAdd, Nat.reduceSub, Nat.sub_self, List.replicate_zero, List.replicate_succ, List.append_nil, List.cons_append, List.nil_append, List.getElem?_cons_zero, List.getElem?_cons_succ, List.set_cons_zero, List.set_cons_succ, Option.some.injEq, List.cons.injEq, and_true, true_and, exists_eq_left, exists_eq_left', exists_eq_right, V.ty.injEq, V.int.injEq, V.bl.injEq, V.str.injEq, V.ref.injEq, exists_and_left, exists_const, reduceIte, reduceCtorEq, false_and, and_false, exists_false, or_false, false_or, Bool.not_true, Bool.not_false, Bool.false_eq_true, String.reduceEq, true_or, or_true, tPar, tAug, ipI, tDNotIn, sDPut, tDGet, tTup, tLst, tBM, tBM0]
      refine ⟨rfl, ifT (by simp) ⟨rfl, ?_⟩⟩
      exact q
    · have hsz : (reprText t).length ≤ sizeLine := Nat.le_trans (StrLaws.reprText_len t fun c hc => Nat.lt_of_lt_of_le (hlow c hc) (by decide)) (szle (m := 1000000) (by omega))
      simp only [cxOf, tYes, eq_self, if_true, if_false, wipe, rLenQ, rIxTQ, rIxLQ, rIxSQ, rInt1Q, rTupQ, rAppQ, rPopQ, rPopAtQ, rRevQ, rListS, rReprP, tLenSetT, tChain, tRetN, tRet, tSeq, tAsg, gName, tVar, tC, tCons, tNil, tCB, tOp, rI0, rI, tAndV, tOrV, tNotV, tIf, tTest, tB, tNot, tAnd, tOr, tIfS, tNext, tCallR, rIsK, rEq, rNe, tDrop, L2.start, List.map_cons, List.map_nil, List.length_cons, List.length_nil, Nat.reduceAdd, Nat.reduceSub, Nat.sub_self, List.replicate_zero, List.replicate_succ, List.append_nil, List.cons_append, List.nil_append, List.getElem?_cons_zero, List.getElem?_cons_succ, List.set_cons_zero, List.set_cons_succ, Option.some.injEq, List.cons.injEq, and_true, true_and, exists_eq_left, exists_eq_left', exists_eq_right, V.ty.injEq, V.int.injEq, V.bl.injEq, V.str.injEq, V.ref.injEq, exists_and_left, exists_const, reduceIte, reduceCtorEq, false_and, and_false, exists_false, or_false, false_or, Bool.not_true, Bool.not_false, Bool.false_eq_true, String.reduceEq, true_or, or_true, tPar, tAug, ipI, tDNotIn, sDPut, tDGet, tTup, tLst, tBM, tBM0]
      refine ⟨rfl, ifT (by simp) ⟨hsz, hsz, rfl, ?_⟩⟩
      exact q

end
end K36

namespace K36
open PySem PySem.Spec PyProof.Rows L2 Sg
section
variable {P : Program} {w : World} {K : PySem.W.Frag} {mg : Str → Option Value} {base : Heap}
theorem sc__law_drawn_looker : FnScope ["pool", "signs", "many", "one", "rows", "at", "p", "row", "end", "sign"] ["pool", "signs", "many", "one"] (defScope (topS 33)) := ⟨rfl, rfl, rfl, by decide +kernel, rfl, by decide +kernel, by decide +kernel⟩
theorem bd__law_drawn_looker {K : PySem.W.Frag} {f : Addr} {fd : FuncData} (F : FnP K "_law_drawn_looker" (topS 33) f fd) : Binds K fd ["pool", "signs", "many", "one"] [] := F.bindsN fun _ _ _ _ _ _ us hl => match us, hl with | [_, _, _, _], _ => rfl
def spDl (K : PySem.W.Frag) : Sp := fun vs H Q _ => ∃ l z m o, vs = [.ref l, .str z, .int m, .bl o] ∧ PoolL H l ∧ SignsOk z ∧ 1 ≤ m ∧ m ≤ 19 ∧ ∀ v rs H', RLk K H' v z rs → RowsOk z.length rs → (rs.length : Int) = m → But l H H' → PoolL H' l → Q v H'
theorem tk_upd {H : Hp} {D : Addr} {o : HO} (nt : ∀ ys, H D ≠ some (.tup ys)) (nf : ∀ q v, H D ≠ some (.frz q v)) : TK H (upd H D o) :=
  ⟨fun b xs h => by rw [upd_ne (fun z => nt xs (by rw [← z]; exact h))]; exact h, fun b q v h => by rw [upd_ne (fun z => nf q v (by rw [← z]; exact h))]; exact h⟩
structure DlH (K : PySem.W.Frag) (H : Hp) (l rr : Addr) (z : Str) (m : Int) (p : Nat) (H' : Hp) (vs : List V) (rs : List LRow) : Prop where
  but : But l H H'
  pool : PoolL H' l
  list : H' rr = some (.lst vs)
  pr : Paired (RSt K H') vs rs
  len : rs.length = p
  ok : ∀ r ∈ rs, (r.1 = 0 ∨ r.1 = 1) ∧ r.2.length = z.length ∧ ∀ q ∈ r.2, 0 ≤ q ∧ q < m
section
variable {H H1 H2 : Hp} {l rr D : Addr} {z : Str} {m : Int} {p : Nat} {vs : List V} {rs : List LRow} {o : HO}
theorem DlH.put (h : DlH K H l rr z m p H1 vs rs) (h0 : H D = none) (h1 : l ≠ D) (h2 : rr ≠ D) (nt : ∀ ys, H1 D ≠ some (.tup ys)) (nf : ∀ q v, H1 D ≠ some (.frz q v)) : DlH K H l rr z m p (upd H1 D o) vs rs := by
  refine ⟨fun b x hb hx => ?_, ?_, by rw [upd_ne h2]; exact h.list, pr_mono h.pr fun _ _ r => r.mono (tk_upd nt nf), h.len, h.ok⟩
  · rw [upd_ne (ne_of_none hx h0)]
    exact h.but b x hb hx
  · obtain ⟨js, e⟩ := h.pool
    exact ⟨js, by rw [upd_ne h1]; exact e⟩
theorem DlH.free (h : DlH K H l rr z m p H1 vs rs) (h0 : H1 D = none) : l ≠ D ∧ rr ≠ D ∧ H D = none := by
  obtain ⟨js, e⟩ := h.pool
  refine ⟨ne_of_none e h0, ne_of_none h.list h0, ?_⟩
  cases hd : H D with
  | none => rfl
  | some x =>
    have := h.but D x (Ne.symm (ne_of_none e h0)) hd
    rw [h0] at this
    cases this
theorem DlH.fresh (h : DlH K H l rr z m p H1 vs rs) (h0 : H1 D = none) : DlH K H l rr z m p (upd H1 D o) vs rs :=
  h.put (h.free h0).2.2 (h.free h0).1 (h.free h0).2.1 (fun _ => by rw [h0]; nofun) (fun _ _ => by rw [h0]; nofun)
theorem DlH.draw (h : DlH K H l rr z m p H1 vs rs) (hne : rr ≠ l) (b : But l H1 H2) (hp : PoolL H2 l) : DlH K H l rr z m p H2 vs rs := by
  obtain ⟨js, e⟩ := h.pool
  exact ⟨fun c x hc hx => b c x hc (h.but c x hc hx), hp, b rr _ hne h.list, pr_mono h.pr fun _ _ r => r.mono (TK.of_but b e), h.len, h.ok⟩
end
theorem dl_tail {R : Hp → Prop} {H H2 : Hp} {l rr A : Addr} {z : Str} {m e : Int} {p : Nat} {vs : List V} {rs : List LRow} {acc : List Int} (h : DlH K H l rr z m p H2 vs rs) (hA : H2 A = some (.lst (acc.map V.int))) (hlen : acc.length = z.length) (hb : ∀ q ∈ acc, 0 ≤ q ∧ q < m) (he : e = 0 ∨ e = 1) (hz : H rr = none) (hp : p < 1000) (hlr : l ≠ rr)
    (hq : ∀ H3 vs' rs', DlH K H l rr z m (p + 1) H3 vs' rs' → R H3) :
    tyV K "list" (.ref rr) H2 ∧ ∃ ys, SqL K H2 A ys ∧ ∀ T1, H2 T1 = none → 2 ≤ sizeLine ∧ ∀ T2, upd H2 T1 (.tup ys) T2 = none → ∃ xs, (upd (upd H2 T1 (.tup ys)) T2 (.tup [.int e, .ref T1])) rr = some (.lst xs) ∧ xs.length < sizeLine ∧
      R (upd (upd (upd H2 T1 (.tup ys)) T2 (.tup [.int e, .ref T1])) rr (.lst (xs ++ [.ref T2]))) := by
  refine ⟨lst_ty h.list, _, .inl (.inl hA), fun T1 hT1 => ⟨szle (m := 2) (Nat.le_refl _), fun T2 hT2 => ?_⟩⟩
  have g1 := h.fresh (o := .tup (acc.map V.int)) hT1
  have g2 := g1.fresh (o := .tup [.int e, .ref T1]) hT2
  refine ⟨vs, g2.list, ?_, hq _ (vs ++ [.ref T2]) (rs ++ [(e, acc)]) ?_⟩
  · have := pr_len h.pr
    rw [this, h.len]
    exact szlt (m := 1000) (by omega)
  · have t1 : (upd (upd H2 T1 (.tup (acc.map V.int))) T2 (.tup [.int e, .ref T1])) T1 = some (.tup (acc.map V.int)) := same_upd hT2 _ _ upd_same
    have t2 : (upd (upd H2 T1 (.tup (acc.map V.int))) T2 (.tup [.int e, .ref T1])) T2 = some (.tup [.int e, .ref T1]) := upd_same
    have k : TK (upd (upd H2 T1 (.tup (acc.map V.int))) T2 (.tup [.int e, .ref T1])) (upd (upd (upd H2 T1 (.tup (acc.map V.int))) T2 (.tup [.int e, .ref T1])) rr (.lst (vs ++ [.ref T2]))) :=
      tk_upd (fun _ => by rw [g2.list]; nofun) (fun _ _ => by rw [g2.list]; nofun)
    refine ⟨fun b x hb hx => ?_, ?_, upd_same, pr_snoc (pr_mono g2.pr fun _ _ r => r.mono k) ⟨T2, T1, rfl, k.sqT (.inl (.inl t2)), k.sqT (.inl (.inl t1))⟩, by rw [List.length_append, h.len]; rfl, ?_⟩
    · rw [upd_ne (ne_of_none hx hz)]
      exact g2.but b x hb hx
    · obtain ⟨js, e⟩ := g2.pool
      exact ⟨js, by rw [upd_ne hlr]; exact e⟩
    · intro r hr
      rcases List.mem_append.mp hr with hr | hr
      · exact h.ok r hr
      · obtain rfl := List.mem_singleton.mp hr
        exact ⟨he, hlen, hb⟩
def DlI (K : PySem.W.Frag) (H : Hp) (l rr : Addr) (z : Str) (m : Int) (o : Bool) (at' : Int) (p : Nat) (σ : L2.St) (H' : Hp) : Prop :=
  ∃ vs rs x6 x7 x8 x9, DlH K H l rr z m p H' vs rs ∧ σ = [some (.ref l), some (.str z), some (.int m), some (.bl o), some (.ref rr), some (.int at'), x6, x7, x8, x9]
def DlL (K : PySem.W.Frag) (H : Hp) (l rr : Addr) (z : Str) (m : Int) (p : Nat) (A : Addr) (i : Nat) (H' : Hp) : Prop :=
  ∃ vs rs, ∃ acc : List Int, DlH K H l rr z m p H' vs rs ∧ H' A = some (.lst (acc.map V.int)) ∧ acc.length = i ∧ ∀ q ∈ acc, 0 ≤ q ∧ q < m
theorem dl_step {H H2 : Hp} {l rr A : Addr} {z : Str} {m : Int} {p i : Nat} {acc : List Int} {vs : List V} {rs : List LRow} (h : DlH K H l rr z m p H2 vs rs) (hA : H2 A = some (.lst (acc.map V.int))) (hlen : acc.length = i) (hb : ∀ q ∈ acc, 0 ≤ q ∧ q < m) (h1 : l ≠ A) (h2 : rr ≠ A) (h0 : H A = none) (hi : i < 1000) {y : Int} (hy : 0 ≤ y ∧ y < m) :
    ∃ a, H2 A = some (.lst a) ∧ a.length < sizeLine ∧ DlL K H l rr z m p A (i + 1) (upd H2 A (.lst (a ++ [.int y]))) := by
  refine ⟨_, hA, by rw [List.length_map, hlen]; exact szlt (m := 1000) (by omega), vs, rs, acc ++ [y], h.put h0 h1 h2 (fun _ => by rw [hA]; nofun) (fun _ _ => by rw [hA]; nofun), by rw [upd_same, List.map_append]; rfl, by rw [List.length_append, hlen]; rfl, fun q hq => ?_⟩
  rcases List.mem_append.mp hq with hq | hq
  · exact hb q hq
  · obtain rfl := List.mem_singleton.mp hq
    exact hy
theorem ok__law_drawn_looker (T : Tx K mg) : Dk P w K mg base 2 "_law_drawn_looker" ["pool", "signs", "many", "one"] (spDl K) := by
  have D__law_draw := ok__law_draw (P := P) (w := w) (base := base) T
  obtain ⟨fd, F⟩ := T.d__law_drawn_looker
  refine ⟨⟨fd, F.ok sc__law_drawn_looker (fun vs H Q E h => ?_) (fun cdv A outer s H vs Q E hr h => ?_), bd__law_drawn_looker F⟩, F.kp, T.g__law_drawn_looker⟩
  · obtain ⟨l, z, m, o, rfl, _⟩ := h
    rfl
  · obtain ⟨l, z, m, o, rfl, ⟨js, hp⟩, hz, hm1, hm2, q⟩ := h
    refine ⟨_, PSs.nox (pss_cons (ps_set (i := 4) sc__law_drawn_looker.nd rfl (.inl rfl) (pe_lst pa_nil))
      (pss_cons (ps_set (i := 5) sc__law_drawn_looker.nd rfl (.inl rfl) (pe_callR D__law_draw (hr.mono (by decide)) takes0 (pa_cons (pv 0) (pa_cons (pv 2) pa_nil))))
      (pss_cons (ps_for PassesOwn.never rfl (pi_range1 (by rfl) T.f_range (pa_cons (pv 2) pa_nil)) (pg_name (i := 6) sc__law_drawn_looker.nd rfl (.inr rfl)) (pss_cons (ps_setLc (i := 7) (own := [("sign", 9)]) rfl sc__law_drawn_looker.nd rfl rfl (sw_true rfl rfl rfl (by decide +kernel)) (pi_str (pv 1)) (blkOk_by (own := [("sign", 9)]) (N := ["pool", "signs", "many", "one", "rows", "at", "p", "row", "end", "sign"]) (sc := defScope (topS 33)) (by decide +kernel)) (fun _ _ _ _ _ => (pg_name (i := 9) sc__law_drawn_looker.nd rfl (.inl rfl))) (fun _ _ _ _ _ => pts_nil) (fun _ _ _ _ _ => (pe_op op_mod (pe_op op_add (pv 6) pe_int) (pv 2))))
      (pss_cons (ps_set (i := 8) sc__law_drawn_looker.nd rfl (.inl rfl) (pe_callTy call_int1Q (by rfl) T.f_int PyProof.Rows.boot_int (pa_cons (pe_cmpR op_eq (pv 6) (pv 5) (nomark _)) pa_nil)))
      (pss_cons (ps_if (pt_not (pt_val (pv 3))) (pss_cons (ps_setLc (i := 7) (own := [("sign", 9)]) rfl sc__law_drawn_looker.nd rfl rfl (sw_true rfl rfl rfl (by decide +kernel)) (pi_str (pv 1)) (blkOk_by (own := [("sign", 9)]) (N := ["pool", "signs", "many", "one", "rows", "at", "p", "row", "end", "sign"]) (sc := defScope (topS 33)) (by decide +kernel)) (fun _ _ _ _ _ => (pg_name (i := 9) sc__law_drawn_looker.nd rfl (.inl rfl))) (fun _ _ _ _ _ => pts_nil) (fun _ _ _ _ _ => (pe_callR D__law_draw (hr.mono (by decide)) takes0 (pa_cons (pv 0) (pa_cons (pv 2) pa_nil)))))
      (pss_one (ps_set (i := 8) sc__law_drawn_looker.nd rfl (.inl rfl) (pe_callTy call_int1Q (by rfl) T.f_int PyProof.Rows.boot_int (pa_cons (pe_cmpR op_eq (pe_callR D__law_draw (hr.mono (by decide)) takes0 (pa_cons (pv 0) (pa_cons pe_int pa_nil))) pe_int (nomark _)) pa_nil))))) pss_nil)
      (pss_one (ps_expr (pe_bm PySem.F.plainAttrs_list PySem.F.slot_list_append PySem.F.type_list_append mt_appQ (pv 4) (pa_cons (pe_tup (pa_cons (pv 8) (pa_cons (pe_callTy call_tupQ (by rfl) T.f_tuple PyProof.Rows.boot_tuple (pa_cons (pv 7) pa_nil)) pa_nil))) pa_nil))))))))
      (pss_one (ps_ret (pe_tup (pa_cons (pv 1) (pa_cons (pe_callTy call_tupQ (by rfl) T.f_tuple PyProof.Rows.boot_tuple (pa_cons (pv 4) pa_nil)) pa_nil)))))))), ?_⟩
    simp only [cxOf, tYes, eq_self, if_true, if_false, wipe, rLenQ, rIxTQ, rIxLQ, rIxSQ, rInt1Q, rTupQ, rAppQ, rPopQ, rPopAtQ, rRevQ, rListS, rReprP, tLenSetT, tChain, tRetN, tRet, tSeq, tAsg, gName, tVar, tC, tCons, tNil, tCB, tOp, rI0, rI, tAndV, tOrV, tNotV, tIf, tTest, tB, tNot, tAnd, tOr, tIfS, tNext, tCallR, rIsK, rEq, rNe, tDrop, L2.start, List.map_cons, List.map_nil, List.length_cons, List.length_nil, Nat.reduceAdd, Nat.reduceSub, Nat.sub_self, List.replicate_zero, List.replicate_succ, List.append_nil, List.cons_append, List.nil_append, List.getElem?_cons_zero, List.getElem?_cons_succ, List.set_cons_zero, List.set_cons_succ, Option.some.injEq, List.cons.injEq, and_true, true_and, exists_eq_left, exists_eq_left', exists_eq_right, V.ty.injEq, V.int.injEq, V.bl.injEq, V.str.injEq, V.ref.injEq, exists_and_left, exists_const, reduceIte, reduceCtorEq, false_and, and_false, exists_false, or_false, false_or, Bool.not_true, Bool.not_false, Bool.false_eq_true, String.reduceEq, true_or, or_true, tPar, tAug, ipI, tDNotIn, sDPut, tDGet, tTup, tLst, tBM, tBM0]
    refine ⟨Nat.zero_le _, fun rr hr0 => ?_⟩
    have hlr : l ≠ rr := ne_of_none hp hr0
    refine ⟨l, m, rfl, ⟨js, by rw [upd_ne hlr]; exact hp⟩, by omega, fun at' H1 ha0 ha1 hb hpl => ?_⟩
    have d0 : DlH K H l rr z m 0 H1 [] [] := ⟨fun b o hb1 ho => hb b o hb1 (same_upd hr0 b o ho), hpl, hb rr _ (Ne.symm hlr) upd_same, .nil, rfl, fun r hr => nomatch hr⟩
    refine ⟨.int m, rfl, m, rfl, by omega, by omega, ?_⟩
    refine for_range (DlI K H l rr z m o at') ⟨[], [], none, none, none, none, d0, rfl⟩ ?_ ?_
    · rintro p σ H2 hp2 ⟨vs, rs, x6, x7, x8, x9, d, rfl⟩
      have e0 : (0 : Int) + (p : Int) = (p : Int) := Int.zero_add _
      rw [e0]
      simp only [cxOf, tYes, eq_self, if_true, if_false, wipe, rLenQ, rIxTQ, rIxLQ, rIxSQ, rInt1Q, rTupQ, rAppQ, rPopQ, rPopAtQ, rRevQ, rListS, rReprP, tLenSetT, tChain, tRetN, tRet, tSeq, tAsg, gName, tVar, tC, tCons, tNil, tCB, tOp, rI0, rI, tAndV, tOrV, tNotV, tIf, tTest, tB, tNot, tAnd, tOr, tIfS, tNext, tCallR, rIsK, rEq, rNe, tDrop, L2.start, List.map_cons, List.map_nil, List.length_cons, List.length_nil, Nat.reduceAdd, Nat.reduceSub, Nat.sub_self, List.replicate_zero, List.replicate_succ, List.append_nil, List.cons_append, List.nil_append, List.getElem?_cons_zero, List.getElem?_cons_succ, List.set_cons_zero, List.set_cons_succ, Option.some.injEq, List.cons.injEq, and_true, true_and, exists_eq_left, exists_eq_left', exists_eq_right, V.ty.injEq, V.int.injEq, V.bl.injEq, V.str.injEq, V.ref.injEq, exists_and_left, exists_const, reduceIte, reduceCtorEq, false_and, and_false, exists_false, or_false, false_or, Bool.not_true, Bool.not_false, Bool.false_eq_true, String.reduceEq, true_or, or_true, tPar, tAug, ipI, tDNotIn, sDPut, tDGet, tTup, tLst, tBM, tBM0]
      have hz5 := hz.top
      have size : z.cps.size = z.length := rfl
      refine ⟨.str z, rfl, z, rfl, fun A hA0 => ?_⟩
      have fA := d.free hA0
      have d1 := d.fresh (o := .lst []) hA0
      refine lc_gen (n := z.cps.size) (DlL K H l rr z m p A) ⟨vs, rs, [], d1, upd_same, rfl, fun q hq => nomatch hq⟩ (fun i H' hi _ => hi) (fun H' _ => Nat.le_refl _) ?_ ?_
      · rintro i x H3 H4 hi ⟨vs, rs, acc, dd, hacc, hlen, hbb⟩ ⟨rfl, c, hc, rfl⟩
        simp only [cxOf, tYes, eq_self, if_true, if_false, wipe, rLenQ, rIxTQ, rIxLQ, rIxSQ, rInt1Q, rTupQ, rAppQ, rPopQ, rPopAtQ, rRevQ, rListS, rReprP, tLenSetT, tChain, tRetN, tRet, tSeq, tAsg, gName, tVar, tC, tCons, tNil, tCB, tOp, rI0, rI, tAndV, tOrV, tNotV, tIf, tTest, tB, tNot, tAnd, tOr, tIfS, tNext, tCallR, rIsK, rEq, rNe, tDrop, L2.start, List.map_cons, List.map_nil, List.length_cons, List.length_nil, Nat.reduceAdd, Nat.reduceSub, Nat.sub_self, List.replicate_zero, List.replicate_succ, List.append_nil, List.cons_append, List.nil_append, List.getElem?_cons_zero, List.getElem?_cons_succ, List.set_cons_zero, List.set_cons_succ, Option.some.injEq, List.cons.injEq, and_true, true_and, exists_eq_left, exists_eq_left', exists_eq_right, V.ty.injEq, V.int.injEq, V.bl.injEq, V.str.injEq, V.ref.injEq, exists_and_left, exists_const, reduceIte, reduceCtorEq, false_and, and_false, exists_false, or_false, false_or, Bool.not_true, Bool.not_false, Bool.false_eq_true, String.reduceEq, true_or, or_true, tPar, tAug, ipI, tDNotIn, sDPut, tDGet, tTup, tLst, tBM, tBM0]
        refine ⟨by omega, ?_⟩
        exact dl_step dd hacc hlen hbb fA.1 fA.2.1 fA.2.2 (by omega) ⟨Int.emod_nonneg _ (by omega), Int.emod_lt_of_pos _ (by omega)⟩
      · rintro H3 ⟨vs, rs, acc, dd, hacc, hlen, hbb⟩
        refine ⟨rfl, ?_⟩
        cases o with
        | true =>
          refine ifF rfl ?_
          refine dl_tail (R := fun H3 => DlI K H l rr z m true at' (p + 1) _ H3) dd hacc (by rw [hlen]; rfl) hbb (by split <;> simp) hr0 (by omega) hlr ?_
          intro H4 vs' rs' d4
          exact ⟨vs', rs', _, _, _, _, d4, rfl⟩
        | false =>
          refine ifT rfl ?_
          refine ⟨.str z, rfl, z, rfl, fun B hB0 => ?_⟩
          have fB := dd.free hB0
          have dB := dd.fresh (o := .lst []) hB0
          refine lc_gen (n := z.cps.size) (DlL K H l rr z m p B) ⟨vs, rs, [], dB, upd_same, rfl, fun q hq => nomatch hq⟩ (fun i H' hi _ => hi) (fun H' _ => Nat.le_refl _) ?_ ?_
          · rintro i x H5 H4 hi ⟨vs, rs, acc, d5, hacc, hlen, hbb⟩ ⟨rfl, c, hc, rfl⟩
            simp only [cxOf, tYes, eq_self, if_true, if_false, wipe, rLenQ, rIxTQ, rIxLQ, rIxSQ, rInt1Q, rTupQ, rAppQ, rPopQ, rPopAtQ, rRevQ, rListS, rReprP, tLenSetT, tChain, tRetN, tRet, tSeq, tAsg, gName, tVar, tC, tCons, tNil, tCB, tOp, rI0, rI, tAndV, tOrV, tNotV, tIf, tTest, tB, tNot, tAnd, tOr, tIfS, tNext, tCallR, rIsK, rEq, rNe, tDrop, L2.start, List.map_cons, List.map_nil, List.length_cons, List.length_nil, Nat.reduceAdd, Nat.reduceSub, Nat.sub_self, List.replicate_zero, List.replicate_succ, List.append_nil, List.cons_append, List.nil_append, List.getElem?_cons_zero, List.getElem?_cons_succ, List.set_cons_zero, List.set_cons_succ, Option.some.injEq, List.cons.injEq, and_true, true_and, exists_eq_left, exists_eq_left', exists_eq_right, V.ty.injEq, V.int.injEq, V.bl.injEq, V.str.injEq, V.ref.injEq, exists_and_left, exists_const, reduceIte, reduceCtorEq, false_and, and_false, exists_false, or_false, false_or, Bool.not_true, Bool.not_false, Bool.false_eq_true, String.reduceEq, true_or, or_true, tPar, tAug, ipI, tDNotIn, sDPut, tDGet, tTup, tLst, tBM, tBM0]
            refine ⟨l, m, rfl, d5.pool, by omega, fun r H6 hr0' hr1 hb6 hp6 => ?_⟩
            exact dl_step (d5.draw (Ne.symm hlr) hb6 hp6) (hb6 B _ (Ne.symm fB.1) hacc) hlen hbb fB.1 fB.2.1 fB.2.2 (by omega) ⟨hr0', hr1⟩
          · rintro H5 ⟨vs, rs, acc, d5, hacc, hlen, hbb⟩
            refine ⟨l, 4, rfl, d5.pool, by omega, fun r H6 hr0' hr1 hb6 hp6 => ⟨rfl, ?_⟩⟩
            have d6 := d5.draw (Ne.symm hlr) hb6 hp6
            refine dl_tail (R := fun H3 => DlI K H l rr z m false at' (p + 1) _ H3) d6 (hb6 B _ (Ne.symm fB.1) hacc) (by rw [hlen]; rfl) hbb (by split <;> simp) hr0 (by omega) hlr ?_
            intro H4 vs' rs' d4
            exact ⟨vs', rs', _, _, _, _, d4, rfl⟩
    · rintro σ H2 ⟨vs, rs, x6, x7, x8, x9, d, rfl⟩
      simp only [cxOf, tYes, eq_self, if_true, if_false, wipe, rLenQ, rIxTQ, rIxLQ, rIxSQ, rInt1Q, rTupQ, rAppQ, rPopQ, rPopAtQ, rRevQ, rListS, rReprP, tLenSetT, tChain, tRetN, tRet, tSeq, tAsg, gName, tVar, tC, tCons, tNil, tCB, tOp, rI0, rI, tAndV, tOrV, tNotV, tIf, tTest, tB, tNot, tAnd, tOr, tIfS, tNext, tCallR, rIsK, rEq, rNe, tDrop, L2.start, List.map_cons, List.map_nil, List.length_cons, List.length_nil, Nat.reduceAdd, Nat.reduceSub, Nat.sub_self, List.replicate_zero, List.replicate_succ, List.append_nil, List.cons_append, List.nil_append, List.getElem?_cons_zero, List.getElem?_cons_succ, List.set_cons_zero, List.set_cons_succ, Option.some.injEq, List.cons.injEq, and_true, true_and, exists_eq_left, exists_eq_left', exists_eq_right, V.ty.injEq, V.int.injEq, V.bl.injEq, V.str.injEq, V.ref.injEq, exists_and_left, exists_const, reduceIte, reduceCtorEq, false_and, and_false, exists_false, or_false, false_or, Bool.not_true, Bool.not_false, Bool.false_eq_true, String.reduceEq, true_or, or_true, tPar, tAug, ipI, tDNotIn, sDPut, tDGet, tTup, tLst, tBM, tBM0]
      refine ⟨vs, .inl (.inl d.list), fun T1 hT1 => ⟨szle (m := 2) (Nat.le_refl _), fun T2 hT2 => ?_⟩⟩
      have g1 := d.fresh (o := .tup vs) hT1
      have g2 := g1.fresh (o := .tup [.str z, .ref T1]) hT2
      have t1 : (upd (upd H2 T1 (.tup vs)) T2 (.tup [.str z, .ref T1])) T1 = some (.tup vs) := same_upd hT2 _ _ upd_same
      have hl : (rs.length : Int) = m := by rw [d.len]; omega
      refine q _ rs _ ⟨T2, T1, rfl, .inl (.inl upd_same), vs, .inl (.inl t1), g2.pr⟩ ⟨by omega, by omega, fun r hr => (d.ok r hr).1, fun r hr => (d.ok r hr).2.1, fun r hr q hq => ?_⟩ hl g2.but g2.pool
      rw [hl]
      exact (d.ok r hr).2.2 q hq
end
end K36

namespace K36
open PySem PySem.Spec PyProof.Rows L2 Sg
section
variable {P : Program} {w : World} {K : PySem.W.Frag} {mg : Str → Option Value} {base : Heap}
theorem sc__law_changed : FnScope ["pool", "looker", "signs", "states", "at", "end", "row", "x", "new"] ["pool", "looker"] (defScope (topS 34)) := ⟨rfl, rfl, rfl, by decide +kernel, rfl, by decide +kernel, by decide +kernel⟩
theorem bd__law_changed {K : PySem.W.Frag} {f : Addr} {fd : FuncData} (F : FnP K "_law_changed" (topS 34) f fd) : Binds K fd ["pool", "looker"] [] := F.bindsN fun _ _ _ _ _ _ us hl => match us, hl with | [_, _], _ => rfl
/-- what is drawn from one pool -/
structure Kp (l : Addr) (H H' : Hp) : Prop where
  but : But l H H'
  pool : PoolL H' l
theorem Kp.start {l : Addr} {H : Hp} (h : PoolL H l) : Kp l H H := ⟨But.refl _ _, h⟩
theorem Kp.same {l : Addr} {H H1 H2 : Hp} (k : Kp l H H1) (s : Same H1 H2) : Kp l H H2 := ⟨k.but.trans (But.of_same s), by obtain ⟨js, e⟩ := k.pool; exact ⟨js, s _ _ e⟩⟩
theorem Kp.draw {l : Addr} {H H1 H2 : Hp} (k : Kp l H H1) (b : But l H1 H2) (p : PoolL H2 l) : Kp l H H2 := ⟨k.but.trans b, p⟩
theorem Kp.tk {l : Addr} {H H1 : Hp} (h : PoolL H l) (k : Kp l H H1) : TK H H1 := by
  obtain ⟨js, e⟩ := h
  exact TK.of_but k.but e
def spCg (K : PySem.W.Frag) : Sp := fun vs H Q _ => ∃ l x z rs, vs = [.ref l, x] ∧ PoolL H l ∧ RLk K H x z rs ∧ SignsOk z ∧ RowsOk z.length rs ∧ ∀ v rs' H', RLk K H' v z rs' → RowsOk z.length rs' → rs'.length = rs.length → But l H H' → PoolL H' l → Q v H'
theorem ok__law_changed (T : Tx K mg) : Dk P w K mg base 2 "_law_changed" ["pool", "looker"] (spCg K) := by
  have D__law_draw := ok__law_draw (P := P) (w := w) (base := base) T
  obtain ⟨fd, F⟩ := T.d__law_changed
  refine ⟨⟨fd, F.ok sc__law_changed (fun vs H Q E h => ?_) (fun cdv A outer s H vs Q E hr h => ?_), bd__law_changed F⟩, F.kp, T.g__law_changed⟩
  · obtain ⟨l, x, z, rs, rfl, _⟩ := h
    rfl
  · obtain ⟨l, x, z, rs, rfl, ⟨js, hp⟩, ⟨a, b, rfl, h1, hb⟩, hz, ok, q⟩ := h
    refine ⟨_, PSs.nox (pss_cons (ps_asg (pv 1) (pg_tup (by rfl) (pgs_cons (pg_name (i := 2) sc__law_changed.nd rfl (.inl rfl)) (pgs_cons (pg_name (i := 3) sc__law_changed.nd rfl (.inl rfl)) pgs_nil))))
      (pss_cons (ps_set (i := 4) sc__law_changed.nd rfl (.inl rfl) (pe_callR D__law_draw (hr.mono (by decide)) takes0 (pa_cons (pv 0) (pa_cons (pe_callB call_lenQ (by rfl) T.f_len PySem.boot_len (pa_cons (pv 3) pa_nil)) pa_nil))))
      (pss_cons (ps_asg (pe_ix ix_tupQ (pv 3) (pv 4) (fun _ _ => rfl)) (pg_tup (by rfl) (pgs_cons (pg_name (i := 5) sc__law_changed.nd rfl (.inl rfl)) (pgs_cons (pg_name (i := 6) sc__law_changed.nd rfl (.inl rfl)) pgs_nil))))
      (pss_cons (ps_set (i := 7) sc__law_changed.nd rfl (.inl rfl) (pe_callR D__law_draw (hr.mono (by decide)) takes0 (pa_cons (pv 0) (pa_cons (pe_callB call_lenQ (by rfl) T.f_len PySem.boot_len (pa_cons (pv 2) pa_nil)) pa_nil))))
      (pss_cons (ps_set (i := 8) sc__law_changed.nd rfl (.inl rfl) (pe_tup (pa_cons (pe_op op_sub pe_int (pv 5)) (pa_cons (pv 6) pa_nil))))
      (pss_cons (ps_if (pt_cmpR op_eq (pe_callR D__law_draw (hr.mono (by decide)) takes0 (pa_cons (pv 0) (pa_cons pe_int pa_nil))) pe_int (nomark _)) (pss_one (ps_set (i := 8) sc__law_changed.nd rfl (.inl rfl) (pe_tup (pa_cons (pv 5) (pa_cons (pe_op op_catA (pe_op op_catA (pe_slice sl_tupA (pv 6) po_none (po_some (pv 7))) (pe_tup (pa_cons (pe_callR D__law_draw (hr.mono (by decide)) takes0 (pa_cons (pv 0) (pa_cons (pe_callB call_lenQ (by rfl) T.f_len PySem.boot_len (pa_cons (pv 3) pa_nil)) pa_nil))) pa_nil))) (pe_slice sl_tupA (pv 6) (po_some (pe_op op_add (pv 7) pe_int)) po_none)) pa_nil))))) pss_nil)
      (pss_one (ps_ret (pe_tup (pa_cons (pv 2) (pa_cons (pe_op op_catA (pe_op op_catA (pe_slice sl_tupA (pv 3) po_none (po_some (pv 4))) (pe_tup (pa_cons (pv 8) pa_nil))) (pe_slice sl_tupA (pv 3) (po_some (pe_op op_add (pv 4) pe_int)) po_none)) pa_nil))))))))))), ?_⟩
    simp only [cxOf, tYes, eq_self, if_true, if_false, wipe, rLenQ, rIxTQ, rIxLQ, rIxSQ, rInt1Q, rTupQ, rAppQ, rPopQ, rPopAtQ, rRevQ, rListS, rReprP, tLenSetT, tChain, tRetN, tRet, tSeq, tAsg, gName, tVar, tC, tCons, tNil, tCB, tOp, rI0, rI, tAndV, tOrV, tNotV, tIf, tTest, tB, tNot, tAnd, tOr, tIfS, tNext, tCallR, rIsK, rEq, rNe, tDrop, L2.start, List.map_cons, List.map_nil, List.length_cons, List.length_nil, Nat.reduceAdd, Nat.reduceSub, Nat.sub_self, List.replicate_zero, List.replicate_succ, List.append_nil, List.cons_append, List.nil_append, List.getElem?_cons_zero, List.getElem?_cons_succ, List.set_cons_zero, List.set_cons_succ, Option.some.injEq, List.cons.injEq, and_true, true_and, exists_eq_left, exists_eq_left', exists_eq_right, V.ty.injEq, V.int.injEq, V.bl.injEq, V.str.injEq, V.ref.injEq, exists_and_left, exists_const, reduceIte, reduceCtorEq, false_and, and_false, exists_false, or_false, false_or, Bool.not_true, Bool.not_false, Bool.false_eq_true, String.reduceEq, true_or, or_true, tPar, tAug, ipI, tDNotIn, sDPut, tDGet, tTup, tLst, tBM, tBM0]
    refine ⟨a, _, rfl, h1, rfl, _, _, rfl, _, _, rfl, rfl, ?_⟩
    simp only [cxOf, tYes, eq_self, if_true, if_false, wipe, rLenQ, rIxTQ, rIxLQ, rIxSQ, rInt1Q, rTupQ, rAppQ, rPopQ, rPopAtQ, rRevQ, rListS, rReprP, tLenSetT, tChain, tRetN, tRet, tSeq, tAsg, gName, tVar, tC, tCons, tNil, tCB, tOp, rI0, rI, tAndV, tOrV, tNotV, tIf, tTest, tB, tNot, tAnd, tOr, tIfS, tNext, tCallR, rIsK, rEq, rNe, tDrop, L2.start, List.map_cons, List.map_nil, List.length_cons, List.length_nil, Nat.reduceAdd, Nat.reduceSub, Nat.sub_self, List.replicate_zero, List.replicate_succ, List.append_nil, List.cons_append, List.nil_append, List.getElem?_cons_zero, List.getElem?_cons_succ, List.set_cons_zero, List.set_cons_succ, Option.some.injEq, List.cons.injEq, and_true, true_and, exists_eq_left, exists_eq_left', exists_eq_right, V.ty.injEq, V.int.injEq, V.bl.injEq, V.str.injEq, V.ref.injEq, exists_and_left, exists_const, reduceIte, reduceCtorEq, false_and, and_false, exists_false, or_false, false_or, Bool.not_true, Bool.not_false, Bool.false_eq_true, String.reduceEq, true_or, or_true, tPar, tAug, ipI, tDNotIn, sDPut, tDGet, tTup, tLst, tBM, tBM0]
    obtain ⟨vs, hvs, hpr⟩ := hb
    have hpl : PoolL H l := ⟨js, hp⟩
    have el : vs.length = rs.length := pr_len hpr
    have hpos := ok.pos
    refine ⟨vs, .inr hvs, l, _, rfl, hpl, by omega, fun i H1 hi0 hi1 b1 p1 => ?_⟩
    obtain ⟨i, rfl⟩ : ∃ n : Nat, i = (n : Int) := ⟨i.toNat, by omega⟩
    have hi : i < rs.length := by omega
    have k1 : Kp l H H1 := (Kp.start hpl).draw b1 p1
    obtain ⟨v, hv, sa, sb, rfl, h3, h4⟩ := pr_get' hpr (List.getElem?_eq_getElem hi)
    generalize hr : rs[i] = r at h3 h4
    have hrm : r ∈ rs := by rw [← hr]; exact List.getElem_mem hi
    refine ⟨vs, (k1.tk hpl).sqT hvs, .ref sa, atI_nat hv, sa, _, rfl, (k1.tk hpl).sqT h3, rfl, _, _, rfl, _, _, rfl, rfl, ?_⟩
    simp only [cxOf, tYes, eq_self, if_true, if_false, wipe, rLenQ, rIxTQ, rIxLQ, rIxSQ, rInt1Q, rTupQ, rAppQ, rPopQ, rPopAtQ, rRevQ, rListS, rReprP, tLenSetT, tChain, tRetN, tRet, tSeq, tAsg, gName, tVar, tC, tCons, tNil, tCB, tOp, rI0, rI, tAndV, tOrV, tNotV, tIf, tTest, tB, tNot, tAnd, tOr, tIfS, tNext, tCallR, rIsK, rEq, rNe, tDrop, L2.start, List.map_cons, List.map_nil, List.length_cons, List.length_nil, Nat.reduceAdd, Nat.reduceSub, Nat.sub_self, List.replicate_zero, List.replicate_succ, List.append_nil, List.cons_append, List.nil_append, List.getElem?_cons_zero, List.getElem?_cons_succ, List.set_cons_zero, List.set_cons_succ, Option.some.injEq, List.cons.injEq, and_true, true_and, exists_eq_left, exists_eq_left', exists_eq_right, V.ty.injEq, V.int.injEq, V.bl.injEq, V.str.injEq, V.ref.injEq, exists_and_left, exists_const, reduceIte, reduceCtorEq, false_and, and_false, exists_false, or_false, false_or, Bool.not_true, Bool.not_false, Bool.false_eq_true, String.reduceEq, true_or, or_true, tPar, tAug, ipI, tDNotIn, sDPut, tDGet, tTup, tLst, tBM, tBM0]
    refine ⟨szle (m := 1000) (by have := hz.top; omega), l, _, rfl, p1, by have := hz.pos; omega, fun x H2 hx0 hx1 b2 p2 => ?_⟩
    obtain ⟨x, rfl⟩ : ∃ n : Nat, x = (n : Int) := ⟨x.toNat, by omega⟩
    have hx : x < z.length := by omega
    have k2 := k1.draw b2 p2
    refine ⟨szle (m := 2) (Nat.le_refl _), fun T1 hT1 => ?_⟩
    have s3 : Same H2 (upd H2 T1 (.tup [.int (1 - r.1), .ref sb])) := same_upd hT1
    have k3 := k2.same s3
    refine ⟨l, 2, rfl, k3.pool, by omega, fun c H4 _ _ b4 p4 => ⟨rfl, ?_⟩⟩
    have k4 := k3.draw b4 p4
    have h600 := ok.top
    have hz5 := hz.top
    have hwid := ok.wid r hrm
    -- the rest, alike in both cases
    have fin : ∀ (np sb' : Addr) (e' : Int) (row : List Int) (H5 : Hp), Kp l H H5 → SqT K H5 np [.int e', .ref sb'] → SqT K H5 sb' (row.map V.int) → (e' = 0 ∨ e' = 1) → row.length = z.length → (∀ q ∈ row, 0 ≤ q ∧ q < (rs.length : Int)) → ∀ c' H6, Same H5 H6 → SqT K H6 c' (putAt vs i (.ref np)) →
        2 ≤ sizeLine ∧ ∀ p, H6 p = none → Q (.ref p) (upd H6 p (.tup [.str z, .ref c'])) := by
      intro np sb' e' row H5 k5 hn1 hn2 he hrow hto c' H6 s6 hc'
      refine ⟨szle (m := 2) (Nat.le_refl _), fun p hp0 => ?_⟩
      have s7 : Same H6 (upd H6 p (.tup [.str z, .ref c'])) := same_upd hp0
      have k7 := (k5.same s6).same s7
      refine q _ (putAt rs i (e', row)) _ ⟨p, c', rfl, .inl (.inl upd_same), _, Same.sqT s7 hc', ?_⟩ (ok.putAt hi he hrow hto) (putAt_len _ hi) k7.but k7.pool
      refine pr_putAt (pr_mono hpr fun _ _ r => r.mono (k7.tk hpl)) ?_ i
      exact ⟨np, sb', rfl, Same.sqT s7 (Same.sqT s6 hn1), Same.sqT s7 (Same.sqT s6 hn2)⟩
    have hbit := ok.bit r hrm
    by_cases hc : c = 0
    · refine ifT (by simp [hc]) ?_
      have hrow : SqT K H4 sb (r.2.map V.int) := (k4.tk hpl).sqT h4
      refine take_use rfl rfl hrow (by rw [List.length_map]; omega) fun c1 H5 s5 g5 => ?_
      have k5 := k4.same s5
      refine ⟨vs, .inr ((k5.tk hpl).sqT hvs), l, _, rfl, k5.pool, by omega, fun d H6 hd0 hd1 b6 p6 => ?_⟩
      have k6 := k5.draw b6 p6
      obtain ⟨js5, e5⟩ := k5.pool
      have tk56 : TK H5 H6 := TK.of_but b6 e5
      refine rest_use rfl rfl ((k6.tk hpl).sqT h4) (by rw [List.length_map]; omega) (by rw [List.length_map]; omega) (tk56.sqT g5) fun p hp0 c2 H7 s7 g7 => ?_
      have k7 := k6.same s7
      refine ⟨szle (m := 2) (Nat.le_refl _), fun T2 hT2 => ?_⟩
      have s8 : Same H7 (upd H7 T2 (.tup [.int r.1, .ref c2])) := same_upd hT2
      have k8 := k7.same s8
      rw [show V.int d = (V.int : Int → V) d from rfl, putAt_map] at g7
      refine splice rfl rfl ((k8.tk hpl).sqT hvs) (by omega) (by omega) (fin T2 c2 r.1 _ _ k8 (.inl (.inl upd_same)) (Same.sqT s8 g7) hbit ?_ ?_)
      · rw [putAt_len d (by omega)]
        exact hwid
      · intro q hq
        rcases putAt_mem hq with hq | rfl
        · exact ok.to r hrm q hq
        · exact ⟨hd0, by omega⟩
    · refine ifF (by simp [hc]) ?_
      have hT4 : SqT K H4 T1 [.int (1 - r.1), .ref sb] := by
        obtain ⟨js3, e3⟩ := k3.pool
        exact (TK.of_but b4 e3).sqT (.inl (.inl upd_same))
      refine splice rfl rfl ((k4.tk hpl).sqT hvs) (by omega) (by omega) (fin T1 sb (1 - r.1) r.2 _ k4 hT4 ((k4.tk hpl).sqT h4) (by omega) hwid (ok.to r hrm))
end
end K36

namespace K36
open PySem PySem.Spec PyProof.Rows L2 Sg
/-! the law's own search: a dict of pairs met, a list of pairs and lines -/
def tuE (z : Str) (e : IP × List Nat) : HO := .tup [.int e.1.1, .int e.1.2, .str (textOf z e.2)]
structure EdgH (H0 : Hp) (me ed : Addr) (z : Str) (acc : Met IP) (H : Hp) (os : List Addr) : Prop where
  same : Same H0 H
  n1 : H0 me = none
  n2 : H0 ed = none
  dict : ∃ kvs, H me = some (.dT kvs) ∧ (∀ a, (valV kvs (kyP a)).isSome = true ↔ a ∈ acc.map Prod.fst) ∧ kvs.length ≤ acc.length
  list : H ed = some (.lst (os.map V.ref))
  ent : Paired (fun o e => H o = some (tuE z e)) os acc
section
variable {H0 H H1 H2 : Hp} {me ed T t b : Addr} {z : Str} {acc : Met IP} {os : List Addr} {o : HO}
theorem EdgH.other (c : EdgH H0 me ed z acc H os) (hT : H T = none) : EdgH H0 me ed z acc (upd H T o) os := by
  have s : Same H (upd H T o) := same_upd hT
  obtain ⟨kvs, h1, h2, h3⟩ := c.dict
  exact ⟨Same.trans c.same s, c.n1, c.n2, ⟨kvs, s _ _ h1, h2, h3⟩, s _ _ c.list, pr_mono c.ent fun o e h => s _ _ h⟩
theorem EdgH.start {s : IP} (n1 : H0 me = none) (eb : H1 b = some (tuP s)) (es : Same (upd H0 me (.dT [])) H1) (e1 : H1 me = some (.dT [])) (e2 : H2 = upd H1 me (.dT [(kyP s, .bl true)])) (n2 : H2 t = none) (n3 : (upd H2 t (tuE z (s, []))) ed = none) :
    EdgH H0 me ed z [(s, [])] (upd (upd H2 t (tuE z (s, []))) ed (.lst [.ref t])) [t] := by
  have k1 : H2 me = some (.dT [(kyP s, .bl true)]) := by rw [e2, upd_same]
  have k2 : (upd H2 t (tuE z (s, []))) me = some (.dT [(kyP s, .bl true)]) := same_upd n2 _ _ k1
  have hb : ∀ a o, H0 a = some o → a ≠ me ∧ H1 a = some o := fun a o ha => ⟨ne_of_none ha n1, es _ _ (same_upd n1 _ _ ha)⟩
  have s3 : Same (upd H2 t (tuE z (s, []))) (upd (upd H2 t (tuE z (s, []))) ed (.lst [.ref t])) := same_upd n3
  have t1 : (upd H2 t (tuE z (s, []))) t = some (tuE z (s, [])) := upd_same
  refine ⟨fun a o ha => s3 _ _ (same_upd n2 _ _ (by rw [e2, upd_ne (hb a o ha).1]; exact (hb a o ha).2)), n1, ?_, ⟨_, s3 _ _ k2, fun a => ?_, Nat.le_refl _⟩, upd_same, .cons (s3 _ _ t1) .nil⟩
  · cases e : H0 ed with
    | none => rfl
    | some o =>
      have := same_upd (o := tuE z (s, [])) n2 _ _ (show H2 ed = some o by rw [e2, upd_ne (hb ed o e).1]; exact (hb ed o e).2)
      rw [n3] at this
      cases this
  · by_cases c : s = a
    · subst c
      simp [valV]
    · have : kyP s ≠ kyP a := fun z => c (kyP_inj z)
      simp [valV, this, Ne.symm c]
/-- a pair is met, then its line stands in the list -/
theorem EdgH.add (c : EdgH H0 me ed z acc H os) {kvs : List (List Key × V)} (hd : H me = some (.dT kvs)) {y : IP} {p : List Nat} (hy : y ∉ acc.map Prod.fst) {v : V} (hT : (upd H me (.dT (putK kvs (kyP y) v))) T = none) :
    EdgH H0 me ed z (acc ++ [(y, p)]) (upd (upd (upd H me (.dT (putK kvs (kyP y) v))) T (tuE z (y, p))) ed (.lst (os.map V.ref ++ [.ref T]))) (os ++ [T]) := by
  obtain ⟨kvs', h1, h2, h3⟩ := c.dict
  have ek : kvs' = kvs := by
    rw [hd] at h1
    injection Option.some.inj h1 with e
    exact e.symm
  subst ek
  have hne : me ≠ ed := ne_of hd c.list (fun z => nomatch z)
  have hme : me ≠ T := fun e => by rw [← e, upd_same] at hT; cases hT
  have hT0 : H T = none := by rwa [upd_ne (Ne.symm hme)] at hT
  have hed : ed ≠ T := ne_of_none c.list hT0
  have keep : ∀ a x, H a = some x → a ≠ me → a ≠ ed → (upd (upd (upd H me (.dT (putK kvs' (kyP y) v))) T (tuE z (y, p))) ed (.lst (os.map V.ref ++ [.ref T]))) a = some x := fun a x ha n1 n2 => by
    rw [upd_ne n2, upd_ne (ne_of_none ha hT0), upd_ne n1]
    exact ha
  refine ⟨fun b o hb => ?_, c.n1, c.n2, ⟨putK kvs' (kyP y) v, by rw [upd_ne hne, upd_ne hme, upd_same], fun b => ?_, ?_⟩, by rw [upd_same, List.map_append]; rfl, ?_⟩
  · exact keep b o (c.same b o hb) (ne_of_none hb c.n1) (ne_of_none hb c.n2)
  · rw [valV_put, List.map_append, List.mem_append]
    by_cases e : kyP b = kyP y
    · rw [if_pos e]
      have e2 : b = y := kyP_inj e
      exact ⟨fun _ => .inr (by rw [e2]; simp), fun _ => rfl⟩
    · rw [if_neg e, h2 b]
      have e2 : b ≠ y := fun z => e (by rw [z])
      exact ⟨.inl, fun h => h.elim id fun h => absurd (by simpa using h) e2⟩
  · have := length_putK kvs' (kyP y) v
    rw [List.length_append]
    simp
    omega
  · refine pr_snoc (pr_mono c.ent fun o e h => keep _ _ h (ne_of h hd (fun z => nomatch z)) (ne_of h c.list (fun z => nomatch z))) ?_
    rw [upd_ne (Ne.symm hed), upd_same]
end
section
variable {P : Program} {w : World} {K : PySem.W.Frag} {mg : Str → Option Value} {base : Heap}
theorem sc__law_first : FnScope ["one", "other", "unlike", "met", "edge", "k", "p", "q", "line", "x", "pair"] ["one", "other", "unlike"] (defScope (topS 35)) := ⟨rfl, rfl, rfl, by decide +kernel, rfl, by decide +kernel, by decide +kernel⟩
theorem bd__law_first {K : PySem.W.Frag} {f : Addr} {fd : FuncData} (F : FnP K "_law_first" (topS 35) f fd) : Binds K fd ["one", "other", "unlike"] [] := F.bindsN fun _ _ _ _ _ _ us hl => match us, hl with | [_, _, _], _ => rfl
def tstL (u : Bool) (r1 r2 : List LRow) (p : IP) : Bool := decide (endAt r1 p.1 ≠ if u then endAt r2 p.2 else 0)
def lawR (u : Bool) (z : Str) (r1 r2 : List LRow) (f : Nat) : Option (List Nat) := bfs z.length (stpU r1 r2) (tstL u r1 r2) f 0 [((0, 0), [])]
def spLf (K : PySem.W.Frag) : Sp := fun vs H Q _ => ∃ v1 v2 u z r1 r2, vs = [v1, v2, .bl u] ∧ RLk K H v1 z r1 ∧ RLk K H v2 z r2 ∧ SignsOk z ∧ RowsOk z.length r1 ∧ RowsOk z.length r2 ∧ r1.length ≤ 19 ∧ r2.length ≤ 19 ∧
  ∀ H', Same H H' → Q (oText z (lawR u z r1 r2 500)) H'
theorem textOf_len (z : Str) (p : List Nat) : (textOf z p).length = p.length := by
  show ((p.map fun x => z.cps.getD x 0).toArray).size = _
  simp
theorem textOf_snoc (z : Str) (p : List Nat) (x : Nat) : textOf z p ++ sgn (z.cps.getD x 0) = textOf z (p ++ [x]) := by
  apply str_ext
  rw [snoc_cps]
  unfold textOf
  simp
def FlI (H : Hp) (a1 a2 : Addr) (u : Bool) (z : Str) (r1 r2 : List LRow) (me ed : Addr) (k : Nat) (σ : L2.St) (H' : Hp) : Prop :=
  ∃ acc os y5 y6 y7 y8 y9 y10, bfs z.length (stpU r1 r2) (tstL u r1 r2) (500 - k) k acc = lawR u z r1 r2 500 ∧ MetOk z.length (stpU r1 r2) (0, 0) acc ∧ EdgH H me ed z acc H' os ∧
    σ = [some (.ref a1), some (.ref a2), some (.bl u), some (.ref me), some (.ref ed), y5, y6, y7, y8, y9, y10]
def FlJ (H : Hp) (a1 a2 : Addr) (u : Bool) (z : Str) (r1 r2 : List LRow) (me ed : Addr) (k : Nat) (acc : Met IP) (a : IP) (p : List Nat) (x : Nat) (σ : L2.St) (H' : Hp) : Prop :=
  ∃ os y9 y10, EdgH H me ed z (expandTo (stpU r1 r2) acc a p x) H' os ∧
    σ = [some (.ref a1), some (.ref a2), some (.bl u), some (.ref me), some (.ref ed), some (.int (k : Int)), some (.int a.1), some (.int a.2), some (.str (textOf z p)), y9, y10]
theorem ok__law_first (T : Tx K mg) : Dk P w K mg base 1 "_law_first" ["one", "other", "unlike"] (spLf K) := by
  obtain ⟨fd, F⟩ := T.d__law_first
  refine ⟨⟨fd, F.ok sc__law_first (fun vs H Q E h => ?_) (fun cdv A outer s H vs Q E hr h => ?_), bd__law_first F⟩, F.kp, T.g__law_first⟩
  · obtain ⟨v1, v2, u, z, r1, r2, rfl, _⟩ := h
    rfl
  · obtain ⟨v1, v2, u, z, r1, r2, rfl, ⟨a1, b1, rfl, g1, hb1⟩, ⟨a2, b2, rfl, g2, hb2⟩, hz, o1, o2, l1, l2, q⟩ := h
    refine ⟨_, PSs.nox (pss_cons (ps_set (i := 3) sc__law_first.nd rfl (.inl rfl) (pe_dispT (hu_of hr) (pe_tup (pa_cons pe_int (pa_cons pe_int pa_nil))) pe_bl))
      (pss_cons (ps_set (i := 4) sc__law_first.nd rfl (.inl rfl) (pe_lst (pa_cons (pe_tup (pa_cons pe_int (pa_cons pe_int (pa_cons pe_str pa_nil)))) pa_nil)))
      (pss_cons (ps_for PassesOwn.never rfl (pi_range1 (by rfl) T.f_range (pa_cons pe_int pa_nil)) (pg_name (i := 5) sc__law_first.nd rfl (.inl rfl)) (pss_cons (ps_if (pt_cmpR op_ge (pv 5) (pe_callB call_lenQ (by rfl) T.f_len PySem.boot_len (pa_cons (pv 4) pa_nil)) (nomark _)) (pss_one (ps_ret pe_non)) pss_nil)
      (pss_cons (ps_asg (pe_ix ix_listQ (pv 4) (pv 5) (fun _ _ => rfl)) (pg_tup (by rfl) (pgs_cons (pg_name (i := 6) sc__law_first.nd rfl (.inl rfl)) (pgs_cons (pg_name (i := 7) sc__law_first.nd rfl (.inl rfl)) (pgs_cons (pg_name (i := 8) sc__law_first.nd rfl (.inl rfl)) pgs_nil)))))
      (pss_cons (ps_if (pt_cmpR op_ne (pe_ix ix_tupQ (pe_ix ix_tupQ (pe_ix ix_tupQ (pv 0) pe_int (fun _ _ => rfl)) (pv 6) (fun _ _ => rfl)) pe_int (fun _ _ => rfl)) (pe_ifExp (pt_val (pv 2)) (pe_ix ix_tupQ (pe_ix ix_tupQ (pe_ix ix_tupQ (pv 1) pe_int (fun _ _ => rfl)) (pv 7) (fun _ _ => rfl)) pe_int (fun _ _ => rfl)) pe_int) (nomark _)) (pss_one (ps_ret (pv 8))) pss_nil)
      (pss_one (ps_for PassesOwn.never rfl (pi_range1 (by rfl) T.f_range (pa_cons (pe_callB call_lenQ (by rfl) T.f_len PySem.boot_len (pa_cons (pe_ix ix_tupQ (pv 0) pe_int (fun _ _ => rfl)) pa_nil)) pa_nil)) (pg_name (i := 9) sc__law_first.nd rfl (.inl rfl)) (pss_cons (ps_set (i := 10) sc__law_first.nd rfl (.inl rfl) (pe_tup (pa_cons (pe_ix ix_tupQ (pe_ix ix_tupQ (pe_ix ix_tupQ (pe_ix ix_tupQ (pv 0) pe_int (fun _ _ => rfl)) (pv 6) (fun _ _ => rfl)) pe_int (fun _ _ => rfl)) (pv 9) (fun _ _ => rfl)) (pa_cons (pe_ix ix_tupQ (pe_ix ix_tupQ (pe_ix ix_tupQ (pe_ix ix_tupQ (pv 1) pe_int (fun _ _ => rfl)) (pv 7) (fun _ _ => rfl)) pe_int (fun _ _ => rfl)) (pv 9) (fun _ _ => rfl)) pa_nil))))
      (pss_one (ps_if (pt_cmp (pc_dnotin (hu_of hr) (pv 10) (pv 3))) (pss_cons (ps_dput (hu_of hr) (pv 3) (pv 10) pe_bl rfl)
      (pss_one (ps_expr (pe_bm PySem.F.plainAttrs_list PySem.F.slot_list_append PySem.F.type_list_append mt_appQ (pv 4) (pa_cons (pe_tup (pa_cons (pe_ix ix_tupQ (pv 10) pe_int (fun _ _ => rfl)) (pa_cons (pe_ix ix_tupQ (pv 10) pe_int (fun _ _ => rfl)) (pa_cons (pe_op op_add_str (pv 8) (pe_ix ix_strQ (pe_ix ix_tupQ (pv 0) pe_int (fun _ _ => rfl)) (pv 9) (fun _ _ => rfl))) pa_nil)))) pa_nil))))) pss_nil)))))))))
      (pss_one (ps_ret pe_non))))), ?_⟩
    simp only [cxOf, tYes, eq_self, if_true, if_false, wipe, rLenQ, rIxTQ, rIxLQ, rIxSQ, rInt1Q, rTupQ, rAppQ, rPopQ, rPopAtQ, rRevQ, rListS, rReprP, tLenSetT, tChain, tRetN, tRet, tSeq, tAsg, gName, tVar, tC, tCons, tNil, tCB, tOp, rI0, rI, tAndV, tOrV, tNotV, tIf, tTest, tB, tNot, tAnd, tOr, tIfS, tNext, tCallR, rIsK, rEq, rNe, tDrop, L2.start, List.map_cons, List.map_nil, List.length_cons, List.length_nil, Nat.reduceAdd, Nat.reduceSub, Nat.sub_self, List.replicate_zero, List.replicate_succ, List.append_nil, List.cons_append, List.nil_append, List.getElem?_cons_zero, List.getElem?_cons_succ, List.set_cons_zero, List.set_cons_succ, Option.some.injEq, List.cons.injEq, and_true, true_and, exists_eq_left, exists_eq_left', exists_eq_right, V.ty.injEq, V.int.injEq, V.bl.injEq, V.str.injEq, V.ref.injEq, exists_and_left, exists_const, reduceIte, reduceCtorEq, false_and, and_false, exists_false, or_false, false_or, Bool.not_true, Bool.not_false, Bool.false_eq_true, String.reduceEq, true_or, or_true, tPar, tAug, ipI, tDNotIn, sDPut, tDGet, tTup, tLst, tBM, tBM0]
    intro me hme
    refine ⟨szle (m := 2) (Nat.le_refl _), fun T0 hT0 => ?_⟩
    have edc : (upd (upd H me (.dT [])) T0 (.tup [V.int 0, V.int 0])) me = some (.dT []) := same_upd hT0 _ _ upd_same
    refine ⟨edc, T0, kyP (0, 0), rfl, upd_same, ?_⟩
    simp only [cxOf, tYes, eq_self, if_true, if_false, wipe, rLenQ, rIxTQ, rIxLQ, rIxSQ, rInt1Q, rTupQ, rAppQ, rPopQ, rPopAtQ, rRevQ, rListS, rReprP, tLenSetT, tChain, tRetN, tRet, tSeq, tAsg, gName, tVar, tC, tCons, tNil, tCB, tOp, rI0, rI, tAndV, tOrV, tNotV, tIf, tTest, tB, tNot, tAnd, tOr, tIfS, tNext, tCallR, rIsK, rEq, rNe, tDrop, L2.start, List.map_cons, List.map_nil, List.length_cons, List.length_nil, Nat.reduceAdd, Nat.reduceSub, Nat.sub_self, List.replicate_zero, List.replicate_succ, List.append_nil, List.cons_append, List.nil_append, List.getElem?_cons_zero, List.getElem?_cons_succ, List.set_cons_zero, List.set_cons_succ, Option.some.injEq, List.cons.injEq, and_true, true_and, exists_eq_left, exists_eq_left', exists_eq_right, V.ty.injEq, V.int.injEq, V.bl.injEq, V.str.injEq, V.ref.injEq, exists_and_left, exists_const, reduceIte, reduceCtorEq, false_and, and_false, exists_false, or_false, false_or, Bool.not_true, Bool.not_false, Bool.false_eq_true, String.reduceEq, true_or, or_true, tPar, tAug, ipI, tDNotIn, sDPut, tDGet, tTup, tLst, tBM, tBM0]
    refine ⟨szle (m := 3) (Nat.le_refl _), fun T1 hT1 => ⟨szle (m := 1) (Nat.le_refl _), fun ed hed => ?_⟩⟩
    have c0 : EdgH H me ed z [((0, 0), [])] _ [T1] := EdgH.start hme upd_same (same_upd hT0) edc rfl hT1 hed
    refine ⟨500, rfl, by omega, by omega, ?_⟩
    have e500 : (500 : Int).toNat = 500 := rfl
    rw [e500]
    refine for_range (FlI H a1 a2 u z r1 r2 me ed) ⟨_, [T1], none, none, none, none, none, none, rfl, met_start _ _ _, c0, rfl⟩ ?_ ?_
    · rintro k σ H1 hk ⟨acc, os, y5, y6, y7, y8, y9, y10, hR, hM, hC, rfl⟩
      have e0 : (0 : Int) + (k : Int) = (k : Int) := Int.zero_add _
      rw [e0]
      simp only [cxOf, tYes, eq_self, if_true, if_false, wipe, rLenQ, rIxTQ, rIxLQ, rIxSQ, rInt1Q, rTupQ, rAppQ, rPopQ, rPopAtQ, rRevQ, rListS, rReprP, tLenSetT, tChain, tRetN, tRet, tSeq, tAsg, gName, tVar, tC, tCons, tNil, tCB, tOp, rI0, rI, tAndV, tOrV, tNotV, tIf, tTest, tB, tNot, tAnd, tOr, tIfS, tNext, tCallR, rIsK, rEq, rNe, tDrop, L2.start, List.map_cons, List.map_nil, List.length_cons, List.length_nil, Nat.reduceAdd, Nat.reduceSub, Nat.sub_self, List.replicate_zero, List.replicate_succ, List.append_nil, List.cons_append, List.nil_append, List.getElem?_cons_zero, List.getElem?_cons_succ, List.set_cons_zero, List.set_cons_succ, Option.some.injEq, List.cons.injEq, and_true, true_and, exists_eq_left, exists_eq_left', exists_eq_right, V.ty.injEq, V.int.injEq, V.bl.injEq, V.str.injEq, V.ref.injEq, exists_and_left, exists_const, reduceIte, reduceCtorEq, false_and, and_false, exists_false, or_false, false_or, Bool.not_true, Bool.not_false, Bool.false_eq_true, String.reduceEq, true_or, or_true, tPar, tAug, ipI, tDNotIn, sDPut, tDGet, tTup, tLst, tBM, tBM0]
      have hfew : acc.length ≤ r1.length * r2.length := by
        have := met_few hM (zeroU o1 o2) (stepU o1 o2)
        rwa [stP_len] at this
      have hbig : r1.length * r2.length ≤ 19 * 19 := Nat.mul_le_mul l1 l2
      have hlen := pr_len hC.ent
      refine ⟨_, .inl (.inl (.inl hC.list)), ?_⟩
      rw [List.length_map]
      by_cases hi : acc.length ≤ k
      · refine ifT (decide_eq_true (by omega)) ?_
        rw [bfs_end hi] at hR
        have := q H1 hC.same
        rw [← hR] at this
        exact this
      · refine ifF (decide_eq_false (by omega)) ?_
        obtain ⟨⟨a, p⟩, hap⟩ : ∃ ap, acc[k]? = some ap := ⟨_, List.getElem?_eq_getElem (by omega)⟩
        have hmem : (a, p) ∈ acc := List.mem_of_getElem? hap
        obtain ⟨o, ho, ho1⟩ := pr_get' hC.ent hap
        obtain ⟨ha1, ha2⟩ : InSt r1 a.1 ∧ InSt r2 a.2 := mem_stP.mp (met_closed hM (fun a => a ∈ stP r1.length r2.length) (zeroU o1 o2) (fun a x ha hx => stepU o1 o2 a ha x hx) _ hmem)
        obtain ⟨vs1, d1, c1, h11, h12, h13, h14⟩ := hb1.at ha1
        obtain ⟨vs2, d2, c2, h21, h22, h23, h24⟩ := hb2.at ha2
        have s1 := hC.same
        have hz5 := hz.top
        refine ⟨_, .inl (.inl hC.list), .ref o, atI_nat (by rw [List.getElem?_map, ho]; rfl), o, _, rfl, .inl (.inl ho1), rfl, _, _, rfl, _, _, rfl, _, _, rfl, rfl, ?_⟩
        simp only [cxOf, tYes, eq_self, if_true, if_false, wipe, rLenQ, rIxTQ, rIxLQ, rIxSQ, rInt1Q, rTupQ, rAppQ, rPopQ, rPopAtQ, rRevQ, rListS, rReprP, tLenSetT, tChain, tRetN, tRet, tSeq, tAsg, gName, tVar, tC, tCons, tNil, tCB, tOp, rI0, rI, tAndV, tOrV, tNotV, tIf, tTest, tB, tNot, tAnd, tOr, tIfS, tNext, tCallR, rIsK, rEq, rNe, tDrop, L2.start, List.map_cons, List.map_nil, List.length_cons, List.length_nil, Nat.reduceAdd, Nat.reduceSub, Nat.sub_self, List.replicate_zero, List.replicate_succ, List.append_nil, List.cons_append, List.nil_append, List.getElem?_cons_zero, List.getElem?_cons_succ, List.set_cons_zero, List.set_cons_succ, Option.some.injEq, List.cons.injEq, and_true, true_and, exists_eq_left, exists_eq_left', exists_eq_right, V.ty.injEq, V.int.injEq, V.bl.injEq, V.str.injEq, V.ref.injEq, exists_and_left, exists_const, reduceIte, reduceCtorEq, false_and, and_false, exists_false, or_false, false_or, Bool.not_true, Bool.not_false, Bool.false_eq_true, String.reduceEq, true_or, or_true, tPar, tAug, ipI, tDNotIn, sDPut, tDGet, tTup, tLst, tBM, tBM0]
        obtain ⟨f, hf⟩ : ∃ f, 500 - k = f + 1 := ⟨500 - k - 1, by omega⟩
        have hf2 : 500 - (k + 1) = f := by omega
        rw [hf] at hR
        refine ⟨_, Same.sqT s1 g1, .ref b1, rfl, _, Same.sqT s1 h11, .ref d1, h12, _, Same.sqT s1 h13, .int (endAt r1 a.1), rfl, ?_⟩
        by_cases hu : u = true
        case' pos => refine ifT hu ⟨_, Same.sqT s1 g2, .ref b2, rfl, _, Same.sqT s1 h21, .ref d2, h22, _, Same.sqT s1 h23, .int (endAt r2 a.2), rfl, rfl, ?_⟩
        case' neg => refine ifF (by simpa using hu) ⟨rfl, ?_⟩
        all_goals
          by_cases ht : tstL u r1 r2 a = true
          · refine ifT (by simp [tstL, hu] at ht ⊢; exact ht) ?_
            rw [bfs_hit hap ht] at hR
            have := q H1 s1
            rw [← hR] at this
            exact this
          · have ht' : tstL u r1 r2 a = false := by simpa using ht
            refine ifF (by simp [tstL, hu] at ht ⊢; exact ht) ?_
            refine ⟨.ref a1, rfl, _, .str z, Same.sqT s1 g1, rfl, szle (m := 5) hz.top, (z.length : Int), rfl, by omega, by omega, ?_⟩
            have en : ((z.length : Nat) : Int).toNat = z.length := Int.toNat_natCast _
            rw [en]
            refine for_range (FlJ H a1 a2 u z r1 r2 me ed k acc a p) ⟨os, _, _, hC, rfl⟩ ?_ ?_
            · rintro x σ H2 hx ⟨os2, w9, w10, c, rfl⟩
              have e0 : (0 : Int) + (x : Int) = (x : Int) := Int.zero_add _
              rw [e0]
              simp only [cxOf, tYes, eq_self, if_true, if_false, wipe, rLenQ, rIxTQ, rIxLQ, rIxSQ, rInt1Q, rTupQ, rAppQ, rPopQ, rPopAtQ, rRevQ, rListS, rReprP, tLenSetT, tChain, tRetN, tRet, tSeq, tAsg, gName, tVar, tC, tCons, tNil, tCB, tOp, rI0, rI, tAndV, tOrV, tNotV, tIf, tTest, tB, tNot, tAnd, tOr, tIfS, tNext, tCallR, rIsK, rEq, rNe, tDrop, L2.start, List.map_cons, List.map_nil, List.length_cons, List.length_nil, Nat.reduceAdd, Nat.reduceSub, Nat.sub_self, List.replicate_zero, List.replicate_succ, List.append_nil, List.cons_append, List.nil_append, List.getElem?_cons_zero, List.getElem?_cons_succ, List.set_cons_zero, List.set_cons_succ, Option.some.injEq, List.cons.injEq, and_true, true_and, exists_eq_left, exists_eq_left', exists_eq_right, V.ty.injEq, V.int.injEq, V.bl.injEq, V.str.injEq, V.ref.injEq, exists_and_left, exists_const, reduceIte, reduceCtorEq, false_and, and_false, exists_false, or_false, false_or, Bool.not_true, Bool.not_false, Bool.false_eq_true, String.reduceEq, true_or, or_true, tPar, tAug, ipI, tDNotIn, sDPut, tDGet, tTup, tLst, tBM, tBM0]
              have s2 := c.same
              have hM2 := met_expandTo hM hmem x (by omega)
              have hfew2 : (expandTo (stpU r1 r2) acc a p x).length ≤ r1.length * r2.length := by
                have := met_few hM2 (zeroU o1 o2) (stepU o1 o2)
                rwa [stP_len] at this
              have hpl : p.length < acc.length := (hM.way _ hmem).2.2
              refine ⟨_, Same.sqT s2 g1, .ref b1, rfl, _, Same.sqT s2 h11, .ref d1, h12, _, Same.sqT s2 h13, .ref c1, rfl, _, Same.sqT s2 h14, .int (nxt r1 a.1 x), row_at o1 ha1 hx, ?_⟩
              refine ⟨_, Same.sqT s2 g2, .ref b2, rfl, _, Same.sqT s2 h21, .ref d2, h22, _, Same.sqT s2 h23, .ref c2, rfl, _, Same.sqT s2 h24, .int (nxt r2 a.2 x), row_at o2 ha2 hx, ?_⟩
              refine ⟨szle (m := 2) (Nat.le_refl _), fun T2 hT2 => ?_⟩
              have c1' := c.other (o := .tup [.int (nxt r1 a.1 x), .int (nxt r2 a.2 x)]) hT2
              have t2 : (upd H2 T2 (.tup [.int (nxt r1 a.1 x), .int (nxt r2 a.2 x)])) T2 = some (tuP (stpU r1 r2 a x)) := upd_same
              obtain ⟨kvs, e1, e2, e3⟩ := c1'.dict
              refine ⟨valV kvs (kyP (stpU r1 r2 a x)), .t (k := kyP (stpU r1 r2 a x)) e1 t2, ?_⟩
              by_cases hin : stpU r1 r2 a x ∈ (expandTo (stpU r1 r2) acc a p x).map Prod.fst
              · refine ifF (by rw [(e2 _).mpr hin]; rfl) ⟨os2, _, _, ?_, rfl⟩
                rw [expandTo_succ]
                unfold addStep
                rw [if_pos hin]
                exact c1'
              · have hno : (valV kvs (kyP (stpU r1 r2 a x))).isSome = false := by
                  cases e : (valV kvs (kyP (stpU r1 r2 a x))).isSome with
                  | false => rfl
                  | true => exact absurd ((e2 _).mp e) hin
                refine ifT (by rw [hno]; rfl) ?_
                have st : ∀ b xs, SqT K (upd H2 T2 (.tup [.int (nxt r1 a.1 x), .int (nxt r2 a.2 x)])) b xs → SqT K (upd (upd H2 T2 (.tup [.int (nxt r1 a.1 x), .int (nxt r2 a.2 x)])) me (.dT (putK kvs (kyP (stpU r1 r2 a x)) (.bl true)))) b xs := fun b xs h => sqT_upd e1 (fun _ => nofun) (fun _ _ => nofun) h
                have hne : ed ≠ me := ne_of c1'.list e1 (fun z => nomatch z)
                have hll : (upd (upd H2 T2 (.tup [.int (nxt r1 a.1 x), .int (nxt r2 a.2 x)])) me (.dT (putK kvs (kyP (stpU r1 r2 a x)) (.bl true)))) ed = some (.lst (os2.map V.ref)) := by rw [upd_ne hne]; exact c1'.list
                have tl : (textOf z p).length = p.length := textOf_len z p
                refine ⟨_, .t (k := kyP (stpU r1 r2 a x)) e1 t2 (szlt (m := 1000) (by omega)), lst_ty hll, _, st _ _ (.inl (.inl t2)), .int (nxt r1 a.1 x), rfl, _, st _ _ (.inl (.inl t2)), .int (nxt r2 a.2 x), rfl, _, st _ _ (Same.sqT c1'.same g1), .str z, rfl, szle (m := 5) hz.top, _, at_sign hx, ?_, szle (m := 3) (Nat.le_refl _), fun T3 hT3 => ?_⟩
                · rw [tl, show (sgn (z.cps.getD x 0)).length = 1 from rfl]
                  exact szle (m := 1000) (by omega)
                · have g := c1'.add e1 (p := p ++ [x]) hin hT3
                  refine ⟨os2.map V.ref, by rw [upd_ne (ne_of_none hll hT3)]; exact hll, ?_, os2 ++ [T3], _, _, ?_, rfl⟩
                  · rw [List.length_map, pr_len c.ent]
                    exact szlt (m := 1000) (by omega)
                  · rw [expandTo_succ]
                    unfold addStep
                    rw [if_neg hin, textOf_snoc]
                    exact g
            · rintro σ H2 ⟨os2, w9, w10, c, rfl⟩
              rw [bfs_go hap ht'] at hR
              exact ⟨_, os2, _, _, _, _, _, _, by rw [hf2]; exact hR, met_expand hM hmem, c, rfl⟩
    · rintro σ H1 ⟨acc, os, y5, y6, y7, y8, y9, y10, hR, hM, hC, rfl⟩
      have := q H1 hC.same
      rw [← hR] at this
      exact this
end
end K36

namespace K36
open PySem PySem.Spec PyProof.Rows L2 Sg
/-! the plain laws -/
theorem law_unlike {z : Str} {r1 r2 : List LRow} (o1 : RowsOk z.length r1) (o2 : RowsOk z.length r2) (l1 : r1.length ≤ 19) (l2 : r2.length ≤ 19) : lawR true z r1 r2 500 = unlikeR z r1 r2 := by
  have hb : r1.length * r2.length ≤ 19 * 19 := Nat.mul_le_mul l1 l2
  have e : tstL true r1 r2 = tstU r1 r2 := rfl
  unfold lawR unlikeR
  rw [e]
  exact bfs_more (zeroU o1 o2) (stepU o1 o2) (met_start _ _ _) (by rw [stP_len]; omega) (by rw [stP_len]; omega)
theorem unlike_swap (z : Str) (r1 r2 : List LRow) : unlikeR z r2 r1 = unlikeR z r1 r2 := by
  unfold unlikeR
  rw [Nat.mul_comm r2.length r1.length]
  have h := ren_bfs (n := z.length) (stp := stpU r1 r2) (stq := stpU r2 r1) (tst := tstU r1 r2) (tsq := tstU r2 r1) (g := fun a : IP => (a.2, a.1))
    (fun a b e => Prod.ext (Prod.mk.inj e).2 (Prod.mk.inj e).1) (fun a x _ => rfl) (fun a => decide_eq_decide.mpr ⟨fun h => Ne.symm h, fun h => Ne.symm h⟩) (r1.length * r2.length + 1) 0 [((0, 0), [])]
  exact h
theorem first_law {z : Str} {rs : List LRow} (ok : RowsOk z.length rs) (hl : rs.length ≤ 19) : lawR false z rs rs 500 = firstR z rs := by
  have h := ren_bfs (n := z.length) (stp := stpF rs) (stq := stpU rs rs) (tst := tstF rs) (tsq := tstL false rs rs) (g := fun a : Int => ((a, a) : IP))
    (fun a b e => (Prod.mk.inj e).1) (fun a x _ => rfl) (fun a => by unfold tstF tstL; by_cases h : endAt rs a = 0 <;> simp [h]) 500 0 [(0, [])]
  have e : lawR false z rs rs 500 = bfs z.length (stpF rs) (tstF rs) 500 0 [(0, [])] := h
  rw [e]
  exact bfs_more (u := stR rs.length) (mem_stR.mpr (in_zero ok)) (fun a ha x hx => mem_stR.mpr (nxt_in ok (mem_stR.mp ha) hx)) (met_start _ _ _) (by rw [stR_len]; omega) (by rw [stR_len]; omega)
theorem txB_text {z : Str} {p : List Nat} (hp : ∀ x ∈ p, x < z.length) : txB z (textOf z p) = true := by
  refine List.all_eq_true.mpr fun c hc => decide_eq_true ?_
  have hc2 : c ∈ p.map fun x => z.cps.getD x 0 := by simpa [textOf] using hc
  obtain ⟨x, hx, rfl⟩ := List.mem_map.mp hc2
  have hlt : x < z.cps.size := hp x hx
  rw [Array.getD_eq_getD_getElem?, Array.getElem?_eq_getElem hlt]
  exact Array.getElem_mem_toList hlt
theorem idx_sign {z : Str} (hz : SignsOk z) {x : Nat} (hx : x < z.length) : z.cps.toList.idxOf (z.cps.getD x 0) = x := by
  have hl : z.cps.toList.length = z.length := Array.length_toList
  have hx2 : x < z.cps.toList.length := by omega
  have e : z.cps.getD x 0 = z.cps.toList[x] := by
    rw [Array.getD_eq_getD_getElem?, Array.getElem?_eq_getElem (show x < z.cps.size from hx)]
    simp
  rw [e]
  have hm : z.cps.toList[x] ∈ z.cps.toList := List.getElem_mem hx2
  have hi : z.cps.toList.idxOf z.cps.toList[x] < z.cps.toList.length := List.idxOf_lt_length_of_mem hm
  exact (List.getElem_inj hz.nd).mp (List.getElem_idxOf hi)
theorem walk_text {z : Str} (hz : SignsOk z) (rs : List LRow) : ∀ (p : List Nat), (∀ x ∈ p, x < z.length) → ∀ s, walkS z rs s (textOf z p).cps.toList = p.foldl (fun a x => nxt rs a x) s
  | [], _, s => rfl
  | x :: p, h, s => by
    have e : (textOf z (x :: p)).cps.toList = z.cps.getD x 0 :: (textOf z p).cps.toList := by simp [textOf]
    rw [e]
    show walkS z rs (nxt rs s (z.cps.toList.idxOf (z.cps.getD x 0))) (textOf z p).cps.toList = _
    rw [idx_sign hz (h x List.mem_cons_self)]
    exact walk_text hz rs p (fun y hy => h y (List.mem_cons_of_mem _ hy)) _
theorem fold_pair (r1 r2 : List LRow) : ∀ (p : List Nat) (s : IP), p.foldl (stpU r1 r2) s = (p.foldl (fun a x => nxt r1 a x) s.1, p.foldl (fun a x => nxt r2 a x) s.2)
  | [], _ => rfl
  | x :: p, s => fold_pair r1 r2 p _
theorem due_way {z : Str} (hz : SignsOk z) {r1 r2 : List LRow} (o1 : RowsOk z.length r1) (o2 : RowsOk z.length r2) {p : List Nat} (h : unlikeR z r1 r2 = some p) :
    (∀ x ∈ p, x < z.length) ∧ endB z r1 (textOf z p) + endB z r2 (textOf z p) = 1 := by
  obtain ⟨h1, h2⟩ := bfs_way (met_start z.length (stpU r1 r2) (0, 0)) h
  refine ⟨h2, ?_⟩
  have h3 := of_decide_eq_true h1
  rw [fold_pair] at h3
  unfold endB
  rw [walk_text hz r1 p h2, walk_text hz r2 p h2]
  have hin := txB_text h2
  have b1 := endAt_bit o1 (walk_in o1 _ (fun c hc => of_decide_eq_true (List.all_eq_true.mp hin c hc)) 0 (in_zero o1))
  have b2 := endAt_bit o2 (walk_in o2 _ (fun c hc => of_decide_eq_true (List.all_eq_true.mp hin c hc)) 0 (in_zero o2))
  rw [walk_text hz r1 p h2] at b1
  rw [walk_text hz r2 p h2] at b2
  have h4 : endAt r1 (p.foldl (fun a x => nxt r1 a x) 0) ≠ endAt r2 (p.foldl (fun a x => nxt r2 a x) 0) := h3
  omega
theorem bfs_len {α : Type} [DecidableEq α] {n : Nat} {stp : α → Nat → α} {s : α} {tst : α → Bool} {u : List α} (hs : s ∈ u) (hc : ∀ a ∈ u, ∀ x, x < n → stp a x ∈ u) : ∀ {f i : Nat} {acc : Met α} {p : List Nat}, MetOk n stp s acc → bfs n stp tst f i acc = some p → p.length < u.length
  | 0, _, _, _, _, e => nomatch e
  | f + 1, i, acc, p, h, e => by
    cases hi : acc[i]? with
    | none => rw [bfs_end (by rw [List.getElem?_eq_none_iff] at hi; exact hi)] at e; cases e
    | some ap =>
      obtain ⟨a, q⟩ := ap
      have hm : (a, q) ∈ acc := List.mem_of_getElem? hi
      cases c : tst a with
      | true =>
        rw [bfs_hit hi c] at e
        obtain rfl := Option.some.inj e
        have := met_few h hs hc
        have h3 : q.length < acc.length := (h.way _ hm).2.2
        omega
      | false =>
        rw [bfs_go hi c] at e
        exact bfs_len hs hc (met_expand h hm) e
theorem oText_low {z : Str} (hz : SignsOk z) {R : Option (List Nat)} (h : ∀ p, R = some p → (∀ x ∈ p, x < z.length) ∧ p.length ≤ 90000) : oText z R = .non ∨ ∃ t, oText z R = .str t ∧ t.length ≤ 90000 ∧ ∀ c ∈ t.cps.toList, c < 128 := by
  cases R with
  | none => exact .inl rfl
  | some p =>
    obtain ⟨h1, h2⟩ := h p rfl
    refine .inr ⟨_, rfl, by rw [textOf_len]; exact h2, fun c hc => ?_⟩
    have hin := of_decide_eq_true (List.all_eq_true.mp (txB_text h1) c hc)
    exact hz.low c hin
theorem low_unlike {z : Str} (hz : SignsOk z) {r1 r2 : List LRow} (o1 : RowsOk z.length r1) (o2 : RowsOk z.length r2) (l1 : r1.length ≤ 19) (l2 : r2.length ≤ 19) : oText z (unlikeR z r1 r2) = .non ∨ ∃ t, oText z (unlikeR z r1 r2) = .str t ∧ t.length ≤ 90000 ∧ ∀ c ∈ t.cps.toList, c < 128 := by
  refine oText_low hz fun p hp => ⟨(due_way hz o1 o2 hp).1, ?_⟩
  have h := bfs_len (zeroU o1 o2) (stepU o1 o2) (met_start _ _ _) hp
  rw [stP_len] at h
  have hb : r1.length * r2.length ≤ 19 * 19 := Nat.mul_le_mul l1 l2
  omega
theorem low_first {z : Str} (hz : SignsOk z) {rs : List LRow} (ok : RowsOk z.length rs) (hl : rs.length ≤ 19) : oText z (firstR z rs) = .non ∨ ∃ t, oText z (firstR z rs) = .str t ∧ t.length ≤ 90000 ∧ ∀ c ∈ t.cps.toList, c < 128 := by
  refine oText_low hz fun p hp => ⟨(bfs_way (met_start _ _ _) hp).2, ?_⟩
  have h := bfs_len (u := stR rs.length) (mem_stR.mpr (in_zero ok)) (fun a ha x hx => mem_stR.mpr (nxt_in ok (mem_stR.mp ha) hx)) (met_start _ _ _) hp
  rw [stR_len] at h
  omega
/-! the signs turned by one -/
def turn (z : Str) : Str := cutS z (some 1) none ++ sgn (z.cps.getD 0 0)
theorem turn_cps {z : Str} (h : 1 ≤ z.length) : (turn z).cps.toList = z.cps.toList.drop 1 ++ z.cps.toList.take 1 := by
  unfold turn
  rw [snoc_cps]
  have hl : z.cps.toList.length = z.length := Array.length_toList
  have e1 : HT.sIx z.length 0 (some 1) = 1 := by
    have := HT.sIx_nat z.length 0 1
    rw [show ((1 : Nat) : Int) = 1 from rfl] at this
    rw [this]
    omega
  have e2 : (cutS z (some 1) none).cps.toList = z.cps.toList.drop 1 := by
    unfold cutS
    rw [e1, HT.sIx_none]
    show (z.cps.toList.drop 1).take (z.length - 1) = _
    rw [List.take_of_length_le (by rw [List.length_drop]; omega)]
  have e3 : z.cps.toList.take 1 = [z.cps.getD 0 0] := by
    have hx : 0 < z.cps.size := h
    rw [Array.getD_eq_getD_getElem?, Array.getElem?_eq_getElem hx]
    cases hc : z.cps.toList with
    | nil => rw [hc] at hl; simp at hl; omega
    | cons c r =>
      have : z.cps[0] = c := by
        have e := Array.getElem_toList (xs := z.cps) (i := 0) hx
        simp only [hc] at e
        exact e.symm
      simp [this]
  rw [e2, e3]
theorem turn_perm {z : Str} (h : 1 ≤ z.length) : (turn z).cps.toList.Perm z.cps.toList := by
  rw [turn_cps h]
  refine List.perm_append_comm.trans ?_
  rw [List.take_append_drop]
theorem turn_len {z : Str} (h : 1 ≤ z.length) : (turn z).length = z.length := by
  have := (turn_perm h).length_eq
  rwa [Array.length_toList, Array.length_toList] at this
theorem turn_ok {z : Str} (hz : SignsOk z) : SignsOk (turn z) :=
  ⟨by rw [turn_len hz.pos]; exact hz.pos, by rw [turn_len hz.pos]; exact hz.top, (turn_perm hz.pos).nodup_iff.mpr hz.nd, fun c hc => hz.low c ((turn_perm hz.pos).mem_iff.mp hc)⟩
theorem turn_ne {z : Str} (hz : SignsOk z) (h2 : z.length ≠ 1) : z ≠ turn z := by
  intro e
  have e2 : z.cps.toList = z.cps.toList.drop 1 ++ z.cps.toList.take 1 := (congrArg (fun s : Str => s.cps.toList) e).trans (turn_cps hz.pos)
  have hl : z.cps.toList.length = z.length := Array.length_toList
  have hp := hz.pos
  have nd := hz.nd
  match hc : z.cps.toList with
  | [] => rw [hc] at hl; simp at hl; omega
  | [a] => rw [hc] at hl; simp at hl; omega
  | a :: b :: r =>
    rw [hc] at e2 nd
    have : a = b := (List.cons.inj e2).1
    rw [this] at nd
    simp at nd
end K36

namespace K36
open PySem PySem.Spec PyProof.Rows L2 Sg
section
variable {P : Program} {w : World} {K : PySem.W.Frag} {mg : Str → Option Value} {base : Heap}
theorem sc__law_refused : FnScope ["one", "other", "e"] ["one", "other"] (defScope (topS 36)) := ⟨rfl, rfl, rfl, by decide +kernel, rfl, by decide +kernel, by decide +kernel⟩
theorem bd__law_refused {K : PySem.W.Frag} {f : Addr} {fd : FuncData} (F : FnP K "_law_refused" (topS 36) f fd) : Binds K fd ["one", "other"] [] := F.bindsN fun _ _ _ _ _ _ us hl => match us, hl with | [_, _], _ => rfl
def spRf (K : PySem.W.Frag) : Sp := fun vs H Q _ => ∃ v1 z1 r1 v2 z2 r2, vs = [v1, v2] ∧ RLk K H v1 z1 r1 ∧ RLk K H v2 z2 r2 ∧ SignsOk z1 ∧ SignsOk z2 ∧ RowsOk z1.length r1 ∧ RowsOk z2.length r2 ∧ z1 ≠ z2 ∧ ∀ H', Q (.bl true) H'
theorem ok__law_refused (T : Tx K mg) : Dk P w K mg base 6 "_law_refused" ["one", "other"] (spRf K) := by
  have D_alike := ok_alike (P := P) (w := w) (base := base) T
  obtain ⟨fd, F⟩ := T.d__law_refused
  refine ⟨⟨fd, F.ok sc__law_refused (fun vs H Q E h => ?_) (fun cdv A outer s H vs Q E hr h => ?_), bd__law_refused F⟩, F.kp, T.g__law_refused⟩
  · obtain ⟨v1, z1, r1, v2, z2, r2, rfl, _⟩ := h
    rfl
  · obtain ⟨v1, z1, r1, v2, z2, r2, rfl, hv1, hv2, hz1, hz2, o1, o2, hne, q⟩ := h
    refine ⟨_, PSs.nox (pss_one (ps_try_cl rfl rfl takes0 (fun W pn xe tk pz => (pss_one (ps_ret (pe_cmpR op_eq (pe_callB (show CallR _ _ (rLenQ K) from call_lenQ) (by rfl) T.f_len PySem.boot_len (pa_cons (pe_lst (pa_cons (pe_callR D_alike (hr.mono (by decide)) tk (pa_cons (pv 0) (pa_cons (pv 1) pa_nil))) pa_nil)) pa_nil)) pe_int (nomark _))))) (ClOk.named ⟨rfl, by decide, .inl T.e_BadSigns.gm⟩ sc__law_refused.nd rfl rfl (i := 2) (fun a oe cls d pn hz hf => (pss_one (ps_ret (pe_and (pe_callB (call_isX hz hf) (by rfl) T.f_isinstance PyProof.Rows.boot_isinstance (pa_cons (pv 2) (pa_cons (pe_glob (v := .ref (He.ga K "SignError")) (by rfl) T.e_SignError.gm rfl) pa_nil))) (pe_one (pe_callB (call_isX hz hf) (by rfl) T.f_isinstance PyProof.Rows.boot_isinstance (pa_cons (pv 2) (pa_cons (pe_bltn (v := .ty "ValueError") (by rfl) T.f_ValueError (by decide +kernel) rfl) pa_nil)))))))) (ClOk.one ⟨rfl, by decide, .inl T.e_SignError.gm⟩ (fun a oe cls d pn hz hf => (pss_one (ps_ret pe_bl))) ClOk.nil)))), ?_⟩
    simp only [cxOf, tYes, eq_self, if_true, if_false, wipe, rLenQ, rIxTQ, rIxLQ, rIxSQ, rInt1Q, rTupQ, rAppQ, rPopQ, rPopAtQ, rRevQ, rListS, rReprP, tLenSetT, tChain, tRetN, tRet, tSeq, tAsg, gName, tVar, tC, tCons, tNil, tCB, tOp, rI0, rI, tAndV, tOrV, tNotV, tIf, tTest, tB, tNot, tAnd, tOr, tIfS, tNext, tCallR, rIsK, rEq, rNe, tDrop, L2.start, List.map_cons, List.map_nil, List.length_cons, List.length_nil, Nat.reduceAdd, Nat.reduceSub, Nat.sub_self, List.replicate_zero, List.replicate_succ, List.append_nil, List.cons_append, List.nil_append, List.getElem?_cons_zero, List.getElem?_cons_succ, List.set_cons_zero, List.set_cons_succ, Option.some.injEq, List.cons.injEq, and_true, true_and, exists_eq_left, exists_eq_left', exists_eq_right, V.ty.injEq, V.int.injEq, V.bl.injEq, V.str.injEq, V.ref.injEq, exists_and_left, exists_const, reduceIte, reduceCtorEq, false_and, and_false, exists_false, or_false, false_or, Bool.not_true, Bool.not_false, Bool.false_eq_true, String.reduceEq, true_or, or_true, tPar, tAug, ipI, tDNotIn, sDPut, tDGet, tTup, tLst, tBM, tBM0]
    refine ⟨v1, z1, r1, v2, z2, r2, rfl, hv1, hv2, hz1, hz2, o1, o2, fun e => absurd e hne, fun _ => ?_⟩
    refine ⟨true, T.x_BadSigns_BadSigns, fun _ x _ => ?_, fun e => nomatch e⟩
    simp only [cxOf, tYes, eq_self, if_true, if_false, wipe, rLenQ, rIxTQ, rIxLQ, rIxSQ, rInt1Q, rTupQ, rAppQ, rPopQ, rPopAtQ, rRevQ, rListS, rReprP, tLenSetT, tChain, tRetN, tRet, tSeq, tAsg, gName, tVar, tC, tCons, tNil, tCB, tOp, rI0, rI, tAndV, tOrV, tNotV, tIf, tTest, tB, tNot, tAnd, tOr, tIfS, tNext, tCallR, rIsK, rEq, rNe, tDrop, L2.start, List.map_cons, List.map_nil, List.length_cons, List.length_nil, Nat.reduceAdd, Nat.reduceSub, Nat.sub_self, List.replicate_zero, List.replicate_succ, List.append_nil, List.cons_append, List.nil_append, List.getElem?_cons_zero, List.getElem?_cons_succ, List.set_cons_zero, List.set_cons_succ, Option.some.injEq, List.cons.injEq, and_true, true_and, exists_eq_left, exists_eq_left', exists_eq_right, V.ty.injEq, V.int.injEq, V.bl.injEq, V.str.injEq, V.ref.injEq, exists_and_left, exists_const, reduceIte, reduceCtorEq, false_and, and_false, exists_false, or_false, false_or, Bool.not_true, Bool.not_false, Bool.false_eq_true, String.reduceEq, true_or, or_true, tPar, tAug, ipI, tDNotIn, sDPut, tDGet, tTup, tLst, tBM, tBM0]
    refine ⟨_, _, _, true, rfl, rfl, T.q_BadSigns, rfl, fun u hu => hu, T.k_BadSigns_SignError, true, rfl, ifT rfl ?_⟩
    exact ⟨_, _, _, true, rfl, rfl, T.q_BadSigns, rfl, fun u hu => hu, T.k_BadSigns_ValueError, q _⟩
theorem sc_law : FnScope ["script", "pool", "signs", "single", "one", "other", "due", "looker"] ["script"] (defScope (topS 37)) := ⟨rfl, rfl, rfl, by decide +kernel, rfl, by decide +kernel, by decide +kernel⟩
theorem bd_law {K : PySem.W.Frag} {f : Addr} {fd : FuncData} (F : FnP K "law" (topS 37) f fd) : Binds K fd ["script"] [] := F.bindsN fun _ _ _ _ _ _ us hl => match us, hl with | [_], _ => rfl
def LwA (a : Addr) (σ : L2.St) (H' : Hp) : Prop := ∃ l, PoolL H' l ∧ σ = [some (.ref a), some (.ref l), none, none, none, none, none, none]
def LwB (a : Addr) (σ : L2.St) (H' : Hp) : Prop := ∃ (l : Addr) (z : Str), PoolL H' l ∧ SignsOk z ∧ σ = [some (.ref a), some (.ref l), some (.str z), none, none, none, none, none]
def sgl (z : Str) : Bool := decide ((z.length : Int) = 1)
theorem pool_tk {l : Addr} {H H' : Hp} (p : PoolL H l) (b : But l H H') : TK H H' := by
  obtain ⟨js, e⟩ := p
  exact TK.of_but b e
def LwC (a : Addr) (σ : L2.St) (H' : Hp) : Prop := ∃ (l : Addr) (z : Str), PoolL H' l ∧ SignsOk z ∧ σ = [some (.ref a), some (.ref l), some (.str z), some (.bl (sgl z)), none, none, none, none]
def LwD (K : PySem.W.Frag) (a : Addr) (σ : L2.St) (H' : Hp) : Prop := ∃ (l : Addr) (z : Str) (v1 : V) (r1 : List LRow), PoolL H' l ∧ SignsOk z ∧ RLk K H' v1 z r1 ∧ RowsOk z.length r1 ∧ r1.length ≤ 19 ∧ σ = [some (.ref a), some (.ref l), some (.str z), some (.bl (sgl z)), some v1, none, none, none]
def LwE (K : PySem.W.Frag) (a : Addr) (σ : L2.St) (H' : Hp) : Prop := ∃ (l : Addr) (z : Str) (v1 : V) (r1 : List LRow) (v2 : V) (r2 : List LRow), PoolL H' l ∧ SignsOk z ∧ RLk K H' v1 z r1 ∧ RowsOk z.length r1 ∧ r1.length ≤ 19 ∧ RLk K H' v2 z r2 ∧ RowsOk z.length r2 ∧ r2.length ≤ 19 ∧
  σ = [some (.ref a), some (.ref l), some (.str z), some (.bl (sgl z)), some v1, some v2, none, none]
def LwF (K : PySem.W.Frag) (a l : Addr) (z : Str) (v1 v2 : V) (r1 r2 : List LRow) (σ : L2.St) (H' : Hp) : Prop := RLk K H' v1 z r1 ∧ RLk K H' v2 z r2 ∧ ∃ x7,
  σ = [some (.ref a), some (.ref l), some (.str z), some (.bl (sgl z)), some v1, some v2, some (oText z (unlikeR z r1 r2)), x7]
def spLaw (K : PySem.W.Frag) : Sp := fun vs H Q _ => ∃ (a : Addr) (ns : List Int), vs = [.ref a] ∧ SqL K H a (ns.map V.int) ∧ ∀ H', Q (.bl true) H'
theorem fn_law (T : Tx K mg) {fd : FuncData} (F : FnP K "law" (topS 37) (He.ga K "law") fd) : FnOk P w K mg base L2.CX0 7 (He.ga K "law") fd ["script"] (spLaw K) := by
  have D__law_pool := ok__law_pool (P := P) (w := w) (base := base) T
  have D__law_draw := ok__law_draw (P := P) (w := w) (base := base) T
  have D__law_signs := ok__law_signs (P := P) (w := w) (base := base) T
  have D__law_drawn_looker := ok__law_drawn_looker (P := P) (w := w) (base := base) T
  have D__law_changed := ok__law_changed (P := P) (w := w) (base := base) T
  have D__law_first := ok__law_first (P := P) (w := w) (base := base) T
  have D__law_same := ok__law_same (P := P) (w := w) (base := base) T
  have D_alike := ok_alike (P := P) (w := w) (base := base) T
  have D_takes := ok_takes (P := P) (w := w) (base := base) T
  have D_first_taken := ok_first_taken (P := P) (w := w) (base := base) T
  have D__law_refused := ok__law_refused (P := P) (w := w) (base := base) T
  refine F.ok sc_law (fun vs H Q E h => ?_) (fun cdv A outer s H vs Q E hr h => ?_)
  · obtain ⟨a, ns, rfl, _⟩ := h
    rfl
  · obtain ⟨a, ns, rfl, ha, q⟩ := h
    refine ⟨_, PSs.nox (pss_cons (ps_set (i := 1) sc_law.nd rfl (.inl rfl) (pe_callR D__law_pool (hr.mono (by decide)) takes0 (pa_cons (pv 0) pa_nil)))
      (pss_cons (ps_set (i := 2) sc_law.nd rfl (.inl rfl) (pe_callR D__law_signs (hr.mono (by decide)) takes0 (pa_cons (pv 1) (pa_cons (pe_op op_add pe_int (pe_callR D__law_draw (hr.mono (by decide)) takes0 (pa_cons (pv 1) (pa_cons pe_int pa_nil)))) pa_nil))))
      (pss_cons (ps_set (i := 3) sc_law.nd rfl (.inl rfl) (pe_cmpR op_eq (pe_callB call_lenQ (by rfl) T.f_len PySem.boot_len (pa_cons (pv 2) pa_nil)) pe_int (nomark _)))
      (pss_cons (ps_set (i := 4) sc_law.nd rfl (.inl rfl) (pe_callR D__law_drawn_looker (hr.mono (by decide)) takes0 (pa_cons (pv 1) (pa_cons (pv 2) (pa_cons (pe_op op_add pe_int (pe_callR D__law_draw (hr.mono (by decide)) takes0 (pa_cons (pv 1) (pa_cons (pe_ifExp (pt_val (pv 3)) pe_int pe_int) pa_nil)))) (pa_cons (pv 3) pa_nil))))))
      (pss_cons (ps_set (i := 5) sc_law.nd rfl (.inl rfl) (pe_callR D__law_drawn_looker (hr.mono (by decide)) takes0 (pa_cons (pv 1) (pa_cons (pv 2) (pa_cons (pe_op op_add pe_int (pe_callR D__law_draw (hr.mono (by decide)) takes0 (pa_cons (pv 1) (pa_cons (pe_ifExp (pt_val (pv 3)) pe_int pe_int) pa_nil)))) (pa_cons (pv 3) pa_nil))))))
      (pss_cons (ps_if (pt_cmpR op_eq (pe_callR D__law_draw (hr.mono (by decide)) takes0 (pa_cons (pv 1) (pa_cons pe_int pa_nil))) pe_int (nomark _)) (pss_one (ps_set (i := 5) sc_law.nd rfl (.inl rfl) (pe_callR D__law_changed (hr.mono (by decide)) takes0 (pa_cons (pv 1) (pa_cons (pv 4) pa_nil))))) pss_nil)
      (pss_cons (ps_set (i := 6) sc_law.nd rfl (.inl rfl) (pe_callR D__law_first (hr.mono (by decide)) takes0 (pa_cons (pv 4) (pa_cons (pv 5) (pa_cons pe_bl pa_nil)))))
      (pss_cons (ps_if (PW.pt (pw_or (pt_not (pt_val (pe_callR D__law_same (hr.mono (by decide)) takes0 (pa_cons (pe_callR D_alike (hr.mono (by decide)) takes0 (pa_cons (pv 4) (pa_cons (pv 5) pa_nil))) (pa_cons (pv 6) pa_nil))))) (pw_or1 (pt_not (pt_val (pe_callR D__law_same (hr.mono (by decide)) takes0 (pa_cons (pe_callR D_alike (hr.mono (by decide)) takes0 (pa_cons (pv 5) (pa_cons (pv 4) pa_nil))) (pa_cons (pv 6) pa_nil)))))))) (pss_one (ps_ret pe_bl)) pss_nil)
      (pss_cons (ps_if (PW.pt (pw_and (pt_cmpR op_notN (pv 6) pe_non (nomark _)) (pw_and1 (pt_cmpR op_ne (pe_op op_add (pe_callR D_takes (hr.mono (by decide)) takes0 (pa_cons (pv 4) (pa_cons (pv 6) pa_nil))) (pe_callR D_takes (hr.mono (by decide)) takes0 (pa_cons (pv 5) (pa_cons (pv 6) pa_nil)))) pe_int (nomark _))))) (pss_one (ps_ret pe_bl)) pss_nil)
      (pss_cons (ps_for PassesOwn.never rfl (pi_tup (pe_tup (pa_cons (pv 4) (pa_cons (pv 5) pa_nil)))) (pg_name (i := 7) sc_law.nd rfl (.inl rfl)) (pss_one (ps_if (pt_not (pt_val (pe_callR D__law_same (hr.mono (by decide)) takes0 (pa_cons (pe_callR D_first_taken (hr.mono (by decide)) takes0 (pa_cons (pv 7) pa_nil)) (pa_cons (pe_callR D__law_first (hr.mono (by decide)) takes0 (pa_cons (pv 7) (pa_cons (pv 7) (pa_cons pe_bl pa_nil)))) pa_nil))))) (pss_one (ps_ret pe_bl)) pss_nil)))
      (pss_one (ps_ret (pe_or (pv 3) (pe_one (pe_callR D__law_refused (hr.mono (by decide)) takes0 (pa_cons (pv 4) (pa_cons (pe_tup (pa_cons (pe_op op_add_str (pe_slice sl_str (pv 2) (po_some pe_int) po_none) (pe_ix ix_strQ (pv 2) pe_int (fun _ _ => rfl))) (pa_cons (pe_ix ix_tupQ (pv 5) pe_int (fun _ _ => rfl)) pa_nil))) pa_nil))))))))))))))))), ?_⟩
    refine seq_with (LwA a) (fun N tail => ?_) ?_
    · simp only [cxOf, tYes, eq_self, if_true, if_false, wipe, rLenQ, rIxTQ, rIxLQ, rIxSQ, rInt1Q, rTupQ, rAppQ, rPopQ, rPopAtQ, rRevQ, rListS, rReprP, tLenSetT, tChain, tRetN, tRet, tSeq, tAsg, gName, tVar, tC, tCons, tNil, tCB, tOp, rI0, rI, tAndV, tOrV, tNotV, tIf, tTest, tB, tNot, tAnd, tOr, tIfS, tNext, tCallR, rIsK, rEq, rNe, tDrop, L2.start, List.map_cons, List.map_nil, List.length_cons, List.length_nil, Nat.reduceAdd, Nat.reduceSub, Nat.sub_self, List.replicate_zero, List.replicate_succ, List.append_nil, List.cons_append, List.nil_append, List.getElem?_cons_zero, List.getElem?_cons_succ, List.set_cons_zero, List.set_cons_succ, Option.some.injEq, List.cons.injEq, and_true, true_and, exists_eq_left, exists_eq_left', exists_eq_right, V.ty.injEq, V.int.injEq, V.bl.injEq, V.str.injEq, V.ref.injEq, exists_and_left, exists_const, reduceIte, reduceCtorEq, false_and, and_false, exists_false, or_false, false_or, Bool.not_true, Bool.not_false, Bool.false_eq_true, String.reduceEq, true_or, or_true, tPar, tAug, ipI, tDNotIn, sDPut, tDGet, tTup, tLst, tBM, tBM0]
      exact ⟨a, ns, rfl, ha, fun l H1 hl0 s1 p1 => tail _ _ ⟨l, p1, rfl⟩⟩
    rintro σ H1 ⟨l, p1, rfl⟩
    refine seq_with (LwB a) (fun N tail => ?_) ?_
    · simp only [cxOf, tYes, eq_self, if_true, if_false, wipe, rLenQ, rIxTQ, rIxLQ, rIxSQ, rInt1Q, rTupQ, rAppQ, rPopQ, rPopAtQ, rRevQ, rListS, rReprP, tLenSetT, tChain, tRetN, tRet, tSeq, tAsg, gName, tVar, tC, tCons, tNil, tCB, tOp, rI0, rI, tAndV, tOrV, tNotV, tIf, tTest, tB, tNot, tAnd, tOr, tIfS, tNext, tCallR, rIsK, rEq, rNe, tDrop, L2.start, List.map_cons, List.map_nil, List.length_cons, List.length_nil, Nat.reduceAdd, Nat.reduceSub, Nat.sub_self, List.replicate_zero, List.replicate_succ, List.append_nil, List.cons_append, List.nil_append, List.getElem?_cons_zero, List.getElem?_cons_succ, List.set_cons_zero, List.set_cons_succ, Option.some.injEq, List.cons.injEq, and_true, true_and, exists_eq_left, exists_eq_left', exists_eq_right, V.ty.injEq, V.int.injEq, V.bl.injEq, V.str.injEq, V.ref.injEq, exists_and_left, exists_const, reduceIte, reduceCtorEq, false_and, and_false, exists_false, or_false, false_or, Bool.not_true, Bool.not_false, Bool.false_eq_true, String.reduceEq, true_or, or_true, tPar, tAug, ipI, tDNotIn, sDPut, tDGet, tTup, tLst, tBM, tBM0]
      refine ⟨l, 5, rfl, p1, by decide, fun r H2 h0 h1 b2 p2 => ⟨r, rfl, l, _, rfl, p2, by omega, by omega, fun z H3 hz _ b3 p3 => tail _ _ ⟨l, z, p3, hz, rfl⟩⟩⟩
    rintro σ H1 ⟨l, z, p1, hz, rfl⟩
    have hz5 := hz.top
    refine seq_with (LwC a) (fun N tail => ?_) ?_
    · simp only [cxOf, tYes, eq_self, if_true, if_false, wipe, rLenQ, rIxTQ, rIxLQ, rIxSQ, rInt1Q, rTupQ, rAppQ, rPopQ, rPopAtQ, rRevQ, rListS, rReprP, tLenSetT, tChain, tRetN, tRet, tSeq, tAsg, gName, tVar, tC, tCons, tNil, tCB, tOp, rI0, rI, tAndV, tOrV, tNotV, tIf, tTest, tB, tNot, tAnd, tOr, tIfS, tNext, tCallR, rIsK, rEq, rNe, tDrop, L2.start, List.map_cons, List.map_nil, List.length_cons, List.length_nil, Nat.reduceAdd, Nat.reduceSub, Nat.sub_self, List.replicate_zero, List.replicate_succ, List.append_nil, List.cons_append, List.nil_append, List.getElem?_cons_zero, List.getElem?_cons_succ, List.set_cons_zero, List.set_cons_succ, Option.some.injEq, List.cons.injEq, and_true, true_and, exists_eq_left, exists_eq_left', exists_eq_right, V.ty.injEq, V.int.injEq, V.bl.injEq, V.str.injEq, V.ref.injEq, exists_and_left, exists_const, reduceIte, reduceCtorEq, false_and, and_false, exists_false, or_false, false_or, Bool.not_true, Bool.not_false, Bool.false_eq_true, String.reduceEq, true_or, or_true, tPar, tAug, ipI, tDNotIn, sDPut, tDGet, tTup, tLst, tBM, tBM0]
      exact ⟨szle (m := 5) hz.top, rfl, tail _ _ ⟨l, z, p1, hz, rfl⟩⟩
    rintro σ H1 ⟨l, z, p1, hz, rfl⟩
    refine seq_with (LwD K a) (fun N tail => ?_) ?_
    · simp only [cxOf, tYes, eq_self, if_true, if_false, wipe, rLenQ, rIxTQ, rIxLQ, rIxSQ, rInt1Q, rTupQ, rAppQ, rPopQ, rPopAtQ, rRevQ, rListS, rReprP, tLenSetT, tChain, tRetN, tRet, tSeq, tAsg, gName, tVar, tC, tCons, tNil, tCB, tOp, rI0, rI, tAndV, tOrV, tNotV, tIf, tTest, tB, tNot, tAnd, tOr, tIfS, tNext, tCallR, rIsK, rEq, rNe, tDrop, L2.start, List.map_cons, List.map_nil, List.length_cons, List.length_nil, Nat.reduceAdd, Nat.reduceSub, Nat.sub_self, List.replicate_zero, List.replicate_succ, List.append_nil, List.cons_append, List.nil_append, List.getElem?_cons_zero, List.getElem?_cons_succ, List.set_cons_zero, List.set_cons_succ, Option.some.injEq, List.cons.injEq, and_true, true_and, exists_eq_left, exists_eq_left', exists_eq_right, V.ty.injEq, V.int.injEq, V.bl.injEq, V.str.injEq, V.ref.injEq, exists_and_left, exists_const, reduceIte, reduceCtorEq, false_and, and_false, exists_false, or_false, false_or, Bool.not_true, Bool.not_false, Bool.false_eq_true, String.reduceEq, true_or, or_true, tPar, tAug, ipI, tDNotIn, sDPut, tDGet, tTup, tLst, tBM, tBM0]
      by_cases hs : sgl z = true
      case' pos => refine ifT hs ?_
      case' neg => refine ifF (by simpa using hs) ?_
      all_goals refine ⟨l, _, rfl, p1, by decide, fun r H2 h0 h1 b2 p2 => ⟨r, rfl, l, z, _, _, rfl, p2, hz, by omega, by omega, fun v rs H3 hv o hl b3 p3 => tail _ _ ⟨l, z, v, rs, p3, hz, hv, o, by omega, rfl⟩⟩⟩
    rintro σ H1 ⟨l, z, v1, r1, p1, hz, hv1, o1, l1, rfl⟩
    refine seq_with (LwE K a) (fun N tail => ?_) ?_
    · simp only [cxOf, tYes, eq_self, if_true, if_false, wipe, rLenQ, rIxTQ, rIxLQ, rIxSQ, rInt1Q, rTupQ, rAppQ, rPopQ, rPopAtQ, rRevQ, rListS, rReprP, tLenSetT, tChain, tRetN, tRet, tSeq, tAsg, gName, tVar, tC, tCons, tNil, tCB, tOp, rI0, rI, tAndV, tOrV, tNotV, tIf, tTest, tB, tNot, tAnd, tOr, tIfS, tNext, tCallR, rIsK, rEq, rNe, tDrop, L2.start, List.map_cons, List.map_nil, List.length_cons, List.length_nil, Nat.reduceAdd, Nat.reduceSub, Nat.sub_self, List.replicate_zero, List.replicate_succ, List.append_nil, List.cons_append, List.nil_append, List.getElem?_cons_zero, List.getElem?_cons_succ, List.set_cons_zero, List.set_cons_succ, Option.some.injEq, List.cons.injEq, and_true, true_and, exists_eq_left, exists_eq_left', exists_eq_right, V.ty.injEq, V.int.injEq, V.bl.injEq, V.str.injEq, V.ref.injEq, exists_and_left, exists_const, reduceIte, reduceCtorEq, false_and, and_false, exists_false, or_false, false_or, Bool.not_true, Bool.not_false, Bool.false_eq_true, String.reduceEq, true_or, or_true, tPar, tAug, ipI, tDNotIn, sDPut, tDGet, tTup, tLst, tBM, tBM0]
      by_cases hs : sgl z = true
      case' pos => refine ifT hs ?_
      case' neg => refine ifF (by simpa using hs) ?_
      all_goals refine ⟨l, _, rfl, p1, by decide, fun r H2 h0 h1 b2 p2 => ⟨r, rfl, l, z, _, _, rfl, p2, hz, by omega, by omega, fun v rs H3 hv o hl b3 p3 => tail _ _ ⟨l, z, v1, r1, v, rs, p3, hz, hv1.mono (pool_tk p1 (b2.trans b3)), o1, l1, hv, o, by omega, rfl⟩⟩⟩
    rintro σ H1 ⟨l, z, v1, r1, v2, r2, p1, hz, hv1, o1, l1, hv2, o2, l2, rfl⟩
    refine seq_with (LwE K a) (fun N tail => ?_) ?_
    · simp only [cxOf, tYes, eq_self, if_true, if_false, wipe, rLenQ, rIxTQ, rIxLQ, rIxSQ, rInt1Q, rTupQ, rAppQ, rPopQ, rPopAtQ, rRevQ, rListS, rReprP, tLenSetT, tChain, tRetN, tRet, tSeq, tAsg, gName, tVar, tC, tCons, tNil, tCB, tOp, rI0, rI, tAndV, tOrV, tNotV, tIf, tTest, tB, tNot, tAnd, tOr, tIfS, tNext, tCallR, rIsK, rEq, rNe, tDrop, L2.start, List.map_cons, List.map_nil, List.length_cons, List.length_nil, Nat.reduceAdd, Nat.reduceSub, Nat.sub_self, List.replicate_zero, List.replicate_succ, List.append_nil, List.cons_append, List.nil_append, List.getElem?_cons_zero, List.getElem?_cons_succ, List.set_cons_zero, List.set_cons_succ, Option.some.injEq, List.cons.injEq, and_true, true_and, exists_eq_left, exists_eq_left', exists_eq_right, V.ty.injEq, V.int.injEq, V.bl.injEq, V.str.injEq, V.ref.injEq, exists_and_left, exists_const, reduceIte, reduceCtorEq, false_and, and_false, exists_false, or_false, false_or, Bool.not_true, Bool.not_false, Bool.false_eq_true, String.reduceEq, true_or, or_true, tPar, tAug, ipI, tDNotIn, sDPut, tDGet, tTup, tLst, tBM, tBM0]
      refine ⟨l, 2, rfl, p1, by decide, fun c H2 _ _ b2 p2 => ⟨rfl, ?_⟩⟩
      by_cases hc : c = 0
      · refine ifT (by simp [hc]) ?_
        exact ⟨l, v1, z, r1, rfl, p2, hv1.mono (pool_tk p1 b2), hz, o1, fun v rs' H3 hv o e b3 p3 => tail _ _ ⟨l, z, v1, r1, v, rs', p3, hz, hv1.mono (pool_tk p1 (b2.trans b3)), o1, l1, hv, o, by omega, rfl⟩⟩
      · refine ifF (by simp [hc]) ?_
        exact tail _ _ ⟨l, z, v1, r1, v2, r2, p2, hz, hv1.mono (pool_tk p1 b2), o1, l1, hv2.mono (pool_tk p1 b2), o2, l2, rfl⟩
    rintro σ H1 ⟨l, z, v1, r1, v2, r2, p1, hz, hv1, o1, l1, hv2, o2, l2, rfl⟩
    have lowU := low_unlike hz o1 o2 l1 l2
    refine seq_with (LwF K a l z v1 v2 r1 r2) (fun N tail => ?_) ?_
    · simp only [cxOf, tYes, eq_self, if_true, if_false, wipe, rLenQ, rIxTQ, rIxLQ, rIxSQ, rInt1Q, rTupQ, rAppQ, rPopQ, rPopAtQ, rRevQ, rListS, rReprP, tLenSetT, tChain, tRetN, tRet, tSeq, tAsg, gName, tVar, tC, tCons, tNil, tCB, tOp, rI0, rI, tAndV, tOrV, tNotV, tIf, tTest, tB, tNot, tAnd, tOr, tIfS, tNext, tCallR, rIsK, rEq, rNe, tDrop, L2.start, List.map_cons, List.map_nil, List.length_cons, List.length_nil, Nat.reduceAdd, Nat.reduceSub, Nat.sub_self, List.replicate_zero, List.replicate_succ, List.append_nil, List.cons_append, List.nil_append, List.getElem?_cons_zero, List.getElem?_cons_succ, List.set_cons_zero, List.set_cons_succ, Option.some.injEq, List.cons.injEq, and_true, true_and, exists_eq_left, exists_eq_left', exists_eq_right, V.ty.injEq, V.int.injEq, V.bl.injEq, V.str.injEq, V.ref.injEq, exists_and_left, exists_const, reduceIte, reduceCtorEq, false_and, and_false, exists_false, or_false, false_or, Bool.not_true, Bool.not_false, Bool.false_eq_true, String.reduceEq, true_or, or_true, tPar, tAug, ipI, tDNotIn, sDPut, tDGet, tTup, tLst, tBM, tBM0]
      refine ⟨v1, v2, true, z, r1, r2, rfl, hv1, hv2, hz, o1, o2, l1, l2, fun H' s => tail _ _ ⟨hv1.mono (TK.of_same s), hv2.mono (TK.of_same s), none, ?_⟩⟩
      rw [law_unlike o1 o2 l1 l2]
    rintro σ H1 ⟨hv1, hv2, x7, rfl⟩
    refine seq_with (LwF K a l z v1 v2 r1 r2) (fun N tail => ?_) ?_
    · simp only [cxOf, tYes, eq_self, if_true, if_false, wipe, rLenQ, rIxTQ, rIxLQ, rIxSQ, rInt1Q, rTupQ, rAppQ, rPopQ, rPopAtQ, rRevQ, rListS, rReprP, tLenSetT, tChain, tRetN, tRet, tSeq, tAsg, gName, tVar, tC, tCons, tNil, tCB, tOp, rI0, rI, tAndV, tOrV, tNotV, tIf, tTest, tB, tNot, tAnd, tOr, tIfS, tNext, tCallR, rIsK, rEq, rNe, tDrop, L2.start, List.map_cons, List.map_nil, List.length_cons, List.length_nil, Nat.reduceAdd, Nat.reduceSub, Nat.sub_self, List.replicate_zero, List.replicate_succ, List.append_nil, List.cons_append, List.nil_append, List.getElem?_cons_zero, List.getElem?_cons_succ, List.set_cons_zero, List.set_cons_succ, Option.some.injEq, List.cons.injEq, and_true, true_and, exists_eq_left, exists_eq_left', exists_eq_right, V.ty.injEq, V.int.injEq, V.bl.injEq, V.str.injEq, V.ref.injEq, exists_and_left, exists_const, reduceIte, reduceCtorEq, false_and, and_false, exists_false, or_false, false_or, Bool.not_true, Bool.not_false, Bool.false_eq_true, String.reduceEq, true_or, or_true, tPar, tAug, ipI, tDNotIn, sDPut, tDGet, tTup, tLst, tBM, tBM0]
      refine ⟨v1, z, r1, v2, z, r2, rfl, hv1, hv2, hz, hz, o1, o2, fun _ H2 s2 => ?_, fun e => absurd rfl e⟩
      refine ⟨_, rfl, lowU, true, rfl, ifF rfl ?_⟩
      refine ⟨v2, z, r2, v1, z, r1, rfl, hv2.mono (TK.of_same s2), hv1.mono (TK.of_same s2), hz, hz, o2, o1, fun _ H3 s3 => ?_, fun e => absurd rfl e⟩
      rw [unlike_swap z r1 r2]
      exact ⟨_, rfl, lowU, true, rfl, ifF rfl (tail _ _ ⟨hv1.mono (TK.of_same (Same.trans s2 s3)), hv2.mono (TK.of_same (Same.trans s2 s3)), x7, rfl⟩)⟩
    rintro σ H1 ⟨hv1, hv2, x7, rfl⟩
    refine seq_with (LwF K a l z v1 v2 r1 r2) (fun N tail => ?_) ?_
    · simp only [cxOf, tYes, eq_self, if_true, if_false, wipe, rLenQ, rIxTQ, rIxLQ, rIxSQ, rInt1Q, rTupQ, rAppQ, rPopQ, rPopAtQ, rRevQ, rListS, rReprP, tLenSetT, tChain, tRetN, tRet, tSeq, tAsg, gName, tVar, tC, tCons, tNil, tCB, tOp, rI0, rI, tAndV, tOrV, tNotV, tIf, tTest, tB, tNot, tAnd, tOr, tIfS, tNext, tCallR, rIsK, rEq, rNe, tDrop, L2.start, List.map_cons, List.map_nil, List.length_cons, List.length_nil, Nat.reduceAdd, Nat.reduceSub, Nat.sub_self, List.replicate_zero, List.replicate_succ, List.append_nil, List.cons_append, List.nil_append, List.getElem?_cons_zero, List.getElem?_cons_succ, List.set_cons_zero, List.set_cons_succ, Option.some.injEq, List.cons.injEq, and_true, true_and, exists_eq_left, exists_eq_left', exists_eq_right, V.ty.injEq, V.int.injEq, V.bl.injEq, V.str.injEq, V.ref.injEq, exists_and_left, exists_const, reduceIte, reduceCtorEq, false_and, and_false, exists_false, or_false, false_or, Bool.not_true, Bool.not_false, Bool.false_eq_true, String.reduceEq, true_or, or_true, tPar, tAug, ipI, tDNotIn, sDPut, tDGet, tTup, tLst, tBM, tBM0]
      by_cases hn : unlikeR z r1 r2 = none
      · exact ifF (by rw [hn]; rfl) (tail _ _ ⟨hv1, hv2, x7, rfl⟩)
      · obtain ⟨p, hp⟩ := Option.ne_none_iff_exists'.mp hn
        obtain ⟨d1, d2⟩ := due_way hz o1 o2 hp
        have dl : (textOf z p).length ≤ 100000 := by
          rcases lowU with e | ⟨t, e, ht, _⟩
          · rw [hp] at e; cases e
          · rw [hp] at e
            obtain rfl : textOf z p = t := V.str.inj e
            omega
        refine ifT (by rw [hp]; rfl) ?_
        refine ⟨v1, z, r1, textOf z p, by rw [hp]; rfl, hv1, hz, o1, txB_text d1, dl, fun H2 s2 => ⟨v2, z, r2, textOf z p, by rw [hp]; rfl, hv2.mono (TK.of_same s2), hz, o2, txB_text d1, dl, fun H3 s3 => ⟨_, rfl, _, rfl, rfl, ?_⟩⟩⟩
        exact ifF (by rw [d2]; rfl) (tail _ _ ⟨hv1.mono (TK.of_same (Same.trans s2 s3)), hv2.mono (TK.of_same (Same.trans s2 s3)), x7, rfl⟩)
    rintro σ H1 ⟨hv1, hv2, x7, rfl⟩
    refine seq_with (LwF K a l z v1 v2 r1 r2) (fun N tail => ?_) ?_
    · simp only [cxOf, tYes, eq_self, if_true, if_false, wipe, rLenQ, rIxTQ, rIxLQ, rIxSQ, rInt1Q, rTupQ, rAppQ, rPopQ, rPopAtQ, rRevQ, rListS, rReprP, tLenSetT, tChain, tRetN, tRet, tSeq, tAsg, gName, tVar, tC, tCons, tNil, tCB, tOp, rI0, rI, tAndV, tOrV, tNotV, tIf, tTest, tB, tNot, tAnd, tOr, tIfS, tNext, tCallR, rIsK, rEq, rNe, tDrop, L2.start, List.map_cons, List.map_nil, List.length_cons, List.length_nil, Nat.reduceAdd, Nat.reduceSub, Nat.sub_self, List.replicate_zero, List.replicate_succ, List.append_nil, List.cons_append, List.nil_append, List.getElem?_cons_zero, List.getElem?_cons_succ, List.set_cons_zero, List.set_cons_succ, Option.some.injEq, List.cons.injEq, and_true, true_and, exists_eq_left, exists_eq_left', exists_eq_right, V.ty.injEq, V.int.injEq, V.bl.injEq, V.str.injEq, V.ref.injEq, exists_and_left, exists_const, reduceIte, reduceCtorEq, false_and, and_false, exists_false, or_false, false_or, Bool.not_true, Bool.not_false, Bool.false_eq_true, String.reduceEq, true_or, or_true, tPar, tAug, ipI, tDNotIn, sDPut, tDGet, tTup, tLst, tBM, tBM0]
      refine ⟨v1, rfl, v2, rfl, szle (m := 2) (Nat.le_refl _), fun p hp0 => ⟨p, rfl, ⟨_, .inl (.inl upd_same)⟩, ?_⟩⟩
      have s0 : Same H1 (upd H1 p (.tup [v1, v2])) := same_upd hp0
      refine for_tup (xs := [v1, v2]) (fun _ σ' H' => SqT K H' p [v1, v2] ∧ LwF K a l z v1 v2 r1 r2 σ' H') ⟨.inl (.inl upd_same), hv1.mono (TK.of_same s0), hv2.mono (TK.of_same s0), x7, rfl⟩ (fun _ _ _ _ h => h.1) ?_ (fun σ' H' h => tail _ _ h.2)
      rintro i x σ' H2 hx ⟨hp1, g1, g2, x7', rfl⟩
      obtain ⟨r, gx, gok, gl⟩ : ∃ r, RLk K H2 x z r ∧ RowsOk z.length r ∧ r.length ≤ 19 := by
        match i, hx with
        | 0, hx =>
          obtain rfl := Option.some.inj hx
          exact ⟨r1, g1, o1, l1⟩
        | 1, hx =>
          obtain rfl := Option.some.inj hx
          exact ⟨r2, g2, o2, l2⟩
        | n + 2, hx => simp at hx
      simp only [cxOf, tYes, eq_self, if_true, if_false, wipe, rLenQ, rIxTQ, rIxLQ, rIxSQ, rInt1Q, rTupQ, rAppQ, rPopQ, rPopAtQ, rRevQ, rListS, rReprP, tLenSetT, tChain, tRetN, tRet, tSeq, tAsg, gName, tVar, tC, tCons, tNil, tCB, tOp, rI0, rI, tAndV, tOrV, tNotV, tIf, tTest, tB, tNot, tAnd, tOr, tIfS, tNext, tCallR, rIsK, rEq, rNe, tDrop, L2.start, List.map_cons, List.map_nil, List.length_cons, List.length_nil, Nat.reduceAdd, Nat.reduceSub, Nat.sub_self, List.replicate_zero, List.replicate_succ, List.append_nil, List.cons_append, List.nil_append, List.getElem?_cons_zero, List.getElem?_cons_succ, List.set_cons_zero, List.set_cons_succ, Option.some.injEq, List.cons.injEq, and_true, true_and, exists_eq_left, exists_eq_left', exists_eq_right, V.ty.injEq, V.int.injEq, V.bl.injEq, V.str.injEq, V.ref.injEq, exists_and_left, exists_const, reduceIte, reduceCtorEq, false_and, and_false, exists_false, or_false, false_or, Bool.not_true, Bool.not_false, Bool.false_eq_true, String.reduceEq, true_or, or_true, tPar, tAug, ipI, tDNotIn, sDPut, tDGet, tTup, tLst, tBM, tBM0]
      refine ⟨x, z, r, rfl, gx, hz, gok, fun H3 s3 => ?_⟩
      refine ⟨x, x, false, z, r, r, rfl, gx.mono (TK.of_same s3), gx.mono (TK.of_same s3), hz, gok, gok, gl, gl, fun H4 s4 => ?_⟩
      rw [first_law gok gl]
      have s5 := Same.trans s3 s4
      exact ⟨_, rfl, low_first hz gok gl, true, rfl, ifF rfl ⟨Same.sqT s5 hp1, g1.mono (TK.of_same s5), g2.mono (TK.of_same s5), some x, rfl⟩⟩
    rintro σ H1 ⟨hv1, hv2, x7, rfl⟩
    simp only [cxOf, tYes, eq_self, if_true, if_false, wipe, rLenQ, rIxTQ, rIxLQ, rIxSQ, rInt1Q, rTupQ, rAppQ, rPopQ, rPopAtQ, rRevQ, rListS, rReprP, tLenSetT, tChain, tRetN, tRet, tSeq, tAsg, gName, tVar, tC, tCons, tNil, tCB, tOp, rI0, rI, tAndV, tOrV, tNotV, tIf, tTest, tB, tNot, tAnd, tOr, tIfS, tNext, tCallR, rIsK, rEq, rNe, tDrop, L2.start, List.map_cons, List.map_nil, List.length_cons, List.length_nil, Nat.reduceAdd, Nat.reduceSub, Nat.sub_self, List.replicate_zero, List.replicate_succ, List.append_nil, List.cons_append, List.nil_append, List.getElem?_cons_zero, List.getElem?_cons_succ, List.set_cons_zero, List.set_cons_succ, Option.some.injEq, List.cons.injEq, and_true, true_and, exists_eq_left, exists_eq_left', exists_eq_right, V.ty.injEq, V.int.injEq, V.bl.injEq, V.str.injEq, V.ref.injEq, exists_and_left, exists_const, reduceIte, reduceCtorEq, false_and, and_false, exists_false, or_false, false_or, Bool.not_true, Bool.not_false, Bool.false_eq_true, String.reduceEq, true_or, or_true, tPar, tAug, ipI, tDNotIn, sDPut, tDGet, tTup, tLst, tBM, tBM0]
    by_cases hs : sgl z = true
    · exact ifT hs (q _)
    · refine ifF (by simpa using hs) ?_
      obtain ⟨c2, b2, rfl, g2, gb2⟩ := hv2
      refine ⟨.str z, rfl, 1, rfl, z, rfl, szle (m := 5) hz.top, ?_⟩
      refine ⟨szle (m := 5) hz.top, _, at_sign hz.pos, _, rfl, ?_, _, g2, _, rfl, szle (m := 2) (Nat.le_refl _), fun p hp0 => ?_⟩
      · have := cutS_length z (some 1) none
        have := hz.top
        rw [show (sgn (z.cps.getD 0 0)).length = 1 from rfl]
        exact szle (m := 100) (by omega)
      · have s0 : Same H1 (upd H1 p (.tup [.str (turn z), .ref b2])) := same_upd hp0
        refine ⟨v1, z, r1, .ref p, turn z, r2, rfl, hv1.mono (TK.of_same s0), ⟨p, b2, rfl, .inl (.inl upd_same), gb2.mono (TK.of_same s0)⟩, hz, turn_ok hz, o1, by rw [turn_len hz.pos]; exact o2, turn_ne hz (fun e => hs (by unfold sgl; rw [e]; rfl)), q⟩
end
end K36

namespace K36
open PySem PySem.Spec PyProof.Rows L2 Sg
theorem facts {P : Program} {w : World} {K : PySem.W.Frag} {h : Heap} {mg : Str → Option Value} {f : Addr} (X : K.In h) (G : h.Ns mainGlobals mg) (hfa : mg ("law" : Str) = some (.ref f)) (c : SaysX exB fas fns K) :
    ∃ fd : FuncData, (∀ (s : Shared) (v : Value), BindsTo s fd ⟨[v], []⟩ [("script", v)]) ∧ ∀ base : Heap, K.In base → base.Ns mainGlobals mg → FnOk P w K mg base L2.CX0 7 f fd ["script"] (spLaw K) := by
  have T := tx_mk X G c.1 c.2
  obtain ⟨fd0, F0⟩ := T.d_law
  have same := hfa.symm.trans T.g_law
  cases same
  have bound := FunD.bindsA (ps := ["script"]) F0 fun _ _ _ _ _ _ us hl => match us, hl with | [_], _ => rfl
  exact ⟨fd0, fun s v => bound s [v] rfl, fun base _ _ => fn_law T F0⟩
end K36
open PySem PySem.W PySem.Calls PyProof.Rows
theorem PySem.Challenge.cw_signwright_k36_first_texts_holds : PySem.Challenge.rw_signwright_k36_first_texts.Holds := by
  w_on; o_law
  refine HandSHeadRun.head_any (r := OpenLaw.row PySem.Challenge.rw_signwright_k36_first_texts) (q := view (OpenLaw.row PySem.Challenge.rw_signwright_k36_first_texts).prog [37]) (H := K36.hk) (ob := K36.ob) (M := 4000) (loose := K36.loose) (d := HandSHeadRun.topDef (OpenLaw.row PySem.Challenge.rw_signwright_k36_first_texts).prog 37) (kwd := []) K36.ob_eq
    (by kernel_rfl) (fun s => by kernel_rfl) K36.run (by kernel_rfl) (by kernel_rfl) (by kernel_rfl) (by rfl) (by first | assumption | decide +kernel) (by decide +kernel) ⟨rfl, rfl, rfl, rfl, rfl, by decide +kernel⟩ ?hw ?hc
  case hw => w_witness2
  case hc =>
    refine L2.walk_ofE (l := PySem.Challenge.rw_signwright_k36_first_texts) (n := 63) (k := 7) (x := "script") (CX := L2.CX0) rfl (by decide) (by kernel_rfl) ⟨rfl, by decide, by decide⟩ ?F (fun _ _ _ _ z => z)
    intro w mg fa h Y G hmg0
    obtain ⟨K, KX, said⟩ := Y
    have hmg : mg ("law" : PySem.Str) = some (.ref fa) := by
      have name_is : (HandSHeadRun.topDef (OpenLaw.row PySem.Challenge.rw_signwright_k36_first_texts).prog 37).name = ("law" : PySem.Str) := by kernel_rfl
      rw [← name_is]
      exact hmg0
    obtain ⟨fd, hb, hF⟩ := K36.facts (P := (PySem.Challenge.rw_signwright_k36_first_texts).prog) (w := w) KX G hmg said
    exact ⟨K, fd, K36.spLaw K, KX, hb, fun H a xs _ _ hS => ⟨a, xs, rfl, hS, fun _ => rfl⟩, hF⟩
