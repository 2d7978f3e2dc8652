import PyProof.Rows.All
import Wide.All
import OpenK.AllK
import Wide.FinOn
import Lean
import HandS.ForMost
import HandS.ForExc
import HandS.Defaults
import HandS.Head0
import HandS.Head1
import HandS.Head2
import HandS.HeadEnd
import HandS.HeadHook1
import HandS.HeadHook2
import HandS.IsInst
import HandS.TupAny
import HandS.Style
import HandS.TryMany
import HandS.ExcIs
import PyProof.Rows.SetFrom
import PyProof.StrWalks
import KE.GoesEnum
import KE.KDictDisplayH
import PyProof.ListStr
import PyProof.StrLawsRepr
import PyProof.Rows.StrFirst
import HandS.TupLen
import HandS.TupSets
import KE.KeyNested
import PyProof.Rows.TupTab
import PyProof.ReprRoads
import PyProof.ReprLen
import HandS.FStr
import PySem.Challenge.RW_signwright_k37_counts_and_long_texts
set_option Elab.async false
set_option linter.all false
set_option maxRecDepth 100000
set_option maxHeartbeats 0
namespace Sg
open PySem PySem.Spec PyProof.Rows L2
/-! ### plain data by kinds; isinstance of built-in classes -/
abbrev FnP (K : PySem.W.Frag) (x : Str) (st : Stmt) (f : Addr) (fd : FuncData) : Prop := FunD K x x (defArgs st) (defBody st) (defScope st) [] [] f fd
inductive Kd (K : PySem.W.Frag) (H : Hp) : V → Prop where
  | int (i : Int) : Kd K H (.int i)
  | bl (b : Bool) : Kd K H (.bl b)
  | non : Kd K H .non
  | str (x : Str) : Kd K H (.str x)
  | tup {a : Addr} {xs : List V} (h : SqT K H a xs) : Kd K H (.ref a)
def kdn : V → String
  | .int _ => "int"
  | .bl _ => "bool"
  | .non => "NoneType"
  | .str _ => "str"
  | _ => "tuple"
theorem sqT_ty {K : PySem.W.Frag} {H : Hp} {a : Addr} {xs : List V} (h : SqT K H a xs) : TyX K H (.ref a) (.type "tuple") := by
  rcases h with (h | ⟨o, h⟩) | ⟨o, its, n, h1, h2, _⟩
  · exact .base (.tup h)
  · exact .fTuple h
  · exact .kTuple h1 h2
theorem Kd.ty {K : PySem.W.Frag} {H : Hp} {x : V} (h : Kd K H x) : TyX K H x (.type (kdn x)) := by
  cases h with
  | int i => exact .base (.int i)
  | bl i => exact .base (.bl i)
  | non => exact .base .non
  | str i => exact .base (.str i)
  | tup h => exact sqT_ty h
def isaB (n : String) (x : V) : Bool := match x with
  | .int _ => n == "int"
  | .bl _ => n == "int" || n == "bool"
  | .str _ => n == "str"
  | .ref _ => n == "tuple"
  | _ => false
theorem Kd.kit {K : PySem.W.Frag} {H : Hp} {x : V} (h : Kd K H x) {n : String} (hn : n = "int" ∨ n = "bool" ∨ n = "str" ∨ n = "tuple") : PySem.W.kitOne K (.type (kdn x)) (.type n) = some (isaB n x) := by
  refine kit_ty ?_
  have a1 : kitB "int" "int" = some true ∧ kitB "int" "bool" = some false ∧ kitB "int" "str" = some false ∧ kitB "int" "tuple" = some false := by decide +kernel
  have a2 : kitB "bool" "int" = some true ∧ kitB "bool" "bool" = some true ∧ kitB "bool" "str" = some false ∧ kitB "bool" "tuple" = some false := by decide +kernel
  have a3 : kitB "NoneType" "int" = some false ∧ kitB "NoneType" "bool" = some false ∧ kitB "NoneType" "str" = some false ∧ kitB "NoneType" "tuple" = some false := by decide +kernel
  have a4 : kitB "str" "int" = some false ∧ kitB "str" "bool" = some false ∧ kitB "str" "str" = some true ∧ kitB "str" "tuple" = some false := by decide +kernel
  have a5 : kitB "tuple" "int" = some false ∧ kitB "tuple" "bool" = some false ∧ kitB "tuple" "str" = some false ∧ kitB "tuple" "tuple" = some true := by decide +kernel
  rcases hn with rfl | rfl | rfl | rfl <;> cases h <;> simp only [kdn, isaB, a1, a2, a3, a4, a5] <;> decide
/-- isinstance(x, T), x plain data, T one of int, bool, str, tuple -/
def rIsK (K : PySem.W.Frag) : List V → Hp → VK → Prop := fun xs H Q => match xs with
  | [x, .ty n] => (n = "int" ∨ n = "bool" ∨ n = "str" ∨ n = "tuple") ∧ Kd K H x ∧ Q (.bl (isaB n x)) H
  | _ => False
theorem call_isK {X : Cx} : CallR X (.builtin "isinstance") (rIsK X.K) := by
  intro pins s σ H xs us Q I r h
  match xs, h with
  | [x, .ty n], ⟨hn, hx, q⟩ => exact call_isi pins s σ H _ us Q I r ⟨x, .ty n, _, _, _, rfl, .ty n, hx.ty, hx.kit hn, q⟩
/-! ### defs, and calls of them -/
structure Dk (P : Program) (w : World) (K : PySem.W.Frag) (mg : Str → Option Value) (base : Heap) (k : Nat) (x : Str) (ps : List Str) (sp : Sp) : Prop where
  ok : ∃ fd, FnOk P w K mg base (L2.CX P w) k (He.ga K x) fd ps sp ∧ Binds K fd ps []
  kp : PySem.W.keepIn K (.ref (He.ga K x)) = true
  gm : mg x = some (.ref (He.ga K x))
def tCallR (sp : Sp) (W : WX) (t : TA) : TE := fun σ H Q => t σ H fun vs H1 => sp vs H1 Q fun cls d H' => W cls d σ H'
theorem pe_callR {X : Cx} {k : Nat} {x : Str} {ps : List Str} {sp : Sp} {W : WX} {e : Expr} {es : List Expr} {t : TA} {p pos : Pos} (D : Dk X.prog X.w X.K X.mg X.base k x ps sp) (hr : Room k X.A) (tk : Takes X W) (ha : PA X (e :: es) t) (hg : Gl X x := by rfl)
    (hdb : (x == ("__debug__" : Str)) = false := by decide) (he : starEach (e :: es) X.env = (false, eval e X.env) :: starEach es X.env := by rfl) (hpl : (backTo pos (starEach es X.env)).any (·.1) = false := by rfl) :
    PE X (.Call (.Name x p) (e :: es) [] pos) (tCallR sp W t) := by
  obtain ⟨fd, F, B⟩ := D.ok
  exact pe_callS (E := fun σ cls d H' => W cls d σ H') F hr hg D.gm D.kp B (fun σ => passAt tk σ) ha hdb he hpl
structure ExcF (K : PySem.W.Frag) (mg : Str → Option Value) (x : Str) : Prop where
  gm : mg x = some (.ref (He.ga K x))
  ex : PySem.W.excIn K (He.ga K x) He.veBase "ValueError.__new__" = true
  kp : PySem.W.keepIn K (.ref (He.ga K x)) = true
  sb : PySem.W.subIn K (.ref (He.ga K x)) (.type "BaseException") = some true
  tc : PySem.W.typeIn K (.ref (He.ga K x)) = some (.type "type")
theorem excF_mk {K : PySem.W.Frag} {mg : Str → Option Value} {x : Str} (g : mg x = some (.ref (He.ga K x))) (c : (He.Fa.exc x).ok K = true) : ExcF K mg x :=
  let ⟨h1, h2, h3, h4⟩ := He.exc_ok c
  ⟨g, h1, h2, h3, h4⟩
theorem ExcF.rs {X : Cx} {mg : Str → Option Value} {x : Str} (h : ExcF X.K mg x) : Raises X (.ref (He.ga X.K x)) := raises_own h.sb h.tc
/-! ### the hook of facts, with one Bool more -/
def obsX (ex : PySem.W.Frag → Bool) (fa : List He.Fa) (fn : List He.DefD) (K : PySem.W.Frag) : Bool × He.AlD := (ex K, He.obsD fa fn K)
def obsXG (n : Nat) (ex : PySem.W.Frag → Bool) (fa : List He.Fa) (fn : List He.DefD) (g : Addr → Option Obj) : Bool × He.AlD := obsX ex fa fn (He.frG g (He.asD g n))
def SaysX (ex : PySem.W.Frag → Bool) (fa : List He.Fa) (fn : List He.DefD) (K : PySem.W.Frag) : Prop := He.SaysD fa fn K ∧ ex K = true
def hookX (n : Nat) (ex : PySem.W.Frag → Bool) (fa : List He.Fa) (fn : List He.DefD) : PySem.W.Hook where
  α := Bool × He.AlD
  obs := fun s => obsXG n ex fa fn s.heap.get?
  val := fun _ => (true, He.valD fn)
  says := fun _ h => ∃ K : PySem.W.Frag, K.In h ∧ SaysX ex fa fn K
  of := fun _ _ e => ⟨_, He.frG_in, congrArg (fun z : Bool × He.AlD => z.2) e, congrArg (fun z : Bool × He.AlD => z.1) e⟩
  keeps := fun _ _ _ ⟨K, hK, c⟩ k => ⟨K, PySem.W.Frag.In.keeps hK k, c⟩
theorem obsXG_eq {n : Nat} {ex : PySem.W.Frag → Bool} {fa : List He.Fa} {fn : List He.DefD} {g : Addr → Option Obj} {s : Shared} (h : ∀ a, g a = s.heap.get? a) : obsXG n ex fa fn g = (hookX n ex fa fn).obs s := by
  have e : g = s.heap.get? := funext h
  rw [e]; rfl
/-! ### heaps -/
/-- what stood but the list at p is as it was -/
def But (p : Addr) (H H' : Hp) : Prop := ∀ b o, b ≠ p → H b = some o → H' b = some o
/-- tuples stay -/
def TK (H H' : Hp) : Prop := (∀ b xs, H b = some (.tup xs) → H' b = some (.tup xs)) ∧ ∀ b o u, H b = some (.frz o u) → H' b = some (.frz o u)
theorem TK.refl (H : Hp) : TK H H := ⟨fun _ _ h => h, fun _ _ _ h => h⟩
theorem TK.trans {H H1 H2 : Hp} (a : TK H H1) (b : TK H1 H2) : TK H H2 := ⟨fun c xs h => b.1 c xs (a.1 c xs h), fun c o u h => b.2 c o u (a.2 c o u h)⟩
theorem TK.of_same {H H' : Hp} (s : Same H H') : TK H H' := ⟨fun b _ h => s b _ h, fun b _ _ h => s b _ h⟩
theorem TK.of_but {H H' : Hp} {p : Addr} {xs : List V} (s : But p H H') (hp : H p = some (.lst xs)) : TK H H' :=
  ⟨fun b _ h => s b _ (fun z => by rw [z, hp] at h; cases h) h, fun b _ _ h => s b _ (fun z => by rw [z, hp] at h; cases h) h⟩
theorem TK.sqT {K : PySem.W.Frag} {H H' : Hp} {a : Addr} {xs : List V} (k : TK H H') (h : SqT K H a xs) : SqT K H' a xs := by
  rcases h with (h | ⟨o, h⟩) | h
  · exact .inl (.inl (k.1 _ _ h))
  · exact .inl (.inr ⟨o, k.2 _ _ _ h⟩)
  · exact .inr h
theorem Same.sqT {K : PySem.W.Frag} {H H' : Hp} {a : Addr} {xs : List V} (e : Same H H') (h : SqT K H a xs) : SqT K H' a xs := (TK.of_same e).sqT h
theorem same_upd {H : Hp} {p : Addr} {o : HO} (h : H p = none) : Same H (upd H p o) := fun b x e => by
  rw [upd_ne (ne_of_none e h)]
  exact e
theorem But.refl (p : Addr) (H : Hp) : But p H H := fun _ _ _ h => h
theorem But.trans {p : Addr} {H H1 H2 : Hp} (a : But p H H1) (b : But p H1 H2) : But p H H2 := fun c o n h => b c o n (a c o n h)
theorem But.of_same {p : Addr} {H H' : Hp} (s : Same H H') : But p H H' := fun b o _ h => s b o h
theorem But.upd {p : Addr} {H : Hp} {o : HO} : But p H (upd H p o) := fun b _ n h => by rw [upd_ne n]; exact h
/-! ### loops over any iterator of a known number of turns -/
theorem for_gen {J : It} {n : Nat} {g : TG} {tb : TS} {D : Ends} {σ : L2.St} {H : Hp} (Pv : Nat → L2.St → Hp → Prop) (h0 : Pv 0 σ H) (hg : ∀ i σ H, i < n → Pv i σ H → J.go i H) (he : ∀ σ H, Pv n σ H → J.stop n H)
    (hs : ∀ i x σ H H', i < n → Pv i σ H → J.yld i H x H' → g x σ H' fun σ2 H2 => tb { D with nx := Pv (i + 1), ct := Pv (i + 1), bk := D.nx } σ2 H2) (hd : ∀ σ H, Pv n σ H → D.nx σ H) :
    ∃ W : Nat → Nat → L2.St → Hp → Prop, (∃ m, W 0 m σ H) ∧ ∀ i m σ H, W i m σ H →
      (J.stop i H ∧ D.nx σ H) ∨ (J.go i H ∧ ∃ N : L2.St → Hp → Prop, (∀ σ' H', N σ' H' → ∃ m', m' < m ∧ W (i + 1) m' σ' H') ∧ ∀ x H', J.yld i H x H' → g x σ H' fun σ2 H2 => tb { D with nx := N, ct := N, bk := D.nx } σ2 H2) := by
  refine ⟨fun i m σ H => m + i = n ∧ Pv i σ H, ⟨n, rfl, h0⟩, fun i m σ H hW => ?_⟩
  obtain ⟨e, p⟩ := hW
  cases m with
  | zero =>
    have e2 : i = n := by omega
    subst e2
    exact .inl ⟨he σ H p, hd σ H p⟩
  | succ m =>
    have hlt : i < n := by omega
    exact .inr ⟨hg i σ H hlt p, Pv (i + 1), fun σ' H' p' => ⟨m, Nat.lt_succ_self m, by omega, p'⟩, fun x H' y => hs i x σ H H' hlt p y⟩
theorem lc_gen {J : It} {n : Nat} {g : TG} {tt : TT} {te : TE} {vs : List Nat} {σ : L2.St} {H1 : Hp} {D : Addr} {Qd : Hp → Prop} (Pv : Nat → Hp → Prop) (h0 : Pv 0 (upd H1 D (.lst []))) (hg : ∀ i H, i < n → Pv i H → J.go i H) (he : ∀ H, Pv n H → J.stop n H)
    (hs : ∀ i x H H', i < n → Pv i H → J.yld i H x H' → g x (wipe σ vs) H' fun σ2 H2 => wipe σ2 vs = wipe σ vs ∧ tt σ2 H2 fun b H3 =>
      if b = true then te σ2 H3 fun y H4 => ∃ acc, H4 D = some (.lst acc) ∧ acc.length < sizeLine ∧ Pv (i + 1) (upd H4 D (.lst (acc ++ [y]))) else Pv (i + 1) H3) (hd : ∀ H, Pv n H → Qd H) :
    ∃ W : Nat → Nat → Hp → Prop, (∃ m, W 0 m (upd H1 D (.lst []))) ∧ ∀ i m H, W i m H →
      (J.stop i H ∧ Qd H) ∨ (J.go i H ∧ ∃ Nx : Hp → Prop, (∀ H', Nx H' → ∃ m', m' < m ∧ W (i + 1) m' H') ∧ ∀ x H', J.yld i H x H' → g x (wipe σ vs) H' fun σ2 H2 => wipe σ2 vs = wipe σ vs ∧ tt σ2 H2 fun b H3 =>
        if b = true then te σ2 H3 fun y H4 => ∃ acc, H4 D = some (.lst acc) ∧ acc.length < sizeLine ∧ Nx (upd H4 D (.lst (acc ++ [y]))) else Nx H3) := by
  refine ⟨fun i m H => m + i = n ∧ Pv i H, ⟨n, rfl, h0⟩, fun i m H hW => ?_⟩
  obtain ⟨e, p⟩ := hW
  cases m with
  | zero =>
    have e2 : i = n := by omega
    subst e2
    exact .inl ⟨he H p, hd H p⟩
  | succ m =>
    have hlt : i < n := by omega
    exact .inr ⟨hg i H hlt p, Pv (i + 1), fun H' p' => ⟨m, Nat.lt_succ_self m, by omega, p'⟩, fun x H' y => hs i x H H' hlt p y⟩
end Sg

/-! set(..) of a text: its signs, each once -/
namespace Sg
open PySem
section
variable {κ : Type} [DecidableEq κ]
def addOne (acc : List κ) (v : κ) : List κ := if v ∈ acc then acc else acc ++ [v]
def once (l : List κ) : List κ := l.foldl addOne []
theorem addOne_mem {acc : List κ} {v k : κ} : k ∈ addOne acc v ↔ k ∈ acc ∨ k = v := by
  unfold addOne
  by_cases h : v ∈ acc
  · rw [if_pos h]
    exact ⟨.inl, fun q => q.elim id fun e => e ▸ h⟩
  · rw [if_neg h, List.mem_append, List.mem_singleton]
theorem addOne_len {acc : List κ} {v : κ} : (addOne acc v).length ≤ acc.length + 1 := by
  unfold addOne
  by_cases h : v ∈ acc
  · rw [if_pos h]; exact Nat.le_succ _
  · rw [if_neg h, List.length_append]; exact Nat.le_refl _
theorem once_snoc (l : List κ) (v : κ) : once (l ++ [v]) = addOne (once l) v := by
  unfold once
  rw [List.foldl_append]
  rfl
theorem once_len (l : List κ) : (once l).length ≤ l.length := by
  have h : ∀ (l acc : List κ), (l.foldl addOne acc).length ≤ acc.length + l.length := by
    intro l
    induction l with
    | nil => intro acc; exact Nat.le_refl _
    | cons a r ih =>
      intro acc
      have h1 := ih (addOne acc a)
      have h2 := addOne_len (acc := acc) (v := a)
      show ((r.foldl addOne (addOne acc a))).length ≤ acc.length + (r.length + 1)
      omega
  have h1 := h l []
  rw [List.length_nil, Nat.zero_add] at h1
  exact h1
theorem once_mem (l : List κ) (k : κ) : k ∈ once l ↔ k ∈ l := by
  have h : ∀ (l acc : List κ), k ∈ l.foldl addOne acc ↔ k ∈ acc ∨ k ∈ l := by
    intro l
    induction l with
    | nil => intro acc; simp
    | cons a r ih =>
      intro acc
      show k ∈ r.foldl addOne (addOne acc a) ↔ _
      rw [ih, addOne_mem, List.mem_cons]
      exact or_assoc
  have h1 := h l []
  simpa [once] using h1
theorem once_nodup_self {l : List κ} (h : l.Nodup) : once l = l := by
  have key : ∀ (r acc : List κ), (acc ++ r).Nodup → r.foldl addOne acc = acc ++ r := by
    intro r
    induction r with
    | nil => intro acc _; simp
    | cons a r ih =>
      intro acc hn
      have hna : a ∉ acc := fun hm => by
        have := List.nodup_append.mp hn
        exact this.2.2 a hm a (List.mem_cons_self ..) rfl
      show r.foldl addOne (addOne acc a) = _
      have e : addOne acc a = acc ++ [a] := if_neg hna
      rw [e, ih (acc ++ [a]) (by simpa using hn)]
      simp
  have := key l [] (by simpa using h)
  simpa [once] using this
end
section
variable {prog : Program} {w : World} {A : Around} {R : Result → Shared → Prop} {it : Addr} {fp wr : List Addr} {G : Array GenState → Array GenState → Prop} {n : Nat} {Pk : Nat → Value → Prop} {Sx : Nat → Shared → Prop}
variable {κ : Type} [DecidableEq κ]
def upto (val : Nat → κ) (i : Nat) : List κ := once ((List.range i).map val)
theorem upto_zero (val : Nat → κ) : upto val 0 = [] := rfl
theorem upto_succ (val : Nat → κ) (i : Nat) : upto val (i + 1) = addOne (upto val i) (val i) := by
  unfold upto
  rw [List.range_succ, List.map_append, List.map_singleton, once_snoc]
theorem upto_len (val : Nat → κ) (i : Nat) : (upto val i).length ≤ i := by
  have h := once_len ((List.range i).map val)
  rw [List.length_map, List.length_range] at h
  exact h
theorem setOf_as {knd : KeyKind prog w κ} {h : Heap} {a : Addr} {S T : κ → Bool} {m q : Nat} (x : h.SetOf knd a S m) (e : ∀ k, S k = T k) (en : m = q) : h.SetOf knd a T q := by
  obtain rfl : S = T := funext e
  subst en
  exact x
theorem upto_add (val : Nat → κ) (i : Nat) (k : κ) : (decide (k ∈ upto val i) || decide (k = val i)) = decide (k ∈ upto val (i + 1)) := by
  rw [upto_succ]
  by_cases h : k ∈ addOne (upto val i) (val i)
  · rw [decide_eq_true h]
    rcases addOne_mem.mp h with q | q
    · simp [q]
    · simp [q]
  · rw [decide_eq_false h]
    have h1 : ¬ k ∈ upto val i := fun q => h (addOne_mem.mpr (.inl q))
    have h2 : ¬ k = val i := fun q => h (addOne_mem.mpr (.inr q))
    simp [h1, h2]
theorem upto_count (val : Nat → κ) (i : Nat) : (if decide (val i ∈ upto val i) = true then (upto val i).length else (upto val i).length + 1) = (upto val (i + 1)).length := by
  rw [upto_succ]
  unfold addOne
  by_cases h : val i ∈ upto val i
  · rw [decide_eq_true h, if_pos rfl, if_pos h]
  · rw [decide_eq_false h, if_neg Bool.false_ne_true, if_neg h, List.length_append]
    rfl
/-- set.update over any walk of values that are keys of a kind -/
theorem code_upd {knd : KeyKind prog w κ} (Wk : WalksS prog w A.in1 it fp wr G n Pk Sx) (a : Addr) (haf : a ∉ fp) (val : Nat → κ) (hval : ∀ i v, Pk i v → knd.is (val i) v = true ∧ v.scannable = true) (hb : n + 1 < scanBound) :
    ∀ (m i : Nat) (s : Shared), m + i = n → Sx i s → s.heap.SetOf knd a (fun k => decide (k ∈ upto val i)) (upto val i).length →
      (∀ s', Moved (a :: wr) G s s' → s'.heap.SetOf knd a (fun k => decide (k ∈ upto val n)) (upto val n).length → R (.ok (.ret .none)) s') →
      codeAny (model prog w) A (.builtin "set.update.loop" ⟨[.ref a, .ref it], []⟩) R s := by
  have haw : a ∉ wr := fun q => haf (Wk.sub _ q)
  have sub : ∀ b ∈ wr, b ∈ a :: wr := fun b q => List.mem_cons_of_mem _ q
  have keep : ∀ {s s' : Shared} {S : κ → Bool} {q : Nat}, Moved wr G s s' → s.heap.SetOf knd a S q → s'.heap.SetOf knd a S q := fun hm ⟨o, es, ep, t, ho, r⟩ => ⟨o, es, ep, t, hm.heap a _ haw ho, r⟩
  intro m
  induction m with
  | zero =>
    intro i s e hst hS hR
    obtain rfl : i = n := by omega
    refine codeAny_builtin PyProof.Rows.F.entry_set_update_loop ?_
    rw [Around.under_plainId PyProof.Rows.F.plain_set_update_loop _]
    refine wpAny_bind (Wk.done s _ _ hst fun s' hm => ?_)
    show wpAny _ A.in1 (ret Value.none) _ _ s'
    exact wpAny_pure (hR s' (hm.mono sub) (keep hm hS))
  | succ m ih =>
    intro i s e hst hS hR
    have hlt : i < n := by omega
    refine codeAny_builtin PyProof.Rows.F.entry_set_update_loop ?_
    rw [Around.under_plainId PyProof.Rows.F.plain_set_update_loop _]
    refine wpAny_bind (Wk.item i s _ _ hlt hst fun v s' hP hst' hm => ?_)
    obtain ⟨hk, hsc⟩ := hval i v hP
    show wpAny _ A.in1 (holding [v] (setAdd a v) >>= _) _ _ s'
    refine wpAny_bind (wpAny_holding ?_)
    unfold setAdd
    refine wpAny_holding (wpAny_bind (knd.pyHash hk ?_))
    have room : (upto val i).length + 1 < scanBound := by
      have := upto_len val i
      omega
    have hS1 := keep hm hS
    refine wpAny_setAddHashed_of (knd := knd) (s := { s' with toks := s'.toks + 1 }) hk hsc hS1 room fun h' sb hS2 => ?_
    have hS3 := setOf_as hS2 (upto_add val i) (upto_count val i)
    refine wpAny_pure ⟨plainId_quiet PyProof.Rows.F.plain_set_update_loop _, ih (i + 1) _ (by omega) (Wk.frame _ s' _ _ hst' (Nat.le_succ _) fun b q o z => ?_) hS3 fun s2 hm2 hS4 => ?_⟩
    · rw [sb.2 b fun z2 : b = a => haf (by rw [← z2]; exact q)]
      exact z
    · refine hR s2 (Moved.trans Wk.gtrans ((hm.mono sub).then_heap (Nat.le_succ _) fun b o q z => ?_) hm2) hS4
      rw [sb.2 b fun z2 : b = a => q (by rw [z2]; exact List.mem_cons_self)]
      exact z
end
namespace FX
theorem sub_str_set : isSubtype (.type "str") (.type "set") = pure false := by rw [isSubtype_type]; kernel_rfl
theorem sub_str_frozenset : isSubtype (.type "str") (.type "frozenset") = pure false := by rw [isSubtype_type]; kernel_rfl
end FX
def sgn (c : Nat) : Str := ⟨#[c]⟩
section
variable {prog : Program} {w : World} {A : Around} {E : Value → Shared → Prop} {s : Shared}
theorem call_set_text {x : Str} {u : Tok} {Q : Value → Shared → Prop} (hh : A.handled = none) (hb : x.cps.size + 1 < scanBound)
    (h : ∀ (h' : Heap) (tk : Nat), h'.SetOf (strKind prog w) s.heap.objs.size (fun k => decide (k ∈ upto (fun i => sgn (x.cps.getD i 0)) x.cps.size)) (upto (fun i => sgn (x.cps.getD i 0)) x.cps.size).length →
      (∀ b o, b < s.heap.objs.size → s.heap.get? b = some o → h'.get? b = some o) → Q (.ref s.heap.objs.size) { s with heap := h', toks := tk }) :
    wpAny (model prog w) A (call (.type "set") [.str x u]) Q E s := by
  obtain ⟨c, tl, hmro⟩ := F.called_set.mro
  have hmade := F.called_set.made
  have hsub := F.called_set.sub
  refine wpAny_call (codeAny_of_tree ?_)
  show wpAny _ _ (callAny (.type "set") _) _ _ _
  refine wpAny_pure ⟨Code.quiet_builtin _ (by decide +kernel), codeAny_builtin F.entry_type_call ?_⟩
  rw [Around.under_plain (weight_type_call_type "set" [.str x u] []) rfl]
  have h1 := F.called_set.notType
  have h2 := F.called_set.canCreate
  have hct := F.typeCall_set_1 (.str x u)
  repeat (any_goals (first | assumption | wp_step))
  have fresh : ∀ led : Bool, (s.heap.push { cls := .type "set", dict := none, data := .set #[] 0 (.fresh 0 0 led) }).get? s.heap.objs.size = some { cls := .type "set", dict := none, data := .set #[] 0 (.fresh 0 0 led) } := fun led => Heap.get?_push_size _ rfl
  refine codeAny_mono (code_set_new_1 (.str x u) (E := E) (Q₁ := fun z s₁ => ∃ led : Bool, z = .ref s.heap.objs.size ∧ s₁ = { s with heap := s.heap.push { cls := .type "set", dict := none, data := .set #[] 0 (.fresh 0 0 led) } }) fun led => ⟨led, rfl, rfl⟩) fun r s₁ hr => ?_
  cases r with
  | error e => exact hr
  | ok fl =>
    cases fl with
    | ret z =>
      obtain ⟨led, rfl, rfl⟩ := hr
      have hT : Shared.TypeIs { s with heap := s.heap.push { cls := .type "set", dict := none, data := .set #[] 0 (.fresh 0 0 led) } } (.ref s.heap.objs.size) "set" := ⟨_, fresh led, rfl⟩
      have hli := F.called_set.init.lookup
      have hbi := F.called_set.init.bind (.ref s.heap.objs.size)
      repeat (any_goals (first | assumption | wp_step))
      refine codeAny_mono (codeAny_call_builtin (R := wants (fun r s₂ => r = .none ∧ ∃ h' tk, s₂ = { s with heap := h', toks := tk } ∧
          h'.SetOf (strKind prog w) s.heap.objs.size (fun k => decide (k ∈ upto (fun i => sgn (x.cps.getD i 0)) x.cps.size)) (upto (fun i => sgn (x.cps.getD i 0)) x.cps.size).length ∧
          (∀ b o, b < s.heap.objs.size → s.heap.get? b = some o → h'.get? b = some o)) E) F.called_set.init.plain F.entry_set_init (check_set_init_1 hT ?_)) fun r₂ s₂ hr₂ => ?_
      · have hsls := FX.sub_str_set
        have hslf := FX.sub_str_frozenset
        unfold Builtin.«set.__init__» noKeywords Builtin.Frozenset.updateFrom
        generalize hPI : pyIter = PI
        wp_walk
        subst hPI
        refine wpAny_pyIter_str fun o Sx mk st0 => ?_
        refine wpAny_bind (wpAny_runValue ?_)
        have hh3 : A.in1.in1.in1.handled = none := by simp [hh]
        have hsz : (s.heap.push { cls := .type "set", dict := none, data := .set #[] 0 (.fresh 0 0 led) }).objs.size = s.heap.objs.size + 1 := Heap.size_push ..
        have haf : s.heap.objs.size ∉ [(s.heap.push { cls := .type "set", dict := none, data := .set #[] 0 (.fresh 0 0 led) }).objs.size] := by
          rw [hsz]
          simp
        have hset : ((s.heap.push { cls := .type "set", dict := none, data := .set #[] 0 (.fresh 0 0 led) }).push o).get? s.heap.objs.size = some { cls := .type "set", dict := none, data := .set #[] 0 (.fresh 0 0 led) } := Heap.get?_push_of_some _ (fresh led)
        refine code_upd (knd := strKind prog w) (n := x.cps.size) ((mk _ hh3).toS) s.heap.objs.size haf (fun i => sgn (x.cps.getD i 0)) (fun i v hv => ?_) hb x.cps.size 0 _ (Nat.add_zero _) st0 ?_ fun s' hm hS => ?_
        · obtain ⟨c, u', hc, rfl⟩ := hv
          have e : x.cps.getD i 0 = c := by
            rw [Array.getD_eq_getD_getElem?, hc]
            rfl
          exact ⟨by show (strKind prog w).is (sgn (x.cps.getD i 0)) (.str ⟨#[c]⟩ u') = true; rw [e]; exact strKind_is _ _ _ _, rfl⟩
        · exact setOf_as ((PyProof.Rows.setObjOf_fresh (knd := strKind prog w) led).setOf hset (by unfold scanBound; omega)) (fun _ => rfl) rfl
        · obtain ⟨h', g', d', tk', os'⟩ := s'
          obtain rfl : g' = s.gens := hm.gens
          obtain rfl : d' = s.drawn := hm.drawn
          obtain rfl : os' = s.os := hm.os
          refine wpAny_pure (wpAny_pure ⟨rfl, h', tk', rfl, hS, fun b o2 hlt e => ?_⟩)
          refine hm.heap b o2 ?_ (Heap.get?_push_of_some _ (Heap.get?_push_of_some _ e))
          rw [hsz]
          simp only [List.mem_cons, List.not_mem_nil, or_false, not_or]
          exact ⟨Nat.ne_of_lt hlt, Nat.ne_of_lt (Nat.lt_succ_of_lt hlt)⟩
      · cases r₂ with
        | error e => exact hr₂
        | ok fl₂ =>
          cases fl₂ with
          | ret r =>
            obtain ⟨rfl, h', tk, rfl, hS', hk'⟩ := hr₂
            repeat (any_goals (first | assumption | wp_step))
            exact h _ _ hS' hk'
          | _ => exact hr₂.elim
    | _ => exact hr.elim
end
end Sg

/-! rules: len(set(text)), enumerate(tuple), repr of plain values, list(text), {(a, b): v} -/
namespace Sg
open PySem PySem.Spec PyProof.Rows L2
def signsOf (x : Str) : List Str := x.cps.toList.map sgn
/-! ### len(set(text)) -/
def tLenSetT (ta : TE) : TE := fun σ H Q => ta σ H fun x H1 => match x with
  | .str z => z.length ≤ 1000 ∧ Q (.int ((once (signsOf z)).length : Nat)) H1
  | _ => False
theorem upto_text (z : Str) : upto (fun i => sgn (z.cps.getD i 0)) z.cps.size = once (signsOf z) := by
  unfold upto signsOf
  congr 1
  apply List.ext_getElem?
  intro i
  rw [List.getElem?_map, List.getElem?_map]
  by_cases h : i < z.cps.size
  · rw [List.getElem?_range h, Array.getElem?_toList, Array.getElem?_eq_getElem h, Option.map_some, Option.map_some, Array.getD_eq_getD_getElem?, Array.getElem?_eq_getElem h]
    rfl
  · rw [List.getElem?_eq_none (by simpa using h), Array.getElem?_toList, Array.getElem?_eq_none (by simpa using h)]
    rfl
theorem pe_lenSetT {X : Cx} {a : Expr} {ta : TE} {p p2 q pos : Pos} (hg : Gl X "len") (hm : X.mg "len" = none) (hg2 : Gl X "set") (hm2 : X.mg "set" = none) (ha : PE X a ta) (hc : X.calm = true)
    (na : starEach [a] X.env = (false, eval a X.env) :: starEach [] X.env := by rfl) : PE X (.Call (.Name "len" p) [.Call (.Name "set" p2) [a] [] q] [] pos) (tLenSetT ta) := by
  refine ⟨fun pins s σ H Q I h => ?_⟩
  refine Call_ (ld_blt I hg hm PySem.boot_len ?_)
  refine PyProof.Rows.callWith_builtin1 (PyProof.Rows.args_cons ?_ rfl) rfl rfl
  refine Call_ (ld_blt I hg2 hm2 PyProof.Rows.boot_set ?_)
  refine PyProof.Rows.callWith_type1 (PyProof.Rows.args_cons (thn (ha.run pins s σ H _ I h) fun v s1 ⟨x, H1, I1, r1, q1⟩ => PyProof.Rows.args_nil ?_) na) na rfl
  match x, q1 with
  | .str z, ⟨hz, q2⟩ =>
    obtain ⟨u, rfl⟩ := r1
    refine call_set_text (I1.ok.hd hc) (by unfold scanBound; show z.length + 1 < _; omega) fun h' tk hS hk => PyProof.Rows.args_nil ?_
    rw [upto_text] at hS
    obtain ⟨o, es, ep, t, ho, hex, hd, _, _, _, hf, hn⟩ := hS
    have I2 : Inv X pins σ H1 { s1 with heap := h', toks := tk } := I1.kept fun b o e => hk b o (Heap.lt_size e) e
    have hlen : (once (signsOf z)).length ≤ 1000 := by
      have h1 := once_len (signsOf z)
      unfold signsOf at h1
      rw [List.length_map, Array.length_toList] at h1
      exact Nat.le_trans h1 hz
    exact call_len_set ho hex hd hf (by rw [hn] <;> omega) ⟨.int ((once (signsOf z)).length : Nat), H1, I2.tok _, ⟨_, by rw [hn]⟩, q2⟩
/-! ### repr of None, a bool, an int, a text -/
def rReprP : List V → Hp → VK → Prop := fun xs H Q => match xs with
  | [.non] => Q (.str "None") H
  | [.bl b] => Q (.str (if b then "True" else "False")) H
  | [.int i] => i.natAbs.log2 < 1920 ∧ Q (.str (toString i)) H
  | [.str z] => (reprText z).length ≤ sizeLine ∧ Q (.str (reprText z)) H
  | _ => False
theorem call_reprP {X : Cx} : CallR X (.builtin "repr") rReprP := by
  intro pins s σ H xs us Q I r h
  match xs, h with
  | [.non], q =>
    obtain ⟨u, rfl, rfl⟩ := vals1 r
    exact PySem.P.repr_of_none ⟨.str _, H, I.tok _, ⟨_, rfl⟩, q⟩
  | [.bl b], q =>
    obtain ⟨u, rfl, rfl⟩ := vals1 r
    exact PySem.P.repr_of_bool ⟨.str _, H, I.tok _, ⟨_, rfl⟩, q⟩
  | [.int i], ⟨hz, q⟩ =>
    obtain ⟨u, rfl, t, rfl⟩ := vals1 r
    exact PySem.P.repr_of_int hz ⟨.str _, H, I.tok _, ⟨_, rfl⟩, q⟩
  | [.str z], ⟨hz, q⟩ =>
    obtain ⟨u, rfl, t, rfl⟩ := vals1 r
    exact PySem.P.repr_of_str ⟨.str _, H, I.tok _, ⟨_, rfl⟩, q⟩ hz
/-! ### list(text) -/
def rListS : List V → Hp → VK → Prop := fun xs H Q => match xs with
  | [.str z] => z.length ≤ sizeLine ∧ ∀ l, H l = none → Q (.ref l) (upd H l (.lst ((signsOf z).map V.str)))
  | _ => False
theorem vals_signs {z : Str} : ∀ {acc : Array Value}, ItemsOf (SignAt z) acc z.cps.size → Vals ((signsOf z).map V.str) acc.toList := by
  intro acc h
  have key : ∀ (n : Nat) (xs : List V) (us : List Value), xs.length = n → us.length = n → (∀ (i : Nat) (x : V) (u : Value), xs[i]? = some x → us[i]? = some u → RelV x u) → Vals xs us := by
    intro n
    induction n with
    | zero =>
      intro xs us h1 h2 _
      rw [List.length_eq_zero_iff.mp h1, List.length_eq_zero_iff.mp h2]
      exact .nil
    | succ n ih =>
      intro xs us h1 h2 hr
      match xs, us, h1, h2 with
      | x :: xs, u :: us, h1, h2 => exact .cons (hr 0 x u rfl rfl) (ih xs us (by simpa using h1) (by simpa using h2) fun i y v e1 e2 => hr (i + 1) y v e1 e2)
  have hs : acc.size = z.cps.size := h.1
  refine key z.cps.size _ _ (by simp [signsOf]) (by simp [hs]) fun i x u e1 e2 => ?_
  have hi : i < z.cps.size := by
    have := (List.getElem?_eq_some_iff.mp e2).1
    simpa [hs] using this
  obtain ⟨c, t, hc, hu⟩ := h.2 i u (by simpa using e2)
  rw [List.getElem?_map] at e1
  unfold signsOf at e1
  rw [List.getElem?_map, Array.getElem?_toList, hc] at e1
  have e : V.str (sgn c) = x := Option.some.inj e1
  rw [← e]
  exact ⟨t, hu⟩
theorem call_listS {X : Cx} (hc : X.calm = true) : CallR X (.type "list") rListS := by
  intro pins s σ H xs us Q I r h
  match xs, h with
  | [.str z], ⟨hz, q⟩ =>
    obtain ⟨u, rfl, t, rfl⟩ := vals1 r
    refine call_list_str (I.ok.hd hc) z t (fun h' tk acc' c' kp e hit => ?_) hz
    have hv := vals_signs hit
    have hlen : ((signsOf z).map V.str).length ≤ sizeLine := by
      rw [List.length_map]; unfold signsOf; rw [List.length_map, Array.length_toList]; exact hz
    exact ⟨.ref s.heap.objs.size, _, I.laid (t' := tk) kp (Nat.le_refl _) (show ObjOk X.prog X.w _ h' _ (.lst _) from ⟨hlen, acc'.toList, c', hv, by simpa using e⟩), rfl, q _ (I.hok.fresh (Nat.le_refl _))⟩
/-! ### {k: v}, k a tuple of ints and texts -/
def tDispT (tk tv : TE) : TE := fun σ H Q => ∀ p, H p = none → tk σ (upd H p (.dT [])) fun x H1 => tv σ H1 fun y H2 => H2 p = some (.dT []) ∧ ∃ (b : Addr) (ks : List Key), x = .ref b ∧ H2 b = some (.tup (ks.map kV)) ∧ Q (.ref p) (upd H2 p (.dT [(ks, y)]))
theorem pe_dispT {X : Cx} {k v : Expr} {tk tv : TE} {pos : Pos} (hu : X.A.units + 1 < cLine) (hk : PE X k tk) (hv : PE X v tv) : PE X (.Dict [some k] [v] pos) (tDispT tk tv) := by
  refine ⟨fun pins s σ H Q I q => ?_⟩
  have hn := I.hok.fresh (Nat.le_refl s.heap.objs.size)
  have I1 := I.laid (a := s.heap.objs.size) (o := .dT []) (h' := s.heap.push { cls := .type "dict", data := .dict #[] }) (t' := s.toks) (fun _ _ q => Heap.get?_push_of_some _ q) (Nat.le_refl _) (dt_empty s.heap I.big)
  have e : (evalEachOpt [some k] X.env).zip ((evalEach [v] X.env).map fun v => do let x ← v; standAt pos; pure x) = (pairTrees [some k] [v] X.env pos).map fun p => (some p.1, p.2) := zip_pairTrees [some k] [v] X.env pos rfl rfl
  have hl : (pairTrees [some k] [v] X.env pos).length = 1 := pairTrees_length [some k] [v] X.env pos rfl rfl
  rw [arm_eval_Dict, e, dictDisplay_pairs _ (fun z => by rw [z] at hl; cases hl) (by omega)]
  refine wpAny_bind (wpAny_standAt (wpAny_bind (wpAny_subDictH (knd := tupleKind (mixKind X.prog X.w)) (Nat.lt_of_succ_lt hu) (by omega) ?_)))
  refine pairTrees_cons_walk (thn (hk.run pins _ σ _ _ I1 (q _ hn)) fun u s1 ⟨x, H1, I2, rx, q1⟩ => thn (hv.run pins s1 σ H1 _ I2 q1) fun w2 s2 ⟨y, H2, I3, ry, e2, b, ks, ex, eb, q2⟩ => pairTrees_nil_walk ?_)
  subst ex
  cases (show u = Value.ref b from rx)
  obtain ⟨z, hd, xs, rel, dd⟩ := dt_of I3.hok e2
  cases rel
  refine ⟨[(ks, b, w2)], ⟨rfl, rfl, key_of I3.hok eb, True.intro⟩, dd, fun h' tk dd' hs => wpAny_pure ⟨.ref s.heap.objs.size, _, ?_, rfl, q2⟩⟩
  obtain ⟨o, es, ep, ho, h2, h3, h4, _, h5⟩ := dd'
  have hb : b ≠ s.heap.objs.size := ne_of eb e2 (fun z => nomatch z)
  refine d_write I3 (by rw [e2]; exact True.intro) hs ⟨o, ho⟩ ⟨by rw [sizeLine_eq]; show 1 ≤ _; omega, hd, [(ks, b, w2)], .cons ⟨rfl, ?_, ry⟩ .nil, o, es, ep, ho, h2, h3, h4, h5⟩
  rw [upd_ne hb]
  exact eb
/-! ### enumerate(tuple) -/
def IteT (K : PySem.W.Frag) (a : Addr) : It :=
  ⟨fun i H => ∃ (xs : List V) (x : V), SqT K H a xs ∧ xs[i]? = some x, fun i H v H' => ∃ T x, v = .ref T ∧ H T = none ∧ H' = upd H T (.tup [.int (i : Nat), x]) ∧ ∀ xs, SqT K H a xs → xs[i]? = some x, fun i H => ∃ xs : List V, SqT K H a xs ∧ xs.length ≤ i⟩
theorem turn_enumT {P : Program} {w : World} {K : PySem.W.Frag} {elts : List Expr} {kk : Nat} {tpos : Pos} (a e it : Addr) :
    Turn P w K (.Tuple elts kk tpos) (IteT K a) [e, it] e (fun i h => (∃ old, IsEnum h e it ((i : Nat) : Int) old) ∧ h.IsTupleIter it a i ∧ e ≠ it ∧ a ≠ e ∧ a ≠ it) where
  mem := by simp
  obj := fun i h st b hb => by
    obtain ⟨⟨old, he⟩, ⟨o, ho, hc, hd⟩, _⟩ := st
    have e' : b = e ∨ b = it := by simpa using hb
    rcases e' with z | z
    · exact z ▸ ⟨_, he, fun v q => nomatch q⟩
    · exact z ▸ ⟨o, ho, fun v q => by rw [hd] at q; cases q⟩
  keep := fun i h h' st k => by
    obtain ⟨⟨old, he⟩, hi, n1, n2, n3⟩ := st
    exact ⟨⟨old, k e (by simp) _ he⟩, hi.at fun o q => k it (by simp) o q, n1, n2, n3⟩
  item := by
    intro X hP hw hK hc i pins s σ H E I hf st hg
    subst hP hw hK
    obtain ⟨⟨old, he⟩, hit, n1, n2, n3⟩ := st
    obtain ⟨xs, x, hq, hx⟩ := hg
    obtain ⟨its, rv, p, hz⟩ := I.tuple hq
    obtain ⟨u, hu, ru⟩ := rv.get hx
    have hel : e < s.heap.objs.size := Heap.lt_size he
    have hil : it < s.heap.objs.size := by
      obtain ⟨_, q, _⟩ := hit
      exact Heap.lt_size q
    have low : ∀ b, b ∈ [e, it] → b < s.heap.objs.size := fun b hb => by
      have e' : b = e ∨ b = it := by simpa using hb
      rcases e' with z | z <;> rw [z] <;> assumption
    have hlt : i < its.toArray.size := by
      have := (List.getElem?_eq_some_iff.mp hu).1
      simpa using this
    refine wpAny_pyNext_enum_itemC (Draws.tuple (A := X.A.in1) (I.ok.hd hc) it a n3 its.toArray) he (⟨hit, p⟩ : s.heap.IsTupleIter it a i ∧ s.heap.IsTuple a its.toArray) hlt n1 (by simp [n1, Ne.symm n2]) fun y h' tk hy ho hst hT hsz hk => ?_
    have ey : y = u := by
      have h1 : its.toArray[i]? = some y := hy
      rw [List.getElem?_toArray, hu] at h1
      exact (Option.some.inj h1).symm
    subst ey
    refine ⟨_, rfl, wpAny_letOwnedTupleGo_enum (s := { s with heap := h', toks := tk + 1 }) ho fun h2 he2 sb => ?_⟩
    have hT2 : h2.get? s.heap.objs.size = some { cls := .type "tuple", data := .seq #[.int i tk, y] } := (sb.2 _ (Nat.ne_of_gt hel)).trans hT
    have made : ObjOk X.prog X.w (upd H s.heap.objs.size (.tup [.int (i : Nat), x])) h2 s.heap.objs.size (.tup [.int (i : Nat), x]) :=
      ⟨by show 2 ≤ sizeLine; decide, [.int i tk, y], .cons ⟨_, rfl⟩ (.cons ru .nil), ⟨_, hT2, rfl, _, rfl⟩⟩
    have out : ∀ b, b ∉ [e, it] → b ≠ e ∧ b ≠ it := fun b hb => ⟨fun z => hb (by simp [z]), fun z => hb (by simp [z])⟩
    have I1 : Inv X pins σ (upd H s.heap.objs.size (.tup [.int (i : Nat), x])) { s with heap := h2, toks := tk + 1 } :=
      I.turnedNew (ch := [e, it]) (fun b ob hb q => (sb.2 b (out b hb).1).trans (hk b ob (out b hb).1 (out b hb).2 q)) hf (Nat.le_refl _) made
    refine ⟨.ref s.heap.objs.size, _, I1, rfl, ⟨_, x, rfl, I.hok.fresh (Nat.le_refl _), rfl, fun ys hy => by rw [I.tuple_inj hy hq]; exact hx⟩, ⟨⟨y, ?_⟩, hst.1.at fun o q => (sb.2 it (Ne.symm n1)).trans q, n1, n2, n3⟩, fun b hb => ?_⟩
    · have e1 : ((i + 1 : Nat) : Int) = (i : Int) + 1 := by omega
      rw [e1]
      exact he2
    · rw [upd_ne (Nat.ne_of_lt (low b hb))]
      exact (hf b hb).1
  done := by
    intro X hP hw hK hc i pins s σ H E I hf st hg
    subst hP hw hK
    obtain ⟨⟨old, he⟩, hit, n1, n2, n3⟩ := st
    obtain ⟨xs, hq, hx⟩ := hg
    obtain ⟨its, rv, p, hz⟩ := I.tuple hq
    obtain ⟨f0, f1, f2, f3, f4, f5⟩ := hf it (by simp)
    have hl := rv.length
    have hnone : its.toArray[i]? = none := by
      rw [List.getElem?_toArray]
      exact List.getElem?_eq_none (by omega)
    have D : Draws X.prog X.w X.A.in1 it [it, a] i (fun _ _ => True) (fun j h => j = i ∧ h.IsTupleIter it a i ∧ h.IsTuple a its.toArray) :=
      { live := fun _ _ st => let ⟨o, ho, _⟩ := st.2.1; ⟨o, ho⟩
        frame := fun _ _ _ st k => ⟨st.1, st.2.1.at fun o q => k it (by simp) o q, st.2.2.at fun o q => k a (by simp) o q⟩
        item := fun j s Q E hj st _ => absurd hj (by rw [st.1]; exact Nat.lt_irrefl _)
        done := fun s Q E st hE => wpAny_nextOf_tuple_end (I.ok.hd hc) st.2.1 st.2.2 hnone hE }
    exact wpAny_pyNext_enum_endD D he ⟨rfl, hit, p⟩ fun h' eb => ⟨rfl, I.turned (t' := s.toks) (fun b o hb q => eb b o hb q) f0 f1 f3 f4 f5⟩
  self := fun A i s Q E st h => by
    obtain ⟨⟨_, he⟩, _⟩ := st
    exact wpAny_pyIter_enum he h
namespace FX
/-- enumerate(t) of a tuple: the maker's own tree -/
theorem meets_enumT (l : Addr) (items : Array Value) (n : Nat) (dct : Option Addr) (sl : Array (Option Value)) :
    Meets (Builtin.«enumerate.__new__» ⟨[.type "enumerate", .ref l], []⟩) (fun _ R s => s.heap.get? l = some { cls := .type "tuple", dict := dct, data := .seq items n, slots := sl } ∧
      R (.ok (.ret (.ref (s.heap.push { cls := .type "tuple_iterator", data := .fields #[.ref l, .int 0 0] }).objs.size)))
        { s with heap := (s.heap.push { cls := .type "tuple_iterator", data := .fields #[.ref l, .int 0 0] }).push { cls := .type "enumerate", data := .fields #[.none, .bool false, .ref s.heap.objs.size, rawInt 0, .none, .none] } }) :=
  .of_wp fun prog w A R s h => by
    obtain ⟨hp, g, d, tk, os⟩ := s
    obtain ⟨hl, h⟩ := h
    have hsub := sub_enumerate
    have hT : Heap.IsTuple (Shared.heap ⟨hp, g, d, tk, os⟩) l items := ⟨_, hl, rfl, n, rfl⟩
    wp_walk using AutoSeq1.wpAny_loadPart' hl
    refine wpAny_stack_any fun st => wpAny_pure ?_
    split
    · rename_i c _ _ _ _ _
      cases (c == Value.type "enumerate") <;>
      · wp_walk using AutoSeq1.wpAny_loadPart' hl, wpAny_pyIter_tuple hT
        exact ⟨_, rfl, h⟩
    · wp_walk using AutoSeq1.wpAny_loadPart' hl, wpAny_pyIter_tuple hT
      exact ⟨_, rfl, h⟩
end FX
theorem call_enumT {prog : Program} {w : World} {A : Around} {E : Value → Shared → Prop} {s : Shared} {l : Addr} {items : Array Value} {Q : Value → Shared → Prop} (ht : s.heap.IsTuple l items)
    (h : ∀ h', IsEnum h' (s.heap.objs.size + 1) s.heap.objs.size 0 .none → h'.IsTupleIter s.heap.objs.size l 0 → (∀ b o, s.heap.get? b = some o → h'.get? b = some o) → Q (.ref (s.heap.objs.size + 1)) { s with heap := h' }) :
    wpAny (model prog w) A (call (.type "enumerate") [.ref l]) Q E s := by
  obtain ⟨⟨c, dct, dt, sl⟩, hl, hc, n, hd⟩ := ht
  obtain rfl : c = .type "tuple" := hc
  obtain rfl : dt = .seq items n := hd
  refine callType_new F.called_enumerate (by decide) (F.typeCall_enumerate_1 _) (F.newCall_enumerate_1 _) (fun z => F.args_object_init_2 z _) F.entry_enumerate_new (FX.meets_enumT l items n dct sl) ⟨hl, ?_⟩
  have hz : (s.heap.push { cls := .type "tuple_iterator", data := .fields #[.ref l, .int 0 0] }).objs.size = s.heap.objs.size + 1 := Heap.size_push ..
  show _ ∧ _
  rw [hz]
  have he := Heap.get?_push_size (s.heap.push { cls := .type "tuple_iterator", data := .fields #[.ref l, .int 0 0] }) (o := { cls := .type "enumerate", data := .fields #[.none, .bool false, .ref s.heap.objs.size, rawInt 0, .none, .none] }) rfl
  rw [hz] at he
  exact ⟨⟨_, he, rfl⟩, h _ he ⟨_, Heap.get?_push_of_some _ (Heap.get?_push_size _ rfl), rfl, rfl⟩ fun b o x => Heap.get?_push_of_some _ (Heap.get?_push_of_some _ x)⟩
def iEnumT (K : PySem.W.Frag) (ta : TA) : TI := fun σ H R => ta σ H fun vs H1 => ∃ a xs, vs = [.ref a] ∧ SqT K H1 a xs ∧ R (IteT K a) H1
theorem pi_enumT {X : Cx} {e : Expr} {ta : TA} {p pos tpos : Pos} {elts : List Expr} {kk : Nat} (hg : Gl X "enumerate") (hm : X.mg "enumerate" = none) (ha : PA X [e] ta) (hs : starEach [e] X.env = [(false, eval e X.env)] := by rfl) :
    PI X (.Tuple elts kk tpos) (.Call (.Name "enumerate" p) [e] [] pos) (iEnumT X.K ta) := by
  refine ⟨fun pins s σ H R I h => ?_⟩
  refine Call_ (ld_blt I hg hm boot_enumerate (PyProof.Rows.callWith_type1 (thn (ha.run pos pins s σ H _ I h) fun us s1 ⟨vs, H1, I1, r1, q1⟩ => ?_) hs rfl))
  obtain ⟨a, xs, rfl, hq, q⟩ := q1
  obtain ⟨u, rfl, ru⟩ := vals1 r1
  cases ru
  obtain ⟨its, rv, p', hz⟩ := I1.tuple hq
  have hal : a < s1.heap.objs.size := p'.lt
  refine call_enumT p' fun h' he hit hk => wpAny_pyIter_enum he ?_
  have I2 : Inv X pins σ H1 { s1 with heap := h' } := I1.kept (t' := s1.toks) hk
  refine ⟨s1.heap.objs.size + 1, [s1.heap.objs.size + 1, s1.heap.objs.size], _, _, H1, rfl, I2, turn_enumT a (s1.heap.objs.size + 1) s1.heap.objs.size, ⟨⟨.none, he⟩, hit, Nat.succ_ne_self _, Nat.ne_of_lt (Nat.lt_succ_of_lt hal), Nat.ne_of_lt hal⟩, fun b hb => ?_, q⟩
  have hle : s1.heap.objs.size ≤ b := by
    have e' : b = s1.heap.objs.size + 1 ∨ b = s1.heap.objs.size := by simpa using hb
    rcases e' with z | z <;> rw [z]
    · exact Nat.le_succ _
    · exact Nat.le_refl _
  exact I1.fpOk hle (I1.hok.fresh hle)
end Sg

/-! try: .. with several clauses, each with «as» or without -/
namespace Sg
open PySem PySem.Spec PyProof.Rows L2
abbrev SuiteT : Type := Addr → Value → Option Addr → TS
/-- the ends of a suite whose name (slot i) goes behind it -/
def endsOff (i : Nat) (D : Ends) : Ends := { nx := fun σ' H' => D.nx (σ'.set i none) H', rt := D.rt, bk := fun σ' H' => D.bk (σ'.set i none) H', ct := fun σ' H' => D.ct (σ'.set i none) H' }
/-- what the clauses wish of an exception of the body, from the first on -/
def wCl (K : PySem.W.Frag) (Wo : WX) (D : Ends) : List (Value × Option Nat × SuiteT) → WX
  | [] => Wo
  | (c, oi, ts) :: r => fun cls d σ H => ∃ b, PySem.W.exmOne K cls c = some b ∧
    (b = true → ∀ a, H a = none → match oi with
      | none => ts a cls d D σ H
      | some i => ts a cls d (endsOff i D) (σ.set i (some (.ref a))) H) ∧ (b = false → wCl K Wo D r cls d σ H)
inductive ClOk (X : Cx) : List ExceptHandler → List (Value × Option Nat × SuiteT) → Prop
  | nil : ClOk X [] []
  | one {x : Str} {c : Value} {ts : SuiteT} {b₀ : Stmt} {su : List Stmt} {np pos' : Pos} {hds : List ExceptHandler} {l : List (Value × Option Nat × SuiteT)} (hc : Names X x c)
      (hsu : ∀ (a : Addr) (oe : Obj) (cls : Value) (d : Option Addr) (pn : List (Addr × Obj)), Zc cls d oe → (∃ vs, oe.data = .fields vs) → PSs (X.suite a ((a, oe) :: pn)) (b₀ :: su) (ts a cls d)) (r : ClOk X hds l) :
      ClOk X (.ExceptHandler (some (.Name x np)) none (b₀ :: su) pos' :: hds) ((c, none, ts) :: l)
  | named {x n : Str} {i : Nat} {c : Value} {ts : SuiteT} {b₀ : Stmt} {su : List Stmt} {np pos' : Pos} {hds : List ExceptHandler} {l : List (Value × Option Nat × SuiteT)} (hc : Names X x c)
      (hN : X.N.Nodup) (hi : X.N[i]? = some n) (hln : X.env.kindOf n = some .local)
      (hsu : ∀ (a : Addr) (oe : Obj) (cls : Value) (d : Option Addr) (pn : List (Addr × Obj)), Zc cls d oe → (∃ vs, oe.data = .fields vs) → PSs (X.suite a ((a, oe) :: pn)) (b₀ :: su) (ts a cls d)) (r : ClOk X hds l) :
      ClOk X (.ExceptHandler (some (.Name x np)) (some n) (b₀ :: su) pos' :: hds) ((c, some i, ts) :: l)
section
variable {X : Cx} {body : List Stmt} {h₀ : ExceptHandler} {hds : List ExceptHandler} {l : List (Value × Option Nat × SuiteT)} {pos : Pos} {tb : WX → TS} {Wo : WX}
theorem ps_try_cl (hs : X.stack = X.env :: X.outer) (hf : X.env.frame = some X.env.locals) (tk : Takes X Wo)
    (hb : ∀ (W : WX) (pn : List (Addr × Obj)) (xe : Value → Shared → Prop), Takes (X.tr pn xe) W → PassesOwn (model X.prog X.w) X.A X.env xe → PSs (X.tr pn xe) body (tb W))
    (hh : ClOk X (h₀ :: hds) l) : PS X (.Try body (h₀ :: hds) [] [] pos) (fun D σ H => tb (wCl X.K Wo D l) D σ H) := by
  refine ⟨fun pins s σ H D I hgo => ?_⟩
  have ok := I.ok
  have frm : X.A.frames = some (X.env :: X.outer) := ok.frames.trans (by rw [hs])
  refine wpAny_Try_except ?_
  refine wpAny_mono ((hb (wCl X.K Wo D l) (X.pn ++ pins) (fun e g₁ => wpAny (model X.prog X.w) X.A (noteFrame e X.env) (fun _ g₂ => wpAny (model X.prog X.w) X.A (setFlight e none) (fun _ g₃ =>
    wpAny (model X.prog X.w) X.A (handleBy e X.env (h₀ :: hds)) (SP X pins D) X.xe g₃) X.xe g₂) X.xe g₁) (fun u g gx => ?_) PassesOwn.looking).run [] s σ H D (I.toTry _) hgo) (fun fl g1 hsp => ?_) (fun e g1 he => he)
  · obtain ⟨a, B, sI, pins2, σ2, H2, cls, d, rfl, J0, nb, up, sky, na, os, ag, wish⟩ := gx
    have J : Inv X pins σ2 H2 sI := J0.ofTry ok
    have sky2 : Sky B (X.env :: X.outer) a (Zc cls d) X.env.locals g.heap := hs ▸ sky
    show wpAny (model X.prog X.w) X.A (noteFrame (.ref a) X.env) _ _ _
    refine Sky.land Zc.steady frm hf sky2 fun k3 fly up3 => ?_
    have J3 : Inv X pins σ2 H2 { g with heap := k3 } := J.landed nb fly.1 (up.trans up3) os ag
    obtain ⟨o3, f3, at3, z3, dt3⟩ := fly.there
    have apart : a ∉ frs (X.env :: X.outer) := fun hm => by
      obtain ⟨_, o', e', hnf⟩ := fly.2.2.1.mem hm
      rw [at3] at e'
      cases e'
      exact hnf _ dt3
    have nL : a ≠ X.env.locals := fun z => apart (List.mem_filterMap.mpr ⟨X.env, List.mem_cons_self, by rw [hf, z]⟩)
    have nF : a ∉ X.fs := fun hm => by
      obtain ⟨e, he, q⟩ := List.mem_filterMap.mp hm
      exact apart (List.mem_filterMap.mpr ⟨e, List.mem_cons_of_mem _ he, q⟩)
    have S3 := J3.suite at3 dt3 na nL nF
    have LT : PySem.W.Looks (model X.prog X.w) k3 (typeOf (.ref a)) cls := fun A Q E s k q => wpAny_typeOf_ref (k _ _ at3) (z3.1 ▸ q)
    have named : ∀ {x : Str} {c : Value} {np : Pos}, Names X x c → ∀ {Q : Value → Shared → Prop} {E : Value → Shared → Prop}, Q c { g with heap := k3 } → wpAny (model X.prog X.w) (X.A.mark (some (.ref a))) (eval (.Name x np) X.env) Q E { g with heap := k3 } := by
      intro x c np hc Q E q
      obtain ⟨hg, hdbg, hm | ⟨hm, hv, hnn⟩⟩ := hc
      · exact ld_glob (X := X.suite a ((a, o3) :: (X.pn ++ pins))) S3 hg hm q hdbg
      · exact ld_blt (X := X.suite a ((a, o3) :: (X.pn ++ pins))) S3 hg hm hv q hnn hdbg
    have go : ∀ {hs2 : List ExceptHandler} {l2 : List (Value × Option Nat × SuiteT)}, ClOk X hs2 l2 → wCl X.K Wo D l2 cls d σ2 H2 →
        wpAny (model X.prog X.w) X.A (handleBy (.ref a) X.env hs2) (SP X pins D) X.xe { g with heap := k3 } := by
      intro hs2 l2 hk
      induction hk with
      | nil =>
        intro wq
        refine wpAny_handleBy_nil ?_
        obtain ⟨_, _, _, oe, vs, T, oT, ts', at4, hz, dt4, h1, hr⟩ := id fly
        unfold PySem.passOn
        refine wpAny_bind (wpAny_field at4 dt4 h1 ?_)
        rw [if_neg (show ¬ ((Value.ref T == Value.none) = true) from by simp)]
        have fin : wpAny (model X.prog X.w) X.A (setFlight (.ref a) X.env.frame) (fun _ g4 => wpAny (model X.prog X.w) X.A (throw (.ref a) : Sem Flow) (SP X pins D) X.xe g4) X.xe { g with heap := k3 } := by
          rw [hf]
          refine HandSPX.setFlight_upZ fly fun k4 held up4 => wpAny_throw (tk _ _ ?_)
          exact ⟨a, B, sI, pins, σ2, H2, cls, d, rfl, J, nb, (up.trans up3).trans up4, .inr (.inr (hs ▸ held)), na, os, ag, wq⟩
        first
          | exact wpAny_bind (wpAny_pure (wpAny_bind fin))
          | exact wpAny_bind fin
      | @one x c ts b₀ su np pos' hds2 l2 hc hsu r ih =>
        intro wq
        obtain ⟨b, hb1, hyes, hno⟩ := wq
        refine wpAny_handleBy_cons (codeAny_handlers_test ?_) (by intro q; cases q)
        refine named hc ((PySem.W.exm_one (M := model X.prog X.w) (J3.kIn) LT hb1).here ?_)
        cases b with
        | false => exact ih (hno rfl)
        | true =>
          refine codeAny_handlers_suite ?_
          refine HandSPX.lands_againZ fly fun k4 fl4 up4 => ?_
          have J4 : Inv X pins σ2 H2 { g with heap := k4 } := J.landed nb fl4.1 ((up.trans up3).trans up4) os ag
          obtain ⟨o4, f4, at4, z4, dt4⟩ := fl4.there
          refine wpAny_mono ((hsu a o4 cls d (X.pn ++ pins) z4 ⟨_, dt4⟩).run [] _ _ H2 _ (J4.suite at4 dt4 na nL nF) (hyes rfl a na)) (fun fl g6 q6 => ?_) (fun _ _ z => False.elim z)
          cases fl with
          | ret u => obtain ⟨v6, σ6, H6, S6, r6, q6⟩ := q6; exact ⟨_, _, _, S6.unsuite ok, r6, q6⟩
          | _ => obtain ⟨σ6, H6, S6, q6⟩ := q6; exact ⟨_, _, S6.unsuite ok, q6⟩
      | @named x n i c ts b₀ su np pos' hds2 l2 hc hN hi hln hsu r ih =>
        intro wq
        obtain ⟨b, hb1, hyes, hno⟩ := wq
        refine wpAny_handleBy_cons (codeAny_handlers_test ?_) (by intro q; cases q)
        refine named hc ((PySem.W.exm_one (M := model X.prog X.w) (J3.kIn) LT hb1).here ?_)
        cases b with
        | false => exact ih (hno rfl)
        | true =>
          refine codeAny_handlers_suite_as ?_
          refine HandSPX.lands_againZ fly fun k4 fl4 up4 => ?_
          have J4 : Inv X pins σ2 H2 { g with heap := k4 } := J.landed nb fl4.1 ((up.trans up3).trans up4) os ag
          obtain ⟨o4, f4, at4, z4, dt4⟩ := fl4.there
          have S4 := J4.suite at4 dt4 na nL nF
          refine store_ok (X := X.suite a ((a, o4) :: (X.pn ++ pins))) (v := .ref a) S4 hN hi (.inl hln) rfl (fun g5 S5 => ?_) (.inr hln)
          refine wpAny_mono ((hsu a o4 cls d (X.pn ++ pins) z4 ⟨_, dt4⟩).run [] g5 _ H2 _ S5 (hyes rfl a na)) (fun fl g6 q6 => ?_) (fun _ _ z => False.elim z)
          have gone : ∀ {σ6 : L2.St} {H6 : Hp} {Q : Shared → Prop}, Inv (X.suite a ((a, o4) :: (X.pn ++ pins))) [] σ6 H6 g6 → (∀ g7, Inv X pins (σ6.set i none) H6 g7 → Q g7) →
              wpAny (model X.prog X.w) X.A (do bindName X.env n .none; unbindBehindTheSuite X.env n pos') (fun _ g7 => Q g7) X.xe g6 := fun S6 hq => gone_ok (S6.unsuite ok) hN hi hln hq
          cases fl with
          | ret u => obtain ⟨v6, σ6, H6, S6, r6, q6⟩ := q6; exact gone S6 fun g7 J7 => ⟨_, _, _, J7, r6, q6⟩
          | _ => obtain ⟨σ6, H6, S6, q6⟩ := q6; exact gone S6 fun g7 J7 => ⟨_, _, J7, q6⟩
    exact go hh wish
  · cases fl with
    | next => obtain ⟨σ', H', J', q⟩ := hsp; exact wpAny_execs_nil ⟨σ', H', J'.ofTry ok, q⟩
    | ret u => obtain ⟨v, σ', H', J', r, q⟩ := hsp; exact ⟨v, σ', H', J'.ofTry ok, r, q⟩
    | _ => obtain ⟨σ', H', J', q⟩ := hsp; exact ⟨σ', H', J'.ofTry ok, q⟩
end
/-! ### isinstance(e, C), e the exception that the suite holds, without an own dict -/
def rIsX (K : PySem.W.Frag) (a : Addr) (cls : Value) (d : Option Addr) : List V → Hp → VK → Prop := fun xs H Q => ∃ (D : Addr) (c : V) (cv : Value) (b : Bool), cls = .ref D ∧ d = none ∧ ExcC K D ∧ xs = [.ref a, c] ∧
  (∀ u, RelV c u → u = cv) ∧ PySem.W.kitOne K (.ref D) cv = some b ∧ Q (.bl b) H
theorem call_isX {X : Cx} {a : Addr} {oe : Obj} {cls : Value} {d : Option Addr} {pn : List (Addr × Obj)} (hz : Zc cls d oe) (hf : ∃ vs, oe.data = .fields vs) : CallR (X.suite a ((a, oe) :: pn)) (.builtin "isinstance") (rIsX X.K a cls d) := by
  intro pins s σ H xs us Q I r h
  obtain ⟨D, c, cv, b, rfl, rfl, C, hx, hcv, e, q⟩ := h
  exact call_isE C hz hf pins s σ H xs us Q I r ⟨c, cv, b, hx, hcv, e, q⟩
theorem takesNo {X : Cx} {a : Addr} {pn : List (Addr × Obj)} : Takes (X.suite a pn) (fun _ _ _ _ => False) := takes0
def eqF (a b : Option (Option Value)) : Bool := decide (a = b)
def excCB (K : PySem.W.Frag) (D : Addr) : Bool := eqF (PySem.W.findIn K (.ref D) "__getattribute__") (some (some (.builtin "BaseException.__getattribute__"))) && (eqF (PySem.W.findIn K (.ref D) "__getattr__") (some none) && (decide (PySem.W.subIn K (.ref D) (.type "BaseException") = some true) &&
  (PySem.W.hasDictIn K D && (eqF (PySem.W.findIn K (.ref D) "__class__") (some (some (.builtin "object.__class__"))) && (eqF (PySem.W.specialIn K (.builtin "object.__class__") "__get__") (some (some (.builtin "getset_descriptor.__get__"))) &&
  (decide (PySem.W.takesIn K (.builtin "object.__class__") = some true) && decide (PySem.W.mroIn K D (.type "object") = some true)))))))
theorem excCB_ok {K : PySem.W.Frag} {D : Addr} (h : excCB K D = true) : ExcC K D := by
  obtain ⟨h1, h⟩ := He.ba h
  obtain ⟨h2, h⟩ := He.ba h
  obtain ⟨h3, h⟩ := He.ba h
  obtain ⟨h4, h⟩ := He.ba h
  obtain ⟨h5, h⟩ := He.ba h
  obtain ⟨h6, h⟩ := He.ba h
  obtain ⟨h7, h8⟩ := He.ba h
  exact ⟨of_decide_eq_true h1, of_decide_eq_true h2, of_decide_eq_true h3, h4, of_decide_eq_true h5, of_decide_eq_true h6, of_decide_eq_true h7, of_decide_eq_true h8⟩
theorem exAt {l : List Bool} (h : l.all id = true) {i : Nat} {b : Bool} (e : l[i]? = some b) : b = true := List.all_eq_true.mp h b (List.mem_of_getElem? e)
end Sg

/-! readings by the shape of the values -/
namespace Sg
open PySem PySem.Spec PyProof.Rows L2
section
variable {X : Cx}
def rLenQ (K : PySem.W.Frag) : List V → Hp → VK → Prop := fun xs H Q => match xs with
  | [.ref p] => ∃ ys, (SqL K H p ys ∨ SqT K H p ys) ∧ Q (.int ys.length) H
  | [.str z] => z.length ≤ sizeLine ∧ Q (.int z.length) H
  | _ => False
theorem call_lenQ : CallR X (.builtin "len") (rLenQ X.K) := by
  intro pins s σ H xs us Q I r h
  match xs, h with
  | [.ref p], ⟨ys, hq, q⟩ => exact call_len_seq pins s σ H _ us Q I r ⟨p, ys, rfl, hq, q⟩
  | [.str z], ⟨hz, q⟩ => exact call_len_str pins s σ H _ us Q I r ⟨z, rfl, hz, q⟩
def rIxTQ (K : PySem.W.Frag) : R2 := fun x y H Q => match x, y with
  | .ref p, .int i => ∃ xs v, SqT K H p xs ∧ atI xs i = some v ∧ Q v H
  | _, _ => False
theorem ix_tupQ : IxR X (rIxTQ X.K) := by
  intro value slice pins s σ H x y v u Q I rx ry h hs
  match x, y, h with
  | .ref p, .int i, ⟨xs, w, h1, h2, q⟩ => exact ix_tup value slice pins s σ H _ _ v u Q I rx ry ⟨p, xs, i, w, rfl, rfl, h1, h2, q⟩ hs
def rIxLQ (K : PySem.W.Frag) : R2 := fun x y H Q => match x, y with
  | .ref p, .int i => ∃ xs v, SqL K H p xs ∧ atI xs i = some v ∧ Q v H
  | _, _ => False
theorem ix_listQ : IxR X (rIxLQ X.K) := by
  intro value slice pins s σ H x y v u Q I rx ry h hs
  match x, y, h with
  | .ref p, .int i, ⟨xs, w, h1, h2, q⟩ => exact ix_list value slice pins s σ H _ _ v u Q I rx ry ⟨p, xs, i, w, rfl, rfl, h1, h2, q⟩ hs
def rIxSQ : R2 := fun x y H Q => match x, y with
  | .str z, .int i => ∃ c, z.length ≤ sizeLine ∧ atI z.cps.toList i = some c ∧ Q (.str (sgn c)) H
  | _, _ => False
theorem ix_strQ : IxR X rIxSQ := by
  intro value slice pins s σ H x y v u Q I rx ry h hs
  match x, y, h with
  | .str z, .int i, ⟨c, h1, h2, q⟩ => exact ix_str value slice pins s σ H _ _ v u Q I rx ry ⟨z, i, c, rfl, rfl, h1, h2, q⟩ hs
def rInt1Q : List V → Hp → VK → Prop := fun xs H Q => match xs with
  | [.int i] => Q (.int i) H
  | [.bl k] => Q (.int (if k then 1 else 0)) H
  | _ => False
theorem call_int1Q : CallR X (.type "int") rInt1Q := by
  intro pins s σ H xs us Q I r h
  match xs, h with
  | [.int i], q => exact call_int1 pins s σ H _ us Q I r (.inl ⟨i, rfl, q⟩)
  | [.bl k], q => exact call_int1 pins s σ H _ us Q I r (.inr ⟨k, rfl, q⟩)
def rTupQ (K : PySem.W.Frag) : List V → Hp → VK → Prop := fun xs H Q => match xs with
  | [.ref p] => ∃ ys, SqL K H p ys ∧ ∀ l, H l = none → Q (.ref l) (upd H l (.tup ys))
  | _ => False
/-- tuple(list) -/
theorem call_tupQ : CallR X (.type "tuple") (rTupQ X.K) := by
  intro pins s σ H xs us Q I r h
  match xs, h with
  | [.ref p], ⟨ys, h1, q⟩ => exact call_tuple_of pins s σ H _ us Q I r ⟨p, ys, rfl, .inl ⟨h1, q⟩⟩
def rAppQ : V → List V → Hp → VK → Prop := fun x vs H Q => match x, vs with
  | .ref l, [y] => ∃ xs, H l = some (.lst xs) ∧ xs.length < sizeLine ∧ Q .non (upd H l (.lst (xs ++ [y])))
  | _, _ => False
theorem mt_appQ : MtR X "list.append" rAppQ := by
  intro pins s σ H x vs v us Q I rx rv h
  match x, vs, h with
  | .ref l, [y], ⟨xs, h1, h2, q⟩ => exact mt_append pins s σ H _ _ v us Q I rx rv ⟨l, xs, y, rfl, rfl, h1, h2, q⟩
def rPopQ : V → List V → Hp → VK → Prop := fun x vs H Q => match x, vs with
  | .ref l, [] => ∃ xs y, H l = some (.lst (xs ++ [y])) ∧ Q y (upd H l (.lst xs))
  | _, _ => False
theorem mt_popQ : MtR X "list.pop" rPopQ := by
  intro pins s σ H x vs v us Q I rx rv h
  match x, vs, h with
  | .ref l, [], ⟨xs, y, h1, q⟩ =>
    refine mt_pop pins s σ H _ _ v us Q I rx rv ⟨l, xs ++ [y], y, rfl, rfl, h1, ?_, ?_⟩
    · rw [List.length_append, List.length_singleton, Nat.add_sub_cancel, List.getElem?_append_right (Nat.le_refl _), Nat.sub_self]
      rfl
    · rw [List.dropLast_concat]
      exact q
def rPopAtQ : V → List V → Hp → VK → Prop := fun x vs H Q => match x, vs with
  | .ref l, [.int i] => ∃ xs y, H l = some (.lst xs) ∧ 0 ≤ i ∧ i < 2 ^ 62 ∧ xs[i.toNat]? = some y ∧ Q y (upd H l (.lst (xs.eraseIdx i.toNat)))
  | _, _ => False
theorem mt_popAtQ : MtR X "list.pop" rPopAtQ := by
  intro pins s σ H x vs v us Q I rx rv h
  match x, vs, h with
  | .ref l, [.int i], ⟨xs, y, h1, h0, hi, h2, q⟩ =>
    refine mt_popAt pins s σ H _ _ v us Q I rx rv ⟨l, xs, i, i.toNat, y, rfl, rfl, h1, by omega, by omega, ?_, h2, q⟩
    have hlt := (List.getElem?_eq_some_iff.mp h2).1
    unfold seqIndex?
    dsimp only
    rw [if_neg (show ¬ i < 0 by omega), if_pos (by simp; omega)]
def rRevQ : V → List V → Hp → VK → Prop := fun x vs H Q => match x, vs with
  | .ref l, [] => ∃ xs, H l = some (.lst xs) ∧ Q .non (upd H l (.lst xs.reverse))
  | _, _ => False
theorem mt_revQ : MtR X "list.reverse" rRevQ := by
  intro pins s σ H x vs v us Q I rx rv h
  match x, vs, h with
  | .ref l, [], ⟨xs, h1, q⟩ => exact mt_reverse pins s σ H _ _ v us Q I rx rv ⟨l, xs, rfl, rfl, h1, q⟩
end
theorem lst_ty {K : PySem.W.Frag} {H : Hp} {p : Addr} {ys : List V} (h : H p = some (.lst ys)) : tyV K "list" (.ref p) H := .inl ⟨rfl, _, .inl (.inl h)⟩
end Sg

/-! breadth-first search over numbered steps, in plain Lean -/
namespace Sg
section
variable {α β : Type} [DecidableEq α] [DecidableEq β]
abbrev Met (α : Type) : Type := List (α × List Nat)
def addStep (stp : α → Nat → α) (a : α) (p : List Nat) (acc : Met α) (x : Nat) : Met α := if stp a x ∈ acc.map Prod.fst then acc else acc ++ [(stp a x, p ++ [x])]
def expand (n : Nat) (stp : α → Nat → α) (acc : Met α) (a : α) (p : List Nat) : Met α := (List.range n).foldl (addStep stp a p) acc
def expandTo (stp : α → Nat → α) (acc : Met α) (a : α) (p : List Nat) (k : Nat) : Met α := (List.range k).foldl (addStep stp a p) acc
def bfs (n : Nat) (stp : α → Nat → α) (tst : α → Bool) : Nat → Nat → Met α → Option (List Nat)
  | 0, _, _ => none
  | f + 1, i, acc => match acc[i]? with
    | none => none
    | some (a, p) => if tst a then some p else bfs n stp tst f (i + 1) (expand n stp acc a p)
theorem expandTo_zero (stp : α → Nat → α) (acc : Met α) (a : α) (p : List Nat) : expandTo stp acc a p 0 = acc := rfl
theorem expandTo_succ (stp : α → Nat → α) (acc : Met α) (a : α) (p : List Nat) (k : Nat) : expandTo stp acc a p (k + 1) = addStep stp a p (expandTo stp acc a p k) k := by
  unfold expandTo
  rw [List.range_succ, List.foldl_append]
  rfl
/-- what holds of all that is met -/
structure MetOk (n : Nat) (stp : α → Nat → α) (s : α) (acc : Met α) : Prop where
  nd : (acc.map Prod.fst).Nodup
  way : ∀ e ∈ acc, e.1 = e.2.foldl stp s ∧ (∀ x ∈ e.2, x < n) ∧ e.2.length < acc.length
theorem met_start (n : Nat) (stp : α → Nat → α) (s : α) : MetOk n stp s [(s, [])] where
  nd := by simp
  way := by
    intro e he
    obtain rfl := List.mem_singleton.mp he
    exact ⟨rfl, by simp, by simp⟩
theorem met_add {n : Nat} {stp : α → Nat → α} {s : α} {acc : Met α} (h : MetOk n stp s acc) {a : α} {p : List Nat} (hm : (a, p) ∈ acc) {x : Nat} (hx : x < n) : MetOk n stp s (addStep stp a p acc x) := by
  unfold addStep
  by_cases c : stp a x ∈ acc.map Prod.fst
  · rw [if_pos c]; exact h
  · rw [if_neg c]
    refine ⟨?_, ?_⟩
    · rw [List.map_append, List.nodup_append]
      refine ⟨h.nd, by simp, fun y hy z hz => ?_⟩
      obtain rfl := List.mem_singleton.mp hz
      exact fun e => c ((show y = stp a x from e) ▸ hy)
    · intro e he
      rw [List.length_append]
      rcases List.mem_append.mp he with he | he
      · obtain ⟨h1, h2, h3⟩ := h.way e he
        exact ⟨h1, h2, by simp; omega⟩
      · obtain rfl := List.mem_singleton.mp he
        obtain ⟨h1, h2, h3⟩ := h.way _ hm
        have h1' : a = p.foldl stp s := h1
        refine ⟨?_, ?_, ?_⟩
        · show stp a x = (p ++ [x]).foldl stp s
          rw [List.foldl_append, ← h1']
          rfl
        · intro y hy
          rcases List.mem_append.mp hy with hy | hy
          · exact h2 y hy
          · rw [List.mem_singleton.mp hy]; exact hx
        · show (p ++ [x]).length < _
          have h3' : p.length < acc.length := h3
          simp
          omega
theorem addStep_sub {stp : α → Nat → α} {a : α} {p : List Nat} {acc : Met α} {x : Nat} : ∃ more, addStep stp a p acc x = acc ++ more := by
  unfold addStep
  by_cases c : stp a x ∈ acc.map Prod.fst
  · rw [if_pos c]; exact ⟨[], by simp⟩
  · rw [if_neg c]; exact ⟨_, rfl⟩
theorem expandTo_sub {stp : α → Nat → α} {acc : Met α} {a : α} {p : List Nat} : ∀ k, ∃ more, expandTo stp acc a p k = acc ++ more
  | 0 => ⟨[], by rw [expandTo_zero]; simp⟩
  | k + 1 => by
    obtain ⟨m1, e1⟩ := expandTo_sub (stp := stp) (acc := acc) (a := a) (p := p) k
    obtain ⟨m2, e2⟩ := addStep_sub (stp := stp) (a := a) (p := p) (acc := expandTo stp acc a p k) (x := k)
    exact ⟨m1 ++ m2, by rw [expandTo_succ, e2, e1, List.append_assoc]⟩
theorem met_expandTo {n : Nat} {stp : α → Nat → α} {s : α} {acc : Met α} (h : MetOk n stp s acc) {a : α} {p : List Nat} (hm : (a, p) ∈ acc) : ∀ k, k ≤ n → MetOk n stp s (expandTo stp acc a p k)
  | 0, _ => h
  | k + 1, hk => by
    rw [expandTo_succ]
    obtain ⟨more, e⟩ := expandTo_sub (stp := stp) (acc := acc) (a := a) (p := p) k
    exact met_add (met_expandTo h hm k (by omega)) (by rw [e]; exact List.mem_append_left _ hm) (by omega)
theorem met_expand {n : Nat} {stp : α → Nat → α} {s : α} {acc : Met α} (h : MetOk n stp s acc) {a : α} {p : List Nat} (hm : (a, p) ∈ acc) : MetOk n stp s (expand n stp acc a p) := met_expandTo h hm n (Nat.le_refl _)
/-- what is found leads to where the test holds -/
theorem bfs_way {n : Nat} {stp : α → Nat → α} {s : α} {tst : α → Bool} : ∀ {f i : Nat} {acc : Met α} {p : List Nat}, MetOk n stp s acc → bfs n stp tst f i acc = some p → tst (p.foldl stp s) = true ∧ ∀ x ∈ p, x < n
  | 0, _, _, _, _, e => nomatch e
  | f + 1, i, acc, p, h, e => by
    unfold bfs at e
    cases hi : acc[i]? with
    | none => rw [hi] at e; cases e
    | some ap =>
      obtain ⟨a, q⟩ := ap
      rw [hi] at e
      have hm : (a, q) ∈ acc := List.mem_of_getElem? hi
      have e2 : (if tst a then some q else bfs n stp tst f (i + 1) (expand n stp acc a q)) = some p := e
      by_cases c : tst a = true
      · rw [if_pos c] at e2
        obtain rfl := Option.some.inj e2
        obtain ⟨h1, h2, _⟩ := h.way _ hm
        have h1' : a = q.foldl stp s := h1
        exact ⟨by rw [← h1']; exact c, h2⟩
      · rw [if_neg c] at e2
        exact bfs_way (met_expand h hm) e2
/-- the met ones are few -/
theorem nodup_few : ∀ {l u : List α}, l.Nodup → (∀ a ∈ l, a ∈ u) → l.length ≤ u.length
  | [], _, _, _ => Nat.zero_le _
  | a :: l, u, h, hs => by
    obtain ⟨h1, h2⟩ := List.nodup_cons.mp h
    have ha : a ∈ u := hs a List.mem_cons_self
    have hl : (u.erase a).length = u.length - 1 := List.length_erase_of_mem ha
    have hpos : 0 < u.length := List.length_pos_of_mem ha
    have := nodup_few (l := l) (u := u.erase a) h2 fun b hb => (List.mem_erase_of_ne (fun e : b = a => h1 (e ▸ hb))).mpr (hs b (List.mem_cons_of_mem _ hb))
    rw [List.length_cons]
    omega
theorem met_few {n : Nat} {stp : α → Nat → α} {s : α} {acc : Met α} (h : MetOk n stp s acc) {u : List α} (hs : s ∈ u) (hc : ∀ a ∈ u, ∀ x, x < n → stp a x ∈ u) : acc.length ≤ u.length := by
  have hin : ∀ (p : List Nat) (a : α), a ∈ u → (∀ x ∈ p, x < n) → p.foldl stp a ∈ u := by
    intro p
    induction p with
    | nil => intro a ha _; exact ha
    | cons x r ih => intro a ha hp; exact ih _ (hc a ha x (hp x List.mem_cons_self)) fun y hy => hp y (List.mem_cons_of_mem _ hy)
  have := nodup_few (l := acc.map Prod.fst) (u := u) h.nd fun a ha => by
    obtain ⟨e, he, rfl⟩ := List.mem_map.mp ha
    obtain ⟨h1, h2, _⟩ := h.way e he
    rw [h1]
    exact hin _ _ hs h2
  rwa [List.length_map] at this
/-- more turns than things tell the same -/
theorem bfs_more {n : Nat} {stp : α → Nat → α} {s : α} {tst : α → Bool} {u : List α} (hs : s ∈ u) (hc : ∀ a ∈ u, ∀ x, x < n → stp a x ∈ u) : ∀ {f g i : Nat} {acc : Met α}, MetOk n stp s acc → u.length < f + i → u.length < g + i → bfs n stp tst f i acc = bfs n stp tst g i acc
  | 0, 0, _, _, _, _, _ => rfl
  | 0, g + 1, i, acc, h, hf, _ => by
    have := met_few h hs hc
    have hn : acc[i]? = none := List.getElem?_eq_none (by omega)
    unfold bfs
    rw [hn]
  | f + 1, 0, i, acc, h, _, hg => by
    have := met_few h hs hc
    have hn : acc[i]? = none := List.getElem?_eq_none (by omega)
    unfold bfs
    rw [hn]
  | f + 1, g + 1, i, acc, h, hf, hg => by
    unfold bfs
    cases hi : acc[i]? with
    | none => rfl
    | some ap =>
      obtain ⟨a, q⟩ := ap
      have hm : (a, q) ∈ acc := List.mem_of_getElem? hi
      show (if tst a then some q else _) = (if tst a then some q else _)
      rw [bfs_more hs hc (f := f) (g := g) (met_expand h hm) (by omega) (by omega)]
/-- another name for each thing -/
def ren (g : α → β) (acc : Met α) : Met β := acc.map fun e => (g e.1, e.2)
theorem ren_add {stp : α → Nat → α} {stq : β → Nat → β} {g : α → β} (gi : ∀ a b, g a = g b → a = b) {a : α} {p : List Nat} {acc : Met α} {x : Nat} (hg : g (stp a x) = stq (g a) x) : addStep stq (g a) p (ren g acc) x = ren g (addStep stp a p acc x) := by
  unfold addStep ren
  have e : (stq (g a) x ∈ (acc.map fun e => (g e.1, e.2)).map Prod.fst) ↔ (stp a x ∈ acc.map Prod.fst) := by
    rw [← hg]
    simp only [List.map_map, List.mem_map, Function.comp]
    constructor
    · rintro ⟨e, he, h⟩
      exact ⟨e, he, gi _ _ h⟩
    · rintro ⟨e, he, h⟩
      exact ⟨e, he, by rw [h]⟩
  by_cases c : stp a x ∈ acc.map Prod.fst
  · rw [if_pos (e.mpr c), if_pos c]
  · rw [if_neg (fun z => c (e.mp z)), if_neg c, List.map_append, ← hg]
    rfl
theorem ren_expandTo {stp : α → Nat → α} {stq : β → Nat → β} {g : α → β} (gi : ∀ a b, g a = g b → a = b) {n : Nat} {a : α} {p : List Nat} {acc : Met α} (hg : ∀ x, x < n → g (stp a x) = stq (g a) x) : ∀ k, k ≤ n → expandTo stq (ren g acc) (g a) p k = ren g (expandTo stp acc a p k)
  | 0, _ => rfl
  | k + 1, hk => by
    rw [expandTo_succ, expandTo_succ, ren_expandTo gi hg k (by omega), ren_add gi (hg k (by omega))]
theorem ren_bfs {n : Nat} {stp : α → Nat → α} {stq : β → Nat → β} {tst : α → Bool} {tsq : β → Bool} {g : α → β} (gi : ∀ a b, g a = g b → a = b) (hg : ∀ a x, x < n → g (stp a x) = stq (g a) x) (ht : ∀ a, tst a = tsq (g a)) :
    ∀ (f i : Nat) (acc : Met α), bfs n stq tsq f i (ren g acc) = bfs n stp tst f i acc
  | 0, _, _ => rfl
  | f + 1, i, acc => by
    unfold bfs
    have e : (ren g acc)[i]? = (acc[i]?).map fun e => (g e.1, e.2) := by
      unfold ren
      rw [List.getElem?_map]
    rw [e]
    cases hi : acc[i]? with
    | none => rfl
    | some ap =>
      obtain ⟨a, q⟩ := ap
      show (if tsq (g a) then some q else bfs n stq tsq f (i + 1) (expandTo stq (ren g acc) (g a) q n)) = (if tst a then some q else bfs n stp tst f (i + 1) (expand n stp acc a q))
      rw [ht a, ren_expandTo gi (fun x hx => hg a x hx) n (Nat.le_refl _), ren_bfs gi hg ht f (i + 1) _]
      rfl
end
end Sg
namespace Sg
section
variable {α : Type} [DecidableEq α]
theorem bfs_end {n : Nat} {stp : α → Nat → α} {tst : α → Bool} {f i : Nat} {acc : Met α} (h : acc.length ≤ i) : bfs n stp tst f i acc = none := by
  cases f with
  | zero => rfl
  | succ f =>
    unfold bfs
    rw [List.getElem?_eq_none h]
theorem bfs_hit {n : Nat} {stp : α → Nat → α} {tst : α → Bool} {f i : Nat} {acc : Met α} {a : α} {p : List Nat} (h : acc[i]? = some (a, p)) (t : tst a = true) : bfs n stp tst (f + 1) i acc = some p := by
  show (match acc[i]? with | none => none | some (a, p) => if tst a then some p else bfs n stp tst f (i + 1) (expand n stp acc a p)) = _
  rw [h]
  exact if_pos t
theorem bfs_go {n : Nat} {stp : α → Nat → α} {tst : α → Bool} {f i : Nat} {acc : Met α} {a : α} {p : List Nat} (h : acc[i]? = some (a, p)) (t : tst a = false) : bfs n stp tst (f + 1) i acc = bfs n stp tst f (i + 1) (expandTo stp acc a p n) := by
  show (match acc[i]? with | none => none | some (a, p) => if tst a then some p else bfs n stp tst f (i + 1) (expand n stp acc a p)) = _
  rw [h]
  exact if_neg (by rw [t]; exact Bool.false_ne_true)
theorem met_closed {n : Nat} {stp : α → Nat → α} {s : α} {acc : Met α} (h : MetOk n stp s acc) (C : α → Prop) (hs : C s) (hc : ∀ a x, C a → x < n → C (stp a x)) : ∀ e ∈ acc, C e.1 := by
  have hin : ∀ (p : List Nat) (a : α), C a → (∀ x ∈ p, x < n) → C (p.foldl stp a) := by
    intro p
    induction p with
    | nil => intro a ha _; exact ha
    | cons x r ih => intro a ha hp; exact ih _ (hc a x ha (hp x List.mem_cons_self)) fun y hy => hp y (List.mem_cons_of_mem _ hy)
  intro e he
  obtain ⟨h1, h2, _⟩ := h.way e he
  rw [h1]
  exact hin _ _ hs h2
end
end Sg

/-! lookers as data -/
namespace Sg
open PySem PySem.Spec PyProof.Rows L2
def isWh : V → Bool
  | .int i => decide (0 ≤ i)
  | _ => false
def isBt : V → Bool
  | .int i => decide (0 ≤ i) && decide (i ≤ 1)
  | _ => false
def isSt (n : Int) : V → Bool
  | .int i => decide (0 ≤ i) && decide (i < n)
  | _ => false
/-- a tuple of how many things -/
def RowB (K : PySem.W.Frag) (H : Hp) (x : V) (n : Int) (b : Bool) : Prop :=
  (∃ a xs, x = .ref a ∧ SqT K H a xs ∧ b = decide ((xs.length : Int) = n)) ∨ (Kd K H x ∧ isaB "tuple" x = false ∧ b = false)
/-- one to five unlike signs -/
def sgB (z : Str) : Bool := decide (1 ≤ z.length) && (decide (z.length ≤ 5) && decide ((once (signsOf z)).length = z.length))
abbrev LRow : Type := Int × List Int
def RSt (K : PySem.W.Frag) (H : Hp) (v : V) (r : LRow) : Prop := ∃ a b, v = .ref a ∧ SqT K H a [.int r.1, .ref b] ∧ SqT K H b (r.2.map V.int)
def RRows (K : PySem.W.Frag) (H : Hp) (b : Addr) (rs : List LRow) : Prop := ∃ vs, SqT K H b vs ∧ Paired (RSt K H) vs rs
def RLk (K : PySem.W.Frag) (H : Hp) (v : V) (z : Str) (rs : List LRow) : Prop := ∃ a b, v = .ref a ∧ SqT K H a [.str z, .ref b] ∧ RRows K H b rs
structure RowsOk (n : Nat) (rs : List LRow) : Prop where
  pos : 1 ≤ rs.length
  top : rs.length ≤ 600
  bit : ∀ r ∈ rs, r.1 = 0 ∨ r.1 = 1
  wid : ∀ r ∈ rs, r.2.length = n
  to : ∀ r ∈ rs, ∀ q ∈ r.2, 0 ≤ q ∧ q < (rs.length : Int)
structure SignsOk (z : Str) : Prop where
  pos : 1 ≤ z.length
  top : z.length ≤ 5
  nd : z.cps.toList.Nodup
  low : ∀ c ∈ z.cps.toList, c < 128
theorem signs_once {z : Str} (h : z.cps.toList.Nodup) : (once (signsOf z)).length = z.length := by
  have hn : (signsOf z).Nodup := by
    unfold signsOf
    refine List.Pairwise.map _ (fun a b hab e => hab ?_) h
    have e2 : (#[a] : Array Nat) = #[b] := congrArg Str.cps e
    have e3 : [a] = [b] := congrArg Array.toList e2
    exact (List.cons.inj e3).1
  rw [once_nodup_self hn]
  unfold signsOf
  rw [List.length_map, Array.length_toList]
  rfl
theorem SignsOk.sgB {z : Str} (h : SignsOk z) : sgB z = true := by
  unfold Sg.sgB
  rw [decide_eq_true h.pos, decide_eq_true h.top, decide_eq_true (signs_once h.nd)]
  rfl
theorem pr_mono {α β : Type} {F G : α → β → Prop} {l : List α} {m : List β} (h : Paired F l m) (f : ∀ a b, F a b → G a b) : Paired G l m := by
  induction h with
  | nil => exact .nil
  | cons r _ ih => exact .cons (f _ _ r) ih
theorem pr_get {α β : Type} {F : α → β → Prop} {l : List α} {m : List β} (h : Paired F l m) : ∀ {i : Nat} {a : α}, l[i]? = some a → ∃ b, m[i]? = some b ∧ F a b := by
  induction h with
  | nil => intro i a e; simp at e
  | cons r _ ih =>
    intro i a e
    cases i with
    | zero =>
      obtain rfl := Option.some.inj e
      exact ⟨_, rfl, r⟩
    | succ i => exact ih e
theorem pr_get' {α β : Type} {F : α → β → Prop} {l : List α} {m : List β} (h : Paired F l m) : ∀ {i : Nat} {b : β}, m[i]? = some b → ∃ a, l[i]? = some a ∧ F a b := by
  induction h with
  | nil => intro i b e; simp at e
  | cons r _ ih =>
    intro i b e
    cases i with
    | zero =>
      obtain rfl := Option.some.inj e
      exact ⟨_, rfl, r⟩
    | succ i => exact ih e
theorem RSt.mono {K : PySem.W.Frag} {H H' : Hp} (k : TK H H') {v : V} {r : LRow} (h : RSt K H v r) : RSt K H' v r := by
  obtain ⟨a, b, e, h1, h2⟩ := h
  exact ⟨a, b, e, k.sqT h1, k.sqT h2⟩
theorem RRows.mono {K : PySem.W.Frag} {H H' : Hp} (k : TK H H') {b : Addr} {rs : List LRow} (h : RRows K H b rs) : RRows K H' b rs := by
  obtain ⟨vs, h1, h2⟩ := h
  exact ⟨vs, k.sqT h1, pr_mono h2 fun _ _ r => r.mono k⟩
theorem RLk.mono {K : PySem.W.Frag} {H H' : Hp} (k : TK H H') {v : V} {z : Str} {rs : List LRow} (h : RLk K H v z rs) : RLk K H' v z rs := by
  obtain ⟨a, b, e, h1, h2⟩ := h
  exact ⟨a, b, e, k.sqT h1, h2.mono k⟩
/-- tests that come out -/
theorem ifT {A B : Prop} {c : Bool} (hc : c = true) (h : A) : if c = true then A else B := by
  rw [if_pos hc]
  exact h
theorem ifF {A B : Prop} {c : Bool} (hc : c = false) (h : B) : if c = true then A else B := by
  rw [hc, if_neg Bool.false_ne_true]
  exact h
theorem szle {n m : Nat} (h : n ≤ m) (hm : m ≤ 1000000 := by omega) : n ≤ sizeLine := by
  rw [sizeLine_eq]
  omega
theorem szlt {n m : Nat} (h : n ≤ m) (hm : m ≤ 1000000 := by omega) : n < sizeLine := by
  rw [sizeLine_eq]
  omega
end Sg

namespace Sg
open PySem PySem.Spec PyProof.Rows L2
/-! ### lookers, what they do -/
def rowOf (rs : List LRow) (p : Int) : LRow := rs.getD p.toNat (0, [])
def nxt (rs : List LRow) (p : Int) (x : Nat) : Int := (rowOf rs p).2.getD x 0
def endAt (rs : List LRow) (p : Int) : Int := (rowOf rs p).1
def InSt (rs : List LRow) (p : Int) : Prop := 0 ≤ p ∧ p < (rs.length : Int)
theorem rowOf_get {rs : List LRow} {p : Int} (h : InSt rs p) : rs[p.toNat]? = some (rowOf rs p) := by
  unfold rowOf
  have : p.toNat < rs.length := by have := h.1; have := h.2; omega
  rw [List.getD_eq_getElem?_getD, List.getElem?_eq_getElem this]
  rfl
theorem rowOf_mem {rs : List LRow} {p : Int} (h : InSt rs p) : rowOf rs p ∈ rs := List.mem_of_getElem? (rowOf_get h)
theorem nxt_get {n : Nat} {rs : List LRow} (ok : RowsOk n rs) {p : Int} (h : InSt rs p) {x : Nat} (hx : x < n) : (rowOf rs p).2[x]? = some (nxt rs p x) := by
  unfold nxt
  have : x < (rowOf rs p).2.length := by rw [ok.wid _ (rowOf_mem h)]; exact hx
  rw [List.getD_eq_getElem?_getD, List.getElem?_eq_getElem this]
  rfl
theorem nxt_in {n : Nat} {rs : List LRow} (ok : RowsOk n rs) {p : Int} (h : InSt rs p) {x : Nat} (hx : x < n) : InSt rs (nxt rs p x) := ok.to _ (rowOf_mem h) _ (List.mem_of_getElem? (nxt_get ok h hx))
theorem endAt_bit {n : Nat} {rs : List LRow} (ok : RowsOk n rs) {p : Int} (h : InSt rs p) : endAt rs p = 0 ∨ endAt rs p = 1 := ok.bit _ (rowOf_mem h)
theorem in_zero {n : Nat} {rs : List LRow} (ok : RowsOk n rs) : InSt rs 0 := ⟨Int.le_refl _, by have := ok.pos; omega⟩
/-- reading a state of a looker -/
theorem RRows.at {K : PySem.W.Frag} {H : Hp} {b : Addr} {rs : List LRow} (h : RRows K H b rs) {p : Int} (hp : InSt rs p) :
    ∃ vs a1 b1, SqT K H b vs ∧ atI vs p = some (.ref a1) ∧ SqT K H a1 [.int (endAt rs p), .ref b1] ∧ SqT K H b1 ((rowOf rs p).2.map V.int) := by
  obtain ⟨vs, h1, h2⟩ := h
  obtain ⟨v, hv, a1, b1, rfl, h3, h4⟩ := pr_get' h2 (rowOf_get hp)
  refine ⟨vs, a1, b1, h1, ?_, h3, h4⟩
  have e : p = ((p.toNat : Nat) : Int) := by have := hp.1; omega
  exact L2.at_of e hv
theorem row_at {n : Nat} {rs : List LRow} (ok : RowsOk n rs) {p : Int} (h : InSt rs p) {x : Nat} (hx : x < n) : atI ((rowOf rs p).2.map V.int) (x : Int) = some (.int (nxt rs p x)) :=
  atI_nat (by rw [List.getElem?_map, nxt_get ok h hx]; rfl)
/-! ### texts by places of signs -/
def textOf (z : Str) (p : List Nat) : Str := ⟨(p.map fun x => z.cps.getD x 0).toArray⟩
theorem str_ext {x y : Str} (h : x.cps.toList = y.cps.toList) : x = y := by
  obtain ⟨a⟩ := x
  obtain ⟨b⟩ := y
  have e : a = b := Array.toList_inj.mp h
  rw [e]
theorem joinL_nil : ∀ l : List (List Nat), TL.joinL [] l = l.flatten
  | [] => rfl
  | [p] => by simp [TL.joinL]
  | p :: q :: r => by
    show p ++ ([] ++ TL.joinL [] (q :: r)) = _
    rw [List.nil_append, joinL_nil (q :: r)]
    rfl
theorem flatten_ones : ∀ l : List Nat, ((l.map fun c => [c]).flatten) = l
  | [] => rfl
  | c :: r => by
    show [c] ++ (r.map fun c => [c]).flatten = _
    rw [flatten_ones r]
    rfl
theorem join_signs (l : List Nat) : Txt.join (Str.ofString "") (l.map sgn) = ⟨l.toArray⟩ := by
  apply str_ext
  rw [TL.join_eq]
  have h := TL.tl_join (Str.ofString "") (l.map sgn)
  have e : TL.tl (Str.ofString "") = [] := by decide
  rw [e, joinL_nil, List.map_map] at h
  have e2 : (l.map (TL.tl ∘ sgn)).flatten = l := flatten_ones l
  rw [e2] at h
  exact h
theorem sum_ones : ∀ l : List Nat, ((l.map sgn).map (·.length)).sum = l.length
  | [] => rfl
  | c :: r => by
    show (1 : Nat) + ((r.map sgn).map (·.length)).sum = r.length + 1
    rw [sum_ones r]
    omega
theorem find_sign {z : Str} {i c : Nat} (nd : z.cps.toList.Nodup) (hi : z.cps.toList[i]? = some c) : Txt.find z (sgn c) = (i : Int) := by
  have at_i : ∀ j, StrLaws.At z (sgn c) z.length j ↔ z.cps.toList[j]? = some c := by
    intro j
    rw [TL.at_iff (by show [c] ≠ []; simp)]
    show TL.pre [c] (z.cps.toList.drop j) = true ↔ _
    cases hd : z.cps.toList.drop j with
    | nil =>
      have : z.cps.toList[j]? = none := by
        have h := congrArg (fun l : List Nat => l[0]?) hd
        simp only [List.getElem?_drop] at h
        simpa using h
      rw [this]
      constructor
      · intro h; cases h
      · intro h; cases h
    | cons a r =>
      have : z.cps.toList[j]? = some a := by
        have h := congrArg (fun l : List Nat => l[0]?) hd
        simp only [List.getElem?_drop] at h
        simpa using h
      rw [this]
      constructor
      · intro h
        have h2 : ([a] == [c]) = true := h
        have h3 : [a] = [c] := beq_iff_eq.mp h2
        rw [(List.cons.inj h3).1]
      · intro h
        obtain rfl := Option.some.inj h
        show ([a] == [a]) = true
        exact beq_self_eq_true _
  rcases find_whole z (sgn c) with ⟨_, h⟩ | ⟨k, e, h1, _⟩
  · exact absurd ((at_i i).mpr hi) (h i)
  · rw [e]
    have h2 := (at_i k).mp h1
    obtain ⟨q1, e1⟩ := List.getElem?_eq_some_iff.mp h2
    obtain ⟨q2, e2⟩ := List.getElem?_eq_some_iff.mp hi
    have : k = i := (List.getElem_inj nd).mp (e1.trans e2.symm)
    rw [this]
/-! ### how a thing was met: the dict of what came ahead -/
theorem dget_mono {H H' : Hp} (s : Same H H') {d : Addr} {y : V} {r : Option V} (h : DGet H d y r) : DGet H' d y r := by
  have rd : ∀ {a : Addr} {u : HO}, Rd H a u → Rd H' a u := fun h => h.elim (fun h => .inl (s _ _ h)) fun ⟨o, h⟩ => .inr ⟨o, s _ _ h⟩
  rcases h with ⟨kvs, k, h1, h2, h3⟩ | ⟨kvs, k, b, h1, h2, h3, h4⟩
  · exact .inl ⟨kvs, k, rd h1, h2, h3⟩
  · exact .inr ⟨kvs, k, b, rd h1, h2, s _ _ h3, h4⟩
inductive Chain (K : PySem.W.Frag) (H : Hp) (d : Addr) : V → List Nat → Prop where
  | root {y : V} (h : DGet H d y (some .non)) : Chain K H d y []
  | step {y y' : V} {t : Addr} {x : Nat} {p : List Nat} (h : DGet H d y (some (.ref t))) (ht : SqT K H t [y', .int (x : Int)]) (r : Chain K H d y' p) : Chain K H d y (p ++ [x])
theorem Chain.mono {K : PySem.W.Frag} {H H' : Hp} {d : Addr} (s : Same H H') {y : V} {p : List Nat} (h : Chain K H d y p) : Chain K H' d y p := by
  induction h with
  | root h => exact .root (dget_mono s h)
  | step h ht _ ih => exact .step (dget_mono s h) (Same.sqT s ht) ih
/-- what the dict tells of a key that was met by q -/
def StepV (K : PySem.W.Frag) (H : Hp) (d : Addr) (v : V) (q : List Nat) : Prop := (v = .non ∧ q = []) ∨ ∃ t y x q0, v = .ref t ∧ SqT K H t [y, .int ((x : Nat) : Int)] ∧ Chain K H d y q0 ∧ q = q0 ++ [x]
theorem Chain.get {K : PySem.W.Frag} {H : Hp} {d : Addr} {y : V} {p : List Nat} (h : Chain K H d y p) : ∃ v, DGet H d y (some v) ∧ StepV K H d v p := by
  cases h with
  | root h => exact ⟨_, h, .inl ⟨rfl, rfl⟩⟩
  | step h ht r => exact ⟨_, h, .inr ⟨_, _, _, _, rfl, ht, r, rfl⟩⟩
theorem StepV.mono {K : PySem.W.Frag} {H H' : Hp} {d : Addr} (s : Same H H') {v : V} {q : List Nat} (h : StepV K H d v q) : StepV K H' d v q := by
  rcases h with h | ⟨t, y, x, q0, h1, h2, h3, h4⟩
  · exact .inl h
  · exact .inr ⟨t, y, x, q0, h1, Same.sqT s h2, h3.mono s, h4⟩
def sgs (z : Str) (q : List Nat) : List V := q.map fun x => V.str (sgn (z.cps.getD x 0))
theorem at_sign {z : Str} {x : Nat} (h : x < z.length) : atI z.cps.toList (x : Int) = some (z.cps.getD x 0) := by
  refine atI_nat ?_
  rw [Array.getElem?_toList, Array.getElem?_eq_getElem h, Array.getD_eq_getD_getElem?, Array.getElem?_eq_getElem h]
  rfl
end Sg

namespace Sg
open PySem PySem.Spec PyProof.Rows L2
theorem sqT_upd {K : PySem.W.Frag} {H : Hp} {p a : Addr} {o u : HO} {xs : List V} (hp : H p = some u) (nt : ∀ ys, u ≠ .tup ys) (nf : ∀ q v, u ≠ .frz q v) (h : SqT K H a xs) : SqT K (upd H p o) a xs := by
  rcases h with (h | ⟨q, h⟩) | h
  · exact .inl (.inl (by rw [upd_ne (fun z => nt _ (by rw [z, hp] at h; exact Option.some.inj h))]; exact h))
  · exact .inl (.inr ⟨q, by rw [upd_ne (fun z => nf _ _ (by rw [z, hp] at h; exact Option.some.inj h))]; exact h⟩)
  · exact .inr h
theorem Chain.grow {K : PySem.W.Frag} {H H' : Hp} {d : Addr} (hd : ∀ y v, DGet H d y (some v) → DGet H' d y (some v)) (ht : ∀ a xs, SqT K H a xs → SqT K H' a xs) {y : V} {p : List Nat} (h : Chain K H d y p) : Chain K H' d y p := by
  induction h with
  | root h => exact .root (hd _ _ h)
  | step h h2 _ ih => exact .step (hd _ _ h) (ht _ _ h2) ih
/-- a list changes: the dict tells the same -/
theorem dget_lst {H : Hp} {d l : Addr} {xs ys : List V} (hl : H l = some (.lst xs)) {y v : V} (h : DGet H d y (some v)) : DGet (upd H l (.lst ys)) d y (some v) := by
  have rd : ∀ {a : Addr} {u : HO}, (∀ zs, u ≠ .lst zs) → Rd H a u → Rd (upd H l (.lst ys)) a u := fun {a u} n h => by
    rcases h with h | ⟨o, h⟩
    · exact .inl (by rw [upd_ne (fun z => n xs (by rw [z, hl] at h; exact (Option.some.inj h).symm))]; exact h)
    · exact .inr ⟨o, by rw [upd_ne (fun z => by rw [z, hl] at h; cases h)]; exact h⟩
  rcases h with ⟨kvs, k, h1, h2, h3⟩ | ⟨kvs, k, b, h1, h2, h3, h4⟩
  · exact .inl ⟨kvs, k, rd (fun zs => nofun) h1, h2, h3⟩
  · exact .inr ⟨kvs, k, b, rd (fun zs => nofun) h1, h2, by rw [upd_ne (fun z => by rw [z, hl] at h3; cases h3)]; exact h3, h4⟩
/-! ### dicts with int keys -/
theorem dget_int {H : Hp} {d : Addr} {kvs : List (Key × V)} (hd : H d = some (.dK kvs)) {y : V} {r : Option V} (h : DGet H d y r) : ∃ k, y = kV k ∧ r = valV kvs k := by
  rcases h with ⟨kvs', k, h1, h2, h3⟩ | ⟨kvs', k, b, h1, _⟩
  · rcases h1 with h1 | ⟨o, h1⟩
    · rw [hd] at h1
      have e : kvs = kvs' := by injection Option.some.inj h1
      exact ⟨k, h2, e ▸ h3⟩
    · rw [hd] at h1; cases h1
  · rcases h1 with h1 | ⟨o, h1⟩ <;> (rw [hd] at h1; cases h1)
theorem dget_putK {H : Hp} {d : Addr} {kvs : List (Key × V)} (hd : H d = some (.dK kvs)) {k0 : Key} {w : V} (hn : valV kvs k0 = none) {y v : V} (h : DGet H d y (some v)) : DGet (upd H d (.dK (putK kvs k0 w))) d y (some v) := by
  obtain ⟨k, rfl, hk⟩ := dget_int hd h
  refine .inl ⟨_, k, .inl upd_same, rfl, ?_⟩
  rw [valV_put, if_neg (fun z => by rw [z, hn] at hk; cases hk)]
  exact hk
structure CameI (K : PySem.W.Frag) (H0 : Hp) (dc lo : Addr) (acc : Met Int) (H : Hp) : Prop where
  same : Same H0 H
  n1 : H0 dc = none
  n2 : H0 lo = none
  dict : ∃ kvs, H dc = some (.dK kvs) ∧ (∀ a, (valV kvs (.inl a)).isSome = true ↔ a ∈ acc.map Prod.fst) ∧ kvs.length ≤ acc.length
  list : H lo = some (.lst (acc.map fun e => V.int e.1))
  chain : ∀ e ∈ acc, Chain K H dc (.int e.1) e.2
theorem CameI.other {K : PySem.W.Frag} {H0 H : Hp} {dc lo : Addr} {acc : Met Int} (c : CameI K H0 dc lo acc H) {T : Addr} {o : HO} (hT : H T = none) : CameI K H0 dc lo acc (upd H T o) := by
  have s : Same H (upd H T o) := same_upd hT
  obtain ⟨kvs, h1, h2, h3⟩ := c.dict
  exact ⟨Same.trans c.same s, c.n1, c.n2, ⟨kvs, s _ _ h1, h2, h3⟩, s _ _ c.list, fun e he => (c.chain e he).mono s⟩
theorem CameI.add {K : PySem.W.Frag} {H0 H : Hp} {dc lo : Addr} {acc : Met Int} (c : CameI K H0 dc lo acc H) {kvs : List (Key × V)} (hd : H dc = some (.dK kvs)) {a : Int} {p : List Nat} (hm : (a, p) ∈ acc) {x : Nat} {T : Addr} (hT : SqT K H T [.int a, .int (x : Int)]) {y : Int} (hy : y ∉ acc.map Prod.fst) :
    CameI K H0 dc lo (acc ++ [(y, p ++ [x])]) (upd (upd H dc (.dK (putK kvs (.inl y) (.ref T)))) lo (.lst ((acc.map fun e => V.int e.1) ++ [.int y]))) := by
  obtain ⟨kvs', h1, h2, h3⟩ := c.dict
  have ek : kvs' = kvs := by
    rw [hd] at h1
    injection Option.some.inj h1 with e
    exact e.symm
  subst ek
  have hn : valV kvs' (.inl y) = none := by
    cases e : valV kvs' (.inl y) with
    | none => rfl
    | some v => exact absurd ((h2 y).mp (by rw [e]; rfl)) hy
  have hne : dc ≠ lo := ne_of hd c.list (fun z => nomatch z)
  have l1 : (upd H dc (.dK (putK kvs' (.inl y) (.ref T)))) lo = some (.lst (acc.map fun e => V.int e.1)) := by rw [upd_ne (Ne.symm hne)]; exact c.list
  have dg : ∀ y' v, DGet H dc y' (some v) → DGet (upd (upd H dc (.dK (putK kvs' (.inl y) (.ref T)))) lo (.lst ((acc.map fun e => V.int e.1) ++ [.int y]))) dc y' (some v) := fun y' v h => dget_lst l1 (dget_putK hd hn h)
  have st : ∀ a xs, SqT K H a xs → SqT K (upd (upd H dc (.dK (putK kvs' (.inl y) (.ref T)))) lo (.lst ((acc.map fun e => V.int e.1) ++ [.int y]))) a xs := fun a xs h => sqT_upd l1 (fun _ => nofun) (fun _ _ => nofun) (sqT_upd hd (fun _ => nofun) (fun _ _ => nofun) h)
  refine ⟨fun b o hb => ?_, c.n1, c.n2, ⟨putK kvs' (.inl y) (.ref T), by rw [upd_ne hne, upd_same], fun b => ?_, ?_⟩, ?_, fun e he => ?_⟩
  · rw [upd_ne (ne_of_none hb c.n2), upd_ne (ne_of_none hb c.n1)]
    exact c.same b o hb
  · rw [valV_put, List.map_append, List.mem_append]
    by_cases e : (Sum.inl b : Key) = Sum.inl y
    · rw [if_pos e]
      have e2 : b = y := Sum.inl.inj e
      exact ⟨fun _ => .inr (by rw [e2]; simp), fun _ => rfl⟩
    · rw [if_neg e, h2 b]
      have e2 : b ≠ y := fun z => e (by rw [z])
      exact ⟨.inl, fun h => h.elim id fun h => absurd (by simpa using h) e2⟩
  · have := length_putK kvs' (.inl y) (.ref T)
    rw [List.length_append]
    simp
    omega
  · rw [upd_same, List.map_append]
    rfl
  · rcases List.mem_append.mp he with he | he
    · exact (c.chain e he).grow dg st
    · obtain rfl := List.mem_singleton.mp he
      refine .step (y' := .int a) (t := T) ?_ (st _ _ hT) ((c.chain _ hm).grow dg st)
      refine dget_lst l1 (.inl ⟨_, .inl y, .inl upd_same, rfl, ?_⟩)
      rw [valV_put, if_pos rfl]
end Sg
namespace Sg
open PySem PySem.Spec PyProof.Rows L2
theorem CameI.start {K : PySem.W.Frag} {H H1 : Hp} {dc lo : Addr} {s : Int} (n1 : H dc = none) (e1 : H1 = upd (upd H dc (.dK [])) dc (.dK [(.inl s, .non)])) (n2 : H1 lo = none) : CameI K H dc lo [(s, [])] (upd H1 lo (.lst [.int s])) := by
  have hne : dc ≠ lo := fun z => by rw [← z, e1, upd_same] at n2; cases n2
  have l1 : H1 dc = some (.dK [(.inl s, .non)]) := by rw [e1, upd_same]
  have h0 : H lo = none := by rw [e1, upd_ne (Ne.symm hne), upd_ne (Ne.symm hne)] at n2; exact n2
  refine ⟨fun b o hb => ?_, n1, h0, ⟨_, by rw [upd_ne hne]; exact l1, fun a => ?_, Nat.le_refl _⟩, by rw [upd_same]; rfl, fun e he => ?_⟩
  · rw [upd_ne (ne_of_none hb h0), e1, upd_ne (ne_of_none hb n1), upd_ne (ne_of_none hb n1)]
    exact hb
  · by_cases c : s = a
    · subst c
      simp [valV]
    · simp [valV, c, Ne.symm c]
  · obtain rfl := List.mem_singleton.mp he
    exact .root (dget_mono (same_upd n2) (.inl ⟨_, .inl s, .inl l1, rfl, by simp [valV]⟩))
def stR (n : Nat) : List Int := (List.range n).map Int.ofNat
theorem mem_stR {rs : List LRow} {p : Int} : p ∈ stR rs.length ↔ InSt rs p := by
  unfold stR
  rw [List.mem_map]
  constructor
  · rintro ⟨x, hx, rfl⟩
    have := List.mem_range.mp hx
    exact ⟨Int.natCast_nonneg _, by show ((x : Nat) : Int) < _; omega⟩
  · rintro ⟨h1, h2⟩
    exact ⟨p.toNat, List.mem_range.mpr (by omega), by show ((p.toNat : Nat) : Int) = p; omega⟩
theorem stR_len (n : Nat) : (stR n).length = n := by simp [stR]
end Sg

namespace Sg
open PySem PySem.Spec PyProof.Rows L2
/-! ### dicts whose keys are pairs of ints -/
abbrev IP : Type := Int × Int
def kyP (a : IP) : List Key := [.inl a.1, .inl a.2]
theorem kyP_inj {a b : IP} (h : kyP a = kyP b) : a = b := by
  unfold kyP at h
  obtain ⟨h1, h2⟩ := List.cons.inj h
  exact Prod.ext (Sum.inl.inj h1) (Sum.inl.inj (List.cons.inj h2).1)
def tuP (a : IP) : HO := .tup [.int a.1, .int a.2]
theorem dget_tup {H : Hp} {d : Addr} {kvs : List (List Key × V)} (hd : H d = some (.dT kvs)) {y : V} {r : Option V} (h : DGet H d y r) : ∃ k b, y = .ref b ∧ H b = some (.tup (k.map kV)) ∧ r = valV kvs k := by
  rcases h with ⟨kvs', k, h1, _⟩ | ⟨kvs', k, b, h1, h2, h3, h4⟩
  · rcases h1 with h1 | ⟨o, h1⟩ <;> (rw [hd] at h1; cases h1)
  · rcases h1 with h1 | ⟨o, h1⟩
    · rw [hd] at h1
      have e : kvs = kvs' := by injection Option.some.inj h1
      exact ⟨k, b, h2, h3, e ▸ h4⟩
    · rw [hd] at h1; cases h1
theorem dget_putT {H : Hp} {d : Addr} {kvs : List (List Key × V)} (hd : H d = some (.dT kvs)) {k0 : List Key} {w : V} (hn : valV kvs k0 = none) {y v : V} (h : DGet H d y (some v)) : DGet (upd H d (.dT (putK kvs k0 w))) d y (some v) := by
  obtain ⟨k, b, rfl, hb, hk⟩ := dget_tup hd h
  refine .inr ⟨_, k, b, .inl upd_same, rfl, by rw [upd_ne (fun z => by rw [z, hd] at hb; cases hb)]; exact hb, ?_⟩
  rw [valV_put, if_neg (fun z => by rw [z, hn] at hk; cases hk)]
  exact hk
structure CameT (K : PySem.W.Frag) (H0 : Hp) (dc lo : Addr) (acc : Met IP) (H : Hp) (os : List Addr) : Prop where
  same : Same H0 H
  n1 : H0 dc = none
  n2 : H0 lo = none
  dict : ∃ kvs, H dc = some (.dT kvs) ∧ (∀ a, (valV kvs (kyP a)).isSome = true ↔ a ∈ acc.map Prod.fst) ∧ kvs.length ≤ acc.length
  list : H lo = some (.lst (os.map V.ref))
  chain : Paired (fun o e => H o = some (tuP e.1) ∧ Chain K H dc (.ref o) e.2) os acc
theorem CameT.other {K : PySem.W.Frag} {H0 H : Hp} {dc lo : Addr} {acc : Met IP} {os : List Addr} (c : CameT K H0 dc lo acc H os) {T : Addr} {o : HO} (hT : H T = none) : CameT K H0 dc lo acc (upd H T o) os := by
  have s : Same H (upd H T o) := same_upd hT
  obtain ⟨kvs, h1, h2, h3⟩ := c.dict
  exact ⟨Same.trans c.same s, c.n1, c.n2, ⟨kvs, s _ _ h1, h2, h3⟩, s _ _ c.list, pr_mono c.chain fun o e h => ⟨s _ _ h.1, h.2.mono s⟩⟩
theorem pr_snoc {α β : Type} {F : α → β → Prop} {l : List α} {m : List β} (h : Paired F l m) {a : α} {b : β} (r : F a b) : Paired F (l ++ [a]) (m ++ [b]) := by
  induction h with
  | nil => exact .cons r .nil
  | cons r' _ ih => exact .cons r' ih
theorem pr_len {α β : Type} {F : α → β → Prop} {l : List α} {m : List β} (h : Paired F l m) : l.length = m.length := by
  induction h with
  | nil => rfl
  | cons _ _ ih => rw [List.length_cons, List.length_cons, ih]
theorem CameT.add {K : PySem.W.Frag} {H0 H : Hp} {dc lo : Addr} {acc : Met IP} {os : List Addr} (c : CameT K H0 dc lo acc H os) {kvs : List (List Key × V)} (hd : H dc = some (.dT kvs)) {o : Addr} {p : List Nat} (hc : Chain K H dc (.ref o) p) {x : Nat} {T : Addr} (hT : SqT K H T [.ref o, .int (x : Int)]) {y : IP} {t : Addr} (ht : H t = some (tuP y)) (hy : y ∉ acc.map Prod.fst) :
    CameT K H0 dc lo (acc ++ [(y, p ++ [x])]) (upd (upd H dc (.dT (putK kvs (kyP y) (.ref T)))) lo (.lst (os.map V.ref ++ [.ref t]))) (os ++ [t]) := by
  obtain ⟨kvs', h1, h2, h3⟩ := c.dict
  have ek : kvs' = kvs := by
    rw [hd] at h1
    injection Option.some.inj h1 with e
    exact e.symm
  subst ek
  have hn : valV kvs' (kyP y) = none := by
    cases e : valV kvs' (kyP y) with
    | none => rfl
    | some v => exact absurd ((h2 y).mp (by rw [e]; rfl)) hy
  have hne : dc ≠ lo := ne_of hd c.list (fun z => nomatch z)
  have l1 : (upd H dc (.dT (putK kvs' (kyP y) (.ref T)))) lo = some (.lst (os.map V.ref)) := by rw [upd_ne (Ne.symm hne)]; exact c.list
  have dg : ∀ y' v, DGet H dc y' (some v) → DGet (upd (upd H dc (.dT (putK kvs' (kyP y) (.ref T)))) lo (.lst (os.map V.ref ++ [.ref t]))) dc y' (some v) := fun y' v h => dget_lst l1 (dget_putT hd hn h)
  have st : ∀ a xs, SqT K H a xs → SqT K (upd (upd H dc (.dT (putK kvs' (kyP y) (.ref T)))) lo (.lst (os.map V.ref ++ [.ref t]))) a xs := fun a xs h => sqT_upd l1 (fun _ => nofun) (fun _ _ => nofun) (sqT_upd hd (fun _ => nofun) (fun _ _ => nofun) h)
  have tu : ∀ a e, H a = some (tuP e) → (upd (upd H dc (.dT (putK kvs' (kyP y) (.ref T)))) lo (.lst (os.map V.ref ++ [.ref t]))) a = some (tuP e) := fun a e h => by
    rw [upd_ne (fun z => by rw [z, c.list] at h; cases h), upd_ne (fun z => by rw [z, hd] at h; cases h)]
    exact h
  refine ⟨fun b o hb => ?_, c.n1, c.n2, ⟨putK kvs' (kyP y) (.ref T), by rw [upd_ne hne, upd_same], fun b => ?_, ?_⟩, ?_, ?_⟩
  · rw [upd_ne (ne_of_none hb c.n2), upd_ne (ne_of_none hb c.n1)]
    exact c.same b o hb
  · rw [valV_put, List.map_append, List.mem_append]
    by_cases e : kyP b = kyP y
    · rw [if_pos e]
      have e2 : b = y := kyP_inj e
      exact ⟨fun _ => .inr (by rw [e2]; simp), fun _ => rfl⟩
    · rw [if_neg e, h2 b]
      have e2 : b ≠ y := fun z => e (by rw [z])
      exact ⟨.inl, fun h => h.elim id fun h => absurd (by simpa using h) e2⟩
  · have := length_putK kvs' (kyP y) (.ref T)
    rw [List.length_append]
    simp
    omega
  · rw [upd_same, List.map_append]
    rfl
  · refine pr_snoc (pr_mono c.chain fun o e h => ⟨tu _ _ h.1, h.2.grow dg st⟩) ⟨tu _ _ ht, ?_⟩
    refine .step (y' := .ref o) (t := T) ?_ (st _ _ hT) (hc.grow dg st)
    refine dget_lst l1 (.inr ⟨_, kyP y, t, .inl upd_same, rfl, ?_, ?_⟩)
    · rw [upd_ne (fun z => by rw [z, hd] at ht; cases ht)]
      exact ht
    · rw [valV_put, if_pos rfl]
theorem CameT.start {K : PySem.W.Frag} {H H1 H2 : Hp} {dc lo b t : Addr} {s : IP} (n1 : H dc = none) (eb : H1 b = some (tuP s)) (es : Same (upd H dc (.dT [])) H1) (e1 : H1 dc = some (.dT [])) (e2 : H2 = upd H1 dc (.dT [(kyP s, .non)])) (n2 : H2 t = none) (n3 : (upd H2 t (tuP s)) lo = none) :
    CameT K H dc lo [(s, [])] (upd (upd H2 t (tuP s)) lo (.lst [.ref t])) [t] := by
  have k1 : H2 dc = some (.dT [(kyP s, .non)]) := by rw [e2, upd_same]
  have k2 : (upd H2 t (tuP s)) dc = some (.dT [(kyP s, .non)]) := same_upd n2 _ _ k1
  have hne : dc ≠ lo := fun z => by rw [← z, k2] at n3; cases n3
  have hb : ∀ a o, H a = some o → a ≠ dc ∧ H1 a = some o := fun a o ha => ⟨ne_of_none ha n1, es _ _ (same_upd n1 _ _ ha)⟩
  have s3 : Same (upd H2 t (tuP s)) (upd (upd H2 t (tuP s)) lo (.lst [.ref t])) := same_upd n3
  have t1 : (upd H2 t (tuP s)) t = some (tuP s) := upd_same
  have sm : Same H (upd (upd H2 t (tuP s)) lo (.lst [.ref t])) := fun a o ha => s3 _ _ (same_upd n2 _ _ (by rw [e2, upd_ne (hb a o ha).1]; exact (hb a o ha).2))
  refine ⟨sm, n1, ?_, ⟨_, s3 _ _ k2, fun a => ?_, Nat.le_refl _⟩, upd_same, .cons ⟨s3 _ _ t1, .root (dget_mono s3 (.inr ⟨_, kyP s, t, .inl k2, rfl, t1, by simp [valV]⟩))⟩ .nil⟩
  · cases e : H lo with
    | none => rfl
    | some o =>
      have := same_upd (o := tuP s) n2 _ _ (show H2 lo = some o by rw [e2, upd_ne (hb lo o e).1]; exact (hb lo o e).2)
      rw [n3] at this
      cases this
  · by_cases c : s = a
    · subst c
      simp [valV]
    · have : kyP s ≠ kyP a := fun z => c (kyP_inj z)
      simp [valV, this, Ne.symm c]
end Sg
namespace Sg
open PySem PySem.Spec PyProof.Rows L2
theorem CameT.grow {K : PySem.W.Frag} {H0 H : Hp} {dc lo : Addr} {acc : Met IP} {os : List Addr} (c : CameT K H0 dc lo acc H os) {kvs : List (List Key × V)} (hd : H dc = some (.dT kvs)) {y : IP} (hy : y ∉ acc.map Prod.fst) {v0 : V} {l : List V} :
    (∀ y' p, Chain K H dc y' p → Chain K (upd (upd H dc (.dT (putK kvs (kyP y) v0))) lo (.lst l)) dc y' p) ∧ ∀ a e, H a = some (tuP e) → (upd (upd H dc (.dT (putK kvs (kyP y) v0))) lo (.lst l)) a = some (tuP e) := by
  obtain ⟨kvs', h1, h2, h3⟩ := c.dict
  have ek : kvs' = kvs := by
    rw [hd] at h1
    injection Option.some.inj h1 with e
    exact e.symm
  subst ek
  have hn : valV kvs' (kyP y) = none := by
    cases e : valV kvs' (kyP y) with
    | none => rfl
    | some v => exact absurd ((h2 y).mp (by rw [e]; rfl)) hy
  have hne : dc ≠ lo := ne_of hd c.list (fun z => nomatch z)
  have l1 : (upd H dc (.dT (putK kvs' (kyP y) v0))) lo = some (.lst (os.map V.ref)) := by rw [upd_ne (Ne.symm hne)]; exact c.list
  refine ⟨fun y' p h => h.grow (fun y' v h => dget_lst l1 (dget_putT hd hn h)) fun a xs h => sqT_upd l1 (fun _ => nofun) (fun _ _ => nofun) (sqT_upd hd (fun _ => nofun) (fun _ _ => nofun) h), fun a e h => ?_⟩
  rw [upd_ne (fun z => by rw [z, c.list] at h; cases h), upd_ne (fun z => by rw [z, hd] at h; cases h)]
  exact h
end Sg

namespace Sg
open PySem PySem.Spec PyProof.Rows L2
/-! ### a tuple with one thing put in at a place -/
section
variable {K : PySem.W.Frag} {H : Hp} {Q : VK} {a b : Addr} {xs ys : List V}
theorem sl_take {i : Nat} (h : SqT K H a xs) (hi : i ≤ xs.length) (q : ∀ c H', Same H H' → SqT K H' c (xs.take i) → Q (.ref c) H') : rSlA K (.ref a) none (some (i : Int)) H Q := by
  have e : HT.sIx xs.length xs.length (some (i : Int)) = i := by rw [HT.sIx_nat]; omega
  refine ⟨a, xs, rfl, h, fun w => q a H (Same.refl H) ?_, fun _ p hp => q p _ (same_upd hp) (.inl (.inl ?_))⟩
  · have e2 := w.2
    rw [e] at e2
    rw [e2, List.take_length]
    exact h
  · rw [upd_same]
    unfold cutV
    rw [e, HT.sIx_none]
    rfl
theorem sl_drop {i : Nat} (h : SqT K H a xs) (hi : i ≤ xs.length) (q : ∀ c H', Same H H' → SqT K H' c (xs.drop i) → Q (.ref c) H') : rSlA K (.ref a) (some (i : Int)) none H Q := by
  have e : HT.sIx xs.length 0 (some (i : Int)) = i := by rw [HT.sIx_nat]; omega
  refine ⟨a, xs, rfl, h, fun w => q a H (Same.refl H) ?_, fun _ p hp => q p _ (same_upd hp) (.inl (.inl ?_))⟩
  · have e2 := w.1
    rw [e] at e2
    rw [e2]
    exact h
  · rw [upd_same]
    unfold cutV
    rw [e, HT.sIx_none, List.take_of_length_le (by rw [List.length_drop]; exact Nat.le_refl _)]
theorem cat_use (h1 : SqT K H a xs) (h2 : SqT K H b ys) (hl : xs.length + ys.length ≤ 1000000) (q : ∀ c H', Same H H' → SqT K H' c (xs ++ ys) → Q (.ref c) H') : rCatA K (.ref a) (.ref b) H Q :=
  ⟨a, b, xs, ys, rfl, rfl, h1, h2, szle hl, fun e => q b H (Same.refl H) (by rw [e]; exact h2), fun _ e => q a H (Same.refl H) (by rw [e, List.append_nil]; exact h1), fun _ _ p hp => q p _ (same_upd hp) (.inl (.inl upd_same))⟩
end
def putAt {α : Type} (l : List α) (i : Nat) (a : α) : List α := l.take i ++ [a] ++ l.drop (i + 1)
theorem putAt_len {α : Type} {l : List α} {i : Nat} (a : α) (h : i < l.length) : (putAt l i a).length = l.length := by
  unfold putAt
  rw [List.length_append, List.length_append, List.length_take, List.length_drop, List.length_singleton]
  omega
theorem putAt_mem {α : Type} {l : List α} {i : Nat} {a b : α} (h : b ∈ putAt l i a) : b ∈ l ∨ b = a := by
  unfold putAt at h
  rcases List.mem_append.mp h with h | h
  · rcases List.mem_append.mp h with h | h
    · exact .inl (List.mem_of_mem_take h)
    · exact .inr (List.mem_singleton.mp h)
  · exact .inl (List.mem_of_mem_drop h)
theorem putAt_map {α β : Type} (f : α → β) (l : List α) (i : Nat) (a : α) : putAt (l.map f) i (f a) = (putAt l i a).map f := by
  unfold putAt
  rw [List.map_append, List.map_append, List.map_take, List.map_drop]
  rfl
theorem pr_take {α β : Type} {F : α → β → Prop} {l : List α} {m : List β} (h : Paired F l m) : ∀ i, Paired F (l.take i) (m.take i) := by
  induction h with
  | nil => intro i; simp; exact .nil
  | cons r _ ih =>
    intro i
    cases i with
    | zero => exact .nil
    | succ i => exact .cons r (ih i)
theorem pr_drop {α β : Type} {F : α → β → Prop} {l : List α} {m : List β} (h : Paired F l m) : ∀ i, Paired F (l.drop i) (m.drop i) := by
  induction h with
  | nil => intro i; simp; exact .nil
  | cons r t ih =>
    intro i
    cases i with
    | zero => exact .cons r t
    | succ i => exact ih i
theorem pr_append {α β : Type} {F : α → β → Prop} {l l' : List α} {m m' : List β} (h : Paired F l m) (h' : Paired F l' m') : Paired F (l ++ l') (m ++ m') := by
  induction h with
  | nil => exact h'
  | cons r _ ih => exact .cons r ih
theorem pr_putAt {α β : Type} {F : α → β → Prop} {l : List α} {m : List β} (h : Paired F l m) {a : α} {b : β} (r : F a b) (i : Nat) : Paired F (putAt l i a) (putAt m i b) :=
  pr_append (pr_append (pr_take h i) (.cons r .nil)) (pr_drop h (i + 1))
theorem RowsOk.putAt {n : Nat} {rs : List LRow} (ok : RowsOk n rs) {i : Nat} (hi : i < rs.length) {r : LRow} (h1 : r.1 = 0 ∨ r.1 = 1) (h2 : r.2.length = n) (h3 : ∀ q ∈ r.2, 0 ≤ q ∧ q < (rs.length : Int)) : RowsOk n (Sg.putAt rs i r) := by
  have e := putAt_len r hi
  refine ⟨by rw [e]; exact ok.pos, by rw [e]; exact ok.top, fun x hx => ?_, fun x hx => ?_, fun x hx => ?_⟩
  · rcases putAt_mem hx with hx | rfl
    · exact ok.bit x hx
    · exact h1
  · rcases putAt_mem hx with hx | rfl
    · exact ok.wid x hx
    · exact h2
  · rw [e]
    rcases putAt_mem hx with hx | rfl
    · exact ok.to x hx
    · exact h3
end Sg
namespace Sg
open PySem PySem.Spec PyProof.Rows L2
theorem rest_use {K : PySem.W.Frag} {H : Hp} {Q : VK} {σ : L2.St} {j k i : Nat} {b c : Addr} {xs : List V} {v : V} (hj : σ[j]? = some (some (.ref b))) (hk : σ[k]? = some (some (.int (i : Int)))) (hb : SqT K H b xs) (hi : i < xs.length) (hl : xs.length ≤ 1000) (hc : SqT K H c (xs.take i)) (hp : ∀ p, H p = none → ∀ c' H', Same H H' → SqT K H' c' (putAt xs i v) → Q (.ref c') H') :
    1 ≤ sizeLine ∧ ∀ p, H p = none → rCatA K (.ref c) (.ref p) (upd H p (.tup [v])) fun x2 H1 => tSl (rSlA K) (tVar j) (tPart (tOp (rI0 fun i j => V.int (i + j)) (tVar k) (tC (V.int 1)))) tNoPart σ H1 fun y H2 => rCatA K x2 y H2 Q := by
  refine ⟨szle (m := 1) (Nat.le_refl _), fun p hp0 => ?_⟩
  have s1 : Same H (upd H p (.tup [v])) := same_upd hp0
  have lt : (xs.take i).length = i := by rw [List.length_take]; omega
  refine cat_use (Same.sqT s1 hc) (.inl (.inl upd_same)) (by rw [lt]; show i + 1 ≤ _; omega) fun c2 H2 s2 h2 => ?_
  refine ⟨_, hj, _, hk, _, _, rfl, rfl, _, rfl, ?_⟩
  have e1 : ((i : Nat) : Int) + 1 = ((i + 1 : Nat) : Int) := by omega
  show rSlA K (.ref b) (some (((i : Nat) : Int) + 1)) none H2 (fun y H2 => rCatA K (.ref c2) y H2 Q)
  rw [e1]
  refine sl_drop (Same.sqT s2 (Same.sqT s1 hb)) (by omega) fun c3 H3 s3 h3 => ?_
  refine cat_use (Same.sqT s3 h2) h3 ?_ fun c4 H4 s4 h4 => hp p hp0 c4 H4 (Same.trans s1 (Same.trans s2 (Same.trans s3 s4))) h4
  rw [List.length_append, lt, List.length_drop]
  show i + 1 + _ ≤ _
  omega
theorem take_use {K : PySem.W.Frag} {H : Hp} {Q : VK} {σ : L2.St} {j k i : Nat} {b : Addr} {xs : List V} (hj : σ[j]? = some (some (.ref b))) (hk : σ[k]? = some (some (.int (i : Int)))) (hb : SqT K H b xs) (hi : i < xs.length) (q : ∀ c H', Same H H' → SqT K H' c (xs.take i) → Q (.ref c) H') :
    tSl (rSlA K) (tVar j) tNoPart (tPart (tVar k)) σ H Q := by
  refine ⟨_, hj, _, hk, _, rfl, ?_⟩
  exact sl_take hb (by omega) q
theorem splice {K : PySem.W.Frag} {H : Hp} {Q : VK} {σ : L2.St} {j k i : Nat} {b : Addr} {xs : List V} {v : V} (hj : σ[j]? = some (some (.ref b))) (hk : σ[k]? = some (some (.int (i : Int)))) (hb : SqT K H b xs) (hi : i < xs.length) (hl : xs.length ≤ 1000) (q : ∀ c' H', Same H H' → SqT K H' c' (putAt xs i v) → Q (.ref c') H') :
    tSl (rSlA K) (tVar j) tNoPart (tPart (tVar k)) σ H fun x1 H1 => 1 ≤ sizeLine ∧ ∀ p, H1 p = none → rCatA K x1 (.ref p) (upd H1 p (.tup [v])) fun x2 H1 => tSl (rSlA K) (tVar j) (tPart (tOp (rI0 fun i j => V.int (i + j)) (tVar k) (tC (V.int 1)))) tNoPart σ H1 fun y H2 => rCatA K x2 y H2 Q :=
  take_use hj hk hb hi fun _ _ s1 h1 => rest_use hj hk (Same.sqT s1 hb) hi hl h1 fun _ _ c' H' s' h' => q c' H' (Same.trans s1 s') h'
end Sg
namespace Sg
open PySem PySem.Spec PyProof.Rows L2
/-- one statement, then the rest: what holds between -/
theorem seq_with {ta tb : TS} {D : Ends} {σ : L2.St} {H : Hp} (M : L2.St → Hp → Prop) (h : ∀ N : L2.St → Hp → Prop, (∀ σ' H', M σ' H' → N σ' H') → ta { D with nx := N } σ H) (tail : ∀ σ' H', M σ' H' → tb D σ' H') : tSeq ta tb D σ H := h _ tail
end Sg

/-! dicts whose keys are (int, tuple of ints) and whose values are ints; len(set(ints)) -/
namespace Sg
open PySem PySem.Spec PyProof.Rows L2
/-! ### len(set(list of ints)) -/
theorem step_add (acc : List Int) (v : Int) : step_dedup acc v = addOne acc v := by
  unfold step_dedup addOne
  by_cases h : v ∈ acc
  · rw [if_pos h]
    simp [h]
  · rw [if_neg h]
    simp [h]
theorem met_once (ns : List Int) : firstMet (fun i => ns.getD i 0) ns.length = once ns := by
  unfold firstMet once
  have e1 : (List.range ns.length).map (fun i => ns.getD i 0) = ns := by
    apply List.ext_getElem?
    intro i
    rw [List.getElem?_map]
    by_cases h : i < ns.length
    · rw [List.getElem?_range h, List.getElem?_eq_getElem h, Option.map_some, List.getD_eq_getElem?_getD, List.getElem?_eq_getElem h]
      rfl
    · rw [List.getElem?_eq_none (by simpa using h), List.getElem?_eq_none (by omega)]
      rfl
  rw [e1]
  have e2 : (step_dedup : List Int → Int → List Int) = addOne := funext fun a => funext fun v => step_add a v
  rw [e2]
def tLenSetN (K : PySem.W.Frag) (ta : TE) : TE := fun σ H Q => ta σ H fun x H1 => match x with
  | .ref l => ∃ ns : List Int, SqL K H1 l (ns.map V.int) ∧ ns.length ≤ 1000 ∧ Q (.int ((once ns).length : Nat)) H1
  | _ => False
theorem pe_lenSetN {X : Cx} {a : Expr} {ta : TE} {p p2 q pos : Pos} (hc : X.calm = true) (hg : Gl X "len") (hm : X.mg "len" = none) (hg2 : Gl X "set") (hm2 : X.mg "set" = none) (ha : PE X a ta)
    (na : starEach [a] X.env = (false, eval a X.env) :: starEach [] X.env := by rfl) : PE X (.Call (.Name "len" p) [.Call (.Name "set" p2) [a] [] q] [] pos) (tLenSetN X.K ta) := by
  refine ⟨fun pins s σ H Q I h => ?_⟩
  refine Call_ (ld_blt I hg hm PySem.boot_len ?_)
  refine PyProof.Rows.callWith_builtin1 (PyProof.Rows.args_cons ?_ rfl) rfl rfl
  refine Call_ (ld_blt I hg2 hm2 PyProof.Rows.boot_set ?_)
  refine PyProof.Rows.callWith_type1 (PyProof.Rows.args_cons (thn (ha.run pins s σ H _ I h) fun v s1 ⟨x, H1, I1, r1, q1⟩ => PyProof.Rows.args_nil ?_) na) na rfl
  match x, q1 with
  | .ref l, ⟨ns, hq, hn1, q2⟩ =>
    cases (show v = Value.ref l from r1)
    obtain ⟨its, r, pl, hz⟩ := I1.list hq
    have hl : its.toArray.size = ns.length := by rw [List.size_toArray, ← r.length, List.length_map]
    refine call_set_list (I1.ok.hd hc) pl.isList (ns := ns) (by simpa using r.ints) (by unfold scanBound; omega) fun h' tk hS hk => PyProof.Rows.args_nil ?_
    rw [hl, met_once] at hS
    obtain ⟨o, es, ep, t, ho, hex, hd, _, _, _, hf, hn⟩ := hS
    have I2 : Inv X pins σ H1 { s1 with heap := h', toks := tk } := I1.kept fun b o e => hk b o (Heap.lt_size e) e
    have hlen : (once ns).length ≤ 1000 := Nat.le_trans (once_len ns) hn1
    exact call_len_set ho hex hd hf (by rw [hn] <;> omega) ⟨.int ((once ns).length : Nat), H1, I2.tok _, ⟨_, by rw [hn]⟩, q2⟩
/-! ### nested keys -/
abbrev NK : Type := Int × List Int
def nk (k : NK) : NestedKey := .tup [.num k.1, .tup (k.2.map .num)]
theorem nums_inj : ∀ {l m : List Int}, l.map NestedKey.num = m.map NestedKey.num → l = m
  | [], [], _ => rfl
  | [], b :: m, h => by cases h
  | a :: l, [], h => by cases h
  | a :: l, b :: m, h => by
    obtain ⟨h1, h2⟩ := List.cons.inj h
    rw [NestedKey.num.inj h1, nums_inj h2]
theorem nk_inj {a b : NK} (h : nk a = nk b) : a = b := by
  have h1 := NestedKey.tup.inj h
  obtain ⟨h2, h3⟩ := List.cons.inj h1
  have h4 := NestedKey.tup.inj (List.cons.inj h3).1
  exact Prod.ext (NestedKey.num.inj h2) (nums_inj h4)
abbrev NE : Type := NK × Addr × Int
def nEnt (p : NE) (x : NestedKey × Addr × Value) : Prop := nk p.1 = x.1 ∧ p.2.1 = x.2.1 ∧ ∃ t, x.2.2 = .int p.2.2 t
/-- the dict's own object -/
def NestD (P : Program) (w : World) (h : Heap) (d : Addr) (kvs : List NE) : Prop :=
  (d == sysModules) = false ∧ ∃ xs, Paired nEnt kvs xs ∧ ∃ o es ep, h.get? d = some o ∧ o.ExactDict ∧ o.data = .dict es ep ∧ es.toList = xs.map (entryOfKey (nestedKind P w)) ∧ (xs.map (·.1)).Nodup
def dN (P : Program) (w : World) (d : Addr) (kvs : List NE) : HO := .ext fun h => NestD P w h d kvs
def KeyN (H : Hp) (b : Addr) (k : NK) : Prop := ∃ c, H b = some (.tup [.int k.1, .ref c]) ∧ H c = some (.tup (k.2.map V.int))
def EntN (H : Hp) (kvs : List NE) : Prop := ∀ e ∈ kvs, KeyN H e.2.1 e.1
def valN (kvs : List NE) (k : NK) : Option Int := (kvs.find? fun e => decide (e.1 = k)).map (·.2.2)
theorem KeyN.mono {H H' : Hp} (s : ∀ b xs, H b = some (.tup xs) → H' b = some (.tup xs)) {b : Addr} {k : NK} (h : KeyN H b k) : KeyN H' b k := by
  obtain ⟨c, h1, h2⟩ := h
  exact ⟨c, s _ _ h1, s _ _ h2⟩
theorem EntN.mono {H H' : Hp} (s : ∀ b xs, H b = some (.tup xs) → H' b = some (.tup xs)) {kvs : List NE} (h : EntN H kvs) : EntN H' kvs := fun e he => (h e he).mono s
theorem dN_new {P : Program} {w : World} {H : Hp} {h : Heap} {d : Addr} {kvs : List NE} (x : NestD P w h d kvs) : ObjOk P w H h d (dN P w d kvs) := by
  obtain ⟨hd, xs, pr, o, es, ep, ho, r⟩ := id x
  refine ⟨x, ⟨o, ho⟩, fun h1 h2 p k => ?_⟩
  obtain ⟨hd, xs, pr, o, es, ep, ho, r⟩ := p
  exact ⟨hd, xs, pr, o, es, ep, k o ho, r⟩
theorem nums_all {h : Heap} : ∀ {l : List Int} {vs : List Value}, Vals (l.map V.int) vs → NestedAll h (l.map .num) vs
  | [], _, r => by cases r; exact .nil
  | i :: l, _, r => by
    cases r with
    | cons r1 r2 =>
      obtain ⟨t, rfl⟩ := (show ∃ t, _ = Value.int i t from r1)
      exact .cons (.int i t) (nums_all r2)
theorem depth_nums : ∀ l : List Int, NestedKey.depthAll (l.map .num) = 0
  | [] => rfl
  | i :: l => by
    show max (NestedKey.depth (.num i)) (NestedKey.depthAll (l.map .num)) = 0
    rw [depth_nums l]
    rfl
theorem nkey_of {P : Program} {w : World} {H : Hp} {h : Heap} {b : Addr} {k : NK} (ok : HOk P w H h) (x : KeyN H b k) : (nestedKind P w).is h (nk k) b := by
  obtain ⟨c, h1, h2⟩ := x
  obtain ⟨_, its, r, o, g1, g2, n, g3⟩ := (show ObjOk P w H h b (.tup _) from ok b _ h1)
  obtain ⟨_, its2, r2, o2, g4, g5, n2, g6⟩ := (show ObjOk P w H h c (.tup _) from ok c _ h2)
  refine ⟨.tup g1 g2 g3 ?_, ?_⟩
  · cases r with
    | cons r1 t1 =>
      cases t1 with
      | cons r3 t3 =>
        cases t3
        obtain ⟨t, rfl⟩ := (show ∃ t, _ = Value.int k.1 t from r1)
        cases (show _ = Value.ref c from r3)
        exact .cons (.int k.1 t) (.cons (.tup g4 g5 g6 (nums_all (by simpa using r2))) .nil)
  · show NestedKey.depth (.tup [.num k.1, .tup (k.2.map .num)]) ≤ 8
    show max 0 (max (NestedKey.depthAll (k.2.map .num) + 1) 0) + 1 ≤ 8
    rw [depth_nums]
    decide
section
variable {P : Program} {w : World} {H : Hp} {h : Heap} {d : Addr} {kvs : List NE}
theorem dN_get (ok : HOk P w H h) (e : H d = some (dN P w d kvs)) : NestD P w h d kvs := (show ObjOk P w H h d (.ext _) from ok d _ e).1
theorem dN_of (ok : HOk P w H h) (e : H d = some (dN P w d kvs)) (en : EntN H kvs) : (d == sysModules) = false ∧ ∃ xs, Paired nEnt kvs xs ∧ h.DictOfH (nestedKind P w) d xs := by
  obtain ⟨hd, xs, pr, o, es, ep, ho, h2, h3, h4, h5⟩ := dN_get ok e
  refine ⟨hd, xs, pr, o, es, ep, ho, h2, h3, h4, fun x hx => ?_, h5⟩
  obtain ⟨i, hi⟩ := List.mem_iff_getElem?.mp hx
  obtain ⟨p, hp, e1, e2, _⟩ := pr_get' pr hi
  have := nkey_of ok (en p (List.mem_of_getElem? hp))
  rw [e1, e2] at this
  exact this
theorem ent_val {kvs : List NE} {xs : List (NestedKey × Addr × Value)} (pr : Paired nEnt kvs xs) (k : NK) : (∀ i, valN kvs k = some i → ∃ a t, atKey xs (nk k) = some (a, .int i t)) ∧ (valN kvs k = none → atKey xs (nk k) = none) := by
  induction pr with
  | nil =>
    refine ⟨fun i h => ?_, fun _ => rfl⟩
    cases h
  | @cons p x ps qs hq t ih =>
    obtain ⟨e1, e2, t', e3⟩ := hq
    by_cases c : p.1 = k
    · have c2 : x.1 = nk k := by rw [← e1, c]
      have v1 : valN (p :: ps) k = some p.2.2 := by simp [valN, c]
      have v2 : atKey (x :: qs) (nk k) = some x.2 := by simp [atKey, c2]
      refine ⟨fun i h => ?_, fun h => by rw [v1] at h; cases h⟩
      rw [v1] at h
      obtain rfl := Option.some.inj h
      exact ⟨x.2.1, t', by rw [v2, ← e3]⟩
    · have c2 : ¬ x.1 = nk k := fun z => c (nk_inj (e1.trans z))
      have v1 : valN (p :: ps) k = valN ps k := by simp [valN, c]
      have v2 : atKey (x :: qs) (nk k) = atKey qs (nk k) := by simp [atKey, c2]
      rw [v1, v2]
      exact ih
theorem nest_empty (hp : Heap) (hb : sysModules < hp.objs.size) : NestD P w (hp.push { cls := .type "dict", data := .dict #[] }) hp.objs.size [] :=
  ⟨beq_eq_false_iff_ne.mpr (Ne.symm (Nat.ne_of_lt hb)), [], .nil, _, #[], 0, Heap.get?_push_size _ rfl, ⟨rfl, rfl, rfl⟩, rfl, rfl, List.nodup_nil⟩
end
/-! ### readings and rules -/
def tNNew (P : Program) (w : World) : TE := fun _ H Q => ∀ p, H p = none → Q (.ref p) (upd H p (dN P w p []))
def tNNotIn (P : Program) (w : World) (ty td : TE) : TE := fun σ H Q => ty σ H fun y H1 => td σ H1 fun x H2 => ∃ a b kvs k, x = .ref a ∧ y = .ref b ∧ H2 a = some (dN P w a kvs) ∧ EntN H2 kvs ∧ KeyN H2 b k ∧ Q (.bl (!(valN kvs k).isSome)) H2
def tNGet (P : Program) (w : World) (td ty : TE) : TE := fun σ H Q => td σ H fun x H1 => ty σ H1 fun y H2 => ∃ a b kvs k i, x = .ref a ∧ y = .ref b ∧ H2 a = some (dN P w a kvs) ∧ EntN H2 kvs ∧ KeyN H2 b k ∧ valN kvs k = some i ∧ Q (.int i) H2
def sNPut (P : Program) (w : World) (td ty tv : TE) : TS := fun D σ H => tv σ H fun v H1 => td σ H1 fun x H2 => ty σ H2 fun y H3 => ∃ a b kvs k i, x = .ref a ∧ y = .ref b ∧ v = .int i ∧ H3 a = some (dN P w a kvs) ∧ EntN H3 kvs ∧ KeyN H3 b k ∧ valN kvs k = none ∧ kvs.length < 100000 ∧
  D.nx σ (upd H3 a (dN P w a (kvs ++ [(k, b, i)])))
def rLenN (P : Program) (w : World) : List V → Hp → VK → Prop := fun xs H Q => match xs with
  | [.ref a] => ∃ kvs, H a = some (dN P w a kvs) ∧ EntN H kvs ∧ kvs.length < 100000 ∧ Q (.int kvs.length) H
  | _ => False
section
variable {X : Cx} {o i value : Expr} {pos pos' : Pos} {td ty tv : TE}
theorem nroom (hu : X.A.units + 64 < cLine) : (nestedKind X.prog X.w).room X.A.in1 := by show X.A.units + 1 + 8 < cLine; omega
theorem pe_nnew : PE X (.Dict [] [] pos) (tNNew X.prog X.w) := ⟨fun pins s σ H Q I h =>
  wpAny_Dict_empty ⟨.ref s.heap.objs.size, _, I.laid (a := s.heap.objs.size) (o := dN X.prog X.w s.heap.objs.size []) (t' := s.toks) (fun _ _ q => Heap.get?_push_of_some _ q) (Nat.le_refl _) (dN_new (nest_empty s.heap I.big)), rfl, h _ (I.hok.fresh (Nat.le_refl _))⟩⟩
theorem pc_nnotin (hu : X.A.units + 64 < cLine) (hi : PE X i ty) (ho : PE X o td) : PC X .NotIn i o (tNNotIn X.prog X.w ty td) := by
  refine ⟨fun pins s σ H Q I h => ?_⟩
  refine thn (hi.run pins s σ H _ I h) fun iv s1 ⟨y, H1, I1, ry, q1⟩ => thn (ho.run pins s1 σ H1 _ I1 q1) fun u s2 ⟨x, H2, I2, rx, a, b, kvs, k, ex, ey, e, en, kk, q2⟩ => ?_
  subst ex ey
  cases (show u = Value.ref a from rx)
  cases (show iv = Value.ref b from ry)
  obtain ⟨hd, xs, pr, dd⟩ := dN_of I2.hok e en
  refine wpAny_notIn_heap (nroom hu) (nkey_of I2.hok kk) hd dd ⟨.bl (!(valN kvs k).isSome), H2, I2.tok _, ?_, q2⟩
  obtain ⟨g1, g2⟩ := ent_val pr k
  cases hv : valN kvs k with
  | none => rw [g2 hv]; rfl
  | some j =>
    obtain ⟨c, t, hat⟩ := g1 j hv
    rw [hat]
    rfl
theorem pe_nget (hu : X.A.units + 64 < cLine) (ho : PE X o td) (hi : PE X i ty) (hs : NoSl i) : PE X (.Subscript o i pos) (tNGet X.prog X.w td ty) := by
  refine ⟨fun pins s σ H Q I h => ?_⟩
  refine subD_of PySem.F.slot_dict_getitem.lookup hs (thn (ho.run pins s σ H _ I h) fun u s1 ⟨x, H1, I1, rx, q1⟩ => thn (hi.run pins s1 σ H1 _ I1 q1) fun iv s2 ⟨y, H2, I2, ry, a, b, kvs, k, j, ex, ey, e, en, kk, hv, q2⟩ => ?_)
  subst ex ey
  cases (show u = Value.ref a from rx)
  cases (show iv = Value.ref b from ry)
  obtain ⟨hd, xs, pr, dd⟩ := dN_of I2.hok e en
  obtain ⟨c, t, hat⟩ := (ent_val pr k).1 j hv
  exact ⟨dd.typeIs, wpAny_getItem_heap (nroom hu) (nkey_of I2.hok kk) dd hat ⟨.int j, H2, I2.tok _, ⟨t, rfl⟩, q2⟩⟩
theorem ps_nput (hu : X.A.units + 64 < cLine) (ho : PE X o td) (hi : PE X i ty) (hv : PE X value tv) (hs : swapsWith value (some (.Subscript o i pos')) pos.line X.env = pure false) :
    PS X (.Assign [.Subscript o i pos'] value pos) (sNPut X.prog X.w td ty tv) := by
  refine ⟨fun pins s σ H D I h => ?_⟩
  refine wpAny_Assign_Subscript (thn (hv.run pins s σ H _ I h) fun r s1 ⟨v, H1, I1, rv, q1⟩ => thn (ho.run pins s1 σ H1 _ I1 q1) fun u s2 ⟨x, H2, I2, rx, q2⟩ => thn (hi.run pins s2 σ H2 _ I2 q2) fun iv s3 ⟨y, H3, I3, ry, a, b, kvs, k, j, ex, ey, ev, e, en, kk, hno, hl, q3⟩ => ?_) hs
  subst ex ey ev
  cases (show u = Value.ref a from rx)
  cases (show iv = Value.ref b from ry)
  obtain ⟨t, rfl⟩ := (show ∃ t, r = Value.int j t from rv)
  obtain ⟨hd, xs, pr, dd⟩ := dN_of I3.hok e en
  have hz : xs.length ≤ sizeLine := by rw [← pr_len pr]; exact szle (m := 100000) (by omega)
  refine wpAny_setItem_heap (hsz := hz) (nroom hu) (nkey_of I3.hok kk) dd fun h' dd' hsb => ?_
  rw [storedH_new ((ent_val pr k).2 hno)] at dd'
  obtain ⟨ob, es, ep, hq, h2, h3, h4, _, h5⟩ := dd'
  exact ⟨σ, _, d_write I3 (by rw [e]; exact True.intro) hsb ⟨ob, hq⟩ (dN_new ⟨hd, _, pr_snoc pr ⟨rfl, rfl, t, rfl⟩, ob, es, ep, hq, h2, h3, h4, h5⟩), q3⟩
theorem call_lenN : CallR X (.builtin "len") (rLenN X.prog X.w) := by
  intro pins s σ H xs us Q I r h
  match xs, h with
  | [.ref a], ⟨kvs, e, en, hl, q⟩ =>
    obtain ⟨u, rfl, rx⟩ := vals1 r
    cases (show u = Value.ref a from rx)
    obtain ⟨hd, ys, pr, dd⟩ := dN_of I.hok e en
    have hl2 : kvs.length = ys.length := pr_len pr
    refine call_len_dictH hd dd (by omega) ?_
    rw [← hl2]
    exact ⟨.int ((kvs.length : Nat) : Int), H, I.tok _, ⟨_, rfl⟩, q⟩
end
end Sg

namespace Sg
open PySem PySem.Spec PyProof.Rows L2
/-! lookers by what they take; the least looker, in plain Lean -/
def Lang : Type := List Nat → Int
noncomputable instance : DecidableEq Lang := fun a b => Classical.propDecidable (a = b)
def lang (rs : List LRow) (p : Int) : Lang := fun w => endAt rs (w.foldl (fun p x => nxt rs p x) p)
def der (L : Lang) (x : Nat) : Lang := fun w => L (x :: w)
theorem der_lang (rs : List LRow) (p : Int) (x : Nat) : lang rs (nxt rs p x) = der (lang rs p) x := rfl
theorem nxt_far {n : Nat} {rs : List LRow} (ok : RowsOk n rs) {p : Int} (h : InSt rs p) {x : Nat} (hx : ¬ x < n) : nxt rs p x = 0 := by
  unfold nxt
  have := ok.wid _ (rowOf_mem h)
  rw [List.getD_eq_getElem?_getD, List.getElem?_eq_none (by omega)]
  rfl
theorem once_nodup {κ : Type} [DecidableEq κ] (l : List κ) : (once l).Nodup := by
  have key : ∀ (r acc : List κ), acc.Nodup → (r.foldl addOne acc).Nodup := by
    intro r
    induction r with
    | nil => intro acc h; exact h
    | cons a r ih =>
      intro acc h
      refine ih _ ?_
      unfold addOne
      by_cases c : a ∈ acc
      · rw [if_pos c]; exact h
      · rw [if_neg c, List.nodup_append]
        exact ⟨h, by simp, fun x hx y hy e => c (by rw [List.mem_singleton.mp hy] at e; exact e ▸ hx)⟩
  exact key l [] List.nodup_nil
theorem nodup_of_once {κ : Type} [DecidableEq κ] {l : List κ} (h : l.length ≤ (once l).length) : l.Nodup := by
  have key : ∀ (r acc : List κ), acc.Nodup → acc.length + r.length ≤ (r.foldl addOne acc).length → (acc ++ r).Nodup := by
    intro r
    induction r with
    | nil => intro acc h _; simpa using h
    | cons a r ih =>
      intro acc hn hl
      have hb : ∀ (r acc : List κ), (r.foldl addOne acc).length ≤ acc.length + r.length := by
        intro r
        induction r with
        | nil => intro acc; exact Nat.le_refl _
        | cons b r ih2 =>
          intro acc
          have h1 := ih2 (addOne acc b)
          have h2 := addOne_len (acc := acc) (v := b)
          show (r.foldl addOne (addOne acc b)).length ≤ acc.length + (r.length + 1)
          omega
      have hl2 : acc.length + (r.length + 1) ≤ (r.foldl addOne (addOne acc a)).length := hl
      have h1 := hb r (addOne acc a)
      by_cases c : a ∈ acc
      · have e : addOne acc a = acc := if_pos c
        rw [e] at hl2 h1
        omega
      · have e : addOne acc a = acc ++ [a] := if_neg c
        rw [e] at hl2 h1
        have := ih (acc ++ [a]) (by
          rw [List.nodup_append]
          exact ⟨hn, by simp, fun x hx y hy e => c (by rw [List.mem_singleton.mp hy] at e; exact e ▸ hx)⟩) (by rw [List.length_append]; simp at hl2 ⊢; omega)
        simpa using this
  have := key l [] List.nodup_nil (by simpa [once] using h)
  simpa using this
/-- two tellings of the same things, the second one finer -/
theorem finer {α β : Type} [DecidableEq α] [DecidableEq β] {N : Nat} {f : Nat → α} {g : Nat → β} (hg : ∀ p q, p < N → q < N → g p = g q → f p = f q) :
    (once ((List.range N).map f)).length ≤ (once ((List.range N).map g)).length ∧
      ((once ((List.range N).map g)).length ≤ (once ((List.range N).map f)).length → ∀ p q, p < N → q < N → f p = f q → g p = g q) := by
  let φ : β → α := fun v => f (((List.range N).map g).idxOf v)
  have hφ : ∀ p, p < N → φ (g p) = f p := by
    intro p hp
    have hm : g p ∈ (List.range N).map g := List.mem_map.mpr ⟨p, List.mem_range.mpr hp, rfl⟩
    have hi := List.idxOf_lt_length_of_mem hm
    have he := List.getElem_idxOf hi
    rw [List.length_map, List.length_range] at hi
    refine hg _ _ hi hp ?_
    rw [List.getElem_map, List.getElem_range] at he
    exact he
  have sub : ∀ a ∈ once ((List.range N).map f), a ∈ (once ((List.range N).map g)).map φ := by
    intro a ha
    rw [once_mem] at ha
    obtain ⟨p, hp, rfl⟩ := List.mem_map.mp ha
    have hp2 := List.mem_range.mp hp
    exact List.mem_map.mpr ⟨g p, (once_mem _ _).mpr (List.mem_map.mpr ⟨p, hp, rfl⟩), hφ p hp2⟩
  refine ⟨by have := nodup_few (once_nodup _) sub; rwa [List.length_map] at this, fun hle p q hp hq e => ?_⟩
  have hn : ((once ((List.range N).map g)).map φ).Nodup := by
    refine nodup_of_once ?_
    have := nodup_few (once_nodup ((List.range N).map f)) (u := once ((once ((List.range N).map g)).map φ)) fun a ha => (once_mem _ _).mpr (sub a ha)
    rw [List.length_map]
    omega
  have inj : ∀ {l : List β}, (l.map φ).Nodup → ∀ x ∈ l, ∀ y ∈ l, φ x = φ y → x = y := by
    intro l
    induction l with
    | nil => intro _ x hx; exact nomatch hx
    | cons c r ih =>
      intro hn x hx y hy e
      obtain ⟨h1, h2⟩ := List.nodup_cons.mp hn
      rcases List.mem_cons.mp hx with ex | hx2
      · rcases List.mem_cons.mp hy with ey | hy2
        · rw [ex, ey]
        · exact absurd (List.mem_map.mpr ⟨y, hy2, by rw [← e, ex]⟩) h1
      · rcases List.mem_cons.mp hy with ey | hy2
        · exact absurd (List.mem_map.mpr ⟨x, hx2, by rw [e, ey]⟩) h1
        · exact ih h2 x hx2 y hy2 e
  have mem : ∀ p, p < N → g p ∈ once ((List.range N).map g) := fun p hp => (once_mem _ _).mpr (List.mem_map.mpr ⟨p, List.mem_range.mpr hp, rfl⟩)
  exact inj hn _ (mem p hp) _ (mem q hq) (by rw [hφ p hp, hφ q hq]; exact e)
/-! ### one round -/
def mk (ms : List Int) (p : Int) : Int := ms.getD p.toNat 0
def keyAt (rs : List LRow) (ms : List Int) (p : Nat) : NK := (mk ms p, (rowOf rs p).2.map (mk ms))
def keysTo (rs : List LRow) (ms : List Int) (i : Nat) : List NK := (List.range i).map (keyAt rs ms)
def markTo (rs : List LRow) (ms : List Int) (i : Nat) : List Int := (keysTo rs ms i).map fun k => (((once (keysTo rs ms i)).idxOf k : Nat) : Int)
/-- what holds of the marks of a round -/
structure MarkOk (rs : List LRow) (ms : List Int) : Prop where
  len : ms.length = rs.length
  fin : ∀ p q, InSt rs p → InSt rs q → mk ms p = mk ms q → endAt rs p = endAt rs q
  all : ∀ p q, InSt rs p → InSt rs q → lang rs p = lang rs q → mk ms p = mk ms q
def Kern (rs : List LRow) (ms : List Int) : Prop := ∀ p q, InSt rs p → InSt rs q → (mk ms p = mk ms q ↔ lang rs p = lang rs q)
theorem in_nat {rs : List LRow} {p : Int} (h : InSt rs p) : ((p.toNat : Nat) : Int) = p ∧ p.toNat < rs.length := ⟨by have := h.1; omega, by have := h.1; have := h.2; omega⟩
theorem idx_inj {κ : Type} [BEq κ] [LawfulBEq κ] {l : List κ} {a b : κ} (ha : a ∈ l) (hb : b ∈ l) (h : l.idxOf a = l.idxOf b) : a = b := by
  have h1 := List.getElem_idxOf (List.idxOf_lt_length_of_mem ha)
  have h2 := List.getElem_idxOf (List.idxOf_lt_length_of_mem hb)
  rw [← h1, ← h2]
  congr 1
theorem mk_mark {rs : List LRow} {ms : List Int} {p : Int} (h : InSt rs p) : mk (markTo rs ms rs.length) p = (((once (keysTo rs ms rs.length)).idxOf (keyAt rs ms p.toNat) : Nat) : Int) := by
  obtain ⟨h1, h2⟩ := in_nat h
  unfold mk markTo keysTo
  rw [List.getD_eq_getElem?_getD, List.getElem?_map, List.getElem?_map, List.getElem?_range h2]
  rfl
theorem key_mem {rs : List LRow} {ms : List Int} {p : Nat} (h : p < rs.length) : keyAt rs ms p ∈ once (keysTo rs ms rs.length) := (once_mem _ _).mpr (List.mem_map.mpr ⟨p, List.mem_range.mpr h, rfl⟩)
theorem mark_key {rs : List LRow} {ms : List Int} {p q : Int} (hp : InSt rs p) (hq : InSt rs q) : mk (markTo rs ms rs.length) p = mk (markTo rs ms rs.length) q ↔ keyAt rs ms p.toNat = keyAt rs ms q.toNat := by
  rw [mk_mark hp, mk_mark hq]
  constructor
  · intro h
    exact idx_inj (key_mem (in_nat hp).2) (key_mem (in_nat hq).2) (by omega)
  · intro h
    rw [h]
theorem key_mk {rs : List LRow} {ms : List Int} {p q : Int} (hp : InSt rs p) (hq : InSt rs q) (h : keyAt rs ms p.toNat = keyAt rs ms q.toNat) : mk ms p = mk ms q ∧ (rowOf rs p).2.map (mk ms) = (rowOf rs q).2.map (mk ms) := by
  have h1 := congrArg Prod.fst h
  have h2 := congrArg Prod.snd h
  unfold keyAt at h1 h2
  rw [(in_nat hp).1, (in_nat hq).1] at h1 h2
  exact ⟨h1, h2⟩
theorem lang_nxt {rs : List LRow} {p q : Int} (h : lang rs p = lang rs q) (x : Nat) : lang rs (nxt rs p x) = lang rs (nxt rs q x) := by rw [der_lang, der_lang, h]
theorem row_ext {n : Nat} {rs : List LRow} (ok : RowsOk n rs) {p q : Int} (hp : InSt rs p) (hq : InSt rs q) {f : Int → Int} : (rowOf rs p).2.map f = (rowOf rs q).2.map f ↔ ∀ x, x < n → f (nxt rs p x) = f (nxt rs q x) := by
  constructor
  · intro h x hx
    have := congrArg (fun l => l[x]?) h
    simp only [List.getElem?_map, nxt_get ok hp hx, nxt_get ok hq hx, Option.map_some] at this
    exact Option.some.inj this
  · intro h
    apply List.ext_getElem?
    intro x
    rw [List.getElem?_map, List.getElem?_map]
    by_cases hx : x < n
    · rw [nxt_get ok hp hx, nxt_get ok hq hx, Option.map_some, Option.map_some, h x hx]
    · have h1 := ok.wid _ (rowOf_mem hp)
      have h2 := ok.wid _ (rowOf_mem hq)
      rw [List.getElem?_eq_none (by omega), List.getElem?_eq_none (by omega)]
theorem mark_round {n : Nat} {rs : List LRow} (ok : RowsOk n rs) {ms : List Int} (h : MarkOk rs ms) : MarkOk rs (markTo rs ms rs.length) := by
  refine ⟨by simp [markTo, keysTo], fun p q hp hq e => ?_, fun p q hp hq e => ?_⟩
  · exact h.fin p q hp hq (key_mk hp hq ((mark_key hp hq).mp e)).1
  · refine (mark_key hp hq).mpr ?_
    unfold keyAt
    rw [(in_nat hp).1, (in_nat hq).1, h.all p q hp hq e]
    congr 1
    exact (row_ext ok hp hq).mpr fun x hx => h.all _ _ (nxt_in ok hp hx) (nxt_in ok hq hx) (lang_nxt e x)
theorem mk_list {ms : List Int} {N : Nat} (h : ms.length = N) : (List.range N).map (fun (p : Nat) => mk ms (p : Int)) = ms := by
  apply List.ext_getElem?
  intro i
  rw [List.getElem?_map]
  by_cases hi : i < N
  · rw [List.getElem?_range hi, List.getElem?_eq_getElem (by omega), Option.map_some]
    unfold mk
    rw [Int.toNat_natCast, List.getD_eq_getElem?_getD, List.getElem?_eq_getElem (by omega)]
    rfl
  · rw [List.getElem?_eq_none (by simpa using hi), List.getElem?_eq_none (by omega)]
    rfl
theorem mark_more {rs : List LRow} {ms : List Int} (hl : ms.length = rs.length) : (once ms).length ≤ (once (keysTo rs ms rs.length)).length := by
  have h := (finer (N := rs.length) (f := fun p : Nat => mk ms (p : Int)) (g := keyAt rs ms) fun p q _ _ e => congrArg Prod.fst e).1
  rwa [mk_list hl] at h
theorem mark_same {n : Nat} {rs : List LRow} (ok : RowsOk n rs) {ms : List Int} (h : MarkOk rs ms) (hc : (once (keysTo rs ms rs.length)).length = (once ms).length) : Kern rs (markTo rs ms rs.length) := by
  have h2 := (finer (N := rs.length) (f := fun p : Nat => mk ms (p : Int)) (g := keyAt rs ms) fun p q _ _ e => congrArg Prod.fst e).2
  rw [mk_list h.len] at h2
  have h3 := h2 (Nat.le_of_eq hc)
  have st : ∀ p q, InSt rs p → InSt rs q → mk ms p = mk ms q → ∀ x, mk ms (nxt rs p x) = mk ms (nxt rs q x) ∧ InSt rs (nxt rs p x) ∧ InSt rs (nxt rs q x) := by
    intro p q hp hq e x
    by_cases hx : x < n
    · refine ⟨?_, nxt_in ok hp hx, nxt_in ok hq hx⟩
      have := h3 p.toNat q.toNat (in_nat hp).2 (in_nat hq).2 (by show mk ms ((p.toNat : Nat) : Int) = mk ms ((q.toNat : Nat) : Int); rw [(in_nat hp).1, (in_nat hq).1]; exact e)
      exact (row_ext ok hp hq).mp (key_mk hp hq this).2 x hx
    · rw [nxt_far ok hp hx, nxt_far ok hq hx]
      exact ⟨rfl, in_zero ok, in_zero ok⟩
  have la : ∀ w p q, InSt rs p → InSt rs q → mk ms p = mk ms q → lang rs p w = lang rs q w := by
    intro w
    induction w with
    | nil => intro p q hp hq e; exact h.fin p q hp hq e
    | cons x w ih =>
      intro p q hp hq e
      obtain ⟨a, b, c⟩ := st p q hp hq e x
      exact ih _ _ b c a
  have hm := mark_round ok h
  intro p q hp hq
  refine ⟨fun e => ?_, fun e => hm.all p q hp hq e⟩
  exact funext fun w => la w p q hp hq (key_mk hp hq ((mark_key hp hq).mp e)).1
theorem mark_start {rs : List LRow} : MarkOk rs (rs.map (·.1)) := by
  have e : ∀ p, InSt rs p → mk (rs.map (·.1)) p = endAt rs p := by
    intro p hp
    unfold mk endAt rowOf
    rw [List.getD_eq_getElem?_getD, List.getElem?_map, List.getD_eq_getElem?_getD, List.getElem?_eq_getElem (in_nat hp).2]
    rfl
  refine ⟨by simp, fun p q hp hq h => ?_, fun p q hp hq h => ?_⟩
  · rw [e p hp, e q hq] at h; exact h
  · rw [e p hp, e q hq]
    exact congrFun h []
end Sg

namespace Sg
open PySem PySem.Spec PyProof.Rows L2
/-- a list told over a tuple, each thing by reading alone -/
theorem lc_read {K : PySem.W.Frag} {a D : Addr} {xs ys : List V} {j : Nat} {te : TE} {vs : List Nat} {σ : L2.St} {H1 : Hp} {Qd : Hp → Prop} (hD : H1 D = none) (hA : SqT K H1 a xs) (hl : ys.length = xs.length) (hz : xs.length ≤ 100000)
    (hw : ∀ x, wipe ((wipe σ vs).set j (some x)) vs = wipe σ vs)
    (hs : ∀ i x y, xs[i]? = some x → ys[i]? = some y → ∀ R : V → Hp → Prop, R y (upd H1 D (.lst (ys.take i))) → te ((wipe σ vs).set j (some x)) (upd H1 D (.lst (ys.take i))) R)
    (hd : Qd (upd H1 D (.lst ys))) :
    ∃ W : Nat → Nat → Hp → Prop, (∃ m, W 0 m (upd H1 D (.lst []))) ∧ ∀ i m H, W i m H →
      ((Itt K a).stop i H ∧ Qd H) ∨ ((Itt K a).go i H ∧ ∃ Nx : Hp → Prop, (∀ H', Nx H' → ∃ m', m' < m ∧ W (i + 1) m' H') ∧ ∀ x H', (Itt K a).yld i H x H' → gName j x (wipe σ vs) H' fun σ2 H2 => wipe σ2 vs = wipe σ vs ∧ tYes σ2 H2 fun b H3 =>
        if b = true then te σ2 H3 fun y H4 => ∃ acc, H4 D = some (.lst acc) ∧ acc.length < sizeLine ∧ Nx (upd H4 D (.lst (acc ++ [y]))) else Nx H3) := by
  have hA2 : ∀ i, SqT K (upd H1 D (.lst (ys.take i))) a xs := fun i => Same.sqT (same_upd hD) hA
  refine lc_gen (n := xs.length) (fun i H => H = upd H1 D (.lst (ys.take i))) rfl (fun i H hi e => ?_) (fun H e => ?_) (fun i x H H' hi e y => ?_) (fun H e => ?_)
  · subst e
    obtain ⟨x, hx⟩ : ∃ x, xs[i]? = some x := ⟨_, List.getElem?_eq_getElem hi⟩
    exact ⟨xs, x, hA2 i, hx⟩
  · subst e
    exact ⟨xs, hA2 _, Nat.le_refl _⟩
  · subst e
    obtain ⟨rfl, hx⟩ := y
    have hx2 := hx xs (hA2 i)
    obtain ⟨v, hv⟩ : ∃ v, ys[i]? = some v := ⟨_, List.getElem?_eq_getElem (by omega)⟩
    refine ⟨hw x, ?_⟩
    refine hs i x v hx2 hv _ ⟨_, upd_same, ?_, ?_⟩
    · rw [List.length_take]
      exact szlt (m := 100000) (by omega)
    · rw [upd_upd, List.take_add_one, hv]
      rfl
  · subst e
    rw [← hl, List.take_length]
    exact hd
theorem getD_get {ms : List Int} {p : Int} {N : Nat} (hl : ms.length = N) (h0 : 0 ≤ p) (h1 : p < (N : Int)) : atI (ms.map V.int) p = some (.int (mk ms p)) := by
  have e : p = ((p.toNat : Nat) : Int) := by omega
  have hlt : p.toNat < ms.length := by omega
  rw [e]
  refine atI_nat ?_
  rw [List.getElem?_map, List.getElem?_eq_getElem hlt]
  unfold mk
  rw [Int.toNat_natCast, List.getD_eq_getElem?_getD, List.getElem?_eq_getElem hlt]
  rfl
/-! ### numbers given as keys are met -/
theorem once_to_succ (rs : List LRow) (ms : List Int) (i : Nat) : once (keysTo rs ms (i + 1)) = addOne (once (keysTo rs ms i)) (keyAt rs ms i) := by
  unfold keysTo
  rw [List.range_succ, List.map_append, List.map_singleton, once_snoc]
theorem keysTo_succ (rs : List LRow) (ms : List Int) (i : Nat) : keysTo rs ms (i + 1) = keysTo rs ms i ++ [keyAt rs ms i] := by
  unfold keysTo
  rw [List.range_succ, List.map_append, List.map_singleton]
theorem idx_add {κ : Type} [DecidableEq κ] [BEq κ] [LawfulBEq κ] {l : List κ} {a b : κ} (h : a ∈ l) : (addOne l b).idxOf a = l.idxOf a := by
  unfold addOne
  by_cases c : b ∈ l
  · rw [if_pos c]
  · rw [if_neg c, List.idxOf_append, if_pos h]
theorem markTo_succ (rs : List LRow) (ms : List Int) (i : Nat) : markTo rs ms (i + 1) = markTo rs ms i ++ [(((once (keysTo rs ms (i + 1))).idxOf (keyAt rs ms i) : Nat) : Int)] := by
  unfold markTo
  rw [once_to_succ]
  conv => lhs; rw [keysTo_succ, List.map_append]
  congr 1
  refine List.map_congr_left fun k hk => ?_
  rw [idx_add ((once_mem _ _).mpr hk)]
theorem valN_idx : ∀ {kvs : List NE} {ks : List NK} {s : Nat}, kvs.map (·.1) = ks → (∀ j e, kvs[j]? = some e → e.2.2 = ((s + j : Nat) : Int)) → ∀ k, valN kvs k = if k ∈ ks then some ((s + ks.idxOf k : Nat) : Int) else none
  | [], _, s, rfl, _, k => by simp [valN]
  | e :: kvs, _, s, rfl, hp, k => by
    have ih := valN_idx (kvs := kvs) (ks := kvs.map (·.1)) (s := s + 1) rfl (fun j e' he => by
      have := hp (j + 1) e' he
      rw [this]
      omega) k
    by_cases c : e.1 = k
    · have h0 := hp 0 e rfl
      have v1 : valN (e :: kvs) k = some e.2.2 := by simp [valN, c]
      rw [v1, h0, List.map_cons, if_pos (by rw [c]; exact List.mem_cons_self), List.idxOf_cons, beq_iff_eq.mpr c]
      rfl
    · have v1 : valN (e :: kvs) k = valN kvs k := by simp [valN, c]
      rw [v1, ih, List.map_cons]
      by_cases hm : k ∈ kvs.map (·.1)
      · rw [if_pos hm, if_pos (List.mem_cons_of_mem _ hm), List.idxOf_cons, beq_eq_false_iff_ne.mpr c]
        show some ((s + 1 + _ : Nat) : Int) = some ((s + (_ + 1) : Nat) : Int)
        congr 2
        omega
      · rw [if_neg hm, if_neg (fun h => (List.mem_cons.mp h).elim (fun e2 => c e2.symm) hm)]
/-! ### the heap of one round -/
structure CoH (P : Program) (w : World) (H : Hp) (l pd fr : Addr) (rs : List LRow) (ms : List Int) (i : Nat) (H2 : Hp) (kvs : List NE) : Prop where
  same : Same H H2
  lm : H2 l = some (.lst (ms.map V.int))
  dict : H2 pd = some (dN P w pd kvs)
  ent : EntN H2 kvs
  keys : kvs.map (·.1) = once (keysTo rs ms i)
  pos : ∀ (j : Nat) e, kvs[j]? = some e → e.2.2 = (j : Int)
  fresh : H2 fr = some (.lst ((markTo rs ms i).map V.int))
section
variable {P : Program} {w : World} {H H2 : Hp} {l pd fr T : Addr} {rs : List LRow} {ms : List Int} {i : Nat} {kvs : List NE} {o : HO}
theorem CoH.other (c : CoH P w H l pd fr rs ms i H2 kvs) (hT : H2 T = none) : CoH P w H l pd fr rs ms i (upd H2 T o) kvs := by
  have s : Same H2 (upd H2 T o) := same_upd hT
  exact ⟨Same.trans c.same s, s _ _ c.lm, s _ _ c.dict, c.ent.mono fun b xs h => s _ _ h, c.keys, c.pos, s _ _ c.fresh⟩
theorem CoH.len (c : CoH P w H l pd fr rs ms i H2 kvs) : kvs.length = (once (keysTo rs ms i)).length := by rw [← c.keys, List.length_map]
theorem CoH.val (c : CoH P w H l pd fr rs ms i H2 kvs) (k : NK) : valN kvs k = if k ∈ once (keysTo rs ms i) then some (((once (keysTo rs ms i)).idxOf k : Nat) : Int) else none := by
  have h := valN_idx (s := 0) c.keys (fun j e he => by rw [c.pos j e he, Nat.zero_add]) k
  rw [Nat.zero_add] at h
  exact h
/-- the turn's end: the key is there, its number goes to the list -/
theorem CoH.step (c : CoH P w H l pd fr rs ms i H2 kvs) (n0 : H l = none) (n1 : H pd = none) (n2 : H fr = none) (e1 : l ≠ pd) (e2 : l ≠ fr) (e3 : pd ≠ fr) {b : Addr} (hb : KeyN H2 b (keyAt rs ms i)) (hno : keyAt rs ms i ∉ once (keysTo rs ms i)) :
    CoH P w H l pd fr rs ms (i + 1) (upd (upd H2 pd (dN P w pd (kvs ++ [(keyAt rs ms i, b, (kvs.length : Int))]))) fr (.lst ((markTo rs ms i).map V.int ++ [.int (kvs.length : Int)]))) (kvs ++ [(keyAt rs ms i, b, (kvs.length : Int))]) := by
  have hkeys : (kvs ++ [(keyAt rs ms i, b, (kvs.length : Int))]).map (·.1) = once (keysTo rs ms (i + 1)) := by
    rw [List.map_append, c.keys, once_to_succ]
    unfold addOne
    rw [if_neg hno]
    rfl
  have tu : ∀ a xs, H2 a = some (.tup xs) → (upd (upd H2 pd (dN P w pd (kvs ++ [(keyAt rs ms i, b, (kvs.length : Int))]))) fr (.lst ((markTo rs ms i).map V.int ++ [.int (kvs.length : Int)]))) a = some (.tup xs) := fun a xs h => by
    rw [upd_ne (ne_of h c.fresh (fun z => nomatch z)), upd_ne (ne_of h c.dict (fun z => nomatch z))]
    exact h
  refine ⟨fun a x ha => ?_, by rw [upd_ne e2, upd_ne e1]; exact c.lm, by rw [upd_ne e3, upd_same], fun e he => ?_, hkeys, fun j e he => ?_, ?_⟩
  · rw [upd_ne (ne_of_none ha n2), upd_ne (ne_of_none ha n1)]
    exact c.same a x ha
  · rcases List.mem_append.mp he with he | he
    · exact (c.ent e he).mono tu
    · obtain rfl := List.mem_singleton.mp he
      exact hb.mono tu
  · by_cases hj : j < kvs.length
    · rw [List.getElem?_append_left hj] at he
      exact c.pos j e he
    · rw [List.getElem?_append_right (by omega)] at he
      obtain ⟨h0, h1⟩ := List.getElem?_eq_some_iff.mp he
      have : j - kvs.length = 0 := by simpa using h0
      have e4 : j = kvs.length := by omega
      subst e4
      simp at he
      rw [← he]
  · rw [upd_same, markTo_succ, List.map_append, List.map_singleton]
    congr 4
    rw [c.len, once_to_succ]
    unfold addOne
    rw [if_neg hno, List.idxOf_append, if_neg hno]
    simp
theorem CoH.stay (c : CoH P w H l pd fr rs ms i H2 kvs) (n0 : H l = none) (n2 : H fr = none) (e2 : l ≠ fr) (e3 : pd ≠ fr) (hin : keyAt rs ms i ∈ once (keysTo rs ms i)) :
    CoH P w H l pd fr rs ms (i + 1) (upd H2 fr (.lst ((markTo rs ms i).map V.int ++ [.int (((once (keysTo rs ms i)).idxOf (keyAt rs ms i) : Nat) : Int)]))) kvs := by
  have ho : once (keysTo rs ms (i + 1)) = once (keysTo rs ms i) := by
    rw [once_to_succ]
    unfold addOne
    rw [if_pos hin]
  refine ⟨fun a x ha => ?_, by rw [upd_ne e2]; exact c.lm, by rw [upd_ne e3]; exact c.dict, c.ent.mono fun a xs h => ?_, by rw [ho]; exact c.keys, c.pos, ?_⟩
  · rw [upd_ne (ne_of_none ha n2)]
    exact c.same a x ha
  · rw [upd_ne (ne_of h c.fresh (fun z => nomatch z))]
    exact h
  · rw [upd_same, markTo_succ, List.map_append, List.map_singleton, ho]
end
end Sg
namespace Sg
open PySem PySem.Spec PyProof.Rows L2
theorem CoH.start {P : Program} {w : World} {H H1 : Hp} {l pd fr : Addr} {rs : List LRow} {ms : List Int} (s : Same H H1) (hl : H1 l = some (.lst (ms.map V.int))) (hp : H1 pd = none) (hf : (upd H1 pd (dN P w pd [])) fr = none) :
    CoH P w H l pd fr rs ms 0 (upd (upd H1 pd (dN P w pd [])) fr (.lst [])) [] := by
  have s1 : Same H1 (upd H1 pd (dN P w pd [])) := same_upd hp
  have s2 : Same (upd H1 pd (dN P w pd [])) (upd (upd H1 pd (dN P w pd [])) fr (.lst [])) := same_upd hf
  exact ⟨Same.trans s (Same.trans s1 s2), s2 _ _ (s1 _ _ hl), s2 _ _ upd_same, fun e he => (nomatch he), rfl, fun j e he => (by simp at he), upd_same⟩
end Sg
namespace Sg
open PySem PySem.Spec PyProof.Rows L2
theorem CoH.mid {P : Program} {w : World} {H H2 : Hp} {l pd fr : Addr} {rs : List LRow} {ms : List Int} {i : Nat} {kvs : List NE} (c : CoH P w H l pd fr rs ms i H2 kvs) (e3 : pd ≠ fr) {b : Addr} (hb : KeyN H2 b (keyAt rs ms i)) (hno : keyAt rs ms i ∉ once (keysTo rs ms i)) :
    (upd H2 pd (dN P w pd (kvs ++ [(keyAt rs ms i, b, (kvs.length : Int))]))) fr = some (.lst ((markTo rs ms i).map V.int)) ∧ EntN (upd H2 pd (dN P w pd (kvs ++ [(keyAt rs ms i, b, (kvs.length : Int))]))) (kvs ++ [(keyAt rs ms i, b, (kvs.length : Int))]) ∧
      KeyN (upd H2 pd (dN P w pd (kvs ++ [(keyAt rs ms i, b, (kvs.length : Int))]))) b (keyAt rs ms i) ∧ valN (kvs ++ [(keyAt rs ms i, b, (kvs.length : Int))]) (keyAt rs ms i) = some (kvs.length : Int) := by
  have tu : ∀ a xs, H2 a = some (.tup xs) → (upd H2 pd (dN P w pd (kvs ++ [(keyAt rs ms i, b, (kvs.length : Int))]))) a = some (.tup xs) := fun a xs h => by
    rw [upd_ne (ne_of h c.dict (fun z => nomatch z))]
    exact h
  refine ⟨by rw [upd_ne (Ne.symm e3)]; exact c.fresh, fun e he => ?_, hb.mono tu, ?_⟩
  · rcases List.mem_append.mp he with he | he
    · exact (c.ent e he).mono tu
    · obtain rfl := List.mem_singleton.mp he
      exact hb.mono tu
  · have h0 := c.val (keyAt rs ms i)
    rw [if_neg hno] at h0
    unfold valN at h0 ⊢
    rw [List.find?_append]
    cases hf : kvs.find? fun e => decide (e.1 = keyAt rs ms i) with
    | none => simp
    | some e => rw [hf] at h0; cases h0
theorem keys_few (rs : List LRow) (ms : List Int) (i : Nat) : (once (keysTo rs ms i)).length ≤ i := by
  have := once_len (keysTo rs ms i)
  unfold keysTo at this
  rw [List.length_map, List.length_range] at this
  exact this
theorem markTo_len (rs : List LRow) (ms : List Int) (i : Nat) : (markTo rs ms i).length = i := by simp [markTo, keysTo]
theorem once_map_idx {rs : List LRow} {ms : List Int} : (once (markTo rs ms rs.length)).length = (once (keysTo rs ms rs.length)).length := by
  have e1 : markTo rs ms rs.length = (List.range rs.length).map fun p => (((once (keysTo rs ms rs.length)).idxOf (keyAt rs ms p) : Nat) : Int) := by
    unfold markTo keysTo
    rw [List.map_map]
    rfl
  have h1 := (finer (N := rs.length) (f := fun p => (((once (keysTo rs ms rs.length)).idxOf (keyAt rs ms p) : Nat) : Int)) (g := keyAt rs ms) fun p q _ _ e => by rw [e]).1
  have h2 := (finer (N := rs.length) (g := fun p => (((once (keysTo rs ms rs.length)).idxOf (keyAt rs ms p) : Nat) : Int)) (f := keyAt rs ms) fun p q hp hq e => idx_inj (key_mem hp) (key_mem hq) (by omega)).1
  rw [← e1] at h1 h2
  exact Nat.le_antisymm h1 h2
end Sg

namespace Sg
open PySem PySem.Spec PyProof.Rows L2
/-! the least looker by what is taken from each state -/
noncomputable def clo (n : Nat) : Nat → Nat → Met Lang → Met Lang
  | 0, _, acc => acc
  | f + 1, i, acc => match acc[i]? with
    | none => acc
    | some (a, p) => clo n f (i + 1) (expandTo der acc a p n)
noncomputable def rowIn (n : Nat) (acc : Met Lang) (e : Lang × List Nat) : LRow := (e.1 [], (List.range n).map fun x => (((acc.map Prod.fst).idxOf (der e.1 x) : Nat) : Int))
noncomputable def canon (n : Nat) (L : Lang) (f : Nat) : List LRow := (clo n f 0 [(L, [])]).map (rowIn n (clo n f 0 [(L, [])]))
theorem clo_end {n f i : Nat} {acc : Met Lang} (h : acc.length ≤ i) : clo n f i acc = acc := by
  cases f with
  | zero => rfl
  | succ f =>
    unfold clo
    rw [List.getElem?_eq_none h]
theorem clo_go {n f i : Nat} {acc : Met Lang} {a : Lang} {p : List Nat} (h : acc[i]? = some (a, p)) : clo n (f + 1) i acc = clo n f (i + 1) (expandTo der acc a p n) := by
  show (match acc[i]? with | none => acc | some (a, p) => clo n f (i + 1) (expandTo der acc a p n)) = _
  rw [h]
theorem clo_more {n : Nat} {L : Lang} {u : List Lang} (hs : L ∈ u) (hc : ∀ a ∈ u, ∀ x, x < n → der a x ∈ u) : ∀ {f g i : Nat} {acc : Met Lang}, MetOk n der L acc → u.length < f + i → u.length < g + i → clo n f i acc = clo n g i acc
  | 0, g, i, acc, h, hf, _ => by
    have := met_few h hs hc
    rw [clo_end (by omega), clo_end (by omega)]
  | f + 1, 0, i, acc, h, _, hg => by
    have := met_few h hs hc
    rw [clo_end (by omega), clo_end (by omega)]
  | f + 1, g + 1, i, acc, h, hf, hg => by
    by_cases hi : i < acc.length
    · obtain ⟨⟨a, q⟩, hap⟩ : ∃ ap, acc[i]? = some ap := ⟨_, List.getElem?_eq_getElem hi⟩
      rw [clo_go hap, clo_go hap]
      exact clo_more hs hc (met_expand h (List.mem_of_getElem? hap)) (by omega) (by omega)
    · rw [clo_end (by omega), clo_end (by omega)]
/-- the languages of a looker -/
def langs (rs : List LRow) : List Lang := (stR rs.length).map (lang rs)
theorem langs_len (rs : List LRow) : (langs rs).length = rs.length := by unfold langs; rw [List.length_map, stR_len]
theorem langs_mem {rs : List LRow} {p : Int} (h : InSt rs p) : lang rs p ∈ langs rs := List.mem_map.mpr ⟨p, mem_stR.mpr h, rfl⟩
theorem langs_step {n : Nat} {rs : List LRow} (ok : RowsOk n rs) : ∀ a ∈ langs rs, ∀ x, x < n → der a x ∈ langs rs := by
  intro a ha x hx
  obtain ⟨p, hp, rfl⟩ := List.mem_map.mp ha
  exact List.mem_map.mpr ⟨nxt rs p x, mem_stR.mpr (nxt_in ok (mem_stR.mp hp) hx), rfl⟩
theorem met_langs {n : Nat} {rs : List LRow} (ok : RowsOk n rs) {acc : Met Lang} (h : MetOk n der (lang rs 0) acc) : acc.length ≤ rs.length := by
  have := met_few h (langs_mem (in_zero ok)) (langs_step ok)
  rwa [langs_len] at this
theorem clo_met {n : Nat} {L : Lang} : ∀ {f i : Nat} {acc : Met Lang}, MetOk n der L acc → MetOk n der L (clo n f i acc)
  | 0, _, _, h => h
  | f + 1, i, acc, h => by
    by_cases hi : i < acc.length
    · obtain ⟨⟨a, q⟩, hap⟩ : ∃ ap, acc[i]? = some ap := ⟨_, List.getElem?_eq_getElem hi⟩
      rw [clo_go hap]
      exact clo_met (met_expand h (List.mem_of_getElem? hap))
    · rw [clo_end (by omega)]
      exact h
theorem clo_sub {n : Nat} : ∀ {f i : Nat} {acc : Met Lang}, ∃ more, clo n f i acc = acc ++ more
  | 0, _, acc => ⟨[], by rw [List.append_nil]; rfl⟩
  | f + 1, i, acc => by
    by_cases hi : i < acc.length
    · obtain ⟨⟨a, q⟩, hap⟩ : ∃ ap, acc[i]? = some ap := ⟨_, List.getElem?_eq_getElem hi⟩
      rw [clo_go hap]
      obtain ⟨m1, e1⟩ := expandTo_sub (stp := der) (acc := acc) (a := a) (p := q) n
      obtain ⟨m2, e2⟩ := clo_sub (n := n) (f := f) (i := i + 1) (acc := expandTo der acc a q n)
      exact ⟨m1 ++ m2, by rw [e2, e1, List.append_assoc]⟩
    · rw [clo_end (by omega)]
      exact ⟨[], by rw [List.append_nil]⟩
theorem expandTo_in {acc : Met Lang} {a : Lang} {p : List Nat} : ∀ k x, x < k → der a x ∈ (expandTo der acc a p k).map Prod.fst
  | k + 1, x, hx => by
    rw [expandTo_succ]
    by_cases c : x < k
    · obtain ⟨m, e⟩ := addStep_sub (stp := der) (a := a) (p := p) (acc := expandTo der acc a p k) (x := k)
      rw [e, List.map_append]
      exact List.mem_append_left _ (expandTo_in k x c)
    · have : x = k := by omega
      subst this
      unfold addStep
      by_cases c2 : der a x ∈ (expandTo der acc a p x).map Prod.fst
      · rw [if_pos c2]; exact c2
      · rw [if_neg c2, List.map_append]
        exact List.mem_append_right _ (by simp)
/-- all that is met leads to what is met -/
theorem clo_closed {n : Nat} {L : Lang} {u : List Lang} (hs : L ∈ u) (hc : ∀ a ∈ u, ∀ x, x < n → der a x ∈ u) : ∀ {f i : Nat} {acc : Met Lang}, MetOk n der L acc → u.length < f + i → (∀ e ∈ acc.take i, ∀ x, x < n → der e.1 x ∈ acc.map Prod.fst) →
    ∀ e ∈ clo n f i acc, ∀ x, x < n → der e.1 x ∈ (clo n f i acc).map Prod.fst
  | 0, i, acc, h, hf, hcl => by
    have := met_few h hs hc
    rw [clo_end (by omega)]
    rw [List.take_of_length_le (by omega)] at hcl
    exact hcl
  | f + 1, i, acc, h, hf, hcl => by
    by_cases hi : i < acc.length
    · obtain ⟨⟨a, q⟩, hap⟩ : ∃ ap, acc[i]? = some ap := ⟨_, List.getElem?_eq_getElem hi⟩
      rw [clo_go hap]
      refine clo_closed hs hc (met_expand h (List.mem_of_getElem? hap)) (by omega) fun e he x hx => ?_
      obtain ⟨m1, e1⟩ := expandTo_sub (stp := der) (acc := acc) (a := a) (p := q) n
      have ht : (expandTo der acc a q n).take (i + 1) = acc.take i ++ [(a, q)] := by
        rw [e1, List.take_append_of_le_length (by omega), List.take_add_one, hap]
        rfl
      rw [ht] at he
      rcases List.mem_append.mp he with he | he
      · rw [e1, List.map_append]
        exact List.mem_append_left _ (hcl e he x hx)
      · obtain rfl := List.mem_singleton.mp he
        exact expandTo_in n x hx
    · rw [clo_end (by omega)]
      rw [List.take_of_length_le (by omega)] at hcl
      exact hcl
theorem canon_same {n : Nat} {r1 r2 : List LRow} (o1 : RowsOk n r1) (o2 : RowsOk n r2) (h : lang r1 0 = lang r2 0) : canon n (lang r1 0) (r1.length + 1) = canon n (lang r2 0) (r2.length + 1) := by
  have e1 : clo n (r1.length + 1) 0 [(lang r1 0, [])] = clo n (r1.length + r2.length + 2) 0 [(lang r1 0, [])] :=
    clo_more (langs_mem (in_zero o1)) (langs_step o1) (met_start _ _ _) (by rw [langs_len]; omega) (by rw [langs_len]; omega)
  have e2 : clo n (r2.length + 1) 0 [(lang r2 0, [])] = clo n (r1.length + r2.length + 2) 0 [(lang r2 0, [])] :=
    clo_more (langs_mem (in_zero o2)) (langs_step o2) (met_start _ _ _) (by rw [langs_len]; omega) (by rw [langs_len]; omega)
  unfold canon
  rw [e1, e2, h]
/-- the least looker is one, and takes the same -/
theorem canon_ok {n : Nat} {rs : List LRow} (ok : RowsOk n rs) : RowsOk n (canon n (lang rs 0) (rs.length + 1)) ∧ lang (canon n (lang rs 0) (rs.length + 1)) 0 = lang rs 0 := by
  have hm : MetOk n der (lang rs 0) (clo n (rs.length + 1) 0 [(lang rs 0, [])]) := clo_met (met_start _ _ _)
  have hcl : ∀ e ∈ clo n (rs.length + 1) 0 [(lang rs 0, [])], ∀ x, x < n → der e.1 x ∈ (clo n (rs.length + 1) 0 [(lang rs 0, [])]).map Prod.fst :=
    clo_closed (langs_mem (in_zero ok)) (langs_step ok) (met_start _ _ _) (by rw [langs_len]; omega) (fun e he => by simp at he)
  have hsub : ∃ more, clo n (rs.length + 1) 0 [(lang rs 0, [])] = [(lang rs 0, [])] ++ more := clo_sub
  have hfew := met_langs ok hm
  have hst := met_closed hm (fun a => a ∈ langs rs) (langs_mem (in_zero ok)) (fun a x ha hx => langs_step ok a ha x hx)
  unfold canon
  generalize clo n (rs.length + 1) 0 [(lang rs 0, [])] = F at hm hcl hsub hfew hst
  obtain ⟨more, hF⟩ := hsub
  have hpos : 1 ≤ F.length := by rw [hF]; simp
  have h600 := ok.top
  have hidx : ∀ e ∈ F, ∀ x, x < n → (F.map Prod.fst).idxOf (der e.1 x) < F.length := fun e he x hx => by
    have := List.idxOf_lt_length_of_mem (hcl e he x hx)
    rwa [List.length_map] at this
  have rok : RowsOk n (F.map (rowIn n F)) := by
    refine ⟨by rw [List.length_map]; exact hpos, by rw [List.length_map]; omega, fun r hr => ?_, fun r hr => ?_, fun r hr q hq => ?_⟩
    · obtain ⟨e, he, rfl⟩ := List.mem_map.mp hr
      obtain ⟨p, hp, hpe⟩ := List.mem_map.mp (hst e he)
      show e.1 [] = 0 ∨ e.1 [] = 1
      rw [← hpe]
      exact endAt_bit ok (mem_stR.mp hp)
    · obtain ⟨e, he, rfl⟩ := List.mem_map.mp hr
      unfold rowIn
      simp
    · obtain ⟨e, he, rfl⟩ := List.mem_map.mp hr
      obtain ⟨x, hx, rfl⟩ := List.mem_map.mp hq
      have := hidx e he x (List.mem_range.mp hx)
      rw [List.length_map]
      omega
  refine ⟨rok, ?_⟩
  have la : ∀ (w : List Nat) (i : Nat) (e : Lang × List Nat), F[i]? = some e → lang (F.map (rowIn n F)) (i : Int) w = e.1 w := by
    intro w
    induction w with
    | nil =>
      intro i e he
      show endAt (F.map (rowIn n F)) (i : Int) = e.1 []
      unfold endAt rowOf
      rw [Int.toNat_natCast, List.getD_eq_getElem?_getD, List.getElem?_map, he]
      rfl
    | cons x w ih =>
      intro i e he
      have hem := List.mem_of_getElem? he
      have hi : i < F.length := (List.getElem?_eq_some_iff.mp he).1
      have hin : InSt (F.map (rowIn n F)) (i : Int) := ⟨by omega, by rw [List.length_map]; omega⟩
      show lang (F.map (rowIn n F)) (nxt (F.map (rowIn n F)) (i : Int) x) w = e.1 (x :: w)
      by_cases hx : x < n
      · have hn : nxt (F.map (rowIn n F)) (i : Int) x = (((F.map Prod.fst).idxOf (der e.1 x) : Nat) : Int) := by
          unfold nxt rowOf
          rw [Int.toNat_natCast, List.getD_eq_getElem?_getD, List.getD_eq_getElem?_getD, List.getElem?_map, he]
          show ((rowIn n F e).2[x]?).getD 0 = _
          unfold rowIn
          rw [List.getElem?_map, List.getElem?_range hx]
          rfl
        rw [hn]
        have hmem := hcl e hem x hx
        have h1 := List.getElem_idxOf (List.idxOf_lt_length_of_mem hmem)
        have h2 := hidx e hem x hx
        rw [ih _ _ (List.getElem?_eq_getElem h2)]
        rw [List.getElem_map] at h1
        exact congrFun h1 w
      · rw [nxt_far rok hin hx]
        have h0 : F[0]? = some (lang rs 0, []) := by rw [hF]; rfl
        have := ih 0 _ h0
        rw [show ((0 : Nat) : Int) = 0 from rfl] at this
        rw [this]
        obtain ⟨p, hp, hpe⟩ := List.mem_map.mp (hst e hem)
        rw [← hpe]
        show lang rs 0 w = lang rs (nxt rs p x) w
        rw [nxt_far ok (mem_stR.mp hp) hx]
  have h0 : F[0]? = some (lang rs 0, []) := by rw [hF]; rfl
  exact funext fun w => la w 0 _ h0
theorem idx_more {κ : Type} [BEq κ] [LawfulBEq κ] {l m : List κ} {a : κ} (h : a ∈ l) : (l ++ m).idxOf a = l.idxOf a := by
  rw [List.idxOf_append, if_pos h]
theorem rowIn_more {n : Nat} {acc more : Met Lang} {e : Lang × List Nat} (h : ∀ x, x < n → der e.1 x ∈ acc.map Prod.fst) : rowIn n (acc ++ more) e = rowIn n acc e := by
  unfold rowIn
  congr 1
  refine List.map_congr_left fun x hx => ?_
  rw [List.map_append, idx_more (h x (List.mem_range.mp hx))]
end Sg

namespace Sg
open PySem PySem.Spec PyProof.Rows L2
theorem tk_put {H : Hp} {D : Addr} {o : HO} (nt : ∀ ys, H D ≠ some (.tup ys)) (nf : ∀ q v, H D ≠ some (.frz q v)) : TK H (upd H D o) :=
  ⟨fun b xs h => by rw [upd_ne (fun z => nt xs (by rw [← z]; exact h))]; exact h, fun b q v h => by rw [upd_ne (fun z => nf q v (by rw [← z]; exact h))]; exact h⟩
/-- what the dict of numbers tells: the place at which a language was met -/
def NumOk (rs : List LRow) (ms : List Int) (acc : Met Lang) (nb : List (Key × V)) : Prop :=
  (∀ p, InSt rs p → lang rs p ∈ acc.map Prod.fst → valV nb (.inl (mk ms p)) = some (.int (((acc.map Prod.fst).idxOf (lang rs p) : Nat) : Int))) ∧ (∀ p, InSt rs p → lang rs p ∉ acc.map Prod.fst → valV nb (.inl (mk ms p)) = none) ∧ nb.length ≤ acc.length
structure LsH (K : PySem.W.Frag) (H : Hp) (l nd ch rr : Addr) (rs : List LRow) (ms : List Int) (acc : Met Lang) (H2 : Hp) (cs : List Int) (nb : List (Key × V)) (vs : List V) (rws : List LRow) : Prop where
  same : Same H H2
  n1 : H l = none
  n2 : H nd = none
  n3 : H ch = none
  n4 : H rr = none
  e1 : ch ≠ l
  e2 : ch ≠ rr
  e3 : l ≠ rr
  lm : H2 l = some (.lst (ms.map V.int))
  dict : H2 nd = some (.dK nb)
  num : NumOk rs ms acc nb
  chl : H2 ch = some (.lst (cs.map V.int))
  csl : cs.map (lang rs) = acc.map Prod.fst
  csi : ∀ c ∈ cs, InSt rs c
  rows : H2 rr = some (.lst vs)
  pr : Paired (RSt K H2) vs rws
section
variable {K : PySem.W.Frag} {H H2 : Hp} {l nd ch rr D : Addr} {rs : List LRow} {ms : List Int} {acc : Met Lang} {cs : List Int} {nb : List (Key × V)} {vs : List V} {rws : List LRow} {o : HO}
theorem LsH.put (h : LsH K H l nd ch rr rs ms acc H2 cs nb vs rws) (h0 : H D = none) (d1 : l ≠ D) (d2 : nd ≠ D) (d3 : ch ≠ D) (d4 : rr ≠ D) (nt : ∀ ys, H2 D ≠ some (.tup ys)) (nf : ∀ q v, H2 D ≠ some (.frz q v)) : LsH K H l nd ch rr rs ms acc (upd H2 D o) cs nb vs rws :=
  { h with
    same := fun b x hb => by rw [upd_ne (ne_of_none hb h0)]; exact h.same b x hb
    lm := by rw [upd_ne d1]; exact h.lm
    dict := by rw [upd_ne d2]; exact h.dict
    chl := by rw [upd_ne d3]; exact h.chl
    rows := by rw [upd_ne d4]; exact h.rows
    pr := pr_mono h.pr fun _ _ r => r.mono (tk_put nt nf) }
theorem LsH.free (h : LsH K H l nd ch rr rs ms acc H2 cs nb vs rws) (h0 : H2 D = none) : H D = none ∧ l ≠ D ∧ nd ≠ D ∧ ch ≠ D ∧ rr ≠ D :=
  ⟨Same.free h.same h0, ne_of_none h.lm h0, ne_of_none h.dict h0, ne_of_none h.chl h0, ne_of_none h.rows h0⟩
theorem LsH.other (h : LsH K H l nd ch rr rs ms acc H2 cs nb vs rws) (h0 : H2 D = none) : LsH K H l nd ch rr rs ms acc (upd H2 D o) cs nb vs rws := by
  obtain ⟨a, b, c, d, e⟩ := h.free h0
  exact h.put a b c d e (fun _ => by rw [h0]; nofun) (fun _ _ => by rw [h0]; nofun)
theorem LsH.cnt (h : LsH K H l nd ch rr rs ms acc H2 cs nb vs rws) : cs.length = acc.length := by
  have := congrArg List.length h.csl
  rwa [List.length_map, List.length_map] at this
/-- a language that was not met -/
theorem NumOk.add {rs : List LRow} {ms : List Int} {acc : Met Lang} {nb : List (Key × V)} (h : NumOk rs ms acc nb) (kn : Kern rs ms) {c : Int} (hc : InSt rs c) (hn : lang rs c ∉ acc.map Prod.fst) (q : List Nat) : NumOk rs ms (acc ++ [(lang rs c, q)]) (putK nb (.inl (mk ms c)) (.int (acc.length : Int))) := by
  obtain ⟨h1, h2, h3⟩ := h
  have key : ∀ p, InSt rs p → ((Sum.inl (mk ms p) : Key) = Sum.inl (mk ms c) ↔ lang rs p = lang rs c) := fun p hp => ⟨fun e => (kn p c hp hc).mp (Sum.inl.inj e), fun e => by rw [(kn p c hp hc).mpr e]⟩
  refine ⟨fun p hp hm => ?_, fun p hp hm => ?_, ?_⟩
  · rw [valV_put]
    by_cases e : lang rs p = lang rs c
    · rw [if_pos ((key p hp).mpr e), e, List.map_append, List.idxOf_append, if_neg hn]
      simp
    · rw [if_neg (fun z => e ((key p hp).mp z))]
      rw [List.map_append] at hm ⊢
      have hm2 : lang rs p ∈ acc.map Prod.fst := (List.mem_append.mp hm).elim id fun h => absurd (by simpa using h) e
      rw [idx_more hm2]
      exact h1 p hp hm2
  · rw [valV_put]
    rw [List.map_append] at hm
    have e : lang rs p ≠ lang rs c := fun e => hm (List.mem_append_right _ (by simp [e]))
    rw [if_neg (fun z => e ((key p hp).mp z))]
    exact h2 p hp fun h => hm (List.mem_append_left _ h)
  · have := length_putK nb (.inl (mk ms c)) (.int (acc.length : Int))
    rw [List.length_append]
    simp
    omega
theorem LsH.met (h : LsH K H l nd ch rr rs ms acc H2 cs nb vs rws) (kn : Kern rs ms) {c : Int} (hc : InSt rs c) (hn : lang rs c ∉ acc.map Prod.fst) (q : List Nat) :
    LsH K H l nd ch rr rs ms (acc ++ [(lang rs c, q)]) (upd (upd H2 nd (.dK (putK nb (.inl (Sg.mk ms c)) (.int (acc.length : Int))))) ch (.lst (cs.map V.int ++ [.int c]))) (cs ++ [c]) (putK nb (.inl (Sg.mk ms c)) (.int (acc.length : Int))) vs rws := by
  have a1 : l ≠ nd := ne_of h.lm h.dict (fun z => nomatch z)
  have a2 : ch ≠ nd := ne_of h.chl h.dict (fun z => nomatch z)
  have a3 : rr ≠ nd := ne_of h.rows h.dict (fun z => nomatch z)
  have hch : (upd H2 nd (.dK (putK nb (.inl (Sg.mk ms c)) (.int (acc.length : Int))))) ch = some (.lst (cs.map V.int)) := by rw [upd_ne a2]; exact h.chl
  refine ⟨fun b x hb => ?_, h.n1, h.n2, h.n3, h.n4, h.e1, h.e2, h.e3, ?_, ?_, h.num.add kn hc hn q, by rw [upd_same, List.map_append]; rfl, ?_, fun d hd => ?_, ?_, pr_mono h.pr fun _ _ r => r.mono ?_⟩
  · rw [upd_ne (ne_of_none hb h.n3), upd_ne (ne_of_none hb h.n2)]
    exact h.same b x hb
  · rw [upd_ne (Ne.symm h.e1), upd_ne a1]; exact h.lm
  · rw [upd_ne (Ne.symm a2), upd_same]
  · rw [List.map_append, List.map_append, h.csl]; rfl
  · rcases List.mem_append.mp hd with hd | hd
    · exact h.csi d hd
    · rw [List.mem_singleton.mp hd]; exact hc
  · rw [upd_ne (Ne.symm h.e2), upd_ne a3]; exact h.rows
  · exact (tk_put (fun _ => by rw [h.dict]; nofun) (fun _ _ => by rw [h.dict]; nofun)).trans (tk_put (fun _ => by rw [hch]; nofun) (fun _ _ => by rw [hch]; nofun))
/-- a row is told -/
theorem LsH.row (h : LsH K H l nd ch rr rs ms acc H2 cs nb vs rws) {T T1 : Addr} {r : LRow} (hT : H2 T = some (.tup [.int r.1, .ref T1])) (hT1 : H2 T1 = some (.tup (r.2.map V.int))) :
    LsH K H l nd ch rr rs ms acc (upd H2 rr (.lst (vs ++ [.ref T]))) cs nb (vs ++ [.ref T]) (rws ++ [r]) := by
  have a3 : nd ≠ rr := ne_of h.dict h.rows (fun z => nomatch z)
  have k : TK H2 (upd H2 rr (.lst (vs ++ [.ref T]))) := tk_put (fun _ => by rw [h.rows]; nofun) (fun _ _ => by rw [h.rows]; nofun)
  exact { h with
    same := fun b x hb => by rw [upd_ne (ne_of_none hb h.n4)]; exact h.same b x hb
    lm := by rw [upd_ne h.e3]; exact h.lm
    dict := by rw [upd_ne a3]; exact h.dict
    chl := by rw [upd_ne h.e2]; exact h.chl
    rows := upd_same
    pr := pr_snoc (pr_mono h.pr fun _ _ r => r.mono k) ⟨T, T1, rfl, k.sqT (.inl (.inl hT)), k.sqT (.inl (.inl hT1))⟩ }
end
end Sg
namespace Sg
open PySem PySem.Spec PyProof.Rows L2
theorem LsH.start {K : PySem.W.Frag} {H H1 H2 : Hp} {l nd ch rr : Addr} {n : Nat} {rs : List LRow} {ms : List Int} (ok : RowsOk n rs) (s1 : Same H H1) (kn : Kern rs ms) (hl0 : H l = none) (hl : H1 l = some (.lst (ms.map V.int))) (hnd : H1 nd = none)
    (e2 : H2 = upd (upd H1 nd (.dK [])) nd (.dK [(.inl (Sg.mk ms 0), .int 0)])) (hch : H2 ch = none) (hrr : (upd H2 ch (.lst [.int 0])) rr = none) :
    LsH K H l nd ch rr rs ms [(lang rs 0, [])] (upd (upd H2 ch (.lst [.int 0])) rr (.lst [])) [0] [(.inl (Sg.mk ms 0), .int 0)] [] [] := by
  have s2 : Same H1 H2 := fun b x hb => by rw [e2, upd_ne (ne_of_none hb hnd), upd_ne (ne_of_none hb hnd)]; exact hb
  have s3 : Same H2 (upd H2 ch (.lst [.int 0])) := same_upd hch
  have s4 : Same (upd H2 ch (.lst [.int 0])) (upd (upd H2 ch (.lst [.int 0])) rr (.lst [])) := same_upd hrr
  have k1 : H2 nd = some (.dK [(.inl (Sg.mk ms 0), .int 0)]) := by rw [e2, upd_same]
  have l2 := s2 _ _ hl
  have c1 : (upd H2 ch (.lst [.int 0])) ch = some (.lst [.int 0]) := upd_same
  refine ⟨Same.trans s1 (Same.trans s2 (Same.trans s3 s4)), hl0, Same.free s1 hnd, Same.free (Same.trans s1 s2) hch, Same.free (Same.trans s1 (Same.trans s2 s3)) hrr, Ne.symm (ne_of_none l2 hch), ne_of_none c1 hrr, ne_of_none (s3 _ _ l2) hrr, s4 _ _ (s3 _ _ l2), s4 _ _ (s3 _ _ k1), ⟨fun p hp hm => ?_, fun p hp hm => ?_, Nat.le_refl _⟩, s4 _ _ c1, rfl, fun c hc => ?_, upd_same, .nil⟩
  · have e : lang rs p = lang rs 0 := by simpa using hm
    have e3 := (kn p 0 hp (in_zero ok)).mpr e
    rw [e3, e]
    simp [valV]
  · have e : lang rs p ≠ lang rs 0 := fun e => hm (by simp [e])
    have e3 : Sg.mk ms 0 ≠ Sg.mk ms p := fun z => e ((kn p 0 hp (in_zero ok)).mp z.symm)
    simp [valV, e3]
  · rw [List.mem_singleton.mp hc]
    exact in_zero ok
end Sg
namespace Sg
open PySem PySem.Spec PyProof.Rows L2
theorem leads_succ (acc : Met Lang) (L : Lang) (p : List Nat) (x : Nat) :
    (List.range (x + 1)).map (fun y => ((((expandTo der acc L p (x + 1)).map Prod.fst).idxOf (der L y) : Nat) : Int)) =
      (List.range x).map (fun y => ((((expandTo der acc L p x).map Prod.fst).idxOf (der L y) : Nat) : Int)) ++ [((((expandTo der acc L p (x + 1)).map Prod.fst).idxOf (der L x) : Nat) : Int)] := by
  rw [List.range_succ, List.map_append, List.map_singleton]
  congr 1
  refine List.map_congr_left fun y hy => ?_
  rw [expandTo_succ]
  obtain ⟨m, e⟩ := addStep_sub (stp := der) (a := L) (p := p) (acc := expandTo der acc L p x) (x := x)
  rw [e, List.map_append, idx_more (expandTo_in x y (List.mem_range.mp hy))]
theorem step_old {acc : Met Lang} {L : Lang} {p : List Nat} {x : Nat} (h : der L x ∈ (expandTo der acc L p x).map Prod.fst) : expandTo der acc L p (x + 1) = expandTo der acc L p x := by
  rw [expandTo_succ]
  unfold addStep
  rw [if_pos h]
theorem step_new {acc : Met Lang} {L : Lang} {p : List Nat} {x : Nat} (h : der L x ∉ (expandTo der acc L p x).map Prod.fst) : expandTo der acc L p (x + 1) = expandTo der acc L p x ++ [(der L x, p ++ [x])] := by
  rw [expandTo_succ]
  unfold addStep
  rw [if_neg h]
theorem idx_last {l : List Lang} {a : Lang} (h : a ∉ l) : (l ++ [a]).idxOf a = l.length := by
  rw [List.idxOf_append, if_neg h]
  simp
end Sg

/-! defs whose promise holds where no repr is under way; repr of data -/
namespace Sg
open PySem PySem.Spec PyProof.Rows L2
def Quiet (A : Around) : Prop := A.guards = some []
/-- repr of data of any depth -/
def rReprD (K : PySem.W.Frag) : List V → Hp → VK → Prop := fun xs H Q => ∃ (x : V) (d : PyData), xs = [x] ∧ Dp K H x d ∧ d.showable = true ∧ d.hasDict = false ∧ d.depth ≤ 50 ∧ d.shown.length ≤ sizeLine ∧ Q (.str d.shown) H
theorem call_reprD {X : Cx} (hq : Quiet X.A) (hu : X.A.units + 64 < cLine) : CallR X (.builtin "repr") (rReprD X.K) := by
  intro pins s σ H xs us Q I r h
  obtain ⟨x, d, rfl, hd, hs, hn, hdp, hsz, q⟩ := h
  obtain ⟨u, rfl, rx⟩ := vals1 r
  have deep : ∀ a, u = .ref a → wpAny (model X.prog X.w) X.A (call (.builtin "repr") [u]) (EP X pins σ Q) X.xe s := by
    intro a e
    subst e
    obtain ⟨as, rd⟩ := Dp.reads I d x _ hd rx
    exact repr_of_reads' rd hs (fun z => by rw [hn] at z; cases z) hq (by omega) (fun _ _ z => z) (fun h' t tk hk => ⟨.str d.shown, H, I.kept hk, ⟨t, rfl⟩, q⟩) hsz
  cases hd with
  | non =>
    cases (show u = Value.none from rx)
    exact PySem.P.repr_of_none ⟨.str _, H, I.tok _, ⟨_, rfl⟩, by simpa [PyData.shown] using q⟩
  | bl b =>
    cases (show u = Value.bool b from rx)
    exact PySem.P.repr_of_bool ⟨.str _, H, I.tok _, ⟨_, rfl⟩, by simpa [PyData.shown] using q⟩
  | int i =>
    obtain ⟨t, rfl⟩ := (show ∃ t, u = Value.int i t from rx)
    exact PySem.P.repr_of_int (by simpa [PyData.showable] using hs) ⟨.str _, H, I.tok _, ⟨_, rfl⟩, by simpa [PyData.shown] using q⟩
  | str z =>
    obtain ⟨t, rfl⟩ := (show ∃ t, u = Value.str z t from rx)
    exact PySem.P.repr_of_str ⟨.str _, H, I.tok _, ⟨_, rfl⟩, by simpa [PyData.shown] using q⟩ (by simpa [PyData.shown] using hsz)
  | lst h1 h2 => exact deep _ rx
  | tup h1 h2 => exact deep _ rx
/-! ### defs under a quiet stack -/
structure FnQ (P : Program) (w : World) (K : PySem.W.Frag) (mg : Str → Option Value) (base : Heap) (C : CXT) (k : Nat) (f : Addr) (fd : FuncData) (ps : List Str) (sp : Sp) : Prop where
  len : ∀ vs H Q E, sp vs H Q E → vs.length = ps.length
  run : ∀ (A : Around) (outer : List Env) (s : Shared) (H : Hp) (args : Args) (us : List Value) (vs : List V) (Q : VK) (E : XK), Quiet A → Room k A → Env0 P w K mg base A outer s H → BindsTo s fd args (ps.zip us) → Vals vs us → sp vs H Q E →
    codeAny (model P w) A (.call (.ref f) args) (CR C outer P w H s Q E) s
structure DkQ (P : Program) (w : World) (K : PySem.W.Frag) (mg : Str → Option Value) (base : Heap) (k : Nat) (x : Str) (ps : List Str) (sp : Sp) : Prop where
  ok : ∃ fd, FnQ P w K mg base (L2.CX P w) k (He.ga K x) fd ps sp ∧ Binds K fd ps []
  kp : PySem.W.keepIn K (.ref (He.ga K x)) = true
  gm : mg x = some (.ref (He.ga K x))
theorem run_quiet {X : Cx} {C : CXT} {k : Nat} {f : Addr} {fd : FuncData} {ps : List Str} {sp : Sp} {W : L2.St → XK} {pins : List (Addr × Obj)} {σ : L2.St} {H : Hp} {s : Shared} {Q : VK} {us : List Value} {vs : List V} (F : FnQ X.prog X.w X.K X.mg X.base C k f fd ps sp) (hq : Quiet X.A) (room : Room k X.A) (hb : Binds X.K fd ps []) (out : PassesAt C X σ (W σ))
    (I : Inv X pins σ H s) (r : Vals vs us) (h : sp vs H Q (W σ)) : wpAny (model X.prog X.w) X.A (call (.ref f) us) (EP X pins σ Q) X.xe s := by
  have same : us.length = ps.length := r.length ▸ F.len _ _ _ _ h
  have bound := hb s us I.kIn (by rw [List.append_nil]; exact same)
  rw [List.append_nil] at bound
  refine wpAny_call (codeAny_mono (F.run X.A X.stack s H ⟨us, []⟩ us vs Q (W σ) hq room I.env0 bound r h) fun res s' ended => ?_)
  match res, ended with
  | .error e, he => exact out pins H s e s' I he
  | .ok (.ret u), he => exact I.after he
  | .ok .next, he => exact False.elim he
  | .ok .brk, he => exact False.elim he
  | .ok .cont, he => exact False.elim he
theorem pe_callQ {X : Cx} {k : Nat} {x : Str} {ps : List Str} {sp : Sp} {W : WX} {e : Expr} {es : List Expr} {t : TA} {p pos : Pos} (D : DkQ X.prog X.w X.K X.mg X.base k x ps sp) (hq : Quiet X.A) (room : Room k X.A) (tk : Takes X W) (ha : PA X (e :: es) t) (hg : Gl X x := by rfl)
    (dbg : (x == ("__debug__" : Str)) = false := by decide) (he : starEach (e :: es) X.env = (false, eval e X.env) :: starEach es X.env := by rfl) (plain : (backTo pos (starEach es X.env)).any (·.1) = false := by rfl) :
    PE X (.Call (.Name x p) (e :: es) [] pos) (tCallR sp W t) := by
  obtain ⟨fd, F, B⟩ := D.ok
  refine ⟨fun pins s σ H Q I goal => wpAny_Call_Name_kw (ld_glob I hg D.gm ?_ dbg)⟩
  refine PySem.W.callWith_K (h₀ := X.base) I.ok.mod.kin D.kp (thn (ha.run pos pins s σ H _ I goal) fun us s1 ⟨vs, H1, I1, r, q⟩ => ⟨I1.kIn, ?_⟩) he plain
  exact run_quiet (W := fun σ cls d H' => W cls d σ H') F hq room B (passAt tk σ) I1 r q
theorem fnQ_of {C : CXT} {P : Program} {w : World} {K : PySem.W.Frag} {mg : Str → Option Value} {base : Heap} {k : Nat} {f : Addr} {x : Str} {st : Stmt} {fd : FuncData} {N ps : List Str} {sp : Sp} (F : FnP K x st f fd) (S : FnScope N ps (defScope st)) (len : ∀ vs H Q E, sp vs H Q E → vs.length = ps.length)
    (body : ∀ (cdv : Value) (A : Around) (outer : List Env) (s : Shared) (H : Hp) (vs : List V) (Q : VK) (E : XK), Quiet A → Room k (A.deeper (envOfC x (defScope st) s.heap.objs.size f cdv)) → sp vs H Q E →
      ∃ t, PSs (cxOf C P w K mg base N x (defScope st) f cdv A outer s H E) (defBody st) t ∧ t { nx := fun _ H' => Q .non H', rt := Q } (L2.start N vs) H) : FnQ P w K mg base C (k + 1) f fd ps sp := by
  obtain ⟨oc, od, dV, kV, doc, pm, an, cdv, ct, osl, rfl, lk, hcd, _, _⟩ := F.ex
  refine ⟨len, fun A outer s H args us vs Q E hq room e0 bnd r hsp => ?_⟩
  have KX : K.In s.heap := e0.mod.kin.keeps fun b o e => (e0.bs b o e).1
  have nolim : s.heap.NoLimit := e0.mod.nolimit.keeps fun b o e => (e0.bs b o e).1
  refine codeAny_call_function room.depth (KX _ _ lk) rfl S.co S.gen rfl (PySem.W.codeRec_of KX hcd) (bnd _ _ _ _ ?_)
  refine wpAny_newFunctionEnv_cells S.kind (fun ⟨n, v⟩ hy => (S.par n (List.of_mem_zip hy).1).elim .inl fun q => .inr ⟨q, PySem.W.cellsFrom_some _ _ _ (.inl q)⟩) fun env he s1 new => ?_
  subst he
  refine ⟨nolim.keeps new.toInCall.keep, codeAny_func ?_⟩
  obtain ⟨t, walk, hgo⟩ := body cdv A outer s H vs Q E hq (room.deeper _) hsp
  have I : Inv (cxOf C P w K mg base N x (defScope st) f cdv A outer s H E) [] (L2.start N vs) H s1 := inv_start S room.hd e0 (len _ _ _ _ hsp) r new
  have fin : ∀ {σ' : L2.St} {H' : Hp} {v : V} {u : Value} {s' : Shared}, Inv (cxOf C P w K mg base N x (defScope st) f cdv A outer s H E) [] σ' H' s' → RelV v u → Q v H' → CE outer P w H s Q u s' :=
    fun {σ' H' v u s'} J rv q => ⟨v, H', J.os, J.bare, J.base, J.hok, rv, q⟩
  refine wpAny_mono (walk.run [] s1 (L2.start N vs) H _ I hgo) (fun fl s' ended => ?_) fun _ _ z => z
  match fl, ended with
  | .ret u, ⟨v, σ', H', J, rv, q⟩ => exact fin J rv q
  | .next, ⟨σ', H', J, q⟩ => exact fin (v := V.non) (u := Value.none) J rfl q
  | .brk, ⟨_, _, _, q⟩ => exact False.elim q
  | .cont, ⟨_, _, _, q⟩ => exact False.elim q
end Sg

/-! a law whose def holds its promise under a quiet stack -/
namespace Sg
open PySem PySem.Spec PyProof.Rows L2
section
variable {P : Program} {w : World} {K : PySem.W.Frag} {mg mb : Str → Option Value} {C : CXT} {k : Nat} {fa a : Addr} {fd : FuncData} {x : Str} {sp : Sp} {s₁ : Shared} {vs : List Value} {ns : List Int}
theorem law_from (KX : K.In s₁.heap) (nsM : s₁.heap.Ns mainGlobals mg) (nsB : s₁.heap.Ns builtinsNs mb) (boot : ∀ y : Str, y ≠ "__name__" → mb y = bootBuiltins y) (lim : s₁.heap.NoLimit) (noGen : s₁.gens = #[]) (script : s₁.heap.get? a = some { cls := .type "list", data := .seq vs.toArray })
    (room : Room k callerA) (F : ∀ base : Heap, K.In base → base.Ns mainGlobals mg → FnQ P w K mg base C k fa fd [x] sp) (bound : ∀ (s : Shared) (u : Value), BindsTo s fd ⟨[u], []⟩ [(x, u)]) (says : ∀ H : Hp, Only H → SqL K H a (ns.map V.int) → sp [.ref a] H (fun v _ => v = .bl true) fun _ _ _ => False)
    (none_out : ∀ H e s', C [] H s₁ (fun _ _ _ => False) e s' → False) (H : Hp) (only : Only H) (isS : SqL K H a (ns.map V.int)) (okH : HOk P w H s₁.heap) (sole : ∀ b, H b ≠ none → b = a) (own : H a ≠ none → K.lookup a = none) :
    codeAny (model P w) callerA (.call (.ref fa) ⟨[.ref a], []⟩) (fun r s' => r = .ok (.ret (.bool true)) ∧ OldK s₁.heap s'.heap ∧ s'.os = s₁.os ∧ AllBare s'.gens) s₁ := by
  have kept : ∀ {b : Addr} {o : Obj}, s₁.heap.get? b = some o → H b = none → (hidT s₁.heap H).get? b = some o := fun there free => hidT_get there free
  have free_of : ∀ {b : Addr}, b ≠ a → H b = none := fun {b} ne => Classical.byContradiction fun z => ne (sole b z)
  have dict_free : ∀ {b : Addr} {o : Obj} {es : Array DictEntry} {ep : Nat}, s₁.heap.get? b = some o → o.data = .dict es ep → H b = none := fun {b o es ep} there isD => free_of fun z => by
    rw [z, script] at there
    obtain rfl := Option.some.inj there
    exact nomatch (show Data.seq vs.toArray _ = Data.dict es ep from isD)
  have ns_kept : ∀ {b : Addr} {m : Str → Option Value}, s₁.heap.Ns b m → (hidT s₁.heap H).Ns b m := fun {b m} ⟨o, es, ep, there, isD, r⟩ => ⟨o, es, ep, kept there (dict_free there isD), isD, r⟩
  have K_kept : K.In (hidT s₁.heap H) := fun b o there => kept (KX b o there) (Classical.byContradiction fun z => by
    have eb := sole b z
    rw [eb] at z there
    rw [own z] at there
    cases there)
  have module : Mod K mg (hidT s₁.heap H) := ⟨K_kept, ns_kept nsM, ⟨mb, ns_kept nsB, boot⟩, let ⟨mc, l1, l2⟩ := lim; ⟨mc, ns_kept l1, l2⟩⟩
  have env : Env0 P w K mg (hidT s₁.heap H) callerA [] s₁ H := ⟨rfl, module, fun b o there => of_hidT there, Nat.le_of_eq (hidT_size _ _), trivial, fun b hb => absurd (show b ∈ ([] : List Addr) from hb) (by simp), okH, .of_eq noGen⟩
  refine codeAny_mono ((F _ K_kept (ns_kept nsM)).run callerA [] s₁ H ⟨[.ref a], []⟩ [.ref a] [.ref a] _ _ rfl room env (bound s₁ (.ref a)) (.cons rfl .nil) (says H only isS)) fun res s' ended => ?_
  match res, ended with
  | .error e, he => exact (none_out H e s' he).elim
  | .ok .next, he => exact False.elim he
  | .ok .brk, he => exact False.elim he
  | .ok .cont, he => exact False.elim he
  | .ok (.ret u), ⟨v, H', same, bare, un, ok', ru, hv⟩ =>
    obtain rfl : v = .bl true := hv
    obtain rfl : u = Value.bool true := ru
    refine ⟨rfl, OldK.of_keep fun b o there => ?_, same, bare⟩
    rcases only b with free | ⟨ob, xs, fz⟩
    · exact un.keep b o there free (fun z => absurd (show b ∈ ([] : List Addr) from z) (by simp)) (by simp)
    · have g1 := (okH b _ fz).1
      have g2 := (ok' b _ (un.frzs b ob _ fz)).1
      rw [there] at g1
      rw [Option.some.inj g1]
      exact g2
theorem law_quiet (KX : K.In s₁.heap) (nsM : s₁.heap.Ns mainGlobals mg) (nsB : s₁.heap.Ns builtinsNs mb) (boot : ∀ y : Str, y ≠ "__name__" → mb y = bootBuiltins y) (lim : s₁.heap.NoLimit) (noGen : s₁.gens = #[]) (script : s₁.heap.get? a = some { cls := .type "list", data := .seq vs.toArray })
    (whole : IntsAre vs ns) (few : ns.length ≤ sizeLine) (room : Room k callerA) (F : ∀ base : Heap, K.In base → base.Ns mainGlobals mg → FnQ P w K mg base C k fa fd [x] sp) (bound : ∀ (s : Shared) (u : Value), BindsTo s fd ⟨[u], []⟩ [(x, u)]) (says : ∀ H : Hp, Only H → SqL K H a (ns.map V.int) → sp [.ref a] H (fun v _ => v = .bl true) fun _ _ _ => False)
    (none_out : ∀ H e s', C [] H s₁ (fun _ _ _ => False) e s' → False) : codeAny (model P w) callerA (.call (.ref fa) ⟨[.ref a], []⟩) (fun r s' => r = .ok (.ret (.bool true)) ∧ OldK s₁.heap s'.heap ∧ s'.os = s₁.os ∧ AllBare s'.gens) s₁ := by
  have vals := vals_ints whole
  have size := whole.length
  have go := law_from KX nsM nsB boot lim noGen script room F bound says none_out
  cases look : K.lookup a with
  | some o =>
    have there := KX a o look
    rw [script] at there
    obtain rfl := Option.some.inj there
    exact go (fun _ => none) (fun _ => .inl rfl) (.inr ⟨_, vs.toArray, _, look, rfl, rfl, rfl, by rw [List.size_toArray, size]; exact few, by simpa using vals⟩) (fun b u z => nomatch (show (none : Option HO) = some u from z)) (fun b z => absurd rfl z) fun z => absurd rfl z
  | none =>
    let H : Hp := upd (fun _ => none) a (.frz { cls := .type "list", data := .seq vs.toArray } (.lst (ns.map V.int)))
    have at_a : H a = some (.frz { cls := .type "list", data := .seq vs.toArray } (.lst (ns.map V.int))) := upd_same
    have off : ∀ b, b ≠ a → H b = none := fun b ne => upd_ne ne
    refine go H (fun b => ?_) (.inl (.inr ⟨_, at_a⟩)) (fun b u z => ?_) (fun b z => Classical.byContradiction fun ne => z (off b ne)) fun _ => look
    · by_cases e : b = a
      · exact .inr ⟨_, _, by rw [e]; exact at_a⟩
      · exact .inl (off b e)
    · by_cases e : b = a
      · rw [e, at_a] at z
        obtain rfl := Option.some.inj z
        rw [e]
        exact ⟨script, by rw [List.length_map]; exact few, vs, _, vals, script⟩
      · rw [off b e] at z
        cases z
end
theorem walk_quiet {l : PySem.W.OpenLaw} {n k : Nat} {q : Program} {loose : List Str} {XP : (Str → Option Value) → Heap → Prop} {YP : World → Heap → Prop} {d : DefRec} {C : CXT} {x : Str} (most : l.most = some n) (fits : n ≤ sizeLine) (plain : d.params.defaults = []) (room : Room k callerA)
    (F : ∀ (w : World) (mg : Str → Option Value) (fa : Addr) (h : Heap), YP w h → h.Ns mainGlobals mg → mg d.name = some (.ref fa) →
      ∃ (K : PySem.W.Frag) (fd : FuncData) (sp : Sp), K.In h ∧ (∀ (s : Shared) (u : Value), BindsTo s fd ⟨[u], []⟩ [(x, u)]) ∧ (∀ (H : Hp) (a : Addr) (ns : List Int), ns.length ≤ n → Only H → SqL K H a (ns.map V.int) → sp [.ref a] H (fun v _ => v = .bl true) fun _ _ _ => False) ∧
        ∀ base : Heap, K.In base → base.Ns mainGlobals mg → FnQ l.prog w K mg base C k fa fd [x] sp)
    (none_out : ∀ (H : Hp) (s : Shared) (e : Value) (s' : Shared), C [] H s (fun _ _ _ => False) e s' → False) : PySem.W.WalkO q loose XP YP l.row.toRowW d [] (fun f vs => PySem.call f vs) := by
  refine Att.attach_call most plain fun w s₀ s₁ mg mb fa o pm cd doc a vs ns G Y ho hd hcd hmg hobj whole hlen noGen => ?_
  obtain ⟨K, fd, sp, KX, bound, says, keeps⟩ := F w mg fa _ Y G.T.g hmg
  exact law_quiet KX G.T.g G.T.b G.T.builtins G.T.nolimit noGen hobj whole (Nat.le_trans hlen fits) room keeps bound (fun H only isS => says H a ns hlen only isS) fun H e s' => none_out H s₁ e s'
end Sg

/-! lookers as data for == and repr -/
namespace Sg
open PySem PySem.Spec PyProof.Rows L2
structure GoodD (d : PyData) : Prop where
  lay : d.canLay0 = true
  show_ : d.showable = true
  deep : d.depth ≤ 50
  size : d.shown.length ≤ sizeLine
theorem GoodD.shaped {d : PyData} (h : GoodD d) : SeqAt.shaped d = true := by
  unfold SeqAt.shaped
  rw [h.lay, decide_eq_true (Nat.le_trans h.deep (by decide))]
  rfl
theorem GoodD.noDict {d : PyData} (h : GoodD d) : d.hasDict = false := PyData.hasDict_of_canLay d h.lay
theorem GoodD.refl {d : PyData} (h : GoodD d) : PyData.eqv d d = true := SeqAt.eqv_refl d h.lay
def rowD (r : LRow) : PyData := .tuple [.int r.1, .tuple (r.2.map PyData.int)]
def lkD (z : Str) (rs : List LRow) : PyData := .tuple [.str z, .tuple (rs.map rowD)]
theorem ints_dp {K : PySem.W.Frag} {H : Hp} : ∀ l : List Int, DpAll K H (l.map V.int) (l.map PyData.int)
  | [] => .nil
  | i :: l => .cons (.int i) (ints_dp l)
theorem rows_dp {K : PySem.W.Frag} {H : Hp} {vs : List V} {rs : List LRow} (h : Paired (RSt K H) vs rs) : DpAll K H vs (rs.map rowD) := by
  induction h with
  | nil => exact .nil
  | cons r _ ih =>
    obtain ⟨a, b, rfl, h1, h2⟩ := r
    exact .cons (.tup h1 (.cons (.int _) (.cons (.tup h2 (ints_dp _)) .nil))) ih
theorem RLk.dp {K : PySem.W.Frag} {H : Hp} {v : V} {z : Str} {rs : List LRow} (h : RLk K H v z rs) : Dp K H v (lkD z rs) := by
  obtain ⟨a, b, rfl, h1, vs, h2, h3⟩ := h
  exact .tup h1 (.cons (.str z) (.cons (.tup h2 (rows_dp h3)) .nil))
/-! how great -/
theorem int_short : ∀ n : Fin 600, (PyData.shown (.int (n.val : Int))).length ≤ 8 ∧ PyData.weight (.int (n.val : Int)) ≤ 10 ∧ PyData.showable (.int (n.val : Int)) = true := by decide +kernel
theorem int_ok {i : Int} (h0 : 0 ≤ i) (h1 : i < 600) : (PyData.shown (.int i)).length ≤ 8 ∧ PyData.weight (.int i) ≤ 10 ∧ PyData.showable (.int i) = true := by
  have := int_short ⟨i.toNat, by omega⟩
  have e : ((i.toNat : Nat) : Int) = i := by omega
  rwa [show ((⟨i.toNat, by omega⟩ : Fin 600).val : Int) = i from e] at this
structure ListOk (ds : List PyData) (w dp : Nat) : Prop where
  lay : PyData.canLayAll0 ds = true
  show_ : PyData.showableAll ds = true
  short : PyData.leavesShortAll 8 ds = true
  deep : PyData.depthAll ds ≤ dp
  wt : PyData.weightAll ds ≤ ds.length * w
theorem listOk_map {α : Type} {f : α → PyData} {w dp : Nat} : ∀ {l : List α}, (∀ a ∈ l, (f a).canLay0 = true ∧ (f a).showable = true ∧ (f a).leavesShort 8 = true ∧ (f a).depth ≤ dp ∧ (f a).weight + 1 ≤ w) → ListOk (l.map f) w dp
  | [], _ => ⟨rfl, rfl, rfl, Nat.zero_le _, Nat.zero_le _⟩
  | a :: l, h => by
    obtain ⟨h1, h2, h3, h4, h5⟩ := h a List.mem_cons_self
    have ih := listOk_map (w := w) (dp := dp) (l := l) fun b hb => h b (List.mem_cons_of_mem _ hb)
    refine ⟨?_, ?_, ?_, ?_, ?_⟩
    · show ((f a).canLay0 && PyData.canLayAll0 (l.map f)) = true
      rw [h1, ih.lay]; rfl
    · show ((f a).showable && PyData.showableAll (l.map f)) = true
      rw [h2, ih.show_]; rfl
    · show ((f a).leavesShort 8 && PyData.leavesShortAll 8 (l.map f)) = true
      rw [h3, ih.short]; rfl
    · show max (f a).depth (PyData.depthAll (l.map f)) ≤ dp
      have := ih.deep
      omega
    · show (f a).weight + 1 + PyData.weightAll (l.map f) ≤ (l.map f).length.succ * w
      have := ih.wt
      rw [Nat.succ_mul]
      omega
theorem row_good {n : Nat} {rs : List LRow} (ok : RowsOk n rs) (hn : n ≤ 5) : ∀ r ∈ rs, (rowD r).canLay0 = true ∧ (rowD r).showable = true ∧ (rowD r).leavesShort 8 = true ∧ (rowD r).depth ≤ 2 ∧ (rowD r).weight + 1 ≤ 80 := by
  intro r hr
  have h600 := ok.top
  have hb := ok.bit r hr
  obtain ⟨b1, b2, b3⟩ := int_ok (i := r.1) (by omega) (by omega)
  have hw := ok.wid r hr
  have L := listOk_map (f := PyData.int) (w := 11) (dp := 0) (l := r.2) fun q hq => by
    have ht := ok.to r hr q hq
    obtain ⟨c1, c2, c3⟩ := int_ok (i := q) ht.1 (by omega)
    exact ⟨rfl, c3, decide_eq_true c1, Nat.le_refl _, by omega⟩
  have hlen : (r.2.map PyData.int).length ≤ 5 := by rw [List.length_map]; omega
  have hwt : PyData.weightAll (r.2.map PyData.int) ≤ 55 := Nat.le_trans L.wt (by omega)
  refine ⟨?_, ?_, ?_, ?_, ?_⟩
  · show (true && (PyData.canLayAll0 (r.2.map PyData.int) && true)) = true
    rw [L.lay]; rfl
  · show (PyData.showable (.int r.1) && (PyData.showableAll (r.2.map PyData.int) && true)) = true
    rw [b3, L.show_]; rfl
  · show (decide ((PyData.shown (.int r.1)).length ≤ 8) && (PyData.leavesShortAll 8 (r.2.map PyData.int) && true)) = true
    rw [decide_eq_true b1, L.short]; rfl
  · show max 0 (max (PyData.depthAll (r.2.map PyData.int) + 1) 0) + 1 ≤ 2
    have := L.deep
    omega
  · show (PyData.weight (.int r.1) + 1 + (PyData.weightAll (r.2.map PyData.int) + 1 + 0)) + 1 ≤ 80
    omega
theorem lk_good {z : Str} {rs : List LRow} (hz : SignsOk z) (ok : RowsOk z.length rs) : GoodD (lkD z rs) := by
  have h600 := ok.top
  have hz5 := hz.top
  have L := listOk_map (f := rowD) (w := 80) (dp := 2) (l := rs) (row_good ok hz5)
  have hz1 : PyData.strOk z = true := by
    unfold PyData.strOk
    rw [Array.all_eq_true_iff_forall_mem]
    intro c hc
    have := hz.low c (Array.mem_toList_iff.mpr hc)
    exact decide_eq_true (Nat.lt_of_lt_of_le this (by decide))
  have hsh : (lkD z rs).leavesShort 8 = true := by
    show ((z.cps.toList.all fun c => decide (c < 16 ^ 8)) && (PyData.leavesShortAll 8 (rs.map rowD) && true)) = true
    rw [L.short, List.all_eq_true.mpr fun c hc => decide_eq_true (Nat.lt_of_lt_of_le (hz.low c hc) (by decide))]
    rfl
  have hwt : PyData.weightAll (rs.map rowD) ≤ 48000 := Nat.le_trans L.wt (by rw [List.length_map]; omega)
  refine ⟨?_, ?_, ?_, ?_⟩
  · show (PyData.strOk z && (PyData.canLayAll0 (rs.map rowD) && true)) = true
    rw [hz1, L.lay]; rfl
  · show (true && (PyData.showableAll (rs.map rowD) && true)) = true
    rw [L.show_]; rfl
  · show max 0 (max (PyData.depthAll (rs.map rowD) + 1) 0) + 1 ≤ 50
    have := L.deep
    omega
  · refine PyData.shown_fits (B := 8) (Nat.le_refl _) (by omega) hsh ?_
    show z.cps.size + 1 + (PyData.weightAll (rs.map rowD) + 1 + 0) ≤ 2 ^ 20
    have : z.cps.size = z.length := rfl
    have e : (2 : Nat) ^ 20 = 1048576 := by decide
    omega
/-! is, is not of two truth values -/
def rNotT : R2 := fun x y H Q => match x, y with
  | .bl c, .bl d => Q (.bl (c != d)) H
  | _, _ => False
theorem op_isnotB {X : Cx} : OpR X (compareOp .IsNot) rNotT := by
  intro pins s σ H x y v u Q I rx ry h
  match x, y, h with
  | .bl c, .bl d, q =>
    cases (show v = Value.bool c from rx)
    cases (show u = Value.bool d from ry)
    exact isnot_bool ⟨.bl (c != d), H, I, rfl, q⟩
end Sg

/-! raise of an own error with any one argument; lists told with things laid on the way; counts -/
namespace Sg
open PySem PySem.Spec PyProof.Rows L2
theorem pmk_ownE {X : Cx} {C : Addr} {bmB : List Value} {B newId initId : String} {x : Str} {e : Expr} {te : TE} {p pos : Pos} (F : ExcBaseFacts B newId initId bmB) (q : PySem.W.excIn X.K C bmB newId = true) (gC : X.mg x = some (.ref C)) (kC : PySem.W.keepIn X.K (.ref C) = true) (raises : Raises X (.ref C)) (he : PE X e te) (hg : Gl X x)
    (dbg : (x == ("__debug__" : Str)) = false := by decide) (st : starEach [e] X.env = (false, eval e X.env) :: starEach [] X.env := by rfl) (plain : (backTo pos (starEach [] X.env)).any (·.1) = false := by rfl) : PMk X (.Call (.Name x p) [e] [] pos) (fun σ H Q => te σ H fun _ H1 => Q (.ref C) none H1) := by
  intro pins s σ H Q I goal
  refine wpAny_Call_Name_kw (ld_glob I hg gC ?_ dbg)
  have ha : PA X [e] (tCons te tNil) := pa_cons he pa_nil (hs := st)
  refine PySem.W.callWith_K (h₀ := X.base) I.ok.mod.kin kC (thn (ha.run pos pins s σ H (fun vs H1 => match vs with | [_] => Q (.ref C) none H1 | _ => False) I goal) fun us s1 ⟨vs, H1, I1, r1, q1⟩ => ?_) st plain
  refine ⟨I1.kIn, ?_⟩
  match vs, q1, r1 with
  | [v], q1, r1 =>
  obtain ⟨u, rfl, _⟩ := vals1 r1
  obtain ⟨bm, N, nm, qn, bs, hdct, sn, sub, ab, col, dd, k0, k1, k2, k3, k5, mN, hC, hN, hni, T⟩ := exc_obj I1.kIn q
  refine wpAny_call_exc_subT F T hC hN hni (fun h' e hm => ?_) (by show 1 ≤ sizeLine; rw [sizeLine_eq]; omega)
  exact mk_of I1 hm raises q1 (I1.hok.gone hm.new)
end Sg

/-! how many texts of a length are taken, in plain Lean -/
namespace Sg
open PySem PySem.Spec PyProof.Rows L2
def cntL (n : Nat) : Nat → Lang → Int
  | 0, L => L []
  | k + 1, L => ((List.range n).map fun x => cntL n k (der L x)).sum
def cntAt (n : Nat) (rs : List LRow) (k : Nat) (p : Int) : Int := cntL n k (lang rs p)
theorem cnt_succ {n : Nat} {rs : List LRow} (ok : RowsOk n rs) {p : Int} (hp : InSt rs p) (k : Nat) : cntAt n rs (k + 1) p = ((rowOf rs p).2.map (cntAt n rs k)).sum := by
  have e : (rowOf rs p).2 = (List.range n).map (nxt rs p) := by
    apply List.ext_getElem?
    intro x
    rw [List.getElem?_map]
    by_cases hx : x < n
    · rw [nxt_get ok hp hx, List.getElem?_range hx]
      rfl
    · have := ok.wid _ (rowOf_mem hp)
      rw [List.getElem?_eq_none (by omega), List.getElem?_eq_none (by simpa using hx)]
      rfl
  rw [e, List.map_map]
  rfl
/-- the ends exchanged -/
def flip (rs : List LRow) : List LRow := rs.map fun r => (1 - r.1, r.2)
theorem flip_row {rs : List LRow} {p : Int} (hp : InSt rs p) : rowOf (flip rs) p = (1 - (rowOf rs p).1, (rowOf rs p).2) := by
  have h1 := rowOf_get hp
  have hf : InSt (flip rs) p := ⟨hp.1, by unfold flip; rw [List.length_map]; exact hp.2⟩
  have h2 := rowOf_get hf
  unfold flip at h2
  rw [List.getElem?_map, h1] at h2
  exact (Option.some.inj h2).symm
theorem flip_ok {n : Nat} {rs : List LRow} (ok : RowsOk n rs) : RowsOk n (flip rs) := by
  have hl : (flip rs).length = rs.length := by unfold flip; rw [List.length_map]
  refine ⟨by rw [hl]; exact ok.pos, by rw [hl]; exact ok.top, fun r hr => ?_, fun r hr => ?_, fun r hr => ?_⟩
  · obtain ⟨r0, h0, rfl⟩ := List.mem_map.mp hr
    have := ok.bit r0 h0
    show 1 - r0.1 = 0 ∨ 1 - r0.1 = 1
    omega
  · obtain ⟨r0, h0, rfl⟩ := List.mem_map.mp hr
    exact ok.wid r0 h0
  · obtain ⟨r0, h0, rfl⟩ := List.mem_map.mp hr
    rw [hl]
    exact ok.to r0 h0
theorem sum_sub (a : Int) : ∀ (l : List Int) (f g : Int → Int), (∀ x ∈ l, g x = a - f x) → (l.map g).sum = (l.length : Int) * a - (l.map f).sum
  | [], f, g, _ => by simp
  | x :: l, f, g, h => by
    have ih := sum_sub a l f g fun y hy => h y (List.mem_cons_of_mem _ hy)
    rw [List.map_cons, List.map_cons, List.sum_cons, List.sum_cons, ih, h x List.mem_cons_self, List.length_cons]
    have : ((l.length + 1 : Nat) : Int) * a = (l.length : Int) * a + a := by
      rw [show ((l.length + 1 : Nat) : Int) = (l.length : Int) + 1 by omega, Int.add_mul, Int.one_mul]
    rw [this]
    omega
theorem cnt_flip {n : Nat} {rs : List LRow} (ok : RowsOk n rs) : ∀ (k : Nat) (p : Int), InSt rs p → cntAt n (flip rs) k p = (n : Int) ^ k - cntAt n rs k p
  | 0, p, hp => by
    show endAt (flip rs) p = 1 - endAt rs p
    unfold endAt
    rw [flip_row hp]
  | k + 1, p, hp => by
    have hf : InSt (flip rs) p := ⟨hp.1, by unfold flip; rw [List.length_map]; exact hp.2⟩
    rw [cnt_succ (flip_ok ok) hf, cnt_succ ok hp, flip_row hp, sum_sub ((n : Int) ^ k) _ (cntAt n rs k) (cntAt n (flip rs) k) fun q hq => cnt_flip ok k q (by
      have := ok.to _ (rowOf_mem hp) q hq
      exact this), ok.wid _ (rowOf_mem hp), Int.pow_succ, Int.mul_comm]
theorem cnt_least {n : Nat} {r1 r2 : List LRow} (h : lang r1 0 = lang r2 0) (k : Nat) : cntAt n r1 k 0 = cntAt n r2 k 0 := by
  unfold cntAt
  rw [h]
end Sg
namespace Sg
open PySem PySem.Spec PyProof.Rows L2
/-- a list told over a tuple, things being laid on the way -/
theorem lc_grow {K : PySem.W.Frag} {a D : Addr} {xs ys : List V} {j : Nat} {te : TE} {vs : List Nat} {σ : L2.St} {H1 : Hp} {Qd : Hp → Prop} (hD : H1 D = none) (hA : SqT K H1 a xs) (hl : ys.length = xs.length) (hz : xs.length ≤ 100000)
    (hw : ∀ x, wipe ((wipe σ vs).set j (some x)) vs = wipe σ vs)
    (hs : ∀ (i : Nat) (x y : V), xs[i]? = some x → ys[i]? = some y → ∀ H', Same H1 H' → ∀ R : V → Hp → Prop, (∀ H'', Same H' H'' → R y H'') → te ((wipe σ vs).set j (some x)) H' R)
    (hd : ∀ H', Same H1 H' → H' D = some (.lst ys) → Qd H') :
    ∃ W : Nat → Nat → Hp → Prop, (∃ m, W 0 m (upd H1 D (.lst []))) ∧ ∀ i m H, W i m H →
      ((Itt K a).stop i H ∧ Qd H) ∨ ((Itt K a).go i H ∧ ∃ Nx : Hp → Prop, (∀ H', Nx H' → ∃ m', m' < m ∧ W (i + 1) m' H') ∧ ∀ x H', (Itt K a).yld i H x H' → gName j x (wipe σ vs) H' fun σ2 H2 => wipe σ2 vs = wipe σ vs ∧ tYes σ2 H2 fun b H3 =>
        if b = true then te σ2 H3 fun y H4 => ∃ acc, H4 D = some (.lst acc) ∧ acc.length < sizeLine ∧ Nx (upd H4 D (.lst (acc ++ [y]))) else Nx H3) := by
  refine lc_gen (n := xs.length) (fun i H => Same H1 H ∧ H D = some (.lst (ys.take i))) ⟨same_upd hD, upd_same⟩ (fun i H hi e => ?_) (fun H e => ?_) (fun i x H H' hi e y => ?_) (fun H e => ?_)
  · obtain ⟨x, hx⟩ : ∃ x, xs[i]? = some x := ⟨_, List.getElem?_eq_getElem hi⟩
    exact ⟨xs, x, Same.sqT e.1 hA, hx⟩
  · exact ⟨xs, Same.sqT e.1 hA, Nat.le_refl _⟩
  · obtain ⟨rfl, hx⟩ := y
    have hx2 := hx xs (Same.sqT e.1 hA)
    obtain ⟨v, hv⟩ : ∃ v, ys[i]? = some v := ⟨_, List.getElem?_eq_getElem (by omega)⟩
    refine ⟨hw x, ?_⟩
    refine hs i x v hx2 hv H' e.1 _ fun H'' s => ⟨_, s _ _ e.2, ?_, fun b o hb => ?_, ?_⟩
    · rw [List.length_take]
      exact szlt (m := 100000) (by omega)
    · rw [upd_ne (ne_of_none hb hD)]
      exact s _ _ (e.1 b o hb)
    · rw [upd_same, List.take_add_one, hv]
      rfl
  · refine hd H e.1 ?_
    have h2 := e.2
    rwa [← hl, List.take_length] at h2
theorem stR_get {n i : Nat} (h : i < n) : (stR n)[i]? = some (i : Int) := by
  unfold stR
  rw [List.getElem?_map, List.getElem?_range h]
  rfl
theorem mk_stR {n : Nat} {f : Int → Int} {q : Int} (h0 : 0 ≤ q) (h1 : q < (n : Int)) : mk ((stR n).map f) q = f q := by
  have e : ((q.toNat : Nat) : Int) = q := by omega
  unfold mk
  rw [List.getD_eq_getElem?_getD, List.getElem?_map, stR_get (by omega), e]
  rfl
end Sg

/-! counting forwards: a list of counts, and its sum with weights -/
namespace Sg
open PySem PySem.Spec PyProof.Rows L2
def dot (f : Int → Int) : Nat → List Int → Int
  | _, [] => 0
  | i, a :: l => a * f (i : Int) + dot f (i + 1) l
theorem dot_snoc (f : Int → Int) : ∀ (l : List Int) (i : Nat) (a : Int), dot f i (l ++ [a]) = dot f i l + a * f ((i + l.length : Nat) : Int)
  | [], i, a => by
    show a * f (i : Int) + 0 = 0 + a * f ((i + 0 : Nat) : Int)
    rw [Nat.add_zero]
    omega
  | b :: l, i, a => by
    show b * f (i : Int) + dot f (i + 1) (l ++ [a]) = b * f (i : Int) + dot f (i + 1) l + _
    rw [dot_snoc f l (i + 1) a, List.length_cons, show i + 1 + l.length = i + (l.length + 1) by omega, Int.add_assoc]
theorem dot_set (f : Int → Int) : ∀ (l : List Int) (i j : Nat) (a b : Int), l[j]? = some a → dot f i (l.set j b) = dot f i l + (b - a) * f ((i + j : Nat) : Int)
  | [], _, _, _, _, h => by simp at h
  | c :: l, i, 0, a, b, h => by
    obtain rfl := Option.some.inj h
    show b * f (i : Int) + dot f (i + 1) l = c * f (i : Int) + dot f (i + 1) l + (b - c) * f ((i + 0 : Nat) : Int)
    rw [Nat.add_zero, Int.sub_mul]
    generalize b * f (i : Int) = u
    generalize c * f (i : Int) = v
    omega
  | c :: l, i, j + 1, a, b, h => by
    show c * f (i : Int) + dot f (i + 1) (l.set j b) = c * f (i : Int) + dot f (i + 1) l + _
    rw [dot_set f l (i + 1) j a b h, show i + 1 + j = i + (j + 1) by omega, Int.add_assoc]
theorem dot_zero (f : Int → Int) : ∀ (n i : Nat), dot f i (List.replicate n 0) = 0
  | 0, _ => rfl
  | n + 1, i => by
    show 0 * f (i : Int) + dot f (i + 1) (List.replicate n 0) = 0
    rw [dot_zero f n (i + 1), Int.zero_mul]
    rfl
theorem dot_congr {f g : Int → Int} : ∀ (l : List Int) (i : Nat), (∀ j, j < l.length → f ((i + j : Nat) : Int) = g ((i + j : Nat) : Int)) → dot f i l = dot g i l
  | [], _, _ => rfl
  | a :: l, i, h => by
    show a * f (i : Int) + dot f (i + 1) l = a * g (i : Int) + dot g (i + 1) l
    have h0 := h 0 (Nat.zero_lt_succ _)
    rw [Nat.add_zero] at h0
    have h1 : dot f (i + 1) l = dot g (i + 1) l := dot_congr l (i + 1) fun j hj => by
      have := h (j + 1) (Nat.succ_lt_succ hj)
      rwa [show i + (j + 1) = i + 1 + j by omega] at this
    rw [h0, h1]
theorem dot_take (f : Int → Int) (l : List Int) (p : Nat) (a : Int) (h : l[p]? = some a) : dot f 0 (l.take (p + 1)) = dot f 0 (l.take p) + a * f (p : Int) := by
  have hp : p < l.length := (List.getElem?_eq_some_iff.mp h).1
  rw [List.take_add_one, h]
  show dot f 0 (l.take p ++ [a]) = _
  rw [dot_snoc, List.length_take, Nat.min_eq_left (by omega), Nat.zero_add]
def one0 (N : Nat) : List Int := (List.range N).map fun p => if p = 0 then 1 else 0
theorem dot_one0 (f : Int → Int) : ∀ N, dot f 0 (one0 N) = if N = 0 then 0 else f 0
  | 0 => rfl
  | N + 1 => by
    unfold one0
    rw [List.range_succ, List.map_append]
    show dot f 0 (one0 N ++ [if N = 0 then 1 else 0]) = _
    rw [dot_snoc, dot_one0 f N]
    have e : (one0 N).length = N := by unfold one0; rw [List.length_map, List.length_range]
    rw [e]
    by_cases h : N = 0
    · subst h
      show 0 + 1 * f ((0 + 0 : Nat) : Int) = f 0
      rw [Int.one_mul, Int.zero_add]
      rfl
    · rw [if_neg h, if_neg h, if_neg (Nat.succ_ne_zero N), Int.zero_mul, Int.add_zero]
def pick (f : Int → Int) (T : List Int) : Nat → List Int
  | 0 => []
  | i + 1 => pick f T i ++ if f (i : Int) = 1 then [mk T i] else []
theorem pick_len (f : Int → Int) (T : List Int) : ∀ i, (pick f T i).length ≤ i
  | 0 => Nat.le_refl _
  | i + 1 => by
    have := pick_len f T i
    unfold pick
    rw [List.length_append]
    split
    · exact Nat.succ_le_succ this
    · simp; omega
theorem pick_sum {f : Int → Int} {T : List Int} : ∀ i, i ≤ T.length → (∀ j : Nat, j < i → f (j : Int) = 0 ∨ f (j : Int) = 1) → (pick f T i).sum = dot f 0 (T.take i)
  | 0, _, _ => rfl
  | i + 1, hi, h => by
    have hg : T[i]? = some (mk T (i : Int)) := by
      unfold mk
      rw [Int.toNat_natCast, List.getD_eq_getElem?_getD, List.getElem?_eq_getElem hi]
      rfl
    rw [dot_take f T i _ hg, ← pick_sum i (by omega) fun j hj => h j (by omega)]
    show (pick f T i ++ if f (i : Int) = 1 then [mk T i] else []).sum = _
    rcases h i (by omega) with e | e
    · rw [e, if_neg (by decide), List.append_nil, Int.mul_zero, Int.add_zero]
    · rw [e, if_pos rfl, List.sum_append_int, Int.mul_one]
      simp
end Sg
namespace Sg
open PySem PySem.Spec PyProof.Rows L2
theorem sum_box (a : Int) : ∀ (l : List Int) (f : Int → Int), (∀ x ∈ l, 0 ≤ f x ∧ f x ≤ a) → 0 ≤ (l.map f).sum ∧ (l.map f).sum ≤ (l.length : Int) * a
  | [], f, _ => by simp
  | x :: l, f, h => by
    have ih := sum_box a l f fun y hy => h y (List.mem_cons_of_mem _ hy)
    have hx := h x List.mem_cons_self
    rw [List.map_cons, List.sum_cons, List.length_cons]
    have : ((l.length + 1 : Nat) : Int) * a = (l.length : Int) * a + a := by
      rw [show ((l.length + 1 : Nat) : Int) = (l.length : Int) + 1 by omega, Int.add_mul, Int.one_mul]
    rw [this]
    omega
/-- a count lies between none and all -/
theorem cnt_box {n : Nat} {rs : List LRow} (ok : RowsOk n rs) : ∀ (k : Nat) (p : Int), InSt rs p → 0 ≤ cntAt n rs k p ∧ cntAt n rs k p ≤ (n : Int) ^ k
  | 0, p, hp => by
    have : endAt rs p = 0 ∨ endAt rs p = 1 := ok.bit _ (rowOf_mem hp)
    show 0 ≤ endAt rs p ∧ endAt rs p ≤ 1
    omega
  | k + 1, p, hp => by
    rw [cnt_succ ok hp]
    have h := sum_box ((n : Int) ^ k) (rowOf rs p).2 (cntAt n rs k) fun q hq => cnt_box ok k q (ok.to _ (rowOf_mem hp) q hq)
    rw [ok.wid _ (rowOf_mem hp)] at h
    rw [Int.pow_succ, Int.mul_comm]
    exact h
/-- so it can be shown -/
theorem box_show {n k : Nat} {c : Int} (hn : n ≤ 5) (hk : k ≤ 200) (h0 : 0 ≤ c) (h1 : c ≤ (n : Int) ^ k) : c.natAbs.log2 < 1920 := by
  have h2 : c.natAbs ≤ n ^ k := by
    have : ((n ^ k : Nat) : Int) = (n : Int) ^ k := Int.natCast_pow n k
    omega
  have h3 : n ^ k ≤ 2 ^ 600 := by
    refine Nat.le_trans (Nat.pow_le_pow_left (Nat.le_trans hn (by decide : 5 ≤ 2 ^ 3)) k) ?_
    rw [← Nat.pow_mul]
    exact Nat.pow_le_pow_right (by decide) (by omega)
  by_cases hc : c.natAbs = 0
  · rw [hc]
    decide
  · have := (Nat.log2_lt hc (k := 1920)).mpr (Nat.lt_of_le_of_lt (Nat.le_trans h2 h3) (Nat.pow_lt_pow_right (by decide) (by decide)))
    exact this
end Sg

/-! a def called with keywords alone -/
namespace Sg
open PySem PySem.Spec PyProof.Rows L2
structure DkK (P : Program) (w : World) (K : PySem.W.Frag) (mg : Str → Option Value) (base : Heap) (k : Nat) (x : Str) (ps ks : List Str) (g : List Value → List Value → List Value) (gV : List V → List V → List V) (sp : Sp) : Prop where
  ok : ∃ fd, FnOk P w K mg base (L2.CX P w) k (He.ga K x) fd ps sp ∧ KBinds K fd ps ks g gV
  kp : PySem.W.keepIn K (.ref (He.ga K x)) = true
  gm : mg x = some (.ref (He.ga K x))
def tCallRK (sp : Sp) (gV : List V → List V → List V) (W : WX) (t : TA) : TE := fun σ H Q => t σ H fun zs H1 => sp (gV [] zs) H1 Q fun cls d H' => W cls d σ H'
theorem pe_callRK0 {X : Cx} {k : Nat} {x : Str} {ps ks : List Str} {g : List Value → List Value → List Value} {gV : List V → List V → List V} {sp : Sp} {W : WX} {kws : List Keyword} {t : TA} {p pos : Pos} (D : DkK X.prog X.w X.K X.mg X.base k x ps ks g gV sp) (hr : Room k X.A) (tk : Takes X W) (hkw : PK X kws t) (hg : Gl X x := by rfl)
    (hall : (backToKw pos (keywordEach kws X.env)).all (·.1.isSome) = true := by rfl) (hks : (backToKw pos (keywordEach kws X.env)).filterMap (·.1) = ks := by rfl)
    (hdb : (x == ("__debug__" : Str)) = false := by decide) (hpl : ((backTo pos (starEach [] X.env)).any (·.1) || (backToKw pos (keywordEach kws X.env)).any (·.1.isNone)) = false := by rfl) :
    PE X (.Call (.Name x p) [] kws pos) (tCallRK sp gV W t) := by
  obtain ⟨fd, F, B⟩ := D.ok
  refine ⟨fun pins s σ H Q I goal => wpAny_Call_Name_kw (ld_glob I hg D.gm ?_ hdb)⟩
  refine PySem.W.callWith_KW0 (h₀ := X.base) I.ok.mod.kin D.kp hall (thn (hkw.run pos pins s σ H _ I goal) fun ws s1 ⟨zs, H1, I1, rz, q⟩ => ⟨I1.kIn, ?_⟩) hpl
  rw [hks]
  have r2 := B.rel (vs := []) (us := []) .nil rz
  have hl : (g [] ws).length = ps.length := by rw [← r2.length]; exact F.len _ _ _ _ q
  refine wpAny_call (codeAny_mono (F.run X.A X.stack s1 H1 ⟨[], ks.zip ws⟩ (g [] ws) (gV [] zs) Q (fun cls d H' => W cls d σ H') hr I1.env0 (B.to s1 [] ws I1.kIn hl) r2 q) fun r s' hq => ?_)
  match r, hq with
  | .error e, he => exact passAt tk σ pins H1 s1 e s' I1 he
  | .ok (.ret u), he => exact I1.after he
  | .ok .next, he => exact False.elim he
  | .ok .brk, he => exact False.elim he
  | .ok .cont, he => exact False.elim he
/-- two keywords, the second parameter first -/
def swG (us ws : List Value) : List Value := match us, ws with
  | [], [b, a] => [a, b]
  | _, _ => []
def swV (vs zs : List V) : List V := match vs, zs with
  | [], [b, a] => [a, b]
  | _, _ => []
theorem sw_binds {K : PySem.W.Frag} {x qual : Str} {params : Arguments} {body : List Stmt} {scope : Scope} {kws : List (Str × V)} {f : Addr} {fd : FuncData} {p1 p2 : Str} (F : FunD K x qual params body scope [] kws f fd)
    (h : ∀ (kV doc pm : Value) (an : Option Addr) (cdv ct : Value) (a b : Value), bindArgs (PySem.W.fnOf x qual params body scope .none kV doc pm an cdv ct) ⟨[], [(p2, b), (p1, a)]⟩ = pure [(p1, a), (p2, b)]) : KBinds K fd [p1, p2] [p2, p1] swG swV := by
  obtain ⟨oc, od, dV, kV, doc, pm, an, cdv, ct, osl, rfl, lk, hcd, hD, hK⟩ := F.ex
  rcases hD with ⟨_, rfl⟩ | ⟨e, _⟩
  · refine ⟨fun s us ws _ hl => ?_, fun {vs us zs ws} r rz => ?_⟩
    · match us, ws, hl with
      | [], [b, a], _ => exact .of_eq (h kV doc pm an cdv ct a b)
    · cases r with
      | nil =>
        cases rz with
        | nil => exact .nil
        | cons r1 rz1 =>
          cases rz1 with
          | nil => exact .nil
          | cons r2 rz2 =>
            cases rz2 with
            | nil => exact .cons r2 (.cons r1 .nil)
            | cons _ _ => exact .nil
      | cons _ _ => exact .nil
  · exact absurd rfl e
end Sg

/-! text * int, text[::-1] -/
namespace Sg
open PySem PySem.Spec PyProof.Rows L2
def mulT (x : Str) (n : Nat) : Str := ⟨(List.replicate n x.cps).foldl (· ++ ·) #[]⟩
def rMulS : R2 := fun x y H Q => ∃ z, ∃ n : Nat, x = .str z ∧ y = .int (n : Int) ∧ 2 ≤ n ∧ n ≤ 1000 ∧ 1 ≤ z.length ∧ z.length ≤ 1000 ∧ Q (.str (mulT z n)) H
theorem foldl_cps (x : Array Nat) : ∀ (n : Nat) (acc : Array Nat), ((List.replicate n x).foldl (· ++ ·) acc).toList = acc.toList ++ (List.replicate n x.toList).flatten
  | 0, acc => by simp
  | n + 1, acc => by
    rw [List.replicate_succ, List.foldl_cons, foldl_cps x n, Array.toList_append, List.replicate_succ, List.flatten_cons, List.append_assoc]
theorem mulT_cps (x : Str) (n : Nat) : (mulT x n).cps.toList = (List.replicate n x.cps.toList).flatten := by
  show ((List.replicate n x.cps).foldl (· ++ ·) #[]).toList = _
  rw [foldl_cps]
  rfl
theorem mulT_len (x : Str) (n : Nat) : (mulT x n).length = n * x.length := by
  have h : (mulT x n).cps.toList.length = n * x.length := by
    rw [mulT_cps, List.length_flatten, List.map_replicate, List.sum_replicate_nat]
    rfl
  exact h
theorem op_mulS {X : Cx} : OpR X (binaryOp .Mult) rMulS := by
  intro pins s σ H x y v u Q I rx ry h
  obtain ⟨z, n, rfl, rfl, h2, h3, h4, h5, q⟩ := h
  obtain ⟨t, rfl⟩ := rx
  obtain ⟨t', rfl⟩ := ry
  have hz : (mulT z n).length ≤ 1000000 := by
    rw [mulT_len]
    exact Nat.mul_le_mul h3 h5
  have e1 : ¬ ((n : Int) < 1) := by omega
  have e2 : ((n : Int) == 1 || z.length == 0) = false := by
    have a : ((n : Int) == 1) = false := by simp; omega
    have b : (z.length == 0) = false := by simp; omega
    rw [a, b]
    rfl
  have hm : z.length * n ≤ 1000000 := by
    rw [Nat.mul_comm]
    exact Nat.mul_le_mul h3 h5
  have hm2 : (z.length : Int) * (n : Int) ≤ 1000000 := by
    rw [← Int.natCast_mul]
    omega
  refine PySem.P.mul_str (by rw [decide_eq_false (by omega), decide_eq_false (by omega)]; rfl) (fun _ _ => ?_) (fun _ _ => ?_) ?_
  · exact Int.not_lt.mpr ((Int.le_ediv_iff_mul_le (by omega)).mpr (by omega))
  · rw [Int.toNat_natCast]
    exact decide_eq_false (Nat.not_lt.mpr (szle hm))
  · rw [if_neg e1, if_neg (by rw [e2]; decide), Int.toNat_natCast]
    exact ⟨szle hz, .str _, H, I.tok _, ⟨_, rfl⟩, q⟩
def tRevS (te : TE) : TE := fun σ H Q => te σ H fun x H1 => ∃ z, x = .str z ∧ z.length ≤ 1000 ∧ ∀ y : Str, (∀ c ∈ y.cps.toList, c ∈ z.cps.toList) → y.length ≤ 1000 → Q (.str y) H1
theorem pe_revS {X : Cx} {e : Expr} {te : TE} {k : Nat} {p1 p2 p3 pos : Pos} (he : PE X e te) : PE X (.Subscript e (.Slice none none (some (.UnaryOp .USub (.Constant (.int 1) k p1) p2)) p3) pos) (tRevS te) := by
  refine ⟨fun pins s σ H Q I h => ?_⟩
  refine Subscript_ (thn (he.run pins s σ H _ I h) fun v s1 ⟨x, H1, I1, r1, q1⟩ => ?_)
  obtain ⟨z, ex, hz, q⟩ := q1
  subst ex
  obtain ⟨t, rfl⟩ := r1
  have hst : PO X (some (.UnaryOp .USub (.Constant (.int 1) k p1) p2)) (tPart (tUn (rU fun i => .int (-i)) (tC (.int 1)))) := po_some (pe_un un_neg pe_int)
  refine wpAny_Slice (thn (po_none.run pins s1 σ H1 (fun o H2 => o = none ∧ H2 = H1) I1 ⟨rfl, rfl⟩) fun vl s2 ⟨l, H2, I2, pl, el, e2⟩ => ?_)
  subst el e2
  refine thn (po_none.run pins s2 σ H2 (fun o H3 => o = none ∧ H3 = H2) I2 ⟨rfl, rfl⟩) fun vu s3 ⟨u, H3, I3, pu, eu, e3⟩ => ?_
  subst eu e3
  refine thn (hst.run pins s3 σ H3 (fun o H4 => o = some (-1) ∧ H4 = H3) I3 ⟨1, rfl, -1, rfl, rfl, rfl⟩) fun vs s4 ⟨o, H4, I4, ps, eo, e4⟩ => ?_
  subst eo e4
  have I5 : Inv X pins σ H4 { s4 with heap := s4.heap.push { cls := .type "slice", data := .fields #[vl, vu, vs] } } := I4.kept (t' := s4.toks) fun b ob q => Heap.get?_push_of_some _ q
  cases pl
  cases pu
  cases ps with
  | int _ tk =>
  refine tail_any (ops := [.str z t, .ref s4.heap.objs.size]) (typeIs_str _ z t) (PySem.F.slot_str_getitem.lookup) ?_ (by with_unfolding_all rfl)
  refine wpAny_getItem_str_slice (l := none) (u := none) (st := some (-1, tk)) ⟨_, Heap.get?_push_size _ rfl, rfl, rfl⟩ rfl ?_
  show Made.post (if ((-1 : Int) == 1 && (PySem.Builtin.Str.strSliceIndices none none (-1) z.length).length == z.length) = true then Made.val (.str z t)
    else Made.str ⟨((PySem.Builtin.Str.strSliceIndices none none (-1) z.length).filterMap (z.cps[·]?)).toArray⟩) (EP X pins σ Q) _
  rw [if_neg (by simp)]
  have len : (⟨((PySem.Builtin.Str.strSliceIndices none none (-1) z.length).filterMap (z.cps[·]?)).toArray⟩ : Str).length ≤ 1000 := by
    have h1 : ((PySem.Builtin.Str.strSliceIndices none none (-1) z.length).filterMap (z.cps[·]?)).length ≤ z.length := by
      refine Nat.le_trans (List.length_filterMap_le _ _) ?_
      show (sliceRange ((z.length : Int) - 1) (-1) (-1)).length ≤ _
      unfold sliceRange
      rw [List.length_map, List.length_range, if_neg (by decide)]
      split
      · rw [show (-(-1 : Int)) = 1 by rfl, Int.ediv_one]
        omega
      · exact Nat.zero_le _
    show (List.toArray _).size ≤ 1000
    rw [List.size_toArray]
    exact Nat.le_trans h1 hz
  refine ⟨szle (m := 1000) len, .str _, H4, I5.tok _, ⟨_, rfl⟩, q _ (fun c hc => ?_) len⟩
  obtain ⟨i, _, hi⟩ := List.mem_filterMap.mp (by simpa using hc)
  exact Array.mem_toList_iff.mpr (Array.mem_of_getElem? hi)
end Sg

namespace K37
open PySem PySem.Spec PyProof.Rows L2 Sg
def topS (i : Nat) : Stmt := PySem.Challenge.pw_signwright_k37_counts_and_long_texts.main.body.getD i (.Pass ⟨0, 0, 0, 0⟩)
def dd (i : Nat) (x : Str) : He.DefD := ⟨(x, none), x, x, defArgs (topS i), defBody (topS i), defScope (topS i), [], []⟩
def fns0 : List He.DefD := [dd 6 "is_text_of", dd 7 "check_text", dd 8 "check_number", dd 12 "is_whole", dd 13 "is_bit", dd 14 "is_row", dd 15 "is_signs", dd 16 "is_state", dd 17 "is_looker_value", dd 19 "check_looker", dd 21 "state_behind", dd 22 "classes_of", dd 23 "least_states", dd 24 "counts_behind", dd 27 "takes", dd 28 "least", dd 29 "count_taken", dd 31 "_law_pool", dd 32 "_law_draw", dd 33 "_law_signs", dd 34 "_law_same", dd 35 "_law_lines", dd 36 "_law_line", dd 37 "_law_counted", dd 38 "_law_walked", dd 39 "_law_refused", dd 40 "law"]
def fns : List He.DefD := fns0
def fas0 : List He.Fa := [.glo "is_text_of", .glo "check_text", .glo "check_number", .glo "is_whole", .glo "is_bit", .glo "is_row", .glo "is_signs", .glo "is_state", .glo "is_looker_value", .glo "check_looker", .glo "state_behind", .glo "classes_of", .glo "least_states", .glo "counts_behind", .glo "takes", .glo "least", .glo "count_taken", .glo "_law_pool", .glo "_law_draw", .glo "_law_signs", .glo "_law_same", .glo "_law_lines", .glo "_law_line", .glo "_law_counted", .glo "_law_walked", .glo "_law_refused", .glo "law", .free "all", .free "isinstance", .free "str"]
def fas1 : List He.Fa := [.free "bool", .free "int", .free "tuple", .free "len", .free "set", .free "enumerate", .free "range", .free "sum", .free "min", .free "list", .free "repr", .free "ValueError", .glo "SignError", .glo "BadSigns", .glo "BadNumber", .glo "BadLooker", .exc "SignError", .exc "BadSigns", .exc "BadNumber", .exc "BadLooker", .int "MOST_SIGNS" 5, .int "MOST_LOOKER" 600, .int "MOST_LENGTH" 200, .exm "BadNumber" "BadNumber" true, .exm "BadSigns" "BadSigns" true, .exm "BadSigns" "BadNumber" false]
def fas : List He.Fa := fas0 ++ (fas1)
def loose0 : List PySem.Str := ["SignError", "BadSigns", "BadNumber", "BadLooker", "MOST_SIGNS", "MOST_LOOKER", "MOST_LENGTH", "is_text_of", "check_text", "check_number", "is_whole", "is_bit", "is_row", "is_signs", "is_state", "is_looker_value", "check_looker", "state_behind", "classes_of", "least_states", "counts_behind", "takes", "least", "count_taken", "_law_pool", "_law_draw", "_law_signs", "_law_same", "_law_lines", "_law_line"]
def loose1 : List PySem.Str := ["_law_counted", "_law_walked", "_law_refused"]
def loose : List PySem.Str := loose0 ++ (loose1)
abbrev R : PySem.W.OpenRow := PySem.W.OpenLaw.row PySem.Challenge.rw_signwright_k37_counts_and_long_texts
def exL (K : PySem.W.Frag) : List Bool := [excCB K (He.ga K "BadNumber"), excCB K (He.ga K "BadSigns"), decide (PySem.W.kitOne K (.ref (He.ga K "BadNumber")) (.ref (He.ga K "SignError")) = some true), decide (PySem.W.kitOne K (.ref (He.ga K "BadNumber")) (.type "ValueError") = some true), decide (PySem.W.kitOne K (.ref (He.ga K "BadNumber")) (.ref (He.ga K "BadSigns")) = some false), decide (PySem.W.kitOne K (.ref (He.ga K "BadSigns")) (.ref (He.ga K "SignError")) = some true), decide (PySem.W.kitOne K (.ref (He.ga K "BadSigns")) (.type "ValueError") = some true)]
def exB (K : PySem.W.Frag) : Bool := (exL K).all id
abbrev hk : PySem.W.Hook := hookX 4 exB fas fns
def ob (s : PySem.W.SharedT) : Bool × He.AlD := obsXG 4 exB fas fns (HandSHeadRun.getT s)
theorem ob_eq (s : PySem.W.SharedT) : ob s = hk.obs s.abs := obsXG_eq (HandSHeadRun.getT_eq s)
theorem run (w : World) : HandSHeadRun.RunEq R (PySem.W.view R.prog [40]) hk ob 4000 loose w := by
  intro os
  kernel_rfl
structure Tx (K : PySem.W.Frag) (mg : Str → Option Value) : Prop where
  g_is_text_of : mg "is_text_of" = some (.ref (He.ga K "is_text_of"))
  g_check_text : mg "check_text" = some (.ref (He.ga K "check_text"))
  g_check_number : mg "check_number" = some (.ref (He.ga K "check_number"))
  g_is_whole : mg "is_whole" = some (.ref (He.ga K "is_whole"))
  g_is_bit : mg "is_bit" = some (.ref (He.ga K "is_bit"))
  g_is_row : mg "is_row" = some (.ref (He.ga K "is_row"))
  g_is_signs : mg "is_signs" = some (.ref (He.ga K "is_signs"))
  g_is_state : mg "is_state" = some (.ref (He.ga K "is_state"))
  g_is_looker_value : mg "is_looker_value" = some (.ref (He.ga K "is_looker_value"))
  g_check_looker : mg "check_looker" = some (.ref (He.ga K "check_looker"))
  g_state_behind : mg "state_behind" = some (.ref (He.ga K "state_behind"))
  g_classes_of : mg "classes_of" = some (.ref (He.ga K "classes_of"))
  g_least_states : mg "least_states" = some (.ref (He.ga K "least_states"))
  g_counts_behind : mg "counts_behind" = some (.ref (He.ga K "counts_behind"))
  g_takes : mg "takes" = some (.ref (He.ga K "takes"))
  g_least : mg "least" = some (.ref (He.ga K "least"))
  g_count_taken : mg "count_taken" = some (.ref (He.ga K "count_taken"))
  g__law_pool : mg "_law_pool" = some (.ref (He.ga K "_law_pool"))
  g__law_draw : mg "_law_draw" = some (.ref (He.ga K "_law_draw"))
  g__law_signs : mg "_law_signs" = some (.ref (He.ga K "_law_signs"))
  g__law_same : mg "_law_same" = some (.ref (He.ga K "_law_same"))
  g__law_lines : mg "_law_lines" = some (.ref (He.ga K "_law_lines"))
  g__law_line : mg "_law_line" = some (.ref (He.ga K "_law_line"))
  g__law_counted : mg "_law_counted" = some (.ref (He.ga K "_law_counted"))
  g__law_walked : mg "_law_walked" = some (.ref (He.ga K "_law_walked"))
  g__law_refused : mg "_law_refused" = some (.ref (He.ga K "_law_refused"))
  g_law : mg "law" = some (.ref (He.ga K "law"))
  f_all : mg "all" = none
  f_isinstance : mg "isinstance" = none
  f_str : mg "str" = none
  f_bool : mg "bool" = none
  f_int : mg "int" = none
  f_tuple : mg "tuple" = none
  f_len : mg "len" = none
  f_set : mg "set" = none
  f_enumerate : mg "enumerate" = none
  f_range : mg "range" = none
  f_sum : mg "sum" = none
  f_min : mg "min" = none
  f_list : mg "list" = none
  f_repr : mg "repr" = none
  f_ValueError : mg "ValueError" = none
  e_SignError : ExcF K mg "SignError"
  e_BadSigns : ExcF K mg "BadSigns"
  e_BadNumber : ExcF K mg "BadNumber"
  e_BadLooker : ExcF K mg "BadLooker"
  c_MOST_SIGNS : ∃ t, mg "MOST_SIGNS" = some (.int 5 t)
  c_MOST_LOOKER : ∃ t, mg "MOST_LOOKER" = some (.int 600 t)
  c_MOST_LENGTH : ∃ t, mg "MOST_LENGTH" = some (.int 200 t)
  x_BadNumber_BadNumber : PySem.W.exmOne K (.ref (He.ga K "BadNumber")) (.ref (He.ga K "BadNumber")) = some true
  x_BadSigns_BadSigns : PySem.W.exmOne K (.ref (He.ga K "BadSigns")) (.ref (He.ga K "BadSigns")) = some true
  x_BadSigns_BadNumber : PySem.W.exmOne K (.ref (He.ga K "BadSigns")) (.ref (He.ga K "BadNumber")) = some false
  d_is_text_of : ∃ fd, FnP K "is_text_of" (topS 6) (He.ga K "is_text_of") fd
  d_check_text : ∃ fd, FnP K "check_text" (topS 7) (He.ga K "check_text") fd
  d_check_number : ∃ fd, FnP K "check_number" (topS 8) (He.ga K "check_number") fd
  d_is_whole : ∃ fd, FnP K "is_whole" (topS 12) (He.ga K "is_whole") fd
  d_is_bit : ∃ fd, FnP K "is_bit" (topS 13) (He.ga K "is_bit") fd
  d_is_row : ∃ fd, FnP K "is_row" (topS 14) (He.ga K "is_row") fd
  d_is_signs : ∃ fd, FnP K "is_signs" (topS 15) (He.ga K "is_signs") fd
  d_is_state : ∃ fd, FnP K "is_state" (topS 16) (He.ga K "is_state") fd
  d_is_looker_value : ∃ fd, FnP K "is_looker_value" (topS 17) (He.ga K "is_looker_value") fd
  d_check_looker : ∃ fd, FnP K "check_looker" (topS 19) (He.ga K "check_looker") fd
  d_state_behind : ∃ fd, FnP K "state_behind" (topS 21) (He.ga K "state_behind") fd
  d_classes_of : ∃ fd, FnP K "classes_of" (topS 22) (He.ga K "classes_of") fd
  d_least_states : ∃ fd, FnP K "least_states" (topS 23) (He.ga K "least_states") fd
  d_counts_behind : ∃ fd, FnP K "counts_behind" (topS 24) (He.ga K "counts_behind") fd
  d_takes : ∃ fd, FnP K "takes" (topS 27) (He.ga K "takes") fd
  d_least : ∃ fd, FnP K "least" (topS 28) (He.ga K "least") fd
  d_count_taken : ∃ fd, FnP K "count_taken" (topS 29) (He.ga K "count_taken") fd
  d__law_pool : ∃ fd, FnP K "_law_pool" (topS 31) (He.ga K "_law_pool") fd
  d__law_draw : ∃ fd, FnP K "_law_draw" (topS 32) (He.ga K "_law_draw") fd
  d__law_signs : ∃ fd, FnP K "_law_signs" (topS 33) (He.ga K "_law_signs") fd
  d__law_same : ∃ fd, FnP K "_law_same" (topS 34) (He.ga K "_law_same") fd
  d__law_lines : ∃ fd, FnP K "_law_lines" (topS 35) (He.ga K "_law_lines") fd
  d__law_line : ∃ fd, FnP K "_law_line" (topS 36) (He.ga K "_law_line") fd
  d__law_counted : ∃ fd, FnP K "_law_counted" (topS 37) (He.ga K "_law_counted") fd
  d__law_walked : ∃ fd, FnP K "_law_walked" (topS 38) (He.ga K "_law_walked") fd
  d__law_refused : ∃ fd, FnP K "_law_refused" (topS 39) (He.ga K "_law_refused") fd
  d_law : ∃ fd, FnP K "law" (topS 40) (He.ga K "law") fd
  q_BadNumber : ExcC K (He.ga K "BadNumber")
  q_BadSigns : ExcC K (He.ga K "BadSigns")
  k_BadNumber_SignError : PySem.W.kitOne K (.ref (He.ga K "BadNumber")) (.ref (He.ga K "SignError")) = some true
  k_BadNumber_ValueError : PySem.W.kitOne K (.ref (He.ga K "BadNumber")) (.type "ValueError") = some true
  k_BadNumber_BadSigns : PySem.W.kitOne K (.ref (He.ga K "BadNumber")) (.ref (He.ga K "BadSigns")) = some false
  k_BadSigns_SignError : PySem.W.kitOne K (.ref (He.ga K "BadSigns")) (.ref (He.ga K "SignError")) = some true
  k_BadSigns_ValueError : PySem.W.kitOne K (.ref (He.ga K "BadSigns")) (.type "ValueError") = some true
theorem tx_mk {K : PySem.W.Frag} {h : Heap} {mg : Str → Option Value} (X : K.In h) (G : h.Ns mainGlobals mg) (c : He.SaysD fas fns K) (cx : exB K = true) : Tx K mg where
  g_is_text_of := He.glo_ok X G (c.fact 0 (f := .glo "is_text_of") rfl)
  g_check_text := He.glo_ok X G (c.fact 1 (f := .glo "check_text") rfl)
  g_check_number := He.glo_ok X G (c.fact 2 (f := .glo "check_number") rfl)
  g_is_whole := He.glo_ok X G (c.fact 3 (f := .glo "is_whole") rfl)
  g_is_bit := He.glo_ok X G (c.fact 4 (f := .glo "is_bit") rfl)
  g_is_row := He.glo_ok X G (c.fact 5 (f := .glo "is_row") rfl)
  g_is_signs := He.glo_ok X G (c.fact 6 (f := .glo "is_signs") rfl)
  g_is_state := He.glo_ok X G (c.fact 7 (f := .glo "is_state") rfl)
  g_is_looker_value := He.glo_ok X G (c.fact 8 (f := .glo "is_looker_value") rfl)
  g_check_looker := He.glo_ok X G (c.fact 9 (f := .glo "check_looker") rfl)
  g_state_behind := He.glo_ok X G (c.fact 10 (f := .glo "state_behind") rfl)
  g_classes_of := He.glo_ok X G (c.fact 11 (f := .glo "classes_of") rfl)
  g_least_states := He.glo_ok X G (c.fact 12 (f := .glo "least_states") rfl)
  g_counts_behind := He.glo_ok X G (c.fact 13 (f := .glo "counts_behind") rfl)
  g_takes := He.glo_ok X G (c.fact 14 (f := .glo "takes") rfl)
  g_least := He.glo_ok X G (c.fact 15 (f := .glo "least") rfl)
  g_count_taken := He.glo_ok X G (c.fact 16 (f := .glo "count_taken") rfl)
  g__law_pool := He.glo_ok X G (c.fact 17 (f := .glo "_law_pool") rfl)
  g__law_draw := He.glo_ok X G (c.fact 18 (f := .glo "_law_draw") rfl)
  g__law_signs := He.glo_ok X G (c.fact 19 (f := .glo "_law_signs") rfl)
  g__law_same := He.glo_ok X G (c.fact 20 (f := .glo "_law_same") rfl)
  g__law_lines := He.glo_ok X G (c.fact 21 (f := .glo "_law_lines") rfl)
  g__law_line := He.glo_ok X G (c.fact 22 (f := .glo "_law_line") rfl)
  g__law_counted := He.glo_ok X G (c.fact 23 (f := .glo "_law_counted") rfl)
  g__law_walked := He.glo_ok X G (c.fact 24 (f := .glo "_law_walked") rfl)
  g__law_refused := He.glo_ok X G (c.fact 25 (f := .glo "_law_refused") rfl)
  g_law := He.glo_ok X G (c.fact 26 (f := .glo "law") rfl)
  f_all := He.free_ok X G (c.fact 27 (f := .free "all") rfl)
  f_isinstance := He.free_ok X G (c.fact 28 (f := .free "isinstance") rfl)
  f_str := He.free_ok X G (c.fact 29 (f := .free "str") rfl)
  f_bool := He.free_ok X G (c.fact 30 (f := .free "bool") rfl)
  f_int := He.free_ok X G (c.fact 31 (f := .free "int") rfl)
  f_tuple := He.free_ok X G (c.fact 32 (f := .free "tuple") rfl)
  f_len := He.free_ok X G (c.fact 33 (f := .free "len") rfl)
  f_set := He.free_ok X G (c.fact 34 (f := .free "set") rfl)
  f_enumerate := He.free_ok X G (c.fact 35 (f := .free "enumerate") rfl)
  f_range := He.free_ok X G (c.fact 36 (f := .free "range") rfl)
  f_sum := He.free_ok X G (c.fact 37 (f := .free "sum") rfl)
  f_min := He.free_ok X G (c.fact 38 (f := .free "min") rfl)
  f_list := He.free_ok X G (c.fact 39 (f := .free "list") rfl)
  f_repr := He.free_ok X G (c.fact 40 (f := .free "repr") rfl)
  f_ValueError := He.free_ok X G (c.fact 41 (f := .free "ValueError") rfl)
  e_SignError := excF_mk (He.glo_ok X G (c.fact 42 (f := .glo "SignError") rfl)) (c.fact 46 (f := .exc "SignError") rfl)
  e_BadSigns := excF_mk (He.glo_ok X G (c.fact 43 (f := .glo "BadSigns") rfl)) (c.fact 47 (f := .exc "BadSigns") rfl)
  e_BadNumber := excF_mk (He.glo_ok X G (c.fact 44 (f := .glo "BadNumber") rfl)) (c.fact 48 (f := .exc "BadNumber") rfl)
  e_BadLooker := excF_mk (He.glo_ok X G (c.fact 45 (f := .glo "BadLooker") rfl)) (c.fact 49 (f := .exc "BadLooker") rfl)
  c_MOST_SIGNS := He.int_ok X G (c.fact 50 (f := .int "MOST_SIGNS" 5) rfl)
  c_MOST_LOOKER := He.int_ok X G (c.fact 51 (f := .int "MOST_LOOKER" 600) rfl)
  c_MOST_LENGTH := He.int_ok X G (c.fact 52 (f := .int "MOST_LENGTH" 200) rfl)
  x_BadNumber_BadNumber := He.exm_ok (c.fact 53 (f := .exm "BadNumber" "BadNumber" true) rfl)
  x_BadSigns_BadSigns := He.exm_ok (c.fact 54 (f := .exm "BadSigns" "BadSigns" true) rfl)
  x_BadSigns_BadNumber := He.exm_ok (c.fact 55 (f := .exm "BadSigns" "BadNumber" false) rfl)
  d_is_text_of := c.def_ 0 (d := dd 6 "is_text_of") rfl
  d_check_text := c.def_ 1 (d := dd 7 "check_text") rfl
  d_check_number := c.def_ 2 (d := dd 8 "check_number") rfl
  d_is_whole := c.def_ 3 (d := dd 12 "is_whole") rfl
  d_is_bit := c.def_ 4 (d := dd 13 "is_bit") rfl
  d_is_row := c.def_ 5 (d := dd 14 "is_row") rfl
  d_is_signs := c.def_ 6 (d := dd 15 "is_signs") rfl
  d_is_state := c.def_ 7 (d := dd 16 "is_state") rfl
  d_is_looker_value := c.def_ 8 (d := dd 17 "is_looker_value") rfl
  d_check_looker := c.def_ 9 (d := dd 19 "check_looker") rfl
  d_state_behind := c.def_ 10 (d := dd 21 "state_behind") rfl
  d_classes_of := c.def_ 11 (d := dd 22 "classes_of") rfl
  d_least_states := c.def_ 12 (d := dd 23 "least_states") rfl
  d_counts_behind := c.def_ 13 (d := dd 24 "counts_behind") rfl
  d_takes := c.def_ 14 (d := dd 27 "takes") rfl
  d_least := c.def_ 15 (d := dd 28 "least") rfl
  d_count_taken := c.def_ 16 (d := dd 29 "count_taken") rfl
  d__law_pool := c.def_ 17 (d := dd 31 "_law_pool") rfl
  d__law_draw := c.def_ 18 (d := dd 32 "_law_draw") rfl
  d__law_signs := c.def_ 19 (d := dd 33 "_law_signs") rfl
  d__law_same := c.def_ 20 (d := dd 34 "_law_same") rfl
  d__law_lines := c.def_ 21 (d := dd 35 "_law_lines") rfl
  d__law_line := c.def_ 22 (d := dd 36 "_law_line") rfl
  d__law_counted := c.def_ 23 (d := dd 37 "_law_counted") rfl
  d__law_walked := c.def_ 24 (d := dd 38 "_law_walked") rfl
  d__law_refused := c.def_ 25 (d := dd 39 "_law_refused") rfl
  d_law := c.def_ 26 (d := dd 40 "law") rfl
  q_BadNumber := excCB_ok (exAt cx (l := exL K) (i := 0) rfl)
  q_BadSigns := excCB_ok (exAt cx (l := exL K) (i := 1) rfl)
  k_BadNumber_SignError := of_decide_eq_true (exAt cx (l := exL K) (i := 2) rfl)
  k_BadNumber_ValueError := of_decide_eq_true (exAt cx (l := exL K) (i := 3) rfl)
  k_BadNumber_BadSigns := of_decide_eq_true (exAt cx (l := exL K) (i := 4) rfl)
  k_BadSigns_SignError := of_decide_eq_true (exAt cx (l := exL K) (i := 5) rfl)
  k_BadSigns_ValueError := of_decide_eq_true (exAt cx (l := exL K) (i := 6) rfl)
end K37

namespace K37
open PySem PySem.Spec PyProof.Rows L2 Sg
section
variable {P : Program} {w : World} {K : PySem.W.Frag} {mg : Str → Option Value} {base : Heap}
theorem sc_is_whole : FnScope ["value"] ["value"] (defScope (topS 12)) := ⟨rfl, rfl, rfl, by decide +kernel, rfl, by decide +kernel, by decide +kernel⟩
theorem bd_is_whole {K : PySem.W.Frag} {f : Addr} {fd : FuncData} (F : FnP K "is_whole" (topS 12) f fd) : Binds K fd ["value"] [] := F.bindsN fun _ _ _ _ _ _ us hl => match us, hl with | [_], _ => rfl
def spWh (K : PySem.W.Frag) : Sp := fun vs H Q _ => ∃ x, vs = [x] ∧ Kd K H x ∧ Q (.bl (isWh x)) H
theorem ok_is_whole (T : Tx K mg) : Dk P w K mg base 1 "is_whole" ["value"] (spWh K) := by
  obtain ⟨fd, F⟩ := T.d_is_whole
  refine ⟨⟨fd, F.ok sc_is_whole (fun vs H Q E h => ?_) (fun cdv A outer s H vs Q E hr h => ?_), bd_is_whole F⟩, F.kp, T.g_is_whole⟩
  · obtain ⟨x, rfl, _⟩ := h
    rfl
  · obtain ⟨x, rfl, hx, q⟩ := h
    refine ⟨_, PSs.nox (pss_one (ps_ret (pe_and (pe_callB call_isK (by rfl) T.f_isinstance PyProof.Rows.boot_isinstance (pa_cons (pv 0) (pa_cons (pe_bltn (v := .ty "int") (by rfl) T.f_int PyProof.Rows.boot_int rfl) pa_nil))) (pe_and (pe_not (pe_callB call_isK (by rfl) T.f_isinstance PyProof.Rows.boot_isinstance (pa_cons (pv 0) (pa_cons (pe_bltn (v := .ty "bool") (by rfl) T.f_bool PyProof.Rows.boot_bool rfl) pa_nil)))) (pe_one (pe_cmpR op_ge (pv 0) pe_int (nomark _))))))), ?_⟩
    simp only [cxOf, tYes, eq_self, if_true, if_false, wipe, rLenQ, rIxTQ, rIxLQ, rIxSQ, rInt1Q, rTupQ, rAppQ, rPopQ, rPopAtQ, rRevQ, rListS, rReprP, tLenSetT, tChain, tRetN, tRet, tSeq, tAsg, gName, tVar, tC, tCons, tNil, tCB, tOp, rI0, rI, tAndV, tOrV, tNotV, tIf, tTest, tB, tNot, tAnd, tOr, tIfS, tNext, tCallR, rIsK, rEq, rNe, tDrop, L2.start, List.map_cons, List.map_nil, List.length_cons, List.length_nil, Nat.reduceAdd, Nat.reduceSub, Nat.sub_self, List.replicate_zero, List.replicate_succ, List.append_nil, List.cons_append, List.nil_append, List.getElem?_cons_zero, List.getElem?_cons_succ, List.set_cons_zero, List.set_cons_succ, Option.some.injEq, List.cons.injEq, and_true, true_and, exists_eq_left, exists_eq_left', exists_eq_right, V.ty.injEq, V.int.injEq, V.bl.injEq, V.str.injEq, V.ref.injEq, exists_and_left, exists_const, reduceIte, reduceCtorEq, false_and, and_false, exists_false, or_false, false_or, Bool.not_true, Bool.not_false, Bool.false_eq_true, String.reduceEq, true_or, or_true]
    refine ⟨hx, ?_⟩
    cases hx <;> simp only [isaB, isWh] at q ⊢ <;> simp_all [Kd.int, Kd.bl, Kd.non, Kd.str]
theorem sc_is_bit : FnScope ["value"] ["value"] (defScope (topS 13)) := ⟨rfl, rfl, rfl, by decide +kernel, rfl, by decide +kernel, by decide +kernel⟩
theorem bd_is_bit {K : PySem.W.Frag} {f : Addr} {fd : FuncData} (F : FnP K "is_bit" (topS 13) f fd) : Binds K fd ["value"] [] := F.bindsN fun _ _ _ _ _ _ us hl => match us, hl with | [_], _ => rfl
def spBt (K : PySem.W.Frag) : Sp := fun vs H Q _ => ∃ x, vs = [x] ∧ Kd K H x ∧ Q (.bl (isBt x)) H
theorem ok_is_bit (T : Tx K mg) : Dk P w K mg base 2 "is_bit" ["value"] (spBt K) := by
  have D_is_whole := ok_is_whole (P := P) (w := w) (base := base) T
  obtain ⟨fd, F⟩ := T.d_is_bit
  refine ⟨⟨fd, F.ok sc_is_bit (fun vs H Q E h => ?_) (fun cdv A outer s H vs Q E hr h => ?_), bd_is_bit F⟩, F.kp, T.g_is_bit⟩
  · obtain ⟨x, rfl, _⟩ := h
    rfl
  · obtain ⟨x, rfl, hx, q⟩ := h
    refine ⟨_, PSs.nox (pss_one (ps_ret (pe_and (pe_callR D_is_whole (hr.mono (by decide)) takes0 (pa_cons (pv 0) pa_nil)) (pe_one (pe_cmpR op_le (pv 0) pe_int (nomark _)))))), ?_⟩
    simp only [cxOf, tYes, eq_self, if_true, if_false, wipe, rLenQ, rIxTQ, rIxLQ, rIxSQ, rInt1Q, rTupQ, rAppQ, rPopQ, rPopAtQ, rRevQ, rListS, rReprP, tLenSetT, tChain, tRetN, tRet, tSeq, tAsg, gName, tVar, tC, tCons, tNil, tCB, tOp, rI0, rI, tAndV, tOrV, tNotV, tIf, tTest, tB, tNot, tAnd, tOr, tIfS, tNext, tCallR, rIsK, rEq, rNe, tDrop, L2.start, List.map_cons, List.map_nil, List.length_cons, List.length_nil, Nat.reduceAdd, Nat.reduceSub, Nat.sub_self, List.replicate_zero, List.replicate_succ, List.append_nil, List.cons_append, List.nil_append, List.getElem?_cons_zero, List.getElem?_cons_succ, List.set_cons_zero, List.set_cons_succ, Option.some.injEq, List.cons.injEq, and_true, true_and, exists_eq_left, exists_eq_left', exists_eq_right, V.ty.injEq, V.int.injEq, V.bl.injEq, V.str.injEq, V.ref.injEq, exists_and_left, exists_const, reduceIte, reduceCtorEq, false_and, and_false, exists_false, or_false, false_or, Bool.not_true, Bool.not_false, Bool.false_eq_true, String.reduceEq, true_or, or_true]
    refine ⟨x, rfl, hx, _, rfl, ?_⟩
    cases hx <;> simp only [isBt, isWh] at q ⊢ <;> simp_all
    rename_i i
    by_cases h0 : 0 ≤ i <;> simp_all
    exact fun z => absurd z (by omega)
theorem sc_is_row : FnScope ["value", "size"] ["value", "size"] (defScope (topS 14)) := ⟨rfl, rfl, rfl, by decide +kernel, rfl, by decide +kernel, by decide +kernel⟩
theorem bd_is_row {K : PySem.W.Frag} {f : Addr} {fd : FuncData} (F : FnP K "is_row" (topS 14) f fd) : Binds K fd ["value", "size"] [] := F.bindsN fun _ _ _ _ _ _ us hl => match us, hl with | [_, _], _ => rfl
def spRw (K : PySem.W.Frag) : Sp := fun vs H Q _ => ∃ x n b, vs = [x, .int n] ∧ RowB K H x n b ∧ Q (.bl b) H
theorem ok_is_row (T : Tx K mg) : Dk P w K mg base 1 "is_row" ["value", "size"] (spRw K) := by
  obtain ⟨fd, F⟩ := T.d_is_row
  refine ⟨⟨fd, F.ok sc_is_row (fun vs H Q E h => ?_) (fun cdv A outer s H vs Q E hr h => ?_), bd_is_row F⟩, F.kp, T.g_is_row⟩
  · obtain ⟨x, n, b, rfl, _⟩ := h
    rfl
  · obtain ⟨x, n, b, rfl, hx, q⟩ := h
    refine ⟨_, PSs.nox (pss_one (ps_ret (pe_and (pe_callB call_isK (by rfl) T.f_isinstance PyProof.Rows.boot_isinstance (pa_cons (pv 0) (pa_cons (pe_bltn (v := .ty "tuple") (by rfl) T.f_tuple PyProof.Rows.boot_tuple rfl) pa_nil))) (pe_one (pe_cmpR op_eq (pe_callB call_lenQ (by rfl) T.f_len PySem.boot_len (pa_cons (pv 0) pa_nil)) (pv 1) (nomark _)))))), ?_⟩
    simp only [cxOf, tYes, eq_self, if_true, if_false, wipe, rLenQ, rIxTQ, rIxLQ, rIxSQ, rInt1Q, rTupQ, rAppQ, rPopQ, rPopAtQ, rRevQ, rListS, rReprP, tLenSetT, tChain, tRetN, tRet, tSeq, tAsg, gName, tVar, tC, tCons, tNil, tCB, tOp, rI0, rI, tAndV, tOrV, tNotV, tIf, tTest, tB, tNot, tAnd, tOr, tIfS, tNext, tCallR, rIsK, rEq, rNe, tDrop, L2.start, List.map_cons, List.map_nil, List.length_cons, List.length_nil, Nat.reduceAdd, Nat.reduceSub, Nat.sub_self, List.replicate_zero, List.replicate_succ, List.append_nil, List.cons_append, List.nil_append, List.getElem?_cons_zero, List.getElem?_cons_succ, List.set_cons_zero, List.set_cons_succ, Option.some.injEq, List.cons.injEq, and_true, true_and, exists_eq_left, exists_eq_left', exists_eq_right, V.ty.injEq, V.int.injEq, V.bl.injEq, V.str.injEq, V.ref.injEq, exists_and_left, exists_const, reduceIte, reduceCtorEq, false_and, and_false, exists_false, or_false, false_or, Bool.not_true, Bool.not_false, Bool.false_eq_true, String.reduceEq, true_or, or_true]
    rcases hx with ⟨a, xs, rfl, hx, rfl⟩ | ⟨hx, e, rfl⟩
    · refine ⟨.tup hx, ifT rfl ⟨xs, .inr hx, rfl, ?_⟩⟩
      simpa using q
    · exact ⟨hx, ifF e q⟩
theorem sc_is_signs : FnScope ["value"] ["value"] (defScope (topS 15)) := ⟨rfl, rfl, rfl, by decide +kernel, rfl, by decide +kernel, by decide +kernel⟩
theorem bd_is_signs {K : PySem.W.Frag} {f : Addr} {fd : FuncData} (F : FnP K "is_signs" (topS 15) f fd) : Binds K fd ["value"] [] := F.bindsN fun _ _ _ _ _ _ us hl => match us, hl with | [_], _ => rfl
def spSg : Sp := fun vs H Q _ => ∃ z, vs = [.str z] ∧ z.length ≤ 1000 ∧ Q (.bl (sgB z)) H
theorem ok_is_signs (T : Tx K mg) : Dk P w K mg base 1 "is_signs" ["value"] spSg := by
  obtain ⟨fd, F⟩ := T.d_is_signs
  refine ⟨⟨fd, F.ok sc_is_signs (fun vs H Q E h => ?_) (fun cdv A outer s H vs Q E hr h => ?_), bd_is_signs F⟩, F.kp, T.g_is_signs⟩
  · obtain ⟨z, rfl, _⟩ := h
    rfl
  · obtain ⟨z, rfl, hz, q⟩ := h
    obtain ⟨_, c_MOST_SIGNS⟩ := T.c_MOST_SIGNS
    refine ⟨_, PSs.nox (pss_cons (ps_if (PW.pt (pw_or (pt_not (pt_val (pe_callB call_isK (by rfl) T.f_isinstance PyProof.Rows.boot_isinstance (pa_cons (pv 0) (pa_cons (pe_bltn (v := .ty "str") (by rfl) T.f_str PyProof.Rows.boot_str rfl) pa_nil))))) (pw_or1 (pt_not (pt_chain op_le op_le pe_int (pe_callB call_lenQ (by rfl) T.f_len PySem.boot_len (pa_cons (pv 0) pa_nil)) (pe_glob (v := .int 5) (by rfl) c_MOST_SIGNS ⟨_, rfl⟩)))))) (pss_one (ps_ret pe_bl)) pss_nil)
      (pss_one (ps_ret (pe_cmpR op_eq (pe_lenSetT (by rfl) T.f_len (by rfl) T.f_set (pv 0) rfl) (pe_callB call_lenQ (by rfl) T.f_len PySem.boot_len (pa_cons (pv 0) pa_nil)) (nomark _))))), ?_⟩
    simp only [cxOf, tYes, eq_self, if_true, if_false, wipe, rLenQ, rIxTQ, rIxLQ, rIxSQ, rInt1Q, rTupQ, rAppQ, rPopQ, rPopAtQ, rRevQ, rListS, rReprP, tLenSetT, tChain, tRetN, tRet, tSeq, tAsg, gName, tVar, tC, tCons, tNil, tCB, tOp, rI0, rI, tAndV, tOrV, tNotV, tIf, tTest, tB, tNot, tAnd, tOr, tIfS, tNext, tCallR, rIsK, rEq, rNe, tDrop, L2.start, List.map_cons, List.map_nil, List.length_cons, List.length_nil, Nat.reduceAdd, Nat.reduceSub, Nat.sub_self, List.replicate_zero, List.replicate_succ, List.append_nil, List.cons_append, List.nil_append, List.getElem?_cons_zero, List.getElem?_cons_succ, List.set_cons_zero, List.set_cons_succ, Option.some.injEq, List.cons.injEq, and_true, true_and, exists_eq_left, exists_eq_left', exists_eq_right, V.ty.injEq, V.int.injEq, V.bl.injEq, V.str.injEq, V.ref.injEq, exists_and_left, exists_const, reduceIte, reduceCtorEq, false_and, and_false, exists_false, or_false, false_or, Bool.not_true, Bool.not_false, Bool.false_eq_true, String.reduceEq, true_or, or_true]
    refine ⟨.str z, ifF (by simp [isaB]) ⟨szle hz, ?_⟩⟩
    unfold sgB at q
    by_cases h1 : 1 ≤ z.length
    · refine ifT (decide_eq_true (by omega)) ?_
      by_cases h5 : z.length ≤ 5
      · refine ifF (by rw [decide_eq_true (by omega)]; rfl) ⟨hz, szle hz, rfl, ?_⟩
        rw [decide_eq_true h1, decide_eq_true h5] at q
        have e : decide (((once (signsOf z)).length : Int) = (z.length : Int)) = decide ((once (signsOf z)).length = z.length) := decide_eq_decide.mpr (by omega)
        rw [e]
        exact q
      · refine ifT (by rw [decide_eq_false (by omega)]; rfl) ?_
        simpa [h1, h5] using q
    · refine ifF (decide_eq_false (by omega)) ?_
      simpa [h1] using q
theorem sc_is_state : FnScope ["value", "many"] ["value", "many"] (defScope (topS 16)) := ⟨rfl, rfl, rfl, by decide +kernel, rfl, by decide +kernel, by decide +kernel⟩
theorem bd_is_state {K : PySem.W.Frag} {f : Addr} {fd : FuncData} (F : FnP K "is_state" (topS 16) f fd) : Binds K fd ["value", "many"] [] := F.bindsN fun _ _ _ _ _ _ us hl => match us, hl with | [_, _], _ => rfl
def spSt (K : PySem.W.Frag) : Sp := fun vs H Q _ => ∃ x n, vs = [x, .int n] ∧ Kd K H x ∧ Q (.bl (isSt n x)) H
theorem ok_is_state (T : Tx K mg) : Dk P w K mg base 2 "is_state" ["value", "many"] (spSt K) := by
  have D_is_whole := ok_is_whole (P := P) (w := w) (base := base) T
  obtain ⟨fd, F⟩ := T.d_is_state
  refine ⟨⟨fd, F.ok sc_is_state (fun vs H Q E h => ?_) (fun cdv A outer s H vs Q E hr h => ?_), bd_is_state F⟩, F.kp, T.g_is_state⟩
  · obtain ⟨x, n, rfl, _⟩ := h
    rfl
  · obtain ⟨x, n, rfl, hx, q⟩ := h
    refine ⟨_, PSs.nox (pss_one (ps_ret (pe_and (pe_callR D_is_whole (hr.mono (by decide)) takes0 (pa_cons (pv 0) pa_nil)) (pe_one (pe_cmpR op_lt (pv 0) (pv 1) (nomark _)))))), ?_⟩
    simp only [cxOf, tYes, eq_self, if_true, if_false, wipe, rLenQ, rIxTQ, rIxLQ, rIxSQ, rInt1Q, rTupQ, rAppQ, rPopQ, rPopAtQ, rRevQ, rListS, rReprP, tLenSetT, tChain, tRetN, tRet, tSeq, tAsg, gName, tVar, tC, tCons, tNil, tCB, tOp, rI0, rI, tAndV, tOrV, tNotV, tIf, tTest, tB, tNot, tAnd, tOr, tIfS, tNext, tCallR, rIsK, rEq, rNe, tDrop, L2.start, List.map_cons, List.map_nil, List.length_cons, List.length_nil, Nat.reduceAdd, Nat.reduceSub, Nat.sub_self, List.replicate_zero, List.replicate_succ, List.append_nil, List.cons_append, List.nil_append, List.getElem?_cons_zero, List.getElem?_cons_succ, List.set_cons_zero, List.set_cons_succ, Option.some.injEq, List.cons.injEq, and_true, true_and, exists_eq_left, exists_eq_left', exists_eq_right, V.ty.injEq, V.int.injEq, V.bl.injEq, V.str.injEq, V.ref.injEq, exists_and_left, exists_const, reduceIte, reduceCtorEq, false_and, and_false, exists_false, or_false, false_or, Bool.not_true, Bool.not_false, Bool.false_eq_true, String.reduceEq, true_or, or_true]
    refine ⟨x, rfl, hx, _, rfl, ?_⟩
    cases hx <;> simp only [isSt, isWh] at q ⊢ <;> simp_all
    rename_i i
    by_cases h0 : 0 ≤ i <;> simp_all
    exact fun z => absurd z (by omega)
theorem sc_is_looker_value : FnScope ["value", "signs", "states", "state", "to"] ["value"] (defScope (topS 17)) := ⟨rfl, rfl, rfl, by decide +kernel, rfl, by decide +kernel, by decide +kernel⟩
theorem bd_is_looker_value {K : PySem.W.Frag} {f : Addr} {fd : FuncData} (F : FnP K "is_looker_value" (topS 17) f fd) : Binds K fd ["value"] [] := F.bindsN fun _ _ _ _ _ _ us hl => match us, hl with | [_], _ => rfl
def spLv (K : PySem.W.Frag) : Sp := fun vs H Q _ => ∃ v z rs, vs = [v] ∧ RLk K H v z rs ∧ SignsOk z ∧ RowsOk z.length rs ∧ Q (.bl true) H
theorem ok_is_looker_value (T : Tx K mg) : Dk P w K mg base 3 "is_looker_value" ["value"] (spLv K) := by
  have D_is_row := ok_is_row (P := P) (w := w) (base := base) T
  have D_is_signs := ok_is_signs (P := P) (w := w) (base := base) T
  have D_is_bit := ok_is_bit (P := P) (w := w) (base := base) T
  have D_is_state := ok_is_state (P := P) (w := w) (base := base) T
  obtain ⟨fd, F⟩ := T.d_is_looker_value
  refine ⟨⟨fd, F.ok sc_is_looker_value (fun vs H Q E h => ?_) (fun cdv A outer s H vs Q E hr h => ?_), bd_is_looker_value F⟩, F.kp, T.g_is_looker_value⟩
  · obtain ⟨v, z, rs, rfl, _⟩ := h
    rfl
  · obtain ⟨v, z, rs, rfl, hv, hz, hr2, q⟩ := h
    obtain ⟨_, c_MOST_LOOKER⟩ := T.c_MOST_LOOKER
    refine ⟨_, PSs.nox (pss_cons (ps_if (PW.pt (pw_or (pt_not (pt_val (pe_callR D_is_row (hr.mono (by decide)) takes0 (pa_cons (pv 0) (pa_cons pe_int pa_nil))))) (pw_or (pt_not (pt_val (pe_callR D_is_signs (hr.mono (by decide)) takes0 (pa_cons (pe_ix ix_tupQ (pv 0) pe_int (fun _ _ => rfl)) pa_nil)))) (pw_or1 (pt_not (pt_val (pe_callB call_isK (by rfl) T.f_isinstance PyProof.Rows.boot_isinstance (pa_cons (pe_ix ix_tupQ (pv 0) pe_int (fun _ _ => rfl)) (pa_cons (pe_bltn (v := .ty "tuple") (by rfl) T.f_tuple PyProof.Rows.boot_tuple rfl) pa_nil))))))))) (pss_one (ps_ret pe_bl)) pss_nil)
      (pss_cons (ps_asg (pv 0) (pg_tup (by rfl) (pgs_cons (pg_name (i := 1) sc_is_looker_value.nd rfl (.inl rfl)) (pgs_cons (pg_name (i := 2) sc_is_looker_value.nd rfl (.inl rfl)) pgs_nil))))
      (pss_cons (ps_if (pt_not (pt_chain op_le op_le pe_int (pe_callB call_lenQ (by rfl) T.f_len PySem.boot_len (pa_cons (pv 2) pa_nil)) (pe_glob (v := .int 600) (by rfl) c_MOST_LOOKER ⟨_, rfl⟩))) (pss_one (ps_ret pe_bl)) pss_nil)
      (pss_cons (ps_for PassesOwn.never rfl (pi_tup (pv 2)) (pg_name (i := 3) sc_is_looker_value.nd rfl (.inl rfl)) (pss_cons (ps_if (PW.pt (pw_or (pt_not (pt_val (pe_callR D_is_row (hr.mono (by decide)) takes0 (pa_cons (pv 3) (pa_cons pe_int pa_nil))))) (pw_or (pt_not (pt_val (pe_callR D_is_bit (hr.mono (by decide)) takes0 (pa_cons (pe_ix ix_tupQ (pv 3) pe_int (fun _ _ => rfl)) pa_nil)))) (pw_or1 (pt_not (pt_val (pe_callR D_is_row (hr.mono (by decide)) takes0 (pa_cons (pe_ix ix_tupQ (pv 3) pe_int (fun _ _ => rfl)) (pa_cons (pe_callB call_lenQ (by rfl) T.f_len PySem.boot_len (pa_cons (pv 1) pa_nil)) pa_nil))))))))) (pss_one (ps_ret pe_bl)) pss_nil)
      (pss_one (ps_for PassesOwn.never rfl (pi_tup (pe_ix ix_tupQ (pv 3) pe_int (fun _ _ => rfl))) (pg_name (i := 4) sc_is_looker_value.nd rfl (.inl rfl)) (pss_one (ps_if (pt_not (pt_val (pe_callR D_is_state (hr.mono (by decide)) takes0 (pa_cons (pv 4) (pa_cons (pe_callB call_lenQ (by rfl) T.f_len PySem.boot_len (pa_cons (pv 2) pa_nil)) pa_nil))))) (pss_one (ps_ret pe_bl)) pss_nil))))))
      (pss_one (ps_ret pe_bl)))))), ?_⟩
    obtain ⟨a, b, rfl, ha, vs, hb, hp⟩ := hv
    have hlen : vs.length = rs.length := Paired.length hp
    have hk := hr2.pos
    have hk2 := hr2.top
    simp only [cxOf, tYes, eq_self, if_true, if_false, wipe, rLenQ, rIxTQ, rIxLQ, rIxSQ, rInt1Q, rTupQ, rAppQ, rPopQ, rPopAtQ, rRevQ, rListS, rReprP, tLenSetT, tChain, tRetN, tRet, tSeq, tAsg, gName, tVar, tC, tCons, tNil, tCB, tOp, rI0, rI, tAndV, tOrV, tNotV, tIf, tTest, tB, tNot, tAnd, tOr, tIfS, tNext, tCallR, rIsK, rEq, rNe, tDrop, L2.start, List.map_cons, List.map_nil, List.length_cons, List.length_nil, Nat.reduceAdd, Nat.reduceSub, Nat.sub_self, List.replicate_zero, List.replicate_succ, List.append_nil, List.cons_append, List.nil_append, List.getElem?_cons_zero, List.getElem?_cons_succ, List.set_cons_zero, List.set_cons_succ, Option.some.injEq, List.cons.injEq, and_true, true_and, exists_eq_left, exists_eq_left', exists_eq_right, V.ty.injEq, V.int.injEq, V.bl.injEq, V.str.injEq, V.ref.injEq, exists_and_left, exists_const, reduceIte, reduceCtorEq, false_and, and_false, exists_false, or_false, false_or, Bool.not_true, Bool.not_false, Bool.false_eq_true, String.reduceEq, true_or, or_true]
    refine ⟨.ref a, 2, true, rfl, .inl ⟨a, _, rfl, ha, rfl⟩, true, rfl, ifF rfl ⟨_, ha, _, rfl, ?_⟩⟩
    refine ⟨z, rfl, by have := hz.top; omega, _, rfl, ifF (by rw [hz.sgB]; rfl) ⟨_, ha, _, rfl, .tup hb, ifF (by simp [isaB]) ?_⟩⟩
    refine ⟨a, _, rfl, ha, rfl, _, _, rfl, _, _, rfl, rfl, ?_⟩
    simp only [cxOf, tYes, eq_self, if_true, if_false, wipe, rLenQ, rIxTQ, rIxLQ, rIxSQ, rInt1Q, rTupQ, rAppQ, rPopQ, rPopAtQ, rRevQ, rListS, rReprP, tLenSetT, tChain, tRetN, tRet, tSeq, tAsg, gName, tVar, tC, tCons, tNil, tCB, tOp, rI0, rI, tAndV, tOrV, tNotV, tIf, tTest, tB, tNot, tAnd, tOr, tIfS, tNext, tCallR, rIsK, rEq, rNe, tDrop, L2.start, List.map_cons, List.map_nil, List.length_cons, List.length_nil, Nat.reduceAdd, Nat.reduceSub, Nat.sub_self, List.replicate_zero, List.replicate_succ, List.append_nil, List.cons_append, List.nil_append, List.getElem?_cons_zero, List.getElem?_cons_succ, List.set_cons_zero, List.set_cons_succ, Option.some.injEq, List.cons.injEq, and_true, true_and, exists_eq_left, exists_eq_left', exists_eq_right, V.ty.injEq, V.int.injEq, V.bl.injEq, V.str.injEq, V.ref.injEq, exists_and_left, exists_const, reduceIte, reduceCtorEq, false_and, and_false, exists_false, or_false, false_or, Bool.not_true, Bool.not_false, Bool.false_eq_true, String.reduceEq, true_or, or_true]
    refine ⟨vs, .inr hb, ifT (decide_eq_true (by omega)) (ifF (by rw [decide_eq_true (by omega)]; rfl) ?_)⟩
    refine ⟨.ref b, rfl, b, rfl, ⟨vs, hb⟩, for_tup (K := K) (a := b) (xs := vs) (fun i σ H' => H' = H ∧ ∃ x3 x4, σ = [some (.ref a), some (.str z), some (.ref b), x3, x4]) ⟨rfl, _, _, rfl⟩ (fun i σ H' _ h => h.1 ▸ hb) (fun i x σ H' hi hP => ?_) (fun σ H' hP => ?_)⟩
    · obtain ⟨rfl, x3, x4, rfl⟩ := hP
      obtain ⟨⟨e, row⟩, hr, a1, b1, rfl, h1, h2⟩ := pr_get hp hi
      have hm := List.mem_of_getElem? hr
      have hbit := hr2.bit _ hm
      have hwid := hr2.wid _ hm
      have hto := hr2.to _ hm
      simp only [cxOf, tYes, eq_self, if_true, if_false, wipe, rLenQ, rIxTQ, rIxLQ, rIxSQ, rInt1Q, rTupQ, rAppQ, rPopQ, rPopAtQ, rRevQ, rListS, rReprP, tLenSetT, tChain, tRetN, tRet, tSeq, tAsg, gName, tVar, tC, tCons, tNil, tCB, tOp, rI0, rI, tAndV, tOrV, tNotV, tIf, tTest, tB, tNot, tAnd, tOr, tIfS, tNext, tCallR, rIsK, rEq, rNe, tDrop, L2.start, List.map_cons, List.map_nil, List.length_cons, List.length_nil, Nat.reduceAdd, Nat.reduceSub, Nat.sub_self, List.replicate_zero, List.replicate_succ, List.append_nil, List.cons_append, List.nil_append, List.getElem?_cons_zero, List.getElem?_cons_succ, List.set_cons_zero, List.set_cons_succ, Option.some.injEq, List.cons.injEq, and_true, true_and, exists_eq_left, exists_eq_left', exists_eq_right, V.ty.injEq, V.int.injEq, V.bl.injEq, V.str.injEq, V.ref.injEq, exists_and_left, exists_const, reduceIte, reduceCtorEq, false_and, and_false, exists_false, or_false, false_or, Bool.not_true, Bool.not_false, Bool.false_eq_true, String.reduceEq, true_or, or_true]
      refine ⟨.ref a1, 2, true, rfl, .inl ⟨a1, _, rfl, h1, rfl⟩, true, rfl, ifF rfl ⟨_, h1, _, rfl, ?_⟩⟩
      refine ⟨.int e, rfl, .int e, _, rfl, ifF ?_ ⟨_, h1, _, rfl, szle (m := 5) hz.top, ?_⟩⟩
      · have hbit2 : e = 0 ∨ e = 1 := hbit
        rcases hbit2 with rfl | rfl <;> rfl
      refine ⟨.ref b1, _, true, rfl, .inl ⟨b1, _, rfl, h2, ?_⟩, true, rfl, ifF rfl ?_⟩
      · have hwid2 : row.length = z.length := hwid
        rw [List.length_map]
        exact (decide_eq_true (by simp [hwid2])).symm
      refine ⟨.ref a1, rfl, _, _, h1, rfl, b1, rfl, ⟨_, h2⟩, for_tup (K := K) (a := b1) (xs := row.map V.int) (fun i σ H2 => H2 = H' ∧ ∃ x4, σ = [some (.ref a), some (.str z), some (.ref b), some (.ref a1), x4]) ⟨rfl, _, rfl⟩ (fun i σ H2 _ h => h.1 ▸ h2) (fun j x σ H2 hj hP => ?_) (fun σ H2 hP => ?_)⟩
      · obtain ⟨rfl, x4, rfl⟩ := hP
        obtain ⟨t, ht, rfl⟩ : ∃ t, row[j]? = some t ∧ V.int t = x := by
          rw [List.getElem?_map, Option.map_eq_some_iff] at hj
          exact hj
        have hq := hto t (List.mem_of_getElem? ht)
        simp only [cxOf, tYes, eq_self, if_true, if_false, wipe, rLenQ, rIxTQ, rIxLQ, rIxSQ, rInt1Q, rTupQ, rAppQ, rPopQ, rPopAtQ, rRevQ, rListS, rReprP, tLenSetT, tChain, tRetN, tRet, tSeq, tAsg, gName, tVar, tC, tCons, tNil, tCB, tOp, rI0, rI, tAndV, tOrV, tNotV, tIf, tTest, tB, tNot, tAnd, tOr, tIfS, tNext, tCallR, rIsK, rEq, rNe, tDrop, L2.start, List.map_cons, List.map_nil, List.length_cons, List.length_nil, Nat.reduceAdd, Nat.reduceSub, Nat.sub_self, List.replicate_zero, List.replicate_succ, List.append_nil, List.cons_append, List.nil_append, List.getElem?_cons_zero, List.getElem?_cons_succ, List.set_cons_zero, List.set_cons_succ, Option.some.injEq, List.cons.injEq, and_true, true_and, exists_eq_left, exists_eq_left', exists_eq_right, V.ty.injEq, V.int.injEq, V.bl.injEq, V.str.injEq, V.ref.injEq, exists_and_left, exists_const, reduceIte, reduceCtorEq, false_and, and_false, exists_false, or_false, false_or, Bool.not_true, Bool.not_false, Bool.false_eq_true, String.reduceEq, true_or, or_true]
        refine ⟨vs, .inr hb, .int t, _, rfl, .int t, _, rfl, ifF ?_ ⟨rfl, _, rfl⟩⟩
        simp [isSt, hlen, hq.1, hq.2]
      · obtain ⟨rfl, x4, rfl⟩ := hP
        exact ⟨rfl, _, _, rfl⟩
    · obtain ⟨rfl, x3, x4, rfl⟩ := hP
      exact q
theorem sc_is_text_of : FnScope ["signs", "value", "char"] ["signs", "value"] (defScope (topS 6)) := ⟨rfl, rfl, rfl, by decide +kernel, rfl, by decide +kernel, by decide +kernel⟩
theorem bd_is_text_of {K : PySem.W.Frag} {f : Addr} {fd : FuncData} (F : FnP K "is_text_of" (topS 6) f fd) : Binds K fd ["signs", "value"] [] := F.bindsN fun _ _ _ _ _ _ us hl => match us, hl with | [_, _], _ => rfl
def txB (z t : Str) : Bool := t.cps.toList.all fun c => decide (c ∈ z.cps.toList)
def spTx (K : PySem.W.Frag) : Sp := fun vs H Q _ => ∃ z v, vs = [.str z, v] ∧ ((∃ t, v = .str t ∧ t.length ≤ 100000 ∧ ∀ H', Same H H' → Q (.bl (txB z t)) H') ∨ (Kd K H v ∧ isaB "str" v = false ∧ Q (.bl false) H))
theorem ok_is_text_of (T : Tx K mg) : Dk P w K mg base 1 "is_text_of" ["signs", "value"] (spTx K) := by
  obtain ⟨fd, F⟩ := T.d_is_text_of
  refine ⟨⟨fd, F.ok sc_is_text_of (fun vs H Q E h => ?_) (fun cdv A outer s H vs Q E hr h => ?_), bd_is_text_of F⟩, F.kp, T.g_is_text_of⟩
  · obtain ⟨z, v, rfl, _⟩ := h
    rfl
  · obtain ⟨z, v, rfl, h⟩ := h
    refine ⟨_, PSs.nox (pss_cons (ps_if (pt_not (pt_val (pe_callB call_isK (by rfl) T.f_isinstance PyProof.Rows.boot_isinstance (pa_cons (pv 1) (pa_cons (pe_bltn (v := .ty "str") (by rfl) T.f_str PyProof.Rows.boot_str rfl) pa_nil))))) (pss_one (ps_ret pe_bl)) pss_nil)
      (pss_one (ps_ret (pe_callB (cr_all rfl) (by rfl) T.f_all (by decide +kernel) (pa_cons (pe_lc (own := [("char", 2)]) rfl sc_is_text_of.nd (pi_str (pv 1)) (blkOk_by (own := [("char", 2)]) (N := ["signs", "value", "char"]) (sc := defScope (topS 6)) (by decide +kernel)) (fun _ _ _ _ _ => (pg_name (i := 2) sc_is_text_of.nd rfl (.inl rfl))) (fun _ _ _ _ _ => pts_nil) (fun _ _ _ _ _ => (pe_cmpR op_in_sign (pv 2) (pv 0) rfl))) pa_nil))))), ?_⟩
    simp only [cxOf, tYes, eq_self, if_true, if_false, wipe, rLenQ, rIxTQ, rIxLQ, rIxSQ, rInt1Q, rTupQ, rAppQ, rPopQ, rPopAtQ, rRevQ, rListS, rReprP, tLenSetT, tChain, tRetN, tRet, tSeq, tAsg, gName, tVar, tC, tCons, tNil, tCB, tOp, rI0, rI, tAndV, tOrV, tNotV, tIf, tTest, tB, tNot, tAnd, tOr, tIfS, tNext, tCallR, rIsK, rEq, rNe, tDrop, L2.start, List.map_cons, List.map_nil, List.length_cons, List.length_nil, Nat.reduceAdd, Nat.reduceSub, Nat.sub_self, List.replicate_zero, List.replicate_succ, List.append_nil, List.cons_append, List.nil_append, List.getElem?_cons_zero, List.getElem?_cons_succ, List.set_cons_zero, List.set_cons_succ, Option.some.injEq, List.cons.injEq, and_true, true_and, exists_eq_left, exists_eq_left', exists_eq_right, V.ty.injEq, V.int.injEq, V.bl.injEq, V.str.injEq, V.ref.injEq, exists_and_left, exists_const, reduceIte, reduceCtorEq, false_and, and_false, exists_false, or_false, false_or, Bool.not_true, Bool.not_false, Bool.false_eq_true, String.reduceEq, true_or, or_true]
    rcases h with ⟨t, rfl, ht, q⟩ | ⟨hx, e, q⟩
    · refine ⟨.str t, ifF (by simp [isaB]) ⟨.str t, rfl, t, rfl, fun D hD => ?_⟩⟩
      refine lc_gen (n := t.cps.size) (fun i H' => Same H H' ∧ H' D = some (.lst ((t.cps.toList.take i).map fun c => V.bl (decide (c ∈ z.cps.toList))))) ⟨same_upd hD, upd_same⟩ (fun i H' hi _ => hi) (fun H' _ => Nat.le_refl _) ?_ ?_
      · rintro i x H1 H2 hi ⟨s1, e1⟩ ⟨rfl, c, hc, rfl⟩
        have hc2 : t.cps.toList[i]? = some c := by rw [Array.getElem?_toList]; exact hc
        refine ⟨rfl, ?_⟩
        simp only [cxOf, tYes, eq_self, if_true, if_false, wipe, rLenQ, rIxTQ, rIxLQ, rIxSQ, rInt1Q, rTupQ, rAppQ, rPopQ, rPopAtQ, rRevQ, rListS, rReprP, tLenSetT, tChain, tRetN, tRet, tSeq, tAsg, gName, tVar, tC, tCons, tNil, tCB, tOp, rI0, rI, tAndV, tOrV, tNotV, tIf, tTest, tB, tNot, tAnd, tOr, tIfS, tNext, tCallR, rIsK, rEq, rNe, tDrop, L2.start, List.map_cons, List.map_nil, List.length_cons, List.length_nil, Nat.reduceAdd, Nat.reduceSub, Nat.sub_self, List.replicate_zero, List.replicate_succ, List.append_nil, List.cons_append, List.nil_append, List.getElem?_cons_zero, List.getElem?_cons_succ, List.set_cons_zero, List.set_cons_succ, Option.some.injEq, List.cons.injEq, and_true, true_and, exists_eq_left, exists_eq_left', exists_eq_right, V.ty.injEq, V.int.injEq, V.bl.injEq, V.str.injEq, V.ref.injEq, exists_and_left, exists_const, reduceIte, reduceCtorEq, false_and, and_false, exists_false, or_false, false_or, Bool.not_true, Bool.not_false, Bool.false_eq_true, String.reduceEq, true_or, or_true]
        refine ⟨c, rfl, _, e1, ?_, ?_, ?_⟩
        · rw [List.length_map, List.length_take]
          exact szlt (m := 100000) (by have : t.cps.toList.length = t.length := Array.length_toList; omega)
        · exact fun b o hb => by rw [upd_ne (ne_of_none hb hD)]; exact s1 b o hb
        · rw [upd_same, List.take_add_one, hc2, List.map_append]
          rfl
      · rintro H1 ⟨s1, e1⟩
        have ee : t.cps.toList.take t.cps.size = t.cps.toList := List.take_of_length_le (by simp)
        rw [ee] at e1
        refine ⟨D, t.cps.toList.map fun c => decide (c ∈ z.cps.toList), rfl, .inl (.inl ?_), ?_⟩
        · rw [e1, List.map_map]
          rfl
        · have e2 : (t.cps.toList.map fun c => decide (c ∈ z.cps.toList)).all id = txB z t := by
            unfold txB
            rw [List.all_map]
            rfl
          rw [e2]
          exact q H1 s1
    · exact ⟨hx, ifT (by rw [e]; rfl) q⟩
theorem sc_check_text : FnScope ["signs", "value"] ["signs", "value"] (defScope (topS 7)) := ⟨rfl, rfl, rfl, by decide +kernel, rfl, by decide +kernel, by decide +kernel⟩
theorem bd_check_text {K : PySem.W.Frag} {f : Addr} {fd : FuncData} (F : FnP K "check_text" (topS 7) f fd) : Binds K fd ["signs", "value"] [] := F.bindsN fun _ _ _ _ _ _ us hl => match us, hl with | [_, _], _ => rfl
def spCt (K : PySem.W.Frag) : Sp := fun vs H Q E => ∃ z t, vs = [.str z, .str t] ∧ t.length ≤ 100000 ∧ (txB z t = true → ∀ H', Same H H' → Q .non H') ∧ (txB z t = false → ∀ H', Same H H' → E (.ref (He.ga K "BadSigns")) none H')
theorem ok_check_text (T : Tx K mg) : Dk P w K mg base 2 "check_text" ["signs", "value"] (spCt K) := by
  have D_is_text_of := ok_is_text_of (P := P) (w := w) (base := base) T
  obtain ⟨fd, F⟩ := T.d_check_text
  refine ⟨⟨fd, F.ok sc_check_text (fun vs H Q E h => ?_) (fun cdv A outer s H vs Q E hr h => ?_), bd_check_text F⟩, F.kp, T.g_check_text⟩
  · obtain ⟨z, t, rfl, _⟩ := h
    rfl
  · obtain ⟨z, t, rfl, ht, q1, q2⟩ := h
    refine ⟨_, (pss_one (ps_if (pt_not (pt_val (pe_callR D_is_text_of (hr.mono (by decide)) (takes_of rfl rfl rfl rfl) (pa_cons (pv 0) (pa_cons (pv 1) pa_nil))))) (pss_one (ps_raise rfl (takes_of rfl rfl rfl rfl) (pmk_own PySem.F.excBase_ValueError T.e_BadSigns.ex T.e_BadSigns.gm T.e_BadSigns.kp T.e_BadSigns.rs rfl))) pss_nil)), ?_⟩
    simp only [cxOf, tYes, eq_self, if_true, if_false, wipe, rLenQ, rIxTQ, rIxLQ, rIxSQ, rInt1Q, rTupQ, rAppQ, rPopQ, rPopAtQ, rRevQ, rListS, rReprP, tLenSetT, tChain, tRetN, tRet, tSeq, tAsg, gName, tVar, tC, tCons, tNil, tCB, tOp, rI0, rI, tAndV, tOrV, tNotV, tIf, tTest, tB, tNot, tAnd, tOr, tIfS, tNext, tCallR, rIsK, rEq, rNe, tDrop, L2.start, List.map_cons, List.map_nil, List.length_cons, List.length_nil, Nat.reduceAdd, Nat.reduceSub, Nat.sub_self, List.replicate_zero, List.replicate_succ, List.append_nil, List.cons_append, List.nil_append, List.getElem?_cons_zero, List.getElem?_cons_succ, List.set_cons_zero, List.set_cons_succ, Option.some.injEq, List.cons.injEq, and_true, true_and, exists_eq_left, exists_eq_left', exists_eq_right, V.ty.injEq, V.int.injEq, V.bl.injEq, V.str.injEq, V.ref.injEq, exists_and_left, exists_const, reduceIte, reduceCtorEq, false_and, and_false, exists_false, or_false, false_or, Bool.not_true, Bool.not_false, Bool.false_eq_true, String.reduceEq, true_or, or_true]
    refine ⟨z, .str t, rfl, .inl ⟨t, rfl, ht, fun H' s1 => ⟨_, rfl, ?_⟩⟩⟩
    cases e : txB z t with
    | true => exact ifF rfl (q1 e H' s1)
    | false => exact ifT rfl (q2 e H' s1)
theorem sc_check_looker : FnScope ["value"] ["value"] (defScope (topS 19)) := ⟨rfl, rfl, rfl, by decide +kernel, rfl, by decide +kernel, by decide +kernel⟩
theorem bd_check_looker {K : PySem.W.Frag} {f : Addr} {fd : FuncData} (F : FnP K "check_looker" (topS 19) f fd) : Binds K fd ["value"] [] := F.bindsN fun _ _ _ _ _ _ us hl => match us, hl with | [_], _ => rfl
def spCl (K : PySem.W.Frag) : Sp := fun vs H Q _ => ∃ v z rs, vs = [v] ∧ RLk K H v z rs ∧ SignsOk z ∧ RowsOk z.length rs ∧ Q .non H
theorem ok_check_looker (T : Tx K mg) : Dk P w K mg base 4 "check_looker" ["value"] (spCl K) := by
  have D_is_looker_value := ok_is_looker_value (P := P) (w := w) (base := base) T
  obtain ⟨fd, F⟩ := T.d_check_looker
  refine ⟨⟨fd, F.ok sc_check_looker (fun vs H Q E h => ?_) (fun cdv A outer s H vs Q E hr h => ?_), bd_check_looker F⟩, F.kp, T.g_check_looker⟩
  · obtain ⟨v, z, rs, rfl, _⟩ := h
    rfl
  · obtain ⟨v, z, rs, rfl, hv, hz, hr2, q⟩ := h
    refine ⟨_, (pss_one (ps_if (pt_not (pt_val (pe_callR D_is_looker_value (hr.mono (by decide)) (takes_of rfl rfl rfl rfl) (pa_cons (pv 0) pa_nil)))) (pss_one (ps_raise rfl (takes_of rfl rfl rfl rfl) (pmk_own PySem.F.excBase_ValueError T.e_BadLooker.ex T.e_BadLooker.gm T.e_BadLooker.kp T.e_BadLooker.rs rfl))) pss_nil)), ?_⟩
    simp only [cxOf, tYes, eq_self, if_true, if_false, wipe, rLenQ, rIxTQ, rIxLQ, rIxSQ, rInt1Q, rTupQ, rAppQ, rPopQ, rPopAtQ, rRevQ, rListS, rReprP, tLenSetT, tChain, tRetN, tRet, tSeq, tAsg, gName, tVar, tC, tCons, tNil, tCB, tOp, rI0, rI, tAndV, tOrV, tNotV, tIf, tTest, tB, tNot, tAnd, tOr, tIfS, tNext, tCallR, rIsK, rEq, rNe, tDrop, L2.start, List.map_cons, List.map_nil, List.length_cons, List.length_nil, Nat.reduceAdd, Nat.reduceSub, Nat.sub_self, List.replicate_zero, List.replicate_succ, List.append_nil, List.cons_append, List.nil_append, List.getElem?_cons_zero, List.getElem?_cons_succ, List.set_cons_zero, List.set_cons_succ, Option.some.injEq, List.cons.injEq, and_true, true_and, exists_eq_left, exists_eq_left', exists_eq_right, V.ty.injEq, V.int.injEq, V.bl.injEq, V.str.injEq, V.ref.injEq, exists_and_left, exists_const, reduceIte, reduceCtorEq, false_and, and_false, exists_false, or_false, false_or, Bool.not_true, Bool.not_false, Bool.false_eq_true, String.reduceEq, true_or, or_true]
    exact ⟨v, z, rs, rfl, hv, hz, hr2, true, rfl, ifF rfl q⟩
theorem sc_state_behind : FnScope ["signs", "states", "state", "text", "sign"] ["signs", "states", "state", "text"] (defScope (topS 21)) := ⟨rfl, rfl, rfl, by decide +kernel, rfl, by decide +kernel, by decide +kernel⟩
theorem bd_state_behind {K : PySem.W.Frag} {f : Addr} {fd : FuncData} (F : FnP K "state_behind" (topS 21) f fd) : Binds K fd ["signs", "states", "state", "text"] [] := F.bindsN fun _ _ _ _ _ _ us hl => match us, hl with | [_, _, _, _], _ => rfl
def walkS (z : Str) (rs : List LRow) (p : Int) (l : List Nat) : Int := l.foldl (fun p c => nxt rs p (z.cps.toList.idxOf c)) p
def spSb (K : PySem.W.Frag) : Sp := fun vs H Q _ => ∃ z b rs p t, vs = [.str z, .ref b, .int p, .str t] ∧ RRows K H b rs ∧ SignsOk z ∧ RowsOk z.length rs ∧ InSt rs p ∧ txB z t = true ∧ Q (.int (walkS z rs p t.cps.toList)) H
theorem ok_state_behind (T : Tx K mg) : Dk P w K mg base 1 "state_behind" ["signs", "states", "state", "text"] (spSb K) := by
  obtain ⟨fd, F⟩ := T.d_state_behind
  refine ⟨⟨fd, F.ok sc_state_behind (fun vs H Q E h => ?_) (fun cdv A outer s H vs Q E hr h => ?_), bd_state_behind F⟩, F.kp, T.g_state_behind⟩
  · obtain ⟨z, b, rs, p, t, rfl, _⟩ := h
    rfl
  · obtain ⟨z, b, rs, p, t, rfl, hb, hz, hr2, hp, ht, q⟩ := h
    refine ⟨_, PSs.nox (pss_cons (ps_for PassesOwn.never rfl (pi_str (pv 3)) (pg_name (i := 4) sc_state_behind.nd rfl (.inl rfl)) (pss_one (ps_set (i := 2) sc_state_behind.nd rfl (.inl rfl) (pe_ix ix_tupQ (pe_ix ix_tupQ (pe_ix ix_tupQ (pv 1) (pv 2) (fun _ _ => rfl)) pe_int (fun _ _ => rfl)) (pe_m1 PySem.F.slot_str_find PySem.F.type_str_find mt_find (pv 0) (pv 4)) (fun _ _ => rfl)))))
      (pss_one (ps_ret (pv 2)))), ?_⟩
    simp only [cxOf, tYes, eq_self, if_true, if_false, wipe, rLenQ, rIxTQ, rIxLQ, rIxSQ, rInt1Q, rTupQ, rAppQ, rPopQ, rPopAtQ, rRevQ, rListS, rReprP, tLenSetT, tChain, tRetN, tRet, tSeq, tAsg, gName, tVar, tC, tCons, tNil, tCB, tOp, rI0, rI, tAndV, tOrV, tNotV, tIf, tTest, tB, tNot, tAnd, tOr, tIfS, tNext, tCallR, rIsK, rEq, rNe, tDrop, L2.start, List.map_cons, List.map_nil, List.length_cons, List.length_nil, Nat.reduceAdd, Nat.reduceSub, Nat.sub_self, List.replicate_zero, List.replicate_succ, List.append_nil, List.cons_append, List.nil_append, List.getElem?_cons_zero, List.getElem?_cons_succ, List.set_cons_zero, List.set_cons_succ, Option.some.injEq, List.cons.injEq, and_true, true_and, exists_eq_left, exists_eq_left', exists_eq_right, V.ty.injEq, V.int.injEq, V.bl.injEq, V.str.injEq, V.ref.injEq, exists_and_left, exists_const, reduceIte, reduceCtorEq, false_and, and_false, exists_false, or_false, false_or, Bool.not_true, Bool.not_false, Bool.false_eq_true, String.reduceEq, true_or, or_true]
    refine ⟨.str t, rfl, t, rfl, for_gen (n := t.cps.size) (fun i σ H' => H' = H ∧ InSt rs (walkS z rs p (t.cps.toList.take i)) ∧ ∃ x4, σ = [some (.str z), some (.ref b), some (.int (walkS z rs p (t.cps.toList.take i))), some (.str t), x4]) ⟨rfl, hp, _, rfl⟩ (fun i σ H' hi _ => hi) (fun σ H' _ => Nat.le_refl _) ?_ ?_⟩
    · rintro i x σ H1 H2 hi ⟨rfl, hin, x4, rfl⟩ ⟨rfl, c, hc, rfl⟩
      have hc2 : t.cps.toList[i]? = some c := by rw [Array.getElem?_toList]; exact hc
      have hcm : c ∈ z.cps.toList := of_decide_eq_true (List.all_eq_true.mp ht c (List.mem_of_getElem? hc2))
      have hx : z.cps.toList.idxOf c < z.cps.toList.length := List.idxOf_lt_length_of_mem hcm
      have hxi : z.cps.toList[z.cps.toList.idxOf c]? = some c := by
        rw [List.getElem?_eq_getElem hx]
        exact congrArg some (List.getElem_idxOf hx)
      have hxl : z.cps.toList.idxOf c < z.length := by
        have e : z.cps.toList.length = z.length := Array.length_toList
        omega
      obtain ⟨vs, a1, b1, h1, h2, h3, h4⟩ := hb.at hin
      simp only [cxOf, tYes, eq_self, if_true, if_false, wipe, rLenQ, rIxTQ, rIxLQ, rIxSQ, rInt1Q, rTupQ, rAppQ, rPopQ, rPopAtQ, rRevQ, rListS, rReprP, tLenSetT, tChain, tRetN, tRet, tSeq, tAsg, gName, tVar, tC, tCons, tNil, tCB, tOp, rI0, rI, tAndV, tOrV, tNotV, tIf, tTest, tB, tNot, tAnd, tOr, tIfS, tNext, tCallR, rIsK, rEq, rNe, tDrop, L2.start, List.map_cons, List.map_nil, List.length_cons, List.length_nil, Nat.reduceAdd, Nat.reduceSub, Nat.sub_self, List.replicate_zero, List.replicate_succ, List.append_nil, List.cons_append, List.nil_append, List.getElem?_cons_zero, List.getElem?_cons_succ, List.set_cons_zero, List.set_cons_succ, Option.some.injEq, List.cons.injEq, and_true, true_and, exists_eq_left, exists_eq_left', exists_eq_right, V.ty.injEq, V.int.injEq, V.bl.injEq, V.str.injEq, V.ref.injEq, exists_and_left, exists_const, reduceIte, reduceCtorEq, false_and, and_false, exists_false, or_false, false_or, Bool.not_true, Bool.not_false, Bool.false_eq_true, String.reduceEq, true_or, or_true]
      have step : walkS z rs p (t.cps.toList.take (i + 1)) = nxt rs (walkS z rs p (t.cps.toList.take i)) (z.cps.toList.idxOf c) := by
        unfold walkS
        rw [List.take_add_one, hc2, List.foldl_append]
        rfl
      have ef : Txt.find z ⟨#[c]⟩ = ((z.cps.toList.idxOf c : Nat) : Int) := find_sign hz.nd hxi
      refine ⟨vs, h1, _, h2, _, h3, _, rfl, ?_⟩
      refine ⟨.str z, rfl, ⟨z, rfl⟩, .str ⟨#[c]⟩, rfl, z, rfl, ⟨#[c]⟩, rfl, ?_⟩
      rw [ef]
      refine ⟨_, h4, _, row_at hr2 hin hxl, rfl, ?_, ?_, _, rfl⟩
      · rw [step]
        exact nxt_in hr2 hin hxl
      · rw [step]
    · rintro σ H1 ⟨rfl, hin, x4, rfl⟩
      have ee : t.cps.toList.take t.cps.size = t.cps.toList := List.take_of_length_le (by simp)
      rw [ee]
      exact ⟨_, rfl, q⟩
theorem sc_classes_of : FnScope ["states", "state", "marks", "many", "places", "fresh", "at", "key", "to"] ["states"] (defScope (topS 22)) := ⟨rfl, rfl, rfl, by decide +kernel, rfl, by decide +kernel, by decide +kernel⟩
theorem bd_classes_of {K : PySem.W.Frag} {f : Addr} {fd : FuncData} (F : FnP K "classes_of" (topS 22) f fd) : Binds K fd ["states"] [] := F.bindsN fun _ _ _ _ _ _ us hl => match us, hl with | [_], _ => rfl
def spCo (K : PySem.W.Frag) : Sp := fun vs H Q _ => ∃ b rs n, vs = [.ref b] ∧ RRows K H b rs ∧ RowsOk n rs ∧ n ≤ 1000 ∧ ∀ l ms H', Same H H' → H l = none → H' l = some (.lst (ms.map V.int)) → ms.length = rs.length → Kern rs ms → Q (.ref l) H'
def CoI (H : Hp) (b : Addr) (rs : List LRow) (m : Nat) (σ : L2.St) (H' : Hp) : Prop :=
  ∃ (l : Addr) (ms : List Int) (y1 y4 y5 y6 y7 y8 : Option V), m + (once ms).length = rs.length ∧ MarkOk rs ms ∧ Same H H' ∧ H l = none ∧ H' l = some (.lst (ms.map V.int)) ∧
    σ = [some (.ref b), y1, some (.ref l), some (.int ((once ms).length : Nat)), y4, y5, y6, y7, y8]
def CoJ (P : Program) (w : World) (H : Hp) (b l pd fr : Addr) (rs : List LRow) (ms : List Int) (i : Nat) (σ : L2.St) (H' : Hp) : Prop :=
  ∃ (kvs : List NE) (y1 y6 y7 y8 : Option V), CoH P w H l pd fr rs ms i H' kvs ∧ σ = [some (.ref b), y1, some (.ref l), some (.int ((once ms).length : Nat)), some (.ref pd), some (.ref fr), y6, y7, y8]
theorem ok_classes_of (T : Tx K mg) : Dk P w K mg base 1 "classes_of" ["states"] (spCo K) := by
  obtain ⟨fd, F⟩ := T.d_classes_of
  refine ⟨⟨fd, F.ok sc_classes_of (fun vs H Q E h => ?_) (fun cdv A outer s H vs Q E hr h => ?_), bd_classes_of F⟩, F.kp, T.g_classes_of⟩
  · obtain ⟨b, rs, n, rfl, _⟩ := h
    rfl
  · obtain ⟨b, rs, n, rfl, ⟨vs, hvs, hpr⟩, ok, hn, q⟩ := h
    refine ⟨_, PSs.nox (pss_cons (ps_set (i := 2) sc_classes_of.nd rfl (.inr rfl) (pe_lc (own := [("state", 1)]) rfl sc_classes_of.nd (pi_tup (pv 0)) (blkOk_by (own := [("state", 1)]) (N := ["states", "state", "marks", "many", "places", "fresh", "at", "key", "to"]) (sc := defScope (topS 22)) (by decide +kernel)) (fun _ _ _ _ _ => (pg_name (i := 1) sc_classes_of.nd rfl (.inl rfl))) (fun _ _ _ _ _ => pts_nil) (fun _ _ _ _ _ => (pe_ix (show IxR _ (rIxTQ K) by exact ix_tupQ) (pv 1) pe_int (fun _ _ => rfl)))))
      (pss_cons (ps_set (i := 3) sc_classes_of.nd rfl (.inl rfl) (pe_lenSetN rfl (by rfl) T.f_len (by rfl) T.f_set (pv 2) rfl))
      (pss_one (ps_while PassesOwn.never (pt_val pe_bl) (pss_cons (ps_set (i := 4) sc_classes_of.nd rfl (.inl rfl) pe_nnew)
      (pss_cons (ps_set (i := 5) sc_classes_of.nd rfl (.inl rfl) (pe_lst pa_nil))
      (pss_cons (ps_for PassesOwn.never rfl (pi_enumT (by rfl) T.f_enumerate (pa_cons (pv 0) pa_nil)) (pg_tup (by rfl) (pgs_cons (pg_name (i := 6) sc_classes_of.nd rfl (.inl rfl)) (pgs_cons (pg_name (i := 1) sc_classes_of.nd rfl (.inl rfl)) pgs_nil))) (pss_cons (ps_set (i := 7) sc_classes_of.nd rfl (.inl rfl) (pe_tup (pa_cons (pe_ix ix_listQ (pv 2) (pv 6) (fun _ _ => rfl)) (pa_cons (pe_callTy call_tupQ (by rfl) T.f_tuple PyProof.Rows.boot_tuple (pa_cons (pe_lc (own := [("to", 8)]) rfl sc_classes_of.nd (pi_tup (pe_ix ix_tupQ (pv 1) pe_int (fun _ _ => rfl))) (blkOk_by (own := [("to", 8)]) (N := ["states", "state", "marks", "many", "places", "fresh", "at", "key", "to"]) (sc := defScope (topS 22)) (by decide +kernel)) (fun _ _ _ _ _ => (pg_name (i := 8) sc_classes_of.nd rfl (.inl rfl))) (fun _ _ _ _ _ => pts_nil) (fun _ _ _ _ _ => (pe_ix (show IxR _ (rIxLQ K) by exact ix_listQ) (pv 2) (pv 8) (fun _ _ => rfl)))) pa_nil)) pa_nil))))
      (pss_cons (ps_if (pt_cmp (pc_nnotin hr.units (pv 7) (pv 4))) (pss_one (ps_nput hr.units (pv 4) (pv 7) (pe_callB call_lenN (by rfl) T.f_len PySem.boot_len (pa_cons (pv 4) pa_nil)) rfl)) pss_nil)
      (pss_one (ps_expr (pe_bm PySem.F.plainAttrs_list PySem.F.slot_list_append PySem.F.type_list_append mt_appQ (pv 5) (pa_cons (pe_nget hr.units (pv 4) (pv 7) (fun _ _ => rfl)) pa_nil)))))))
      (pss_cons (ps_set (i := 2) sc_classes_of.nd rfl (.inr rfl) (pv 5))
      (pss_cons (ps_if (pt_cmpR op_eq (pe_callB call_lenN (by rfl) T.f_len PySem.boot_len (pa_cons (pv 4) pa_nil)) (pv 3) (nomark _)) (pss_one (ps_ret (pv 2))) pss_nil)
      (pss_one (ps_set (i := 3) sc_classes_of.nd rfl (.inl rfl) (pe_callB call_lenN (by rfl) T.f_len PySem.boot_len (pa_cons (pv 4) pa_nil))))))))))))), ?_⟩
    simp only [cxOf, tYes, eq_self, if_true, if_false, wipe, rLenQ, rIxTQ, rIxLQ, rIxSQ, rInt1Q, rTupQ, rAppQ, rPopQ, rPopAtQ, rRevQ, rListS, rReprP, tLenSetT, tChain, tRetN, tRet, tSeq, tAsg, gName, tVar, tC, tCons, tNil, tCB, tOp, rI0, rI, tAndV, tOrV, tNotV, tIf, tTest, tB, tNot, tAnd, tOr, tIfS, tNext, tCallR, rIsK, rEq, rNe, tDrop, L2.start, List.map_cons, List.map_nil, List.length_cons, List.length_nil, Nat.reduceAdd, Nat.reduceSub, Nat.sub_self, List.replicate_zero, List.replicate_succ, List.append_nil, List.cons_append, List.nil_append, List.getElem?_cons_zero, List.getElem?_cons_succ, List.set_cons_zero, List.set_cons_succ, Option.some.injEq, List.cons.injEq, and_true, true_and, exists_eq_left, exists_eq_left', exists_eq_right, V.ty.injEq, V.int.injEq, V.bl.injEq, V.str.injEq, V.ref.injEq, exists_and_left, exists_const, reduceIte, reduceCtorEq, false_and, and_false, exists_false, or_false, false_or, Bool.not_true, Bool.not_false, Bool.false_eq_true, String.reduceEq, true_or, or_true, rNotT, tNNew, tNNotIn, tNGet, sNPut, tLenSetN, tPar, tAug, ipI, tDNotIn, sDPut, tDGet, tTup, tLst, tBM, tBM0]
    have el : vs.length = rs.length := pr_len hpr
    have h600 := ok.top
    refine ⟨.ref b, rfl, b, rfl, ⟨vs, hvs⟩, fun D0 hD0 => ?_⟩
    refine lc_read (ys := (rs.map (·.1)).map V.int) hD0 hvs (by simp [el]) (by omega) (fun x => rfl) (fun i x y hx hy R hR => ?_) ?_
    · obtain ⟨r, hr, a1, b1, rfl, h3, h4⟩ := pr_get hpr hx
      have e : y = .int r.1 := by
        rw [List.getElem?_map, List.getElem?_map, hr] at hy
        exact (Option.some.inj hy).symm
      subst e
      exact ⟨_, rfl, _, _, Same.sqT (same_upd hD0) h3, rfl, hR⟩
    refine ⟨rs.map (·.1), .inl (.inl upd_same), by simp; omega, ?_⟩
    have hc0 : (once (rs.map (·.1))).length ≤ rs.length := by have := once_len (rs.map (·.1)); simpa using this
    refine ⟨CoI H b rs, ⟨rs.length - (once (rs.map (·.1))).length, D0, rs.map (·.1), none, none, none, none, none, none, by omega, mark_start, same_upd hD0, hD0, upd_same, rfl⟩, ?_⟩
    rintro m σ H1 ⟨l, ms, y1, y4, y5, y6, y7, y8, hm, hM, s1, hl0, hl, rfl⟩
    simp only [cxOf, tYes, eq_self, if_true, if_false, wipe, rLenQ, rIxTQ, rIxLQ, rIxSQ, rInt1Q, rTupQ, rAppQ, rPopQ, rPopAtQ, rRevQ, rListS, rReprP, tLenSetT, tChain, tRetN, tRet, tSeq, tAsg, gName, tVar, tC, tCons, tNil, tCB, tOp, rI0, rI, tAndV, tOrV, tNotV, tIf, tTest, tB, tNot, tAnd, tOr, tIfS, tNext, tCallR, rIsK, rEq, rNe, tDrop, L2.start, List.map_cons, List.map_nil, List.length_cons, List.length_nil, Nat.reduceAdd, Nat.reduceSub, Nat.sub_self, List.replicate_zero, List.replicate_succ, List.append_nil, List.cons_append, List.nil_append, List.getElem?_cons_zero, List.getElem?_cons_succ, List.set_cons_zero, List.set_cons_succ, Option.some.injEq, List.cons.injEq, and_true, true_and, exists_eq_left, exists_eq_left', exists_eq_right, V.ty.injEq, V.int.injEq, V.bl.injEq, V.str.injEq, V.ref.injEq, exists_and_left, exists_const, reduceIte, reduceCtorEq, false_and, and_false, exists_false, or_false, false_or, Bool.not_true, Bool.not_false, Bool.false_eq_true, String.reduceEq, true_or, or_true, rNotT, tNNew, tNNotIn, tNGet, sNPut, tLenSetN, tPar, tAug, ipI, tDNotIn, sDPut, tDGet, tTup, tLst, tBM, tBM0]
    refine ⟨fun σ' H' => ∃ m', m' < m ∧ CoI H b rs m' σ' H', fun σ' H' hw => hw, fun pd hpd => ⟨Nat.zero_le _, fun fr hfr => ?_⟩⟩
    have c0 := CoH.start (rs := rs) s1 hl hpd hfr
    have n1 : H pd = none := Same.free s1 hpd
    have n2 : H fr = none := Same.free (Same.trans s1 (same_upd hpd)) hfr
    have e1 : l ≠ pd := ne_of_none hl hpd
    have e2 : l ≠ fr := ne_of_none (same_upd (o := dN P w pd []) hpd _ _ hl) hfr
    have e3 : pd ≠ fr := fun z => by rw [← z, upd_same] at hfr; cases hfr
    refine ⟨.ref b, rfl, b, vs, rfl, Same.sqT c0.same hvs, ?_⟩
    refine for_gen (n := rs.length) (CoJ P w H b l pd fr rs ms) ⟨[], _, _, _, _, c0, rfl⟩ ?_ ?_ ?_ ?_
    · rintro i σ H2 hi ⟨kvs, z1, z6, z7, z8, c, rfl⟩
      exact ⟨vs, _, Same.sqT c.same hvs, List.getElem?_eq_getElem (by omega)⟩
    · rintro σ H2 ⟨kvs, z1, z6, z7, z8, c, rfl⟩
      exact ⟨vs, Same.sqT c.same hvs, by omega⟩
    · rintro i x σ H2 H3 hi ⟨kvs, z1, z6, z7, z8, c, rfl⟩ ⟨Tp, y, rfl, hT0, rfl, hy⟩
      have hvi := hy vs (Same.sqT c.same hvs)
      obtain ⟨r, hr, a1, b1, rfl, h3, h4⟩ := pr_get hpr hvi
      have hin : InSt rs (i : Int) := ⟨by omega, by omega⟩
      have er : rowOf rs (i : Int) = r := by
        have := rowOf_get hin
        rw [Int.toNat_natCast, hr] at this
        exact (Option.some.inj this).symm
      have c1 := c.other (o := .tup [.int (i : Int), .ref a1]) hT0
      refine ⟨Tp, _, rfl, .inl (.inl upd_same), rfl, _, _, rfl, _, _, rfl, rfl, ?_⟩
      simp only [cxOf, tYes, eq_self, if_true, if_false, wipe, rLenQ, rIxTQ, rIxLQ, rIxSQ, rInt1Q, rTupQ, rAppQ, rPopQ, rPopAtQ, rRevQ, rListS, rReprP, tLenSetT, tChain, tRetN, tRet, tSeq, tAsg, gName, tVar, tC, tCons, tNil, tCB, tOp, rI0, rI, tAndV, tOrV, tNotV, tIf, tTest, tB, tNot, tAnd, tOr, tIfS, tNext, tCallR, rIsK, rEq, rNe, tDrop, L2.start, List.map_cons, List.map_nil, List.length_cons, List.length_nil, Nat.reduceAdd, Nat.reduceSub, Nat.sub_self, List.replicate_zero, List.replicate_succ, List.append_nil, List.cons_append, List.nil_append, List.getElem?_cons_zero, List.getElem?_cons_succ, List.set_cons_zero, List.set_cons_succ, Option.some.injEq, List.cons.injEq, and_true, true_and, exists_eq_left, exists_eq_left', exists_eq_right, V.ty.injEq, V.int.injEq, V.bl.injEq, V.str.injEq, V.ref.injEq, exists_and_left, exists_const, reduceIte, reduceCtorEq, false_and, and_false, exists_false, or_false, false_or, Bool.not_true, Bool.not_false, Bool.false_eq_true, String.reduceEq, true_or, or_true, rNotT, tNNew, tNNotIn, tNGet, sNPut, tLenSetN, tPar, tAug, ipI, tDNotIn, sDPut, tDGet, tTup, tLst, tBM, tBM0]
      refine ⟨_, .inl (.inl c1.lm), .int (mk ms i), getD_get hM.len hin.1 hin.2, ?_⟩
      refine ⟨.ref a1, rfl, _, _, Same.sqT c1.same h3, rfl, b1, rfl, ⟨_, Same.sqT c1.same h4⟩, fun D1 hD1 => ?_⟩
      refine lc_read (ys := (r.2.map (mk ms)).map V.int) hD1 (Same.sqT c1.same h4) (by simp) (by have := ok.wid r (List.mem_of_getElem? hr); simp; omega) (fun x => rfl) (fun k x y hx hy R hR => ?_) ?_
      · rw [List.getElem?_map] at hx
        obtain ⟨qv, hq, rfl⟩ := Option.map_eq_some_iff.mp hx
        have e : y = .int (mk ms qv) := by
          rw [List.getElem?_map, List.getElem?_map, hq] at hy
          exact (Option.some.inj hy).symm
        subst e
        have hto := ok.to r (List.mem_of_getElem? hr) qv (List.mem_of_getElem? hq)
        exact ⟨_, rfl, _, rfl, _, _, .inl (.inl (same_upd hD1 _ _ c1.lm)), getD_get hM.len hto.1 hto.2, hR⟩
      have c2 := c1.other (o := .lst ((r.2.map (mk ms)).map V.int)) hD1
      have ek : keyAt rs ms i = (mk ms (i : Int), r.2.map (mk ms)) := by unfold keyAt; rw [er]
      refine ⟨_, .inl (.inl upd_same), fun T1 hT1 => ⟨szle (m := 2) (Nat.le_refl _), fun T2 hT2 => ?_⟩⟩
      have c3 := c2.other (o := .tup ((r.2.map (mk ms)).map V.int)) hT1
      have c4 := c3.other (o := .tup [.int (mk ms (i : Int)), .ref T1]) hT2
      have key : KeyN (upd (upd (upd (upd H2 Tp (.tup [.int (i : Int), .ref a1])) D1 (.lst ((r.2.map (mk ms)).map V.int))) T1 (.tup ((r.2.map (mk ms)).map V.int))) T2 (.tup [.int (mk ms (i : Int)), .ref T1])) T2 (keyAt rs ms i) := by
        rw [ek]
        exact ⟨T1, upd_same, same_upd hT2 _ _ upd_same⟩
      have hkl := c4.len
      have hkf := keys_few rs ms i
      refine ⟨kvs, c4.dict, c4.ent, keyAt rs ms i, key, ?_⟩
      by_cases hm2 : keyAt rs ms i ∈ once (keysTo rs ms i)
      · have hv : valN kvs (keyAt rs ms i) = some (((once (keysTo rs ms i)).idxOf (keyAt rs ms i) : Nat) : Int) := by rw [c4.val, if_pos hm2]
        refine ifF (by rw [hv]; rfl) ⟨lst_ty c4.fresh, kvs, c4.dict, c4.ent, _, key, _, hv, _, c4.fresh, ?_, kvs, _, _, _, _, c4.stay hl0 n2 e2 e3 hm2, rfl⟩
        rw [List.length_map, markTo_len]
        exact szlt (m := 600) (by omega)
      · have hv : valN kvs (keyAt rs ms i) = none := by rw [c4.val, if_neg hm2]
        obtain ⟨g1, g2, g3, g4⟩ := c4.mid e3 key hm2
        refine ifT (by rw [hv]; rfl) ⟨kvs, c4.dict, c4.ent, by omega, kvs, keyAt rs ms i, _, rfl, c4.dict, c4.ent, key, hv, by omega, lst_ty g1, _, upd_same, g2, _, g3, _, g4, _, g1, ?_, _, _, _, _, _, c4.step hl0 n1 n2 e1 e2 e3 key hm2, rfl⟩
        rw [List.length_map, markTo_len]
        exact szlt (m := 600) (by omega)
    · rintro σ H2 ⟨kvs, z1, z6, z7, z8, c, rfl⟩
      simp only [cxOf, tYes, eq_self, if_true, if_false, wipe, rLenQ, rIxTQ, rIxLQ, rIxSQ, rInt1Q, rTupQ, rAppQ, rPopQ, rPopAtQ, rRevQ, rListS, rReprP, tLenSetT, tChain, tRetN, tRet, tSeq, tAsg, gName, tVar, tC, tCons, tNil, tCB, tOp, rI0, rI, tAndV, tOrV, tNotV, tIf, tTest, tB, tNot, tAnd, tOr, tIfS, tNext, tCallR, rIsK, rEq, rNe, tDrop, L2.start, List.map_cons, List.map_nil, List.length_cons, List.length_nil, Nat.reduceAdd, Nat.reduceSub, Nat.sub_self, List.replicate_zero, List.replicate_succ, List.append_nil, List.cons_append, List.nil_append, List.getElem?_cons_zero, List.getElem?_cons_succ, List.set_cons_zero, List.set_cons_succ, Option.some.injEq, List.cons.injEq, and_true, true_and, exists_eq_left, exists_eq_left', exists_eq_right, V.ty.injEq, V.int.injEq, V.bl.injEq, V.str.injEq, V.ref.injEq, exists_and_left, exists_const, reduceIte, reduceCtorEq, false_and, and_false, exists_false, or_false, false_or, Bool.not_true, Bool.not_false, Bool.false_eq_true, String.reduceEq, true_or, or_true, rNotT, tNNew, tNNotIn, tNGet, sNPut, tLenSetN, tPar, tAug, ipI, tDNotIn, sDPut, tDGet, tTup, tLst, tBM, tBM0]
      have hkl := c.len
      have hkf := keys_few rs ms rs.length
      refine ⟨kvs, c.dict, c.ent, by omega, rfl, ?_⟩
      have hmore := mark_more (rs := rs) hM.len
      by_cases he : (once (keysTo rs ms rs.length)).length = (once ms).length
      · refine ifT (decide_eq_true (by rw [hkl, he])) ?_
        exact q fr _ H2 c.same n2 c.fresh (markTo_len _ _ _) (mark_same ok hM he)
      · refine ifF (decide_eq_false (fun z => he (by have := V.int.inj z; omega))) ?_
        have ec : (once (markTo rs ms rs.length)).length = kvs.length := by rw [once_map_idx, hkl]
        exact ⟨kvs, c.dict, c.ent, by omega, rs.length - kvs.length, by omega, fr, markTo rs ms rs.length, _, _, _, _, _, _, by omega, mark_round ok hM, c.same, n2, c.fresh, by rw [ec]⟩

theorem sc_least_states : FnScope ["states", "marks", "numbers", "chosen", "rows", "end", "row", "leads", "to"] ["states"] (defScope (topS 23)) := ⟨rfl, rfl, rfl, by decide +kernel, rfl, by decide +kernel, by decide +kernel⟩
theorem bd_least_states {K : PySem.W.Frag} {f : Addr} {fd : FuncData} (F : FnP K "least_states" (topS 23) f fd) : Binds K fd ["states"] [] := F.bindsN fun _ _ _ _ _ _ us hl => match us, hl with | [_], _ => rfl
def spLt (K : PySem.W.Frag) : Sp := fun vs H Q _ => ∃ b rs n, vs = [.ref b] ∧ RRows K H b rs ∧ RowsOk n rs ∧ n ≤ 1000 ∧ ∀ t H', Same H H' → RRows K H' t (canon n (lang rs 0) (rs.length + 1)) → Q (.ref t) H'
def LsW (K : PySem.W.Frag) (H : Hp) (b l nd ch rr : Addr) (n : Nat) (rs : List LRow) (ms : List Int) (m : Nat) (σ : L2.St) (H' : Hp) : Prop :=
  ∃ (k : Nat) (acc : Met Lang) (cs : List Int) (nb : List (Key × V)) (vs : List V) (rws : List LRow) (x5 x6 x7 x8 : Option V), m + k = rs.length + 1 ∧ clo n m k acc = clo n (rs.length + 1) 0 [(lang rs 0, [])] ∧ MetOk n der (lang rs 0) acc ∧ k ≤ acc.length ∧
    (∀ e ∈ acc.take k, ∀ x, x < n → der e.1 x ∈ acc.map Prod.fst) ∧ rws = (acc.take k).map (rowIn n acc) ∧ LsH K H l nd ch rr rs ms acc H' cs nb vs rws ∧
    σ = [some (.ref b), some (.ref l), some (.ref nd), some (.ref ch), some (.ref rr), x5, x6, x7, x8]
def LsX (K : PySem.W.Frag) (H : Hp) (b l nd ch rr le b1 : Addr) (rs : List LRow) (ms : List Int) (acc : Met Lang) (L : Lang) (p : List Nat) (ed : Int) (vs : List V) (rws : List LRow) (x : Nat) (σ : L2.St) (H' : Hp) : Prop :=
  ∃ (cs : List Int) (nb : List (Key × V)) (x8 : Option V), LsH K H l nd ch rr rs ms (expandTo der acc L p x) H' cs nb vs rws ∧
    H' le = some (.lst (((List.range x).map fun y => ((((expandTo der acc L p x).map Prod.fst).idxOf (der L y) : Nat) : Int)).map V.int)) ∧
    σ = [some (.ref b), some (.ref l), some (.ref nd), some (.ref ch), some (.ref rr), some (.int ed), some (.ref b1), some (.ref le), x8]
theorem ok_least_states (T : Tx K mg) : Dk P w K mg base 2 "least_states" ["states"] (spLt K) := by
  have D_classes_of := ok_classes_of (P := P) (w := w) (base := base) T
  obtain ⟨fd, F⟩ := T.d_least_states
  refine ⟨⟨fd, F.ok sc_least_states (fun vs H Q E h => ?_) (fun cdv A outer s H vs Q E hr h => ?_), bd_least_states F⟩, F.kp, T.g_least_states⟩
  · obtain ⟨b, rs, n, rfl, _⟩ := h
    rfl
  · obtain ⟨b, rs, n, rfl, hb, ok, hn, q⟩ := h
    refine ⟨_, PSs.nox (pss_cons (ps_set (i := 1) sc_least_states.nd rfl (.inl rfl) (pe_callR D_classes_of (hr.mono (by decide)) takes0 (pa_cons (pv 0) pa_nil)))
      (pss_cons (ps_set (i := 2) sc_least_states.nd rfl (.inl rfl) (pe_disp (pps_cons (pe_ix ix_listQ (pv 1) pe_int (fun _ _ => rfl)) pe_int pps_nil) (by rfl) (by rfl) (fun z => by cases z) (by decide)))
      (pss_cons (ps_set (i := 3) sc_least_states.nd rfl (.inl rfl) (pe_lst (pa_cons pe_int pa_nil)))
      (pss_cons (ps_set (i := 4) sc_least_states.nd rfl (.inl rfl) (pe_lst pa_nil))
      (pss_cons (ps_while PassesOwn.never (pt_cmpR op_lt (pe_callB call_lenQ (by rfl) T.f_len PySem.boot_len (pa_cons (pv 4) pa_nil)) (pe_callB call_lenQ (by rfl) T.f_len PySem.boot_len (pa_cons (pv 3) pa_nil)) (nomark _)) (pss_cons (ps_asg (pe_ix ix_tupQ (pv 0) (pe_ix ix_listQ (pv 3) (pe_callB call_lenQ (by rfl) T.f_len PySem.boot_len (pa_cons (pv 4) pa_nil)) (fun _ _ => rfl)) (fun _ _ => rfl)) (pg_tup (by rfl) (pgs_cons (pg_name (i := 5) sc_least_states.nd rfl (.inl rfl)) (pgs_cons (pg_name (i := 6) sc_least_states.nd rfl (.inl rfl)) pgs_nil))))
      (pss_cons (ps_set (i := 7) sc_least_states.nd rfl (.inl rfl) (pe_lst pa_nil))
      (pss_cons (ps_for PassesOwn.never rfl (pi_tup (pv 6)) (pg_name (i := 8) sc_least_states.nd rfl (.inl rfl)) (pss_cons (ps_if (pt_cmp (pc_dnotin (hu_of hr) (pe_ix ix_listQ (pv 1) (pv 8) (fun _ _ => rfl)) (pv 2))) (pss_cons (ps_dput (hu_of hr) (pv 2) (pe_ix ix_listQ (pv 1) (pv 8) (fun _ _ => rfl)) (pe_callB call_lenQ (by rfl) T.f_len PySem.boot_len (pa_cons (pv 3) pa_nil)) rfl)
      (pss_one (ps_expr (pe_bm PySem.F.plainAttrs_list PySem.F.slot_list_append PySem.F.type_list_append mt_appQ (pv 3) (pa_cons (pv 8) pa_nil))))) pss_nil)
      (pss_one (ps_expr (pe_bm PySem.F.plainAttrs_list PySem.F.slot_list_append PySem.F.type_list_append mt_appQ (pv 7) (pa_cons (pe_dget (hu_of hr) (pv 2) (pe_ix ix_listQ (pv 1) (pv 8) (fun _ _ => rfl)) (fun _ _ => rfl)) pa_nil))))))
      (pss_one (ps_expr (pe_bm PySem.F.plainAttrs_list PySem.F.slot_list_append PySem.F.type_list_append mt_appQ (pv 4) (pa_cons (pe_tup (pa_cons (pv 5) (pa_cons (pe_callTy call_tupQ (by rfl) T.f_tuple PyProof.Rows.boot_tuple (pa_cons (pv 7) pa_nil)) pa_nil))) pa_nil))))))))
      (pss_one (ps_ret (pe_callTy call_tupQ (by rfl) T.f_tuple PyProof.Rows.boot_tuple (pa_cons (pv 4) pa_nil))))))))), ?_⟩
    simp only [cxOf, tYes, eq_self, if_true, if_false, wipe, rLenQ, rIxTQ, rIxLQ, rIxSQ, rInt1Q, rTupQ, rAppQ, rPopQ, rPopAtQ, rRevQ, rListS, rReprP, tLenSetT, tChain, tRetN, tRet, tSeq, tAsg, gName, tVar, tC, tCons, tNil, tCB, tOp, rI0, rI, tAndV, tOrV, tNotV, tIf, tTest, tB, tNot, tAnd, tOr, tIfS, tNext, tCallR, rIsK, rEq, rNe, tDrop, L2.start, List.map_cons, List.map_nil, List.length_cons, List.length_nil, Nat.reduceAdd, Nat.reduceSub, Nat.sub_self, List.replicate_zero, List.replicate_succ, List.append_nil, List.cons_append, List.nil_append, List.getElem?_cons_zero, List.getElem?_cons_succ, List.set_cons_zero, List.set_cons_succ, Option.some.injEq, List.cons.injEq, and_true, true_and, exists_eq_left, exists_eq_left', exists_eq_right, V.ty.injEq, V.int.injEq, V.bl.injEq, V.str.injEq, V.ref.injEq, exists_and_left, exists_const, reduceIte, reduceCtorEq, false_and, and_false, exists_false, or_false, false_or, Bool.not_true, Bool.not_false, Bool.false_eq_true, String.reduceEq, true_or, or_true, rNotT, tNNew, tNNotIn, tNGet, sNPut, tLenSetN, tPar, tAug, ipI, tDNotIn, sDPut, tDGet, tTup, tLst, tBM, tBM0]
    refine ⟨b, rs, n, rfl, hb, ok, hn, fun l ms H1 s1 hl0 hl hms kn => ?_⟩
    simp only [cxOf, tYes, eq_self, if_true, if_false, wipe, rLenQ, rIxTQ, rIxLQ, rIxSQ, rInt1Q, rTupQ, rAppQ, rPopQ, rPopAtQ, rRevQ, rListS, rReprP, tLenSetT, tChain, tRetN, tRet, tSeq, tAsg, gName, tVar, tC, tCons, tNil, tCB, tOp, rI0, rI, tAndV, tOrV, tNotV, tIf, tTest, tB, tNot, tAnd, tOr, tIfS, tNext, tCallR, rIsK, rEq, rNe, tDrop, L2.start, List.map_cons, List.map_nil, List.length_cons, List.length_nil, Nat.reduceAdd, Nat.reduceSub, Nat.sub_self, List.replicate_zero, List.replicate_succ, List.append_nil, List.cons_append, List.nil_append, List.getElem?_cons_zero, List.getElem?_cons_succ, List.set_cons_zero, List.set_cons_succ, Option.some.injEq, List.cons.injEq, and_true, true_and, exists_eq_left, exists_eq_left', exists_eq_right, V.ty.injEq, V.int.injEq, V.bl.injEq, V.str.injEq, V.ref.injEq, exists_and_left, exists_const, reduceIte, reduceCtorEq, false_and, and_false, exists_false, or_false, false_or, Bool.not_true, Bool.not_false, Bool.false_eq_true, String.reduceEq, true_or, or_true, rNotT, tNNew, tNNotIn, tNGet, sNPut, tLenSetN, tPar, tAug, ipI, tDNotIn, sDPut, tDGet, tTup, tLst, tBM, tBM0]
    intro nd hnd
    have h600 := ok.top
    have hpos := ok.pos
    refine ⟨.ref l, rfl, ms.map V.int, .int (mk ms 0), .inl (.inl (same_upd hnd _ _ hl)), getD_get hms (Int.le_refl _) (by omega), upd_same, [(.inl (mk ms 0), .int 0)], rfl, (by show 1 ≤ 15; decide), ?_⟩
    simp only [cxOf, tYes, eq_self, if_true, if_false, wipe, rLenQ, rIxTQ, rIxLQ, rIxSQ, rInt1Q, rTupQ, rAppQ, rPopQ, rPopAtQ, rRevQ, rListS, rReprP, tLenSetT, tChain, tRetN, tRet, tSeq, tAsg, gName, tVar, tC, tCons, tNil, tCB, tOp, rI0, rI, tAndV, tOrV, tNotV, tIf, tTest, tB, tNot, tAnd, tOr, tIfS, tNext, tCallR, rIsK, rEq, rNe, tDrop, L2.start, List.map_cons, List.map_nil, List.length_cons, List.length_nil, Nat.reduceAdd, Nat.reduceSub, Nat.sub_self, List.replicate_zero, List.replicate_succ, List.append_nil, List.cons_append, List.nil_append, List.getElem?_cons_zero, List.getElem?_cons_succ, List.set_cons_zero, List.set_cons_succ, Option.some.injEq, List.cons.injEq, and_true, true_and, exists_eq_left, exists_eq_left', exists_eq_right, V.ty.injEq, V.int.injEq, V.bl.injEq, V.str.injEq, V.ref.injEq, exists_and_left, exists_const, reduceIte, reduceCtorEq, false_and, and_false, exists_false, or_false, false_or, Bool.not_true, Bool.not_false, Bool.false_eq_true, String.reduceEq, true_or, or_true, rNotT, tNNew, tNNotIn, tNGet, sNPut, tLenSetN, tPar, tAug, ipI, tDNotIn, sDPut, tDGet, tTup, tLst, tBM, tBM0]
    refine ⟨szle (m := 1) (Nat.le_refl _), fun ch hch => ⟨Nat.zero_le _, fun rr hrr => ?_⟩⟩
    have d0 := LsH.start (K := K) ok s1 kn hl0 hl hnd rfl hch hrr
    refine ⟨LsW K H b l nd ch rr n rs ms, ⟨rs.length + 1, 0, _, [0], _, [], [], none, none, none, none, rfl, rfl, met_start _ _ _, Nat.zero_le _, fun e he => by simp at he, rfl, d0, rfl⟩, ?_⟩
    rintro m σ H2 ⟨k, acc, cs, nb, vs, rws, x5, x6, x7, x8, hm, hF, hM, hk, hcl, hrw, d, rfl⟩
    simp only [cxOf, tYes, eq_self, if_true, if_false, wipe, rLenQ, rIxTQ, rIxLQ, rIxSQ, rInt1Q, rTupQ, rAppQ, rPopQ, rPopAtQ, rRevQ, rListS, rReprP, tLenSetT, tChain, tRetN, tRet, tSeq, tAsg, gName, tVar, tC, tCons, tNil, tCB, tOp, rI0, rI, tAndV, tOrV, tNotV, tIf, tTest, tB, tNot, tAnd, tOr, tIfS, tNext, tCallR, rIsK, rEq, rNe, tDrop, L2.start, List.map_cons, List.map_nil, List.length_cons, List.length_nil, Nat.reduceAdd, Nat.reduceSub, Nat.sub_self, List.replicate_zero, List.replicate_succ, List.append_nil, List.cons_append, List.nil_append, List.getElem?_cons_zero, List.getElem?_cons_succ, List.set_cons_zero, List.set_cons_succ, Option.some.injEq, List.cons.injEq, and_true, true_and, exists_eq_left, exists_eq_left', exists_eq_right, V.ty.injEq, V.int.injEq, V.bl.injEq, V.str.injEq, V.ref.injEq, exists_and_left, exists_const, reduceIte, reduceCtorEq, false_and, and_false, exists_false, or_false, false_or, Bool.not_true, Bool.not_false, Bool.false_eq_true, String.reduceEq, true_or, or_true, rNotT, tNNew, tNNotIn, tNGet, sNPut, tLenSetN, tPar, tAug, ipI, tDNotIn, sDPut, tDGet, tTup, tLst, tBM, tBM0]
    have hfew := met_langs ok hM
    have hcnt := d.cnt
    have hvl : vs.length = k := by rw [pr_len d.pr, hrw, List.length_map, List.length_take]; omega
    refine ⟨vs, .inl (.inl (.inl d.rows)), _, .inl (.inl (.inl d.chl)), ?_⟩
    rw [List.length_map, hvl, hcnt]
    by_cases hlt : k < acc.length
    · refine ifT (decide_eq_true (by omega)) ?_
      obtain ⟨m, rfl⟩ : ∃ m', m = m' + 1 := ⟨m - 1, by omega⟩
      refine ⟨LsW K H b l nd ch rr n rs ms m, fun σ' H' hw => ⟨m, Nat.lt_succ_self m, hw⟩, ?_⟩
      obtain ⟨⟨L, p⟩, hap⟩ : ∃ ap, acc[k]? = some ap := ⟨_, List.getElem?_eq_getElem hlt⟩
      have hmem : (L, p) ∈ acc := List.mem_of_getElem? hap
      obtain ⟨c, hc⟩ : ∃ c, cs[k]? = some c := ⟨_, List.getElem?_eq_getElem (by omega)⟩
      have hcL : lang rs c = L := by
        have := congrArg (fun l => l[k]?) d.csl
        simp only [List.getElem?_map, hc, hap, Option.map_some] at this
        exact Option.some.inj this
      have hci : InSt rs c := d.csi c (List.mem_of_getElem? hc)
      have hwd := ok.wid _ (rowOf_mem hci)
      obtain ⟨vs0, a1, b1, h1, h2, h3, h4⟩ := hb.at hci
      refine ⟨vs, .inl (.inl (.inl d.rows)), _, .inl (.inl d.chl), .int c, by rw [hvl]; exact atI_nat (by rw [List.getElem?_map, hc]; rfl), vs0, Same.sqT d.same h1, .ref a1, h2, a1, _, rfl, Same.sqT d.same h3, rfl, _, _, rfl, _, _, rfl, rfl, ?_⟩
      refine ⟨Nat.zero_le _, fun le hle => ?_⟩
      obtain ⟨f0, f1, f2, f3, f4⟩ := d.free hle
      have d1 := d.other (o := .lst []) hle
      have hex := fun x (hx : x ≤ n) => met_expandTo hM hmem x hx
      refine ⟨.ref b1, rfl, b1, rfl, ⟨_, Same.sqT d1.same h4⟩, ?_⟩
      refine for_tup (xs := (rowOf rs c).2.map V.int) (LsX K H b l nd ch rr le b1 rs ms acc L p (endAt rs c) vs rws) ⟨cs, nb, _, d1, upd_same, rfl⟩ ?_ ?_ ?_
      · rintro x σ H3 hx ⟨cs2, nb2, z8, dd, hld, rfl⟩
        exact Same.sqT dd.same h4
      · rintro x y σ H3 hxy ⟨cs2, nb2, z8, dd, hld, rfl⟩
        have hx : x < n := by
          have := (List.getElem?_eq_some_iff.mp hxy).1
          rw [List.length_map] at this
          omega
        rw [List.getElem?_map, nxt_get ok hci hx] at hxy
        obtain rfl := Option.some.inj hxy
        have hto := nxt_in ok hci hx
        have hfew2 := met_langs ok (hex x (by omega))
        have hdl : lang rs (nxt rs c x) = der L x := by rw [der_lang, hcL]
        simp only [cxOf, tYes, eq_self, if_true, if_false, wipe, rLenQ, rIxTQ, rIxLQ, rIxSQ, rInt1Q, rTupQ, rAppQ, rPopQ, rPopAtQ, rRevQ, rListS, rReprP, tLenSetT, tChain, tRetN, tRet, tSeq, tAsg, gName, tVar, tC, tCons, tNil, tCB, tOp, rI0, rI, tAndV, tOrV, tNotV, tIf, tTest, tB, tNot, tAnd, tOr, tIfS, tNext, tCallR, rIsK, rEq, rNe, tDrop, L2.start, List.map_cons, List.map_nil, List.length_cons, List.length_nil, Nat.reduceAdd, Nat.reduceSub, Nat.sub_self, List.replicate_zero, List.replicate_succ, List.append_nil, List.cons_append, List.nil_append, List.getElem?_cons_zero, List.getElem?_cons_succ, List.set_cons_zero, List.set_cons_succ, Option.some.injEq, List.cons.injEq, and_true, true_and, exists_eq_left, exists_eq_left', exists_eq_right, V.ty.injEq, V.int.injEq, V.bl.injEq, V.str.injEq, V.ref.injEq, exists_and_left, exists_const, reduceIte, reduceCtorEq, false_and, and_false, exists_false, or_false, false_or, Bool.not_true, Bool.not_false, Bool.false_eq_true, String.reduceEq, true_or, or_true, rNotT, tNNew, tNNotIn, tNGet, sNPut, tLenSetN, tPar, tAug, ipI, tDNotIn, sDPut, tDGet, tTup, tLst, tBM, tBM0]
        refine ⟨_, .inl (.inl dd.lm), .int (mk ms (nxt rs c x)), getD_get hms hto.1 hto.2, valV nb2 (.inl (mk ms (nxt rs c x))), .k (k := .inl (mk ms (nxt rs c x))) dd.dict, ?_⟩
        by_cases hin : lang rs (nxt rs c x) ∈ (expandTo der acc L p x).map Prod.fst
        · have hv := dd.num.1 _ hto hin
          refine ifF (by rw [hv]; rfl) ?_
          have hA := step_old (hdl ▸ hin)
          have hls := leads_succ acc L p x
          refine ⟨lst_ty hld, _, .inl (.inl dd.lm), .int (mk ms (nxt rs c x)), getD_get hms hto.1 hto.2, _, (by rw [← hv]; exact .k (k := .inl (mk ms (nxt rs c x))) dd.dict), _, hld, ?_, cs2, nb2, _, ?_, ?_, rfl⟩
          · rw [List.length_map, List.length_map, List.length_range]
            exact szlt (m := 1000) (by omega)
          · rw [hA]
            exact dd.put f0 f1 f2 f3 f4 (fun _ => by rw [hld]; nofun) (fun _ _ => by rw [hld]; nofun)
          · rw [upd_same, hls, hA, List.map_append, hdl]
            rfl
        · have hv := dd.num.2.1 _ hto hin
          refine ifT (by rw [hv]; rfl) ?_
          have hn2 : der L x ∉ (expandTo der acc L p x).map Prod.fst := hdl ▸ hin
          have hA := step_new hn2
          have hls := leads_succ acc L p x
          have ccnt := dd.cnt
          have g := dd.met kn hto hin (p ++ [x])
          rw [← ccnt] at g
          have a2 : ch ≠ nd := ne_of dd.chl dd.dict (fun z => nomatch z)
          have hch3 : (upd H3 nd (.dK (putK nb2 (.inl (mk ms (nxt rs c x))) (.int (cs2.length : Int))))) ch = some (.lst (cs2.map V.int)) := by rw [upd_ne a2]; exact dd.chl
          have hle3 : (upd (upd H3 nd (.dK (putK nb2 (.inl (mk ms (nxt rs c x))) (.int (cs2.length : Int))))) ch (.lst (cs2.map V.int ++ [.int (nxt rs c x)]))) le = some (.lst (((List.range x).map fun y => ((((expandTo der acc L p x).map Prod.fst).idxOf (der L y) : Nat) : Int)).map V.int)) := by
            rw [upd_ne (Ne.symm f3), upd_ne (Ne.symm f2)]
            exact hld
          have hv2 : valV (putK nb2 (.inl (mk ms (nxt rs c x))) (.int (cs2.length : Int))) (.inl (mk ms (nxt rs c x))) = some (.int (cs2.length : Int)) := by rw [valV_put, if_pos rfl]
          have nlen := dd.num.2.2
          refine ⟨_, .inl (.inl (.inl dd.chl)), _, .inl (.inl dd.lm), .int (mk ms (nxt rs c x)), getD_get hms hto.1 hto.2, _, .k (k := .inl (mk ms (nxt rs c x))) dd.dict (szlt (m := 1000) (by omega)), ?_⟩
          rw [List.length_map]
          refine ⟨lst_ty hch3, _, hch3, ?_, lst_ty hle3, _, .inl (.inl g.lm), .int (mk ms (nxt rs c x)), getD_get hms hto.1 hto.2, _, (by rw [← hv2]; exact .k (k := .inl (mk ms (nxt rs c x))) g.dict), _, hle3, ?_, cs2 ++ [nxt rs c x], putK nb2 (.inl (mk ms (nxt rs c x))) (.int (cs2.length : Int)), _, ?_, ?_, rfl⟩
          · rw [List.length_map]
            exact szlt (m := 1000) (by omega)
          · rw [List.length_map, List.length_map, List.length_range]
            exact szlt (m := 1000) (by omega)
          · rw [hA, ← hdl]
            exact g.put f0 f1 f2 f3 f4 (fun _ => by rw [hle3]; nofun) (fun _ _ => by rw [hle3]; nofun)
          · rw [upd_same, hls, hA, List.map_append, List.map_append, List.map_singleton, List.map_singleton, idx_last hn2, List.length_map, ← ccnt]
      · rintro σ H3 ⟨cs2, nb2, z8, dd, hld, rfl⟩
        rw [List.length_map, hwd] at dd hld
        simp only [cxOf, tYes, eq_self, if_true, if_false, wipe, rLenQ, rIxTQ, rIxLQ, rIxSQ, rInt1Q, rTupQ, rAppQ, rPopQ, rPopAtQ, rRevQ, rListS, rReprP, tLenSetT, tChain, tRetN, tRet, tSeq, tAsg, gName, tVar, tC, tCons, tNil, tCB, tOp, rI0, rI, tAndV, tOrV, tNotV, tIf, tTest, tB, tNot, tAnd, tOr, tIfS, tNext, tCallR, rIsK, rEq, rNe, tDrop, L2.start, List.map_cons, List.map_nil, List.length_cons, List.length_nil, Nat.reduceAdd, Nat.reduceSub, Nat.sub_self, List.replicate_zero, List.replicate_succ, List.append_nil, List.cons_append, List.nil_append, List.getElem?_cons_zero, List.getElem?_cons_succ, List.set_cons_zero, List.set_cons_succ, Option.some.injEq, List.cons.injEq, and_true, true_and, exists_eq_left, exists_eq_left', exists_eq_right, V.ty.injEq, V.int.injEq, V.bl.injEq, V.str.injEq, V.ref.injEq, exists_and_left, exists_const, reduceIte, reduceCtorEq, false_and, and_false, exists_false, or_false, false_or, Bool.not_true, Bool.not_false, Bool.false_eq_true, String.reduceEq, true_or, or_true, rNotT, tNNew, tNNotIn, tNGet, sNPut, tLenSetN, tPar, tAug, ipI, tDNotIn, sDPut, tDGet, tTup, tLst, tBM, tBM0]
        have hM2 := hex n (Nat.le_refl _)
        obtain ⟨more, hmo⟩ := expandTo_sub (stp := der) (acc := acc) (a := L) (p := p) n
        have hlen2 := congrArg List.length hmo
        rw [List.length_append] at hlen2
        refine ⟨lst_ty dd.rows, _, .inl (.inl hld), fun T1 hT1 => ⟨szle (m := 2) (Nat.le_refl _), fun T2 hT2 => ?_⟩⟩
        have g1 := dd.other (o := .tup (((List.range n).map fun y => ((((expandTo der acc L p n).map Prod.fst).idxOf (der L y) : Nat) : Int)).map V.int)) hT1
        have g2 := g1.other (o := .tup [.int (endAt rs c), .ref T1]) hT2
        have g3 := g2.row (T := T2) (T1 := T1) (r := (endAt rs c, (List.range n).map fun y => ((((expandTo der acc L p n).map Prod.fst).idxOf (der L y) : Nat) : Int))) upd_same (same_upd hT2 _ _ upd_same)
        have htk : (expandTo der acc L p n).take (k + 1) = acc.take k ++ [(L, p)] := by
          rw [hmo, List.take_append_of_le_length (by omega), List.take_add_one, hap]
          rfl
        refine ⟨vs, g2.rows, ?_, k + 1, expandTo der acc L p n, cs2, nb2, _, _, _, _, _, _, by omega, ?_, hM2, by omega, ?_, ?_, g3, rfl⟩
        · rw [hvl]
          exact szlt (m := 1000) (by omega)
        · rw [clo_go hap] at hF
          exact hF
        · intro e he x hx
          rw [htk] at he
          rcases List.mem_append.mp he with he | he
          · rw [hmo, List.map_append]
            exact List.mem_append_left _ (hcl e he x hx)
          · obtain rfl := List.mem_singleton.mp he
            exact expandTo_in n x hx
        · rw [htk, List.map_append, List.map_singleton, hrw]
          congr 1
          · refine List.map_congr_left fun e he => ?_
            rw [hmo]
            exact (rowIn_more (hcl e he)).symm
          · show [_] = [_]
            unfold rowIn
            rw [← hcL]
            rfl
    · refine ifF (decide_eq_false (by omega)) ?_
      refine ⟨vs, .inl (.inl d.rows), fun t ht => ?_⟩
      have s3 := d.same
      have s4 : Same H2 (upd H2 t (.tup vs)) := same_upd ht
      refine q t _ (Same.trans s3 s4) ⟨vs, .inl (.inl upd_same), ?_⟩
      unfold canon
      rw [← hF, clo_end (by omega)]
      have e : acc.take k = acc := List.take_of_length_le (by omega)
      rw [e] at hrw
      rw [← hrw]
      exact pr_mono d.pr fun _ _ r => r.mono (TK.of_same s4)

theorem sc_least : FnScope ["looker"] ["looker"] (defScope (topS 28)) := ⟨rfl, rfl, rfl, by decide +kernel, rfl, by decide +kernel, by decide +kernel⟩
theorem bd_least {K : PySem.W.Frag} {f : Addr} {fd : FuncData} (F : FnP K "least" (topS 28) f fd) : Binds K fd ["looker"] [] := F.bindsN fun _ _ _ _ _ _ us hl => match us, hl with | [_], _ => rfl
noncomputable def leastOf (z : Str) (rs : List LRow) : List LRow := canon z.length (lang rs 0) (rs.length + 1)
def spLe (K : PySem.W.Frag) : Sp := fun vs H Q _ => ∃ v z rs, vs = [v] ∧ RLk K H v z rs ∧ SignsOk z ∧ RowsOk z.length rs ∧ ∀ u H', Same H H' → RLk K H' u z (leastOf z rs) → Q u H'
theorem ok_least (T : Tx K mg) : Dk P w K mg base 5 "least" ["looker"] (spLe K) := by
  have D_check_looker := ok_check_looker (P := P) (w := w) (base := base) T
  have D_least_states := ok_least_states (P := P) (w := w) (base := base) T
  obtain ⟨fd, F⟩ := T.d_least
  refine ⟨⟨fd, F.ok sc_least (fun vs H Q E h => ?_) (fun cdv A outer s H vs Q E hr h => ?_), bd_least F⟩, F.kp, T.g_least⟩
  · obtain ⟨v, z, rs, rfl, _⟩ := h
    rfl
  · obtain ⟨v, z, rs, rfl, hv, hz, ok, q⟩ := h
    refine ⟨_, PSs.nox (pss_cons (ps_expr (pe_callR D_check_looker (hr.mono (by decide)) takes0 (pa_cons (pv 0) pa_nil)))
      (pss_one (ps_ret (pe_tup (pa_cons (pe_ix ix_tupQ (pv 0) pe_int (fun _ _ => rfl)) (pa_cons (pe_callR D_least_states (hr.mono (by decide)) takes0 (pa_cons (pe_ix ix_tupQ (pv 0) pe_int (fun _ _ => rfl)) pa_nil)) pa_nil)))))), ?_⟩
    simp only [cxOf, tYes, eq_self, if_true, if_false, wipe, rLenQ, rIxTQ, rIxLQ, rIxSQ, rInt1Q, rTupQ, rAppQ, rPopQ, rPopAtQ, rRevQ, rListS, rReprP, tLenSetT, tChain, tRetN, tRet, tSeq, tAsg, gName, tVar, tC, tCons, tNil, tCB, tOp, rI0, rI, tAndV, tOrV, tNotV, tIf, tTest, tB, tNot, tAnd, tOr, tIfS, tNext, tCallR, rIsK, rEq, rNe, tDrop, L2.start, List.map_cons, List.map_nil, List.length_cons, List.length_nil, Nat.reduceAdd, Nat.reduceSub, Nat.sub_self, List.replicate_zero, List.replicate_succ, List.append_nil, List.cons_append, List.nil_append, List.getElem?_cons_zero, List.getElem?_cons_succ, List.set_cons_zero, List.set_cons_succ, Option.some.injEq, List.cons.injEq, and_true, true_and, exists_eq_left, exists_eq_left', exists_eq_right, V.ty.injEq, V.int.injEq, V.bl.injEq, V.str.injEq, V.ref.injEq, exists_and_left, exists_const, reduceIte, reduceCtorEq, false_and, and_false, exists_false, or_false, false_or, Bool.not_true, Bool.not_false, Bool.false_eq_true, String.reduceEq, true_or, or_true, rNotT, tNNew, tNNotIn, tNGet, sNPut, tLenSetN, tPar, tAug, ipI, tDNotIn, sDPut, tDGet, tTup, tLst, tBM, tBM0]
    refine ⟨v, z, rs, rfl, hv, hz, ok, ?_⟩
    obtain ⟨a, b, rfl, h1, hb⟩ := hv
    simp only [cxOf, tYes, eq_self, if_true, if_false, wipe, rLenQ, rIxTQ, rIxLQ, rIxSQ, rInt1Q, rTupQ, rAppQ, rPopQ, rPopAtQ, rRevQ, rListS, rReprP, tLenSetT, tChain, tRetN, tRet, tSeq, tAsg, gName, tVar, tC, tCons, tNil, tCB, tOp, rI0, rI, tAndV, tOrV, tNotV, tIf, tTest, tB, tNot, tAnd, tOr, tIfS, tNext, tCallR, rIsK, rEq, rNe, tDrop, L2.start, List.map_cons, List.map_nil, List.length_cons, List.length_nil, Nat.reduceAdd, Nat.reduceSub, Nat.sub_self, List.replicate_zero, List.replicate_succ, List.append_nil, List.cons_append, List.nil_append, List.getElem?_cons_zero, List.getElem?_cons_succ, List.set_cons_zero, List.set_cons_succ, Option.some.injEq, List.cons.injEq, and_true, true_and, exists_eq_left, exists_eq_left', exists_eq_right, V.ty.injEq, V.int.injEq, V.bl.injEq, V.str.injEq, V.ref.injEq, exists_and_left, exists_const, reduceIte, reduceCtorEq, false_and, and_false, exists_false, or_false, false_or, Bool.not_true, Bool.not_false, Bool.false_eq_true, String.reduceEq, true_or, or_true, rNotT, tNNew, tNNotIn, tNGet, sNPut, tLenSetN, tPar, tAug, ipI, tDNotIn, sDPut, tDGet, tTup, tLst, tBM, tBM0]
    have hz5 := hz.top
    refine ⟨_, h1, _, rfl, _, h1, _, rfl, b, rs, z.length, rfl, hb, ok, by omega, fun t H1 s1 ht => ⟨szle (m := 2) (Nat.le_refl _), fun p hp => ?_⟩⟩
    have s2 : Same H1 (upd H1 p (.tup [.str z, .ref t])) := same_upd hp
    exact q _ _ (Same.trans s1 s2) ⟨p, t, rfl, .inl (.inl upd_same), ht.mono (TK.of_same s2)⟩

theorem sc__law_draw : FnScope ["pool", "many"] ["pool", "many"] (defScope (topS 32)) := ⟨rfl, rfl, rfl, by decide +kernel, rfl, by decide +kernel, by decide +kernel⟩
theorem bd__law_draw {K : PySem.W.Frag} {f : Addr} {fd : FuncData} (F : FnP K "_law_draw" (topS 32) f fd) : Binds K fd ["pool", "many"] [] := F.bindsN fun _ _ _ _ _ _ us hl => match us, hl with | [_, _], _ => rfl
def PoolL (H : Hp) (l : Addr) : Prop := ∃ js : List Int, H l = some (.lst (js.map V.int))
def spDr : Sp := fun vs H Q _ => ∃ l n, vs = [.ref l, .int n] ∧ PoolL H l ∧ 0 < n ∧ ∀ r H', 0 ≤ r → r < n → But l H H' → PoolL H' l → Q (.int r) H'
theorem ok__law_draw (T : Tx K mg) : Dk P w K mg base 1 "_law_draw" ["pool", "many"] spDr := by
  obtain ⟨fd, F⟩ := T.d__law_draw
  refine ⟨⟨fd, F.ok sc__law_draw (fun vs H Q E h => ?_) (fun cdv A outer s H vs Q E hr h => ?_), bd__law_draw F⟩, F.kp, T.g__law_draw⟩
  · obtain ⟨l, n, rfl, _⟩ := h
    rfl
  · obtain ⟨l, n, rfl, ⟨js, hl⟩, hn, q⟩ := h
    refine ⟨_, PSs.nox (pss_cons (ps_if (pt_cmpR op_gt (pe_callB call_lenQ (by rfl) T.f_len PySem.boot_len (pa_cons (pv 0) pa_nil)) pe_int (nomark _)) (pss_one (ps_ret (pe_op op_mod (pe_callTy call_int1Q (by rfl) T.f_int PyProof.Rows.boot_int (pa_cons (pe_bm0 PySem.F.plainAttrs_list PySem.F.slot_list_pop PySem.F.type_list_pop mt_popQ (pv 0)) pa_nil)) (pv 1)))) pss_nil)
      (pss_one (ps_ret pe_int))), ?_⟩
    simp only [cxOf, tYes, eq_self, if_true, if_false, wipe, rLenQ, rIxTQ, rIxLQ, rIxSQ, rInt1Q, rTupQ, rAppQ, rPopQ, rPopAtQ, rRevQ, rListS, rReprP, tLenSetT, tChain, tRetN, tRet, tSeq, tAsg, gName, tVar, tC, tCons, tNil, tCB, tOp, rI0, rI, tAndV, tOrV, tNotV, tIf, tTest, tB, tNot, tAnd, tOr, tIfS, tNext, tCallR, rIsK, rEq, rNe, tDrop, L2.start, List.map_cons, List.map_nil, List.length_cons, List.length_nil, Nat.reduceAdd, Nat.reduceSub, Nat.sub_self, List.replicate_zero, List.replicate_succ, List.append_nil, List.cons_append, List.nil_append, List.getElem?_cons_zero, List.getElem?_cons_succ, List.set_cons_zero, List.set_cons_succ, Option.some.injEq, List.cons.injEq, and_true, true_and, exists_eq_left, exists_eq_left', exists_eq_right, V.ty.injEq, V.int.injEq, V.bl.injEq, V.str.injEq, V.ref.injEq, exists_and_left, exists_const, reduceIte, reduceCtorEq, false_and, and_false, exists_false, or_false, false_or, Bool.not_true, Bool.not_false, Bool.false_eq_true, String.reduceEq, true_or, or_true, rNotT, tNNew, tNNotIn, tNGet, sNPut, tLenSetN, tPar, tAug, ipI, tDNotIn, sDPut, tDGet, tTup, tLst, tBM, tBM0]
    refine ⟨_, .inl (.inl (.inl hl)), ?_⟩
    rw [List.length_map]
    by_cases h0 : 0 < js.length
    · refine ifT (decide_eq_true (by omega)) ⟨lst_ty hl, js.dropLast.map V.int, .int (js.getLast (List.ne_nil_of_length_pos h0)), ?_, hn, ?_⟩
      · rw [hl, ← List.map_singleton, ← List.map_append, List.dropLast_concat_getLast]
      · refine q _ _ (Int.emod_nonneg _ (by omega)) (Int.emod_lt_of_pos _ hn) But.upd ⟨_, upd_same⟩
    · exact ifF (decide_eq_false (by omega)) (q _ _ (Int.le_refl _) hn (But.refl _ _) ⟨_, hl⟩)

theorem sc__law_pool : FnScope ["script", "pool", "seed", "at", "cell", "rest", "k", "one"] ["script"] (defScope (topS 31)) := ⟨rfl, rfl, rfl, by decide +kernel, rfl, by decide +kernel, by decide +kernel⟩
theorem bd__law_pool {K : PySem.W.Frag} {f : Addr} {fd : FuncData} (F : FnP K "_law_pool" (topS 31) f fd) : Binds K fd ["script"] [] := F.bindsN fun _ _ _ _ _ _ us hl => match us, hl with | [_], _ => rfl
def PlS (H : Hp) (a l : Addr) (n : Nat) (seed y3 y4 y5 y6 y7 : Option V) (σ : L2.St) (H' : Hp) : Prop :=
  (∃ js : List Int, H' l = some (.lst (js.map V.int)) ∧ js.length ≤ n) ∧ Same H H' ∧ σ = [some (.ref a), some (.ref l), seed, y3, y4, y5, y6, y7]
def PlA (H : Hp) (a l : Addr) (c i : Nat) (σ : L2.St) (H' : Hp) : Prop := ∃ (sd : Int) (y3 y4 y5 y6 y7 : Option V), PlS H a l (c + 60 * i) (some (.int sd)) y3 y4 y5 y6 y7 σ H'
def PlB (H : Hp) (a l : Addr) (c : Nat) (sd at' ce : Int) (y7 : Option V) (i : Nat) (σ : L2.St) (H' : Hp) : Prop := ∃ (rs : Int) (y6 : Option V), PlS H a l (c + i) (some (.int sd)) (some (.int at')) (some (.int ce)) (some (.int rs)) y6 y7 σ H'
def PlC (H : Hp) (a l : Addr) (c : Nat) (sd at' ce : Int) (y5 : Option V) (i : Nat) (σ : L2.St) (H' : Hp) : Prop := ∃ (on : Int) (y6 : Option V), PlS H a l (c + i) (some (.int sd)) (some (.int at')) (some (.int ce)) y5 y6 (some (.int on)) σ H'
def PlD (H : Hp) (a l : Addr) (c i : Nat) (σ : L2.St) (H' : Hp) : Prop := ∃ (sd : Int) (y3 y4 y5 y6 y7 : Option V), PlS H a l (c + i) (some (.int sd)) y3 y4 y5 y6 y7 σ H'
theorem pl_put {H H1 : Hp} {l : Addr} {js : List Int} {n : Nat} (hl0 : H l = none) (s : Same H H1) (hl : H1 l = some (.lst (js.map V.int))) (hn : js.length ≤ n) (j : Int) :
    (∃ ks : List Int, (upd H1 l (.lst (js.map V.int ++ [V.int j]))) l = some (.lst (ks.map V.int)) ∧ ks.length ≤ n + 1) ∧ Same H (upd H1 l (.lst (js.map V.int ++ [V.int j]))) := by
  refine ⟨⟨js ++ [j], by rw [upd_same, List.map_append]; rfl, by rw [List.length_append]; exact Nat.succ_le_succ hn⟩, fun b o hb => ?_⟩
  rw [upd_ne (ne_of_none hb hl0)]
  exact s b o hb
theorem cmR {i j : Int} (h : -(2 ^ 64) < j ∧ j < 2 ^ 64 := by decide) : CMul i j := .inr h
theorem cmL {i j : Int} (h : -(2 ^ 64) < i ∧ i < 2 ^ 64 := by decide) : CMul i j := .inl h
def spPl (K : PySem.W.Frag) : Sp := fun vs H Q _ => ∃ (a : Addr) (ns : List Int), vs = [.ref a] ∧ SqL K H a (ns.map V.int) ∧ ∀ l H', H l = none → Same H H' → PoolL H' l → Q (.ref l) H'
theorem ok__law_pool (T : Tx K mg) : Dk P w K mg base 1 "_law_pool" ["script"] (spPl K) := by
  obtain ⟨fd, F⟩ := T.d__law_pool
  refine ⟨⟨fd, F.ok sc__law_pool (fun vs H Q E h => ?_) (fun cdv A outer s H vs Q E hr h => ?_), bd__law_pool F⟩, F.kp, T.g__law_pool⟩
  · obtain ⟨a, ns, rfl, _⟩ := h
    rfl
  · obtain ⟨a, ns, rfl, ha, q⟩ := h
    refine ⟨_, PSs.nox (pss_cons (ps_set (i := 1) sc__law_pool.nd rfl (.inl rfl) (pe_lst pa_nil))
      (pss_cons (ps_set (i := 2) sc__law_pool.nd rfl (.inl rfl) pe_int)
      (pss_cons (ps_for PassesOwn.never rfl (pi_range1 (by rfl) T.f_range (pa_cons (pe_callB (call_min2 rfl) (by rfl) T.f_min PyProof.Rows.boot_min (pa_cons (pe_callB call_lenQ (by rfl) T.f_len PySem.boot_len (pa_cons (pv 0) pa_nil)) (pa_cons pe_int pa_nil))) pa_nil)) (pg_name (i := 3) sc__law_pool.nd rfl (.inl rfl)) (pss_cons (ps_set (i := 4) sc__law_pool.nd rfl (.inl rfl) (pe_callTy call_int1Q (by rfl) T.f_int PyProof.Rows.boot_int (pa_cons (pe_ix ix_listQ (pv 0) (pv 3) (fun _ _ => rfl)) pa_nil)))
      (pss_cons (ps_set (i := 2) sc__law_pool.nd rfl (.inl rfl) (pe_op op_mod (pe_op op_add (pe_op op_add (pe_op op_mul (pv 2) pe_int) (pe_op op_mod (pv 4) pe_int)) (pv 3)) pe_int))
      (pss_one (ps_if (pt_cmpR op_ge (pv 4) (pe_op op_pow pe_int pe_int) (nomark _)) (pss_cons (ps_set (i := 5) sc__law_pool.nd rfl (.inl rfl) (pv 4))
      (pss_one (ps_for PassesOwn.never rfl (pi_range1 (by rfl) T.f_range (pa_cons pe_int pa_nil)) (pg_name (i := 6) sc__law_pool.nd rfl (.inl rfl)) (pss_one (ps_if (pt_cmpR op_gt (pv 5) pe_int (nomark _)) (pss_cons (ps_expr (pe_bm PySem.F.plainAttrs_list PySem.F.slot_list_append PySem.F.type_list_append mt_appQ (pv 1) (pa_cons (pe_op op_mod (pv 5) pe_int) pa_nil)))
      (pss_one (ps_set (i := 5) sc__law_pool.nd rfl (.inl rfl) (pe_op op_fdiv (pv 5) pe_int)))) pss_nil))))) (pss_cons (ps_set (i := 7) sc__law_pool.nd rfl (.inl rfl) (pe_op op_add (pe_op op_mod (pv 4) pe_int) pe_int))
      (pss_one (ps_for PassesOwn.never rfl (pi_range1 (by rfl) T.f_range (pa_cons pe_int pa_nil)) (pg_name (i := 6) sc__law_pool.nd rfl (.inl rfl)) (pss_cons (ps_set (i := 7) sc__law_pool.nd rfl (.inl rfl) (pe_op op_mod (pe_op op_add (pe_op op_mul (pv 7) pe_int) (pe_op op_mul pe_int (pe_op op_add (pe_op op_add (pv 3) (pv 6)) pe_int))) pe_int))
      (pss_one (ps_expr (pe_bm PySem.F.plainAttrs_list PySem.F.slot_list_append PySem.F.type_list_append mt_appQ (pv 1) (pa_cons (pe_op op_mod (pe_op op_fdiv (pe_op op_mod (pe_op op_mul (pv 7) pe_int) pe_int) pe_int) pe_int) pa_nil)))))))))))))
      (pss_cons (ps_for PassesOwn.never rfl (pi_range1 (by rfl) T.f_range (pa_cons pe_int pa_nil)) (pg_name (i := 6) sc__law_pool.nd rfl (.inl rfl)) (pss_cons (ps_set (i := 2) sc__law_pool.nd rfl (.inl rfl) (pe_op op_mod (pe_op op_add (pe_op op_add (pe_op op_mul (pv 2) pe_int) (pe_op op_mul pe_int (pv 6))) pe_int) pe_int))
      (pss_one (ps_expr (pe_bm PySem.F.plainAttrs_list PySem.F.slot_list_append PySem.F.type_list_append mt_appQ (pv 1) (pa_cons (pe_op op_mod (pe_op op_fdiv (pe_op op_mod (pe_op op_mul (pv 2) pe_int) pe_int) pe_int) pe_int) pa_nil))))))
      (pss_cons (ps_expr (pe_bm0 PySem.F.plainAttrs_list PySem.F.slot_list_reverse PySem.F.type_list_reverse mt_revQ (pv 1)))
      (pss_one (ps_ret (pv 1)))))))), ?_⟩
    simp only [cxOf, tYes, eq_self, if_true, if_false, wipe, rLenQ, rIxTQ, rIxLQ, rIxSQ, rInt1Q, rTupQ, rAppQ, rPopQ, rPopAtQ, rRevQ, rListS, rReprP, tLenSetT, tChain, tRetN, tRet, tSeq, tAsg, gName, tVar, tC, tCons, tNil, tCB, tOp, rI0, rI, tAndV, tOrV, tNotV, tIf, tTest, tB, tNot, tAnd, tOr, tIfS, tNext, tCallR, rIsK, rEq, rNe, tDrop, L2.start, List.map_cons, List.map_nil, List.length_cons, List.length_nil, Nat.reduceAdd, Nat.reduceSub, Nat.sub_self, List.replicate_zero, List.replicate_succ, List.append_nil, List.cons_append, List.nil_append, List.getElem?_cons_zero, List.getElem?_cons_succ, List.set_cons_zero, List.set_cons_succ, Option.some.injEq, List.cons.injEq, and_true, true_and, exists_eq_left, exists_eq_left', exists_eq_right, V.ty.injEq, V.int.injEq, V.bl.injEq, V.str.injEq, V.ref.injEq, exists_and_left, exists_const, reduceIte, reduceCtorEq, false_and, and_false, exists_false, or_false, false_or, Bool.not_true, Bool.not_false, Bool.false_eq_true, String.reduceEq, true_or, or_true, rNotT, tNNew, tNNotIn, tNGet, sNPut, tLenSetN, tPar, tAug, ipI, tDNotIn, sDPut, tDGet, tTup, tLst, tBM, tBM0]
    refine ⟨Nat.zero_le _, fun l hl0 => ?_⟩
    have ne : ∀ b o, H b = some o → b ≠ l := fun b o hb => ne_of_none hb hl0
    have sA : Same H (upd H l (.lst [])) := same_upd hl0
    refine ⟨.ref a, rfl, ns.map V.int, .inl (Same.seq sA ha), _, _, rfl, _, rfl, ?_, ?_, ?_⟩
    · split <;> omega
    · split <;> omega
    have hn63 : (if (63 : Int) < ((ns.map V.int).length : Int) then (63 : Int) else ((ns.map V.int).length : Int)).toNat ≤ 63 ∧ (if (63 : Int) < ((ns.map V.int).length : Int) then (63 : Int) else ((ns.map V.int).length : Int)).toNat ≤ ns.length := by
      rw [List.length_map]
      split <;> omega
    generalize (if (63 : Int) < ((ns.map V.int).length : Int) then (63 : Int) else ((ns.map V.int).length : Int)).toNat = N at hn63 ⊢
    refine for_range (PlA H a l 0) ⟨7, none, none, none, none, none, ⟨[], upd_same, Nat.zero_le _⟩, sA, rfl⟩ ?_ ?_
    · rintro i σ H1 hi ⟨sd, y3, y4, y5, y6, y7, ⟨js, hl, hjs⟩, s1, rfl⟩
      have e0 : (0 : Int) + (i : Int) = (i : Int) := Int.zero_add _
      rw [e0]
      simp only [cxOf, tYes, eq_self, if_true, if_false, wipe, rLenQ, rIxTQ, rIxLQ, rIxSQ, rInt1Q, rTupQ, rAppQ, rPopQ, rPopAtQ, rRevQ, rListS, rReprP, tLenSetT, tChain, tRetN, tRet, tSeq, tAsg, gName, tVar, tC, tCons, tNil, tCB, tOp, rI0, rI, tAndV, tOrV, tNotV, tIf, tTest, tB, tNot, tAnd, tOr, tIfS, tNext, tCallR, rIsK, rEq, rNe, tDrop, L2.start, List.map_cons, List.map_nil, List.length_cons, List.length_nil, Nat.reduceAdd, Nat.reduceSub, Nat.sub_self, List.replicate_zero, List.replicate_succ, List.append_nil, List.cons_append, List.nil_append, List.getElem?_cons_zero, List.getElem?_cons_succ, List.set_cons_zero, List.set_cons_succ, Option.some.injEq, List.cons.injEq, and_true, true_and, exists_eq_left, exists_eq_left', exists_eq_right, V.ty.injEq, V.int.injEq, V.bl.injEq, V.str.injEq, V.ref.injEq, exists_and_left, exists_const, reduceIte, reduceCtorEq, false_and, and_false, exists_false, or_false, false_or, Bool.not_true, Bool.not_false, Bool.false_eq_true, String.reduceEq, true_or, or_true, rNotT, tNNew, tNNotIn, tNGet, sNPut, tLenSetN, tPar, tAug, ipI, tDNotIn, sDPut, tDGet, tTup, tLst, tBM, tBM0]
      have hget : (ns.map V.int)[i]? = some (.int (ns.getD i 0)) := by
        have : i < ns.length := by omega
        rw [List.getElem?_map, List.getD_eq_getElem?_getD, List.getElem?_eq_getElem this]
        rfl
      refine ⟨_, Same.seq s1 ha, .int (ns.getD i 0), atI_nat hget, cmR, by decide, by decide, ⟨by decide, by decide, by decide⟩, ?_⟩
      by_cases hbig : (10 : Int) ^ Int.toNat 18 ≤ ns.getD i 0
      · refine ifT (decide_eq_true hbig) ⟨60, rfl, by omega, by omega, ?_⟩
        refine for_range (PlB H a l (60 * i) ((sd * 31 + ns.getD i 0 % 999983 + i) % 2147483647) i (ns.getD i 0) y7) ⟨ns.getD i 0, y6, ⟨js, hl, by omega⟩, s1, rfl⟩ ?_ ?_
        · rintro k σ H2 hk ⟨rs, z6, ⟨js2, hl2, hjs2⟩, s2, rfl⟩
          simp only [cxOf, tYes, eq_self, if_true, if_false, wipe, rLenQ, rIxTQ, rIxLQ, rIxSQ, rInt1Q, rTupQ, rAppQ, rPopQ, rPopAtQ, rRevQ, rListS, rReprP, tLenSetT, tChain, tRetN, tRet, tSeq, tAsg, gName, tVar, tC, tCons, tNil, tCB, tOp, rI0, rI, tAndV, tOrV, tNotV, tIf, tTest, tB, tNot, tAnd, tOr, tIfS, tNext, tCallR, rIsK, rEq, rNe, tDrop, L2.start, List.map_cons, List.map_nil, List.length_cons, List.length_nil, Nat.reduceAdd, Nat.reduceSub, Nat.sub_self, List.replicate_zero, List.replicate_succ, List.append_nil, List.cons_append, List.nil_append, List.getElem?_cons_zero, List.getElem?_cons_succ, List.set_cons_zero, List.set_cons_succ, Option.some.injEq, List.cons.injEq, and_true, true_and, exists_eq_left, exists_eq_left', exists_eq_right, V.ty.injEq, V.int.injEq, V.bl.injEq, V.str.injEq, V.ref.injEq, exists_and_left, exists_const, reduceIte, reduceCtorEq, false_and, and_false, exists_false, or_false, false_or, Bool.not_true, Bool.not_false, Bool.false_eq_true, String.reduceEq, true_or, or_true, rNotT, tNNew, tNNotIn, tNGet, sNPut, tLenSetN, tPar, tAug, ipI, tDNotIn, sDPut, tDGet, tTup, tLst, tBM, tBM0]
          by_cases hr : 0 < rs
          · refine ifT (decide_eq_true hr) ⟨lst_ty hl2, by decide, _, hl2, ?_, ⟨by decide, by decide⟩, ?_⟩
            · rw [List.length_map]
              exact szlt (m := 100000) (by have : k < 60 := hk; omega)
            · have pp := pl_put hl0 s2 hl2 hjs2 (rs % 5040)
              exact ⟨_, _, pp.1, pp.2, rfl⟩
          · exact ifF (decide_eq_false hr) ⟨_, _, ⟨js2, hl2, by omega⟩, s2, rfl⟩
        · rintro σ H2 ⟨rs, z6, ⟨js2, hl2, hjs2⟩, s2, rfl⟩
          have e60 : (60 : Int).toNat = 60 := rfl
          exact ⟨_, _, _, _, _, _, ⟨js2, hl2, by omega⟩, s2, rfl⟩
      · refine ifF (decide_eq_false hbig) ⟨by decide, 3, rfl, by omega, by omega, ?_⟩
        refine for_range (PlC H a l (60 * i) ((sd * 31 + ns.getD i 0 % 999983 + i) % 2147483647) i (ns.getD i 0) y5) ⟨ns.getD i 0 % 999983 + 1, y6, ⟨js, hl, by omega⟩, s1, rfl⟩ ?_ ?_
        · rintro k σ H2 hk ⟨on, z6, ⟨js2, hl2, hjs2⟩, s2, rfl⟩
          simp only [cxOf, tYes, eq_self, if_true, if_false, wipe, rLenQ, rIxTQ, rIxLQ, rIxSQ, rInt1Q, rTupQ, rAppQ, rPopQ, rPopAtQ, rRevQ, rListS, rReprP, tLenSetT, tChain, tRetN, tRet, tSeq, tAsg, gName, tVar, tC, tCons, tNil, tCB, tOp, rI0, rI, tAndV, tOrV, tNotV, tIf, tTest, tB, tNot, tAnd, tOr, tIfS, tNext, tCallR, rIsK, rEq, rNe, tDrop, L2.start, List.map_cons, List.map_nil, List.length_cons, List.length_nil, Nat.reduceAdd, Nat.reduceSub, Nat.sub_self, List.replicate_zero, List.replicate_succ, List.append_nil, List.cons_append, List.nil_append, List.getElem?_cons_zero, List.getElem?_cons_succ, List.set_cons_zero, List.set_cons_succ, Option.some.injEq, List.cons.injEq, and_true, true_and, exists_eq_left, exists_eq_left', exists_eq_right, V.ty.injEq, V.int.injEq, V.bl.injEq, V.str.injEq, V.ref.injEq, exists_and_left, exists_const, reduceIte, reduceCtorEq, false_and, and_false, exists_false, or_false, false_or, Bool.not_true, Bool.not_false, Bool.false_eq_true, String.reduceEq, true_or, or_true, rNotT, tNNew, tNNotIn, tNGet, sNPut, tLenSetN, tPar, tAug, ipI, tDNotIn, sDPut, tDGet, tTup, tLst, tBM, tBM0]
          have pp := pl_put hl0 s2 hl2 hjs2
          refine ⟨cmR, cmL, by decide, lst_ty hl2, cmR, by decide, ⟨by decide, by decide⟩, by decide, _, hl2, ?_, _, _, (pp _).1, (pp _).2, rfl⟩
          rw [List.length_map]
          exact szlt (m := 100000) (by have : k < 3 := hk; omega)
        · rintro σ H2 ⟨on, z6, ⟨js2, hl2, hjs2⟩, s2, rfl⟩
          have e3 : (3 : Int).toNat = 3 := rfl
          exact ⟨_, _, _, _, _, _, ⟨js2, hl2, by omega⟩, s2, rfl⟩
    · rintro σ H1 ⟨sd, y3, y4, y5, y6, y7, ⟨js, hl, hjs⟩, s1, rfl⟩
      simp only [cxOf, tYes, eq_self, if_true, if_false, wipe, rLenQ, rIxTQ, rIxLQ, rIxSQ, rInt1Q, rTupQ, rAppQ, rPopQ, rPopAtQ, rRevQ, rListS, rReprP, tLenSetT, tChain, tRetN, tRet, tSeq, tAsg, gName, tVar, tC, tCons, tNil, tCB, tOp, rI0, rI, tAndV, tOrV, tNotV, tIf, tTest, tB, tNot, tAnd, tOr, tIfS, tNext, tCallR, rIsK, rEq, rNe, tDrop, L2.start, List.map_cons, List.map_nil, List.length_cons, List.length_nil, Nat.reduceAdd, Nat.reduceSub, Nat.sub_self, List.replicate_zero, List.replicate_succ, List.append_nil, List.cons_append, List.nil_append, List.getElem?_cons_zero, List.getElem?_cons_succ, List.set_cons_zero, List.set_cons_succ, Option.some.injEq, List.cons.injEq, and_true, true_and, exists_eq_left, exists_eq_left', exists_eq_right, V.ty.injEq, V.int.injEq, V.bl.injEq, V.str.injEq, V.ref.injEq, exists_and_left, exists_const, reduceIte, reduceCtorEq, false_and, and_false, exists_false, or_false, false_or, Bool.not_true, Bool.not_false, Bool.false_eq_true, String.reduceEq, true_or, or_true, rNotT, tNNew, tNNotIn, tNGet, sNPut, tLenSetN, tPar, tAug, ipI, tDNotIn, sDPut, tDGet, tTup, tLst, tBM, tBM0]
      refine ⟨600, rfl, by omega, by omega, ?_⟩
      refine for_range (PlD H a l (60 * N)) ⟨sd, y3, y4, y5, y6, y7, ⟨js, hl, by omega⟩, s1, rfl⟩ ?_ ?_
      · rintro k σ H2 hk ⟨sd, y3, y4, y5, y6, y7, ⟨js, hl, hjs⟩, s1, rfl⟩
        simp only [cxOf, tYes, eq_self, if_true, if_false, wipe, rLenQ, rIxTQ, rIxLQ, rIxSQ, rInt1Q, rTupQ, rAppQ, rPopQ, rPopAtQ, rRevQ, rListS, rReprP, tLenSetT, tChain, tRetN, tRet, tSeq, tAsg, gName, tVar, tC, tCons, tNil, tCB, tOp, rI0, rI, tAndV, tOrV, tNotV, tIf, tTest, tB, tNot, tAnd, tOr, tIfS, tNext, tCallR, rIsK, rEq, rNe, tDrop, L2.start, List.map_cons, List.map_nil, List.length_cons, List.length_nil, Nat.reduceAdd, Nat.reduceSub, Nat.sub_self, List.replicate_zero, List.replicate_succ, List.append_nil, List.cons_append, List.nil_append, List.getElem?_cons_zero, List.getElem?_cons_succ, List.set_cons_zero, List.set_cons_succ, Option.some.injEq, List.cons.injEq, and_true, true_and, exists_eq_left, exists_eq_left', exists_eq_right, V.ty.injEq, V.int.injEq, V.bl.injEq, V.str.injEq, V.ref.injEq, exists_and_left, exists_const, reduceIte, reduceCtorEq, false_and, and_false, exists_false, or_false, false_or, Bool.not_true, Bool.not_false, Bool.false_eq_true, String.reduceEq, true_or, or_true, rNotT, tNNew, tNNotIn, tNGet, sNPut, tLenSetN, tPar, tAug, ipI, tDNotIn, sDPut, tDGet, tTup, tLst, tBM, tBM0]
        have pp := pl_put hl0 s1 hl hjs
        refine ⟨cmR, cmL, by decide, lst_ty hl, cmR, by decide, ⟨by decide, by decide⟩, by decide, _, hl, ?_, _, _, _, _, _, _, (pp _).1, (pp _).2, rfl⟩
        rw [List.length_map]
        exact szlt (m := 100000) (by have : k < 600 := hk; omega)
      · rintro σ H2 ⟨sd, y3, y4, y5, y6, y7, ⟨js, hl, hjs⟩, s1, rfl⟩
        simp only [cxOf, tYes, eq_self, if_true, if_false, wipe, rLenQ, rIxTQ, rIxLQ, rIxSQ, rInt1Q, rTupQ, rAppQ, rPopQ, rPopAtQ, rRevQ, rListS, rReprP, tLenSetT, tChain, tRetN, tRet, tSeq, tAsg, gName, tVar, tC, tCons, tNil, tCB, tOp, rI0, rI, tAndV, tOrV, tNotV, tIf, tTest, tB, tNot, tAnd, tOr, tIfS, tNext, tCallR, rIsK, rEq, rNe, tDrop, L2.start, List.map_cons, List.map_nil, List.length_cons, List.length_nil, Nat.reduceAdd, Nat.reduceSub, Nat.sub_self, List.replicate_zero, List.replicate_succ, List.append_nil, List.cons_append, List.nil_append, List.getElem?_cons_zero, List.getElem?_cons_succ, List.set_cons_zero, List.set_cons_succ, Option.some.injEq, List.cons.injEq, and_true, true_and, exists_eq_left, exists_eq_left', exists_eq_right, V.ty.injEq, V.int.injEq, V.bl.injEq, V.str.injEq, V.ref.injEq, exists_and_left, exists_const, reduceIte, reduceCtorEq, false_and, and_false, exists_false, or_false, false_or, Bool.not_true, Bool.not_false, Bool.false_eq_true, String.reduceEq, true_or, or_true, rNotT, tNNew, tNNotIn, tNGet, sNPut, tLenSetN, tPar, tAug, ipI, tDNotIn, sDPut, tDGet, tTup, tLst, tBM, tBM0]
        refine ⟨lst_ty hl, _, hl, q l _ hl0 (fun b o hb => ?_) ⟨js.reverse, by rw [upd_same, List.map_reverse]⟩⟩
        rw [upd_ne (ne b o hb)]
        exact s1 b o hb

theorem sc__law_signs : FnScope ["pool", "many", "row", "signs", "k"] ["pool", "many"] (defScope (topS 33)) := ⟨rfl, rfl, rfl, by decide +kernel, rfl, by decide +kernel, by decide +kernel⟩
theorem bd__law_signs {K : PySem.W.Frag} {f : Addr} {fd : FuncData} (F : FnP K "_law_signs" (topS 33) f fd) : Binds K fd ["pool", "many"] [] := F.bindsN fun _ _ _ _ _ _ us hl => match us, hl with | [_, _], _ => rfl
def spLs : Sp := fun vs H Q _ => ∃ l m, vs = [.ref l, .int m] ∧ PoolL H l ∧ 1 ≤ m ∧ m ≤ 5 ∧ ∀ (z : Str) H', SignsOk z → (∀ c ∈ z.cps.toList, c ≠ 36) → (z.length : Int) = m → But l H H' → PoolL H' l → Q (.str z) H'
def LsS (H : Hp) (l r : Addr) (m : Int) (k : Nat) (σ : L2.St) (H' : Hp) : Prop :=
  ∃ (z : Str) (cs : List Nat) (x4 : Option V), σ = [some (.ref l), some (.int m), some (.ref r), some (.str z), x4] ∧ But l H H' ∧ PoolL H' l ∧ H' r = some (.lst (cs.map fun c => .str (sgn c))) ∧ z.length = k ∧ cs.length + k = 36 ∧
    (z.cps.toList ++ cs).Nodup ∧ ∀ c ∈ z.cps.toList ++ cs, c < 128 ∧ c ≠ 36
theorem snoc_cps (z : Str) (c : Nat) : (z ++ sgn c).cps.toList = z.cps.toList ++ [c] := by
  show (z.cps ++ #[c]).toList = _
  rw [Array.toList_append]
theorem snoc_len (z : Str) (c : Nat) : (z ++ sgn c).length = z.length + 1 := by
  show (z.cps ++ #[c]).size = _
  rw [Array.size_append]
  rfl
theorem erase_perm {α : Type} : ∀ {l : List α} {i : Nat} {c : α}, l[i]? = some c → (c :: l.eraseIdx i).Perm l
  | [], i, c, h => by simp at h
  | a :: l, 0, c, h => by
    obtain rfl := Option.some.inj h
    exact List.Perm.refl _
  | a :: l, i + 1, c, h => (List.Perm.swap a c _).trans (List.Perm.cons a (erase_perm (l := l) (i := i) h))
theorem mapErase {α β : Type} (f : α → β) : ∀ (l : List α) (i : Nat), (l.map f).eraseIdx i = (l.eraseIdx i).map f
  | [], _ => rfl
  | _ :: _, 0 => rfl
  | a :: l, i + 1 => congrArg (f a :: ·) (mapErase f l i)
theorem ok__law_signs (T : Tx K mg) : Dk P w K mg base 2 "_law_signs" ["pool", "many"] spLs := by
  have D__law_draw := ok__law_draw (P := P) (w := w) (base := base) T
  obtain ⟨fd, F⟩ := T.d__law_signs
  refine ⟨⟨fd, F.ok sc__law_signs (fun vs H Q E h => ?_) (fun cdv A outer s H vs Q E hr h => ?_), bd__law_signs F⟩, F.kp, T.g__law_signs⟩
  · obtain ⟨l, m, rfl, _⟩ := h
    rfl
  · obtain ⟨l, m, rfl, ⟨js, hp⟩, hm1, hm5, q⟩ := h
    refine ⟨_, PSs.nox (pss_cons (ps_set (i := 2) sc__law_signs.nd rfl (.inl rfl) (pe_callTy (call_listS rfl) (by rfl) T.f_list PyProof.Rows.boot_list (pa_cons pe_str pa_nil)))
      (pss_cons (ps_set (i := 3) sc__law_signs.nd rfl (.inl rfl) pe_str)
      (pss_cons (ps_for PassesOwn.never rfl (pi_range1 (by rfl) T.f_range (pa_cons (pv 1) pa_nil)) (pg_name (i := 4) sc__law_signs.nd rfl (.inl rfl)) (pss_one (ps_set (i := 3) sc__law_signs.nd rfl (.inl rfl) (pe_op op_add_str (pv 3) (pe_bm PySem.F.plainAttrs_list PySem.F.slot_list_pop PySem.F.type_list_pop mt_popAtQ (pv 2) (pa_cons (pe_callR D__law_draw (hr.mono (by decide)) takes0 (pa_cons (pv 0) (pa_cons (pe_callB call_lenQ (by rfl) T.f_len PySem.boot_len (pa_cons (pv 2) pa_nil)) pa_nil))) pa_nil))))))
      (pss_one (ps_ret (pv 3)))))), ?_⟩
    simp only [cxOf, tYes, eq_self, if_true, if_false, wipe, rLenQ, rIxTQ, rIxLQ, rIxSQ, rInt1Q, rTupQ, rAppQ, rPopQ, rPopAtQ, rRevQ, rListS, rReprP, tLenSetT, tChain, tRetN, tRet, tSeq, tAsg, gName, tVar, tC, tCons, tNil, tCB, tOp, rI0, rI, tAndV, tOrV, tNotV, tIf, tTest, tB, tNot, tAnd, tOr, tIfS, tNext, tCallR, rIsK, rEq, rNe, tDrop, L2.start, List.map_cons, List.map_nil, List.length_cons, List.length_nil, Nat.reduceAdd, Nat.reduceSub, Nat.sub_self, List.replicate_zero, List.replicate_succ, List.append_nil, List.cons_append, List.nil_append, List.getElem?_cons_zero, List.getElem?_cons_succ, List.set_cons_zero, List.set_cons_succ, Option.some.injEq, List.cons.injEq, and_true, true_and, exists_eq_left, exists_eq_left', exists_eq_right, V.ty.injEq, V.int.injEq, V.bl.injEq, V.str.injEq, V.ref.injEq, exists_and_left, exists_const, reduceIte, reduceCtorEq, false_and, and_false, exists_false, or_false, false_or, Bool.not_true, Bool.not_false, Bool.false_eq_true, String.reduceEq, true_or, or_true, rNotT, tNNew, tNNotIn, tNGet, sNPut, tLenSetN, tPar, tAug, ipI, tDNotIn, sDPut, tDGet, tTup, tLst, tBM, tBM0]
    refine ⟨szle (m := 36) (by decide), fun r hr0 => ?_⟩
    have hlr : l ≠ r := ne_of_none hp hr0
    refine ⟨.int m, rfl, m, rfl, by omega, by omega, ?_⟩
    refine for_range (LsS H l r m) ⟨Str.ofString "", _, none, rfl, But.of_same (same_upd hr0), ⟨js, by rw [upd_ne hlr]; exact hp⟩, upd_same.trans (congrArg (fun v => some (HO.lst v)) (List.map_map ..)), rfl, by decide, by decide, by decide⟩ ?_ ?_
    · rintro k σ H1 hk ⟨z, cs, x4, rfl, hb, hpl, hcs, hz, hck, hnd, hlow⟩
      simp only [cxOf, tYes, eq_self, if_true, if_false, wipe, rLenQ, rIxTQ, rIxLQ, rIxSQ, rInt1Q, rTupQ, rAppQ, rPopQ, rPopAtQ, rRevQ, rListS, rReprP, tLenSetT, tChain, tRetN, tRet, tSeq, tAsg, gName, tVar, tC, tCons, tNil, tCB, tOp, rI0, rI, tAndV, tOrV, tNotV, tIf, tTest, tB, tNot, tAnd, tOr, tIfS, tNext, tCallR, rIsK, rEq, rNe, tDrop, L2.start, List.map_cons, List.map_nil, List.length_cons, List.length_nil, Nat.reduceAdd, Nat.reduceSub, Nat.sub_self, List.replicate_zero, List.replicate_succ, List.append_nil, List.cons_append, List.nil_append, List.getElem?_cons_zero, List.getElem?_cons_succ, List.set_cons_zero, List.set_cons_succ, Option.some.injEq, List.cons.injEq, and_true, true_and, exists_eq_left, exists_eq_left', exists_eq_right, V.ty.injEq, V.int.injEq, V.bl.injEq, V.str.injEq, V.ref.injEq, exists_and_left, exists_const, reduceIte, reduceCtorEq, false_and, and_false, exists_false, or_false, false_or, Bool.not_true, Bool.not_false, Bool.false_eq_true, String.reduceEq, true_or, or_true, rNotT, tNNew, tNNotIn, tNGet, sNPut, tLenSetN, tPar, tAug, ipI, tDNotIn, sDPut, tDGet, tTup, tLst, tBM, tBM0]
      refine ⟨lst_ty hcs, _, .inl (.inl (.inl hcs)), l, _, rfl, hpl, ?_, ?_⟩
      · rw [List.length_map]; omega
      · intro i H2 hi0 hi hb2 hpl2
        rw [List.length_map] at hi
        have hcs2 := hb2 r _ (Ne.symm hlr) hcs
        obtain ⟨c, hc⟩ : ∃ c, cs[i.toNat]? = some c := ⟨_, List.getElem?_eq_getElem (by omega)⟩
        refine ⟨_, hcs2, hi0, by omega, .str (sgn c), by rw [List.getElem?_map, hc]; rfl, _, rfl, ?_, ?_⟩
        · rw [show (sgn c).length = 1 from rfl]
          exact szle (m := 100) (by omega)
        · have pm := erase_perm hc
          have hm : ((z ++ sgn c).cps.toList ++ cs.eraseIdx i.toNat).Perm (z.cps.toList ++ cs) := by
            rw [snoc_cps, List.append_assoc]
            exact List.Perm.append_left _ pm
          refine ⟨z ++ sgn c, cs.eraseIdx i.toNat, _, rfl, ?_, ?_, ?_, by rw [snoc_len, hz], ?_, hm.nodup_iff.mpr hnd, fun c' hc' => hlow c' (hm.mem_iff.mp hc')⟩
          · intro b o hbl ho
            rw [upd_ne (fun e => by subst e; have := hb b o hbl ho; rw [hr0] at ho; cases ho)]
            exact hb2 b o hbl (hb b o hbl ho)
          · obtain ⟨js2, h2⟩ := hpl2
            exact ⟨js2, by rw [upd_ne hlr]; exact h2⟩
          · rw [upd_same, mapErase]
          · rw [List.length_eraseIdx_of_lt (by omega)]
            omega
    · rintro σ H1 ⟨z, cs, x4, rfl, hb, hpl, hcs, hz, hck, hnd, hlow⟩
      refine ⟨_, rfl, q z H1 ⟨by omega, by omega, (List.nodup_append.mp hnd).1, fun c hc => (hlow c (List.mem_append_left _ hc)).1⟩ (fun c hc => (hlow c (List.mem_append_left _ hc)).2) (by omega) hb hpl⟩

end
end K37

namespace K37
open PySem PySem.Spec PyProof.Rows L2 Sg
section
variable {P : Program} {w : World} {K : PySem.W.Frag} {mg : Str → Option Value} {base : Heap}
theorem sc_check_number : FnScope ["value", "low", "high"] ["value", "low", "high"] (defScope (topS 8)) := ⟨rfl, rfl, rfl, by decide +kernel, rfl, by decide +kernel, by decide +kernel⟩
theorem bd_check_number {K : PySem.W.Frag} {f : Addr} {fd : FuncData} (F : FnP K "check_number" (topS 8) f fd) : Binds K fd ["value", "low", "high"] [] := F.bindsN fun _ _ _ _ _ _ us hl => match us, hl with | [_, _, _], _ => rfl
def spCn (K : PySem.W.Frag) : Sp := fun vs H Q E => ∃ v lo hi : Int, vs = [.int v, .int lo, .int hi] ∧ (0 ≤ lo ∧ lo < 600) ∧ (0 ≤ hi ∧ hi < 600) ∧ (lo ≤ v → v ≤ hi → Q .non H) ∧ (¬ (lo ≤ v ∧ v ≤ hi) → E (.ref (He.ga K "BadNumber")) none H)
theorem ok_check_number (T : Tx K mg) : Dk P w K mg base 1 "check_number" ["value", "low", "high"] (spCn K) := by
  obtain ⟨fd, F⟩ := T.d_check_number
  refine ⟨⟨fd, F.ok sc_check_number (fun vs H Q E h => ?_) (fun cdv A outer s H vs Q E hr h => ?_), bd_check_number F⟩, F.kp, T.g_check_number⟩
  · obtain ⟨v, lo, hi, rfl, _⟩ := h
    rfl
  · obtain ⟨v, lo, hi, rfl, hlo, hhi, q1, q2⟩ := h
    refine ⟨_, (pss_cons (ps_if (PW.pt (pw_or (pt_not (pt_val (pe_callB call_isK (by rfl) T.f_isinstance PyProof.Rows.boot_isinstance (pa_cons (pv 0) (pa_cons (pe_bltn (v := .ty "int") (by rfl) T.f_int PyProof.Rows.boot_int rfl) pa_nil))))) (pw_or1 (pt_val (pe_callB call_isK (by rfl) T.f_isinstance PyProof.Rows.boot_isinstance (pa_cons (pv 0) (pa_cons (pe_bltn (v := .ty "bool") (by rfl) T.f_bool PyProof.Rows.boot_bool rfl) pa_nil))))))) (pss_one (ps_raise rfl (takes_of rfl rfl rfl rfl) (pmk_own PySem.F.excBase_ValueError T.e_BadNumber.ex T.e_BadNumber.gm T.e_BadNumber.kp T.e_BadNumber.rs rfl))) pss_nil)
      (pss_one (ps_if (pt_not (pt_chain op_le op_le (pv 1) (pv 0) (pv 2))) (pss_one (ps_raise rfl (takes_of rfl rfl rfl rfl) (pmk_ownE PySem.F.excBase_ValueError T.e_BadNumber.ex T.e_BadNumber.gm T.e_BadNumber.kp T.e_BadNumber.rs (pe_joined (PJ.cons pe_str (PJ.cons (pe_fmt (pv 1)) (PJ.cons pe_str (PJ.cons (pe_fmt (pv 2)) PJ.nil))))) rfl))) pss_nil))), ?_⟩
    simp only [cxOf, tYes, eq_self, if_true, if_false, wipe, rLenQ, rIxTQ, rIxLQ, rIxSQ, rInt1Q, rTupQ, rAppQ, rPopQ, rPopAtQ, rRevQ, rListS, rReprP, tLenSetT, tChain, tRetN, tRet, tSeq, tAsg, gName, tVar, tC, tCons, tNil, tCB, tOp, rI0, rI, tAndV, tOrV, tNotV, tIf, tTest, tB, tNot, tAnd, tOr, tIfS, tNext, tCallR, rIsK, rEq, rNe, tDrop, L2.start, List.map_cons, List.map_nil, List.length_cons, List.length_nil, Nat.reduceAdd, Nat.reduceSub, Nat.sub_self, List.replicate_zero, List.replicate_succ, List.append_nil, List.cons_append, List.nil_append, List.getElem?_cons_zero, List.getElem?_cons_succ, List.set_cons_zero, List.set_cons_succ, Option.some.injEq, List.cons.injEq, and_true, true_and, exists_eq_left, exists_eq_left', exists_eq_right, V.ty.injEq, V.int.injEq, V.bl.injEq, V.str.injEq, V.ref.injEq, exists_and_left, exists_const, reduceIte, reduceCtorEq, false_and, and_false, exists_false, or_false, false_or, Bool.not_true, Bool.not_false, Bool.false_eq_true, String.reduceEq, true_or, or_true, rNotT, tNNew, tNNotIn, tNGet, sNPut, tLenSetN, tPar, tAug, ipI, tDNotIn, sDPut, tDGet, tTup, tLst, tBM, tBM0]
    have tx : ∀ (R : Str → Hp → Prop), (∀ out, R out H) → tJs [tC (.str (Str.ofString "this is not an int from ")), tFmt (tVar 1), tC (.str (Str.ofString " to ")), tFmt (tVar 2)] Str.empty [some (.int v), some (.int lo), some (.int hi)] H R := by
      intro R hR
      have short : ∀ i : Int, 0 ≤ i ∧ i < 600 → (Str.ofString (toString i)).length ≤ 8 ∧ i.natAbs.log2 < 1920 := fun i hi => by
        have h1 := int_ok hi.1 hi.2
        refine ⟨by simpa [PyData.shown] using h1.1, ?_⟩
        simpa [PyData.showable] using h1.2.2
      have l1 := short lo hlo
      have l2 := short hi hhi
      have c1 : (Str.ofString "this is not an int from ").length = 24 := by decide
      have c2 : (Str.ofString " to ").length = 4 := by decide
      have c0 : Str.empty.length = 0 := rfl
      refine ⟨_, rfl, ?_, .int lo, rfl, .inr ⟨lo, rfl, l1.2, _, rfl, ?_, _, rfl, ?_, .int hi, rfl, .inr ⟨hi, rfl, l2.2, _, rfl, ?_, hR _⟩⟩⟩
      all_goals
        simp only [strLen_append]
        refine szle (m := 100) ?_
        omega
    refine ⟨.int v, ifF rfl ⟨.int v, ifF rfl ?_⟩⟩
    by_cases h1 : lo ≤ v
    · refine ifT (decide_eq_true h1) ?_
      by_cases h2 : v ≤ hi
      · exact ifF (by rw [decide_eq_true h2]; rfl) (q1 h1 h2)
      · exact ifT (by rw [decide_eq_false h2]; rfl) (tx _ fun _ => q2 fun z => h2 z.2)
    · exact ifF (decide_eq_false h1) (tx _ fun _ => q2 fun z => h1 z.1)
theorem sc_counts_behind : FnScope ["states", "length", "counts", "_", "state", "to"] ["states", "length"] (defScope (topS 24)) := ⟨rfl, rfl, rfl, by decide +kernel, rfl, by decide +kernel, by decide +kernel⟩
theorem bd_counts_behind {K : PySem.W.Frag} {f : Addr} {fd : FuncData} (F : FnP K "counts_behind" (topS 24) f fd) : Binds K fd ["states", "length"] [] := F.bindsN fun _ _ _ _ _ _ us hl => match us, hl with | [_, _], _ => rfl
def cntsOf (n : Nat) (rs : List LRow) (m : Nat) : List Int := (stR rs.length).map (cntAt n rs m)
def spCb (K : PySem.W.Frag) : Sp := fun vs H Q _ => ∃ b rs n, ∃ m : Nat, vs = [.ref b, .int (m : Int)] ∧ RRows K H b rs ∧ RowsOk n rs ∧ n ≤ 1000 ∧ m ≤ 1000 ∧ ∀ l H', Same H H' → H' l = some (.lst ((cntsOf n rs m).map V.int)) → Q (.ref l) H'
def CbI (H : Hp) (b : Addr) (n : Nat) (rs : List LRow) (m : Nat) (k : Nat) (σ : L2.St) (H' : Hp) : Prop :=
  ∃ (l : Addr) (y3 y4 y5 : Option V), Same H H' ∧ H' l = some (.lst ((cntsOf n rs k).map V.int)) ∧ σ = [some (.ref b), some (.int (m : Int)), some (.ref l), y3, y4, y5]
theorem ok_counts_behind (T : Tx K mg) : Dk P w K mg base 1 "counts_behind" ["states", "length"] (spCb K) := by
  obtain ⟨fd, F⟩ := T.d_counts_behind
  refine ⟨⟨fd, F.ok sc_counts_behind (fun vs H Q E h => ?_) (fun cdv A outer s H vs Q E hr h => ?_), bd_counts_behind F⟩, F.kp, T.g_counts_behind⟩
  · obtain ⟨b, rs, n, m, rfl, _⟩ := h
    rfl
  · obtain ⟨b, rs, n, m, rfl, ⟨vs, hvs, hpr⟩, ok, hn, hm, q⟩ := h
    refine ⟨_, PSs.nox (pss_cons (ps_set (i := 2) sc_counts_behind.nd rfl (.inr rfl) (pe_lc (own := [("state", 4)]) rfl sc_counts_behind.nd (pi_tup (pv 0)) (blkOk_by (own := [("state", 4)]) (N := ["states", "length", "counts", "_", "state", "to"]) (sc := defScope (topS 24)) (by decide +kernel)) (fun _ _ _ _ _ => (pg_name (i := 4) sc_counts_behind.nd rfl (.inl rfl))) (fun _ _ _ _ _ => pts_nil) (fun _ _ _ _ _ => (pe_ix (show IxR _ (rIxTQ K) by exact ix_tupQ) (pv 4) pe_int (fun _ _ => rfl)))))
      (pss_cons (ps_for PassesOwn.never rfl (pi_range1 (by rfl) T.f_range (pa_cons (pv 1) pa_nil)) (pg_name (i := 3) sc_counts_behind.nd rfl (.inl rfl)) (pss_one (ps_set (i := 2) sc_counts_behind.nd rfl (.inr rfl) (pe_lc (own := [("state", 4)]) rfl sc_counts_behind.nd (pi_tup (pv 0)) (blkOk_by (own := [("state", 4)]) (N := ["states", "length", "counts", "_", "state", "to"]) (sc := defScope (topS 24)) (by decide +kernel)) (fun _ _ _ _ _ => (pg_name (i := 4) sc_counts_behind.nd rfl (.inl rfl))) (fun _ _ _ _ _ => pts_nil) (fun _ _ _ _ _ => (pe_callB (show CallR _ (.builtin "sum") (rSum K) by exact cr_sum rfl) (by rfl) T.f_sum (by decide +kernel) (pa_cons (pe_lc (own := [("to", 5)]) rfl sc_counts_behind.nd (show PI _ _ _ (iTup K _) by exact (pi_tup (pe_ix (show IxR _ (rIxTQ K) by exact ix_tupQ) (pv 4) pe_int (fun _ _ => rfl)))) (by show BlkOk ["states", "length", "counts", "_", "state", "to"] ({ kind := .function, names := [(".0", .local), ("state", .local), ("sum", .globalImplicit), ("counts", .cell)], isGenerator := false, isCoroutine := false } : Scope) _ _; exact blkOk_by (by decide +kernel)) (fun _ _ _ _ _ => (pg_name (i := 5) sc_counts_behind.nd rfl (.inl rfl))) (fun _ _ _ _ _ => pts_nil) (fun _ _ _ _ _ => (pe_ix (show IxR _ (rIxLQ K) by exact ix_listQ) (pv 2) (pv 5) (fun _ _ => rfl)))) pa_nil)))))))
      (pss_one (ps_ret (pv 2))))), ?_⟩
    simp only [cxOf, tYes, eq_self, if_true, if_false, wipe, rLenQ, rIxTQ, rIxLQ, rIxSQ, rInt1Q, rTupQ, rAppQ, rPopQ, rPopAtQ, rRevQ, rListS, rReprP, tLenSetT, tChain, tRetN, tRet, tSeq, tAsg, gName, tVar, tC, tCons, tNil, tCB, tOp, rI0, rI, tAndV, tOrV, tNotV, tIf, tTest, tB, tNot, tAnd, tOr, tIfS, tNext, tCallR, rIsK, rEq, rNe, tDrop, L2.start, List.map_cons, List.map_nil, List.length_cons, List.length_nil, Nat.reduceAdd, Nat.reduceSub, Nat.sub_self, List.replicate_zero, List.replicate_succ, List.append_nil, List.cons_append, List.nil_append, List.getElem?_cons_zero, List.getElem?_cons_succ, List.set_cons_zero, List.set_cons_succ, Option.some.injEq, List.cons.injEq, and_true, true_and, exists_eq_left, exists_eq_left', exists_eq_right, V.ty.injEq, V.int.injEq, V.bl.injEq, V.str.injEq, V.ref.injEq, exists_and_left, exists_const, reduceIte, reduceCtorEq, false_and, and_false, exists_false, or_false, false_or, Bool.not_true, Bool.not_false, Bool.false_eq_true, String.reduceEq, true_or, or_true, rNotT, tNNew, tNNotIn, tNGet, sNPut, tLenSetN, tPar, tAug, ipI, tDNotIn, sDPut, tDGet, tTup, tLst, tBM, tBM0]
    have el : vs.length = rs.length := pr_len hpr
    have h600 := ok.top
    refine ⟨.ref b, rfl, b, rfl, ⟨vs, hvs⟩, fun D0 hD0 => ?_⟩
    refine lc_read (ys := (cntsOf n rs 0).map V.int) hD0 hvs (by simp [el, cntsOf, stR_len]) (by omega) (fun x => rfl) (fun i x y hx hy R hR => ?_) ?_
    · obtain ⟨r, hr, a1, b1, rfl, h3, h4⟩ := pr_get hpr hx
      have hi := (List.getElem?_eq_some_iff.mp hr).1
      have e : y = .int r.1 := by
        unfold cntsOf at hy
        rw [List.getElem?_map, List.getElem?_map, stR_get hi] at hy
        have hin : InSt rs (i : Int) := ⟨by omega, by omega⟩
        have h5 := rowOf_get hin
        rw [Int.toNat_natCast, hr] at h5
        rw [← Option.some.inj hy, Option.some.inj h5]
        rfl
      subst e
      exact ⟨_, rfl, _, _, Same.sqT (same_upd hD0) h3, rfl, hR⟩
    refine ⟨.int (m : Int), rfl, (m : Int), rfl, by omega, by omega, ?_⟩
    have en : ((m : Nat) : Int).toNat = m := Int.toNat_natCast _
    rw [en]
    refine for_range (CbI H b n rs m) ⟨D0, none, none, none, same_upd hD0, upd_same, rfl⟩ ?_ ?_
    · rintro k σ H1 hk ⟨l, y3, y4, y5, s1, hl, rfl⟩
      refine ⟨.ref b, rfl, b, rfl, ⟨vs, Same.sqT s1 hvs⟩, fun D1 hD1 => ?_⟩
      refine lc_grow (ys := (cntsOf n rs (k + 1)).map V.int) hD1 (Same.sqT s1 hvs) (by simp [el, cntsOf, stR_len]) (by omega) (fun x => rfl) (fun i x y hx hy H2 s2 R hR => ?_) (fun H2 s2 hD2 => ⟨D1, _, _, _, Same.trans s1 s2, hD2, rfl⟩)
      obtain ⟨r, hr, a1, b1, rfl, h3, h4⟩ := pr_get hpr hx
      have hi := (List.getElem?_eq_some_iff.mp hr).1
      have hin : InSt rs (i : Int) := ⟨by omega, by omega⟩
      have er : rowOf rs (i : Int) = r := by
        have h5 := rowOf_get hin
        rw [Int.toNat_natCast, hr] at h5
        exact (Option.some.inj h5).symm
      have s12 := Same.trans s1 s2
      have e : y = .int ((r.2.map (cntAt n rs k)).sum) := by
        unfold cntsOf at hy
        rw [List.getElem?_map, List.getElem?_map, stR_get hi] at hy
        rw [← Option.some.inj hy, ← er, ← cnt_succ ok hin]
      subst e
      refine ⟨.ref a1, rfl, _, _, Same.sqT s12 h3, rfl, b1, rfl, ⟨_, Same.sqT s12 h4⟩, fun D2 hD2 => ?_⟩
      refine lc_read (ys := (r.2.map (cntAt n rs k)).map V.int) hD2 (Same.sqT s12 h4) (by simp) (by have := ok.wid r (List.mem_of_getElem? hr); simp; omega) (fun x => rfl) (fun j x y hx hy R2 hR2 => ?_) ?_
      · rw [List.getElem?_map] at hx
        obtain ⟨qv, hq, rfl⟩ := Option.map_eq_some_iff.mp hx
        have hto := ok.to r (List.mem_of_getElem? hr) qv (List.mem_of_getElem? hq)
        have e : y = .int (cntAt n rs k qv) := by
          rw [List.getElem?_map, List.getElem?_map, hq] at hy
          exact (Option.some.inj hy).symm
        subst e
        have hg := getD_get (ms := cntsOf n rs k) (N := rs.length) (by simp [cntsOf, stR_len]) hto.1 hto.2
        rw [show mk (cntsOf n rs k) qv = cntAt n rs k qv from mk_stR hto.1 hto.2] at hg
        exact ⟨_, rfl, _, rfl, _, _, .inl (.inl (same_upd hD2 _ _ (s2 _ _ hl))), hg, hR2⟩
      exact ⟨D2, _, rfl, .inl (.inl upd_same), hR _ (same_upd hD2)⟩
    · rintro σ H1 ⟨l, y3, y4, y5, s1, hl, rfl⟩
      exact ⟨_, rfl, q l H1 s1 hl⟩
theorem sc_count_taken : FnScope ["looker", "n"] ["looker", "n"] (defScope (topS 29)) := ⟨rfl, rfl, rfl, by decide +kernel, rfl, by decide +kernel, by decide +kernel⟩
theorem bd_count_taken {K : PySem.W.Frag} {f : Addr} {fd : FuncData} (F : FnP K "count_taken" (topS 29) f fd) : Binds K fd ["looker", "n"] [] := F.bindsN fun _ _ _ _ _ _ us hl => match us, hl with | [_, _], _ => rfl
def spCk (K : PySem.W.Frag) : Sp := fun vs H Q E => ∃ v z rs, ∃ m : Int, vs = [v, .int m] ∧ RLk K H v z rs ∧ SignsOk z ∧ RowsOk z.length rs ∧ (0 ≤ m → m ≤ 200 → ∀ H', Same H H' → Q (.int (cntAt z.length rs m.toNat 0)) H') ∧ (¬ (0 ≤ m ∧ m ≤ 200) → E (.ref (He.ga K "BadNumber")) none H)
theorem fn_count_taken (T : Tx K mg) {fd : FuncData} (F : FnP K "count_taken" (topS 29) (He.ga K "count_taken") fd) : FnOk P w K mg base (L2.CX P w) 5 (He.ga K "count_taken") fd ["looker", "n"] (spCk K) := by
  have D_check_looker := ok_check_looker (P := P) (w := w) (base := base) T
  have D_check_number := ok_check_number (P := P) (w := w) (base := base) T
  have D_counts_behind := ok_counts_behind (P := P) (w := w) (base := base) T
  refine F.ok sc_count_taken (fun vs H Q E h => ?_) (fun cdv A outer s H vs Q E hr h => ?_)
  · obtain ⟨v, z, rs, m, rfl, _⟩ := h
    rfl
  · obtain ⟨v, z, rs, m, rfl, hv, hz, ok, q1, q2⟩ := h
    obtain ⟨_, c_MOST_LENGTH⟩ := T.c_MOST_LENGTH
    refine ⟨_, (pss_cons (ps_expr (pe_callR D_check_looker (hr.mono (by decide)) (takes_of rfl rfl rfl rfl) (pa_cons (pv 0) pa_nil)))
      (pss_cons (ps_expr (pe_callR D_check_number (hr.mono (by decide)) (takes_of rfl rfl rfl rfl) (pa_cons (pv 1) (pa_cons pe_int (pa_cons (pe_glob (v := .int 200) (by rfl) c_MOST_LENGTH ⟨_, rfl⟩) pa_nil)))))
      (pss_one (ps_ret (pe_ix ix_listQ (pe_callR D_counts_behind (hr.mono (by decide)) (takes_of rfl rfl rfl rfl) (pa_cons (pe_ix ix_tupQ (pv 0) pe_int (fun _ _ => rfl)) (pa_cons (pv 1) pa_nil))) pe_int (fun _ _ => rfl)))))), ?_⟩
    simp only [cxOf, tYes, eq_self, if_true, if_false, wipe, rLenQ, rIxTQ, rIxLQ, rIxSQ, rInt1Q, rTupQ, rAppQ, rPopQ, rPopAtQ, rRevQ, rListS, rReprP, tLenSetT, tChain, tRetN, tRet, tSeq, tAsg, gName, tVar, tC, tCons, tNil, tCB, tOp, rI0, rI, tAndV, tOrV, tNotV, tIf, tTest, tB, tNot, tAnd, tOr, tIfS, tNext, tCallR, rIsK, rEq, rNe, tDrop, L2.start, List.map_cons, List.map_nil, List.length_cons, List.length_nil, Nat.reduceAdd, Nat.reduceSub, Nat.sub_self, List.replicate_zero, List.replicate_succ, List.append_nil, List.cons_append, List.nil_append, List.getElem?_cons_zero, List.getElem?_cons_succ, List.set_cons_zero, List.set_cons_succ, Option.some.injEq, List.cons.injEq, and_true, true_and, exists_eq_left, exists_eq_left', exists_eq_right, V.ty.injEq, V.int.injEq, V.bl.injEq, V.str.injEq, V.ref.injEq, exists_and_left, exists_const, reduceIte, reduceCtorEq, false_and, and_false, exists_false, or_false, false_or, Bool.not_true, Bool.not_false, Bool.false_eq_true, String.reduceEq, true_or, or_true, rNotT, tNNew, tNNotIn, tNGet, sNPut, tLenSetN, tPar, tAug, ipI, tDNotIn, sDPut, tDGet, tTup, tLst, tBM, tBM0]
    have hz5 := hz.top
    refine ⟨v, z, rs, rfl, hv, hz, ok, m, 0, 200, rfl, by decide, by decide, fun h0 h1 => ?_, q2⟩
    obtain ⟨a, b, rfl, g1, gb⟩ := hv
    simp only [cxOf, tYes, eq_self, if_true, if_false, wipe, rLenQ, rIxTQ, rIxLQ, rIxSQ, rInt1Q, rTupQ, rAppQ, rPopQ, rPopAtQ, rRevQ, rListS, rReprP, tLenSetT, tChain, tRetN, tRet, tSeq, tAsg, gName, tVar, tC, tCons, tNil, tCB, tOp, rI0, rI, tAndV, tOrV, tNotV, tIf, tTest, tB, tNot, tAnd, tOr, tIfS, tNext, tCallR, rIsK, rEq, rNe, tDrop, L2.start, List.map_cons, List.map_nil, List.length_cons, List.length_nil, Nat.reduceAdd, Nat.reduceSub, Nat.sub_self, List.replicate_zero, List.replicate_succ, List.append_nil, List.cons_append, List.nil_append, List.getElem?_cons_zero, List.getElem?_cons_succ, List.set_cons_zero, List.set_cons_succ, Option.some.injEq, List.cons.injEq, and_true, true_and, exists_eq_left, exists_eq_left', exists_eq_right, V.ty.injEq, V.int.injEq, V.bl.injEq, V.str.injEq, V.ref.injEq, exists_and_left, exists_const, reduceIte, reduceCtorEq, false_and, and_false, exists_false, or_false, false_or, Bool.not_true, Bool.not_false, Bool.false_eq_true, String.reduceEq, true_or, or_true, rNotT, tNNew, tNNotIn, tNGet, sNPut, tLenSetN, tPar, tAug, ipI, tDNotIn, sDPut, tDGet, tTup, tLst, tBM, tBM0]
    refine ⟨_, g1, .ref b, rfl, b, rs, z.length, m.toNat, ?_, gb, ok, by omega, by omega, fun l H1 s1 hl => ?_⟩
    · rw [show ((m.toNat : Nat) : Int) = m by omega]
    · have hpos := ok.pos
      have hg := getD_get (ms := cntsOf z.length rs m.toNat) (N := rs.length) (p := 0) (by simp [cntsOf, stR_len]) (by omega) (by omega)
      rw [show mk (cntsOf z.length rs m.toNat) 0 = cntAt z.length rs m.toNat 0 from mk_stR (by omega) (by omega)] at hg
      exact ⟨_, .inl (.inl hl), _, hg, q1 h0 h1 H1 s1⟩
theorem ok_count_taken (T : Tx K mg) : Dk P w K mg base 5 "count_taken" ["looker", "n"] (spCk K) := by
  obtain ⟨fd, F⟩ := T.d_count_taken
  exact ⟨⟨fd, fn_count_taken T F, bd_count_taken F⟩, F.kp, T.g_count_taken⟩
theorem okK_count_taken (T : Tx K mg) : DkK P w K mg base 5 "count_taken" ["looker", "n"] ["n", "looker"] swG swV (spCk K) := by
  obtain ⟨fd, F⟩ := T.d_count_taken
  exact ⟨⟨fd, fn_count_taken T F, sw_binds F fun _ _ _ _ _ _ _ _ => rfl⟩, F.kp, T.g_count_taken⟩
end
end K37

namespace K37
open PySem PySem.Spec PyProof.Rows L2 Sg
section
variable {P : Program} {w : World} {K : PySem.W.Frag} {mg : Str → Option Value} {base : Heap}
theorem sc_takes : FnScope ["looker", "text", "signs", "states"] ["looker", "text"] (defScope (topS 27)) := ⟨rfl, rfl, rfl, by decide +kernel, rfl, by decide +kernel, by decide +kernel⟩
theorem bd_takes {K : PySem.W.Frag} {f : Addr} {fd : FuncData} (F : FnP K "takes" (topS 27) f fd) : Binds K fd ["looker", "text"] [] := F.bindsN fun _ _ _ _ _ _ us hl => match us, hl with | [_, _], _ => rfl
def endB (z : Str) (rs : List LRow) (t : Str) : Int := endAt rs (walkS z rs 0 t.cps.toList)
def spTk (K : PySem.W.Frag) : Sp := fun vs H Q E => ∃ v z rs t, vs = [v, .str t] ∧ RLk K H v z rs ∧ SignsOk z ∧ RowsOk z.length rs ∧ t.length ≤ 100000 ∧ (txB z t = true → ∀ H', Same H H' → Q (.int (endB z rs t)) H') ∧ (txB z t = false → ∀ H', Same H H' → E (.ref (He.ga K "BadSigns")) none H')
theorem walk_in {z : Str} {rs : List LRow} (ok : RowsOk z.length rs) : ∀ (l : List Nat), (∀ c ∈ l, c ∈ z.cps.toList) → ∀ p, InSt rs p → InSt rs (walkS z rs p l)
  | [], _, _, hp => hp
  | c :: l, h, p, hp => by
    have hx : z.cps.toList.idxOf c < z.cps.toList.length := List.idxOf_lt_length_of_mem (h c List.mem_cons_self)
    have e : z.cps.toList.length = z.length := Array.length_toList
    exact walk_in ok l (fun c hc => h c (List.mem_cons_of_mem _ hc)) _ (nxt_in ok hp (by omega))
theorem ok_takes (T : Tx K mg) : Dk P w K mg base 5 "takes" ["looker", "text"] (spTk K) := by
  have D_check_looker := ok_check_looker (P := P) (w := w) (base := base) T
  have D_check_text := ok_check_text (P := P) (w := w) (base := base) T
  have D_state_behind := ok_state_behind (P := P) (w := w) (base := base) T
  obtain ⟨fd, F⟩ := T.d_takes
  refine ⟨⟨fd, F.ok sc_takes (fun vs H Q E h => ?_) (fun cdv A outer s H vs Q E hr h => ?_), bd_takes F⟩, F.kp, T.g_takes⟩
  · obtain ⟨v, z, rs, t, rfl, _⟩ := h
    rfl
  · obtain ⟨v, z, rs, t, rfl, hv, hz, ok, htl, q, qe⟩ := h
    refine ⟨_, (pss_cons (ps_expr (pe_callR D_check_looker (hr.mono (by decide)) (takes_of rfl rfl rfl rfl) (pa_cons (pv 0) pa_nil)))
      (pss_cons (ps_asg (pv 0) (pg_tup (by rfl) (pgs_cons (pg_name (i := 2) sc_takes.nd rfl (.inl rfl)) (pgs_cons (pg_name (i := 3) sc_takes.nd rfl (.inl rfl)) pgs_nil))))
      (pss_cons (ps_expr (pe_callR D_check_text (hr.mono (by decide)) (takes_of rfl rfl rfl rfl) (pa_cons (pv 2) (pa_cons (pv 1) pa_nil))))
      (pss_one (ps_ret (pe_ix ix_tupQ (pe_ix ix_tupQ (pv 3) (pe_callR D_state_behind (hr.mono (by decide)) (takes_of rfl rfl rfl rfl) (pa_cons (pv 2) (pa_cons (pv 3) (pa_cons pe_int (pa_cons (pv 1) pa_nil))))) (fun _ _ => rfl)) pe_int (fun _ _ => rfl))))))), ?_⟩
    simp only [cxOf, tYes, eq_self, if_true, if_false, wipe, rLenQ, rIxTQ, rIxLQ, rIxSQ, rInt1Q, rTupQ, rAppQ, rPopQ, rPopAtQ, rRevQ, rListS, rReprP, tLenSetT, tChain, tRetN, tRet, tSeq, tAsg, gName, tVar, tC, tCons, tNil, tCB, tOp, rI0, rI, tAndV, tOrV, tNotV, tIf, tTest, tB, tNot, tAnd, tOr, tIfS, tNext, tCallR, rIsK, rEq, rNe, tDrop, L2.start, List.map_cons, List.map_nil, List.length_cons, List.length_nil, Nat.reduceAdd, Nat.reduceSub, Nat.sub_self, List.replicate_zero, List.replicate_succ, List.append_nil, List.cons_append, List.nil_append, List.getElem?_cons_zero, List.getElem?_cons_succ, List.set_cons_zero, List.set_cons_succ, Option.some.injEq, List.cons.injEq, and_true, true_and, exists_eq_left, exists_eq_left', exists_eq_right, V.ty.injEq, V.int.injEq, V.bl.injEq, V.str.injEq, V.ref.injEq, exists_and_left, exists_const, reduceIte, reduceCtorEq, false_and, and_false, exists_false, or_false, false_or, Bool.not_true, Bool.not_false, Bool.false_eq_true, String.reduceEq, true_or, or_true, rNotT, tNNew, tNNotIn, tNGet, sNPut, tLenSetN, tPar, tAug, ipI, tDNotIn, sDPut, tDGet, tTup, tLst, tBM, tBM0]
    refine ⟨v, z, rs, rfl, hv, hz, ok, ?_⟩
    obtain ⟨a, b, rfl, h1, hb⟩ := hv
    refine ⟨a, _, rfl, h1, rfl, _, _, rfl, _, _, rfl, rfl, ?_⟩
    refine ⟨.str z, rfl, .str t, rfl, z, t, rfl, htl, fun ht H1 s1 => ?_, qe⟩
    have hb2 : RRows K H1 b rs := hb.mono (TK.of_same s1)
    simp only [cxOf, tYes, eq_self, if_true, if_false, wipe, rLenQ, rIxTQ, rIxLQ, rIxSQ, rInt1Q, rTupQ, rAppQ, rPopQ, rPopAtQ, rRevQ, rListS, rReprP, tLenSetT, tChain, tRetN, tRet, tSeq, tAsg, gName, tVar, tC, tCons, tNil, tCB, tOp, rI0, rI, tAndV, tOrV, tNotV, tIf, tTest, tB, tNot, tAnd, tOr, tIfS, tNext, tCallR, rIsK, rEq, rNe, tDrop, L2.start, List.map_cons, List.map_nil, List.length_cons, List.length_nil, Nat.reduceAdd, Nat.reduceSub, Nat.sub_self, List.replicate_zero, List.replicate_succ, List.append_nil, List.cons_append, List.nil_append, List.getElem?_cons_zero, List.getElem?_cons_succ, List.set_cons_zero, List.set_cons_succ, Option.some.injEq, List.cons.injEq, and_true, true_and, exists_eq_left, exists_eq_left', exists_eq_right, V.ty.injEq, V.int.injEq, V.bl.injEq, V.str.injEq, V.ref.injEq, exists_and_left, exists_const, reduceIte, reduceCtorEq, false_and, and_false, exists_false, or_false, false_or, Bool.not_true, Bool.not_false, Bool.false_eq_true, String.reduceEq, true_or, or_true, rNotT, tNNew, tNNotIn, tNGet, sNPut, tLenSetN, tPar, tAug, ipI, tDNotIn, sDPut, tDGet, tTup, tLst, tBM, tBM0]
    refine ⟨z, b, rs, 0, t, rfl, hb2, hz, ok, in_zero ok, ht, ?_⟩
    have hin : InSt rs (walkS z rs 0 t.cps.toList) := walk_in ok _ (fun c hc => of_decide_eq_true (List.all_eq_true.mp ht c hc)) _ (in_zero ok)
    obtain ⟨vs, a1, b1, g1, g2, g3, g4⟩ := hb2.at hin
    exact ⟨vs, g1, _, g2, _, g3, _, rfl, q ht _ s1⟩
theorem sc__law_same : FnScope ["one", "other"] ["one", "other"] (defScope (topS 34)) := ⟨rfl, rfl, rfl, by decide +kernel, rfl, by decide +kernel, by decide +kernel⟩
theorem bd__law_same {K : PySem.W.Frag} {f : Addr} {fd : FuncData} (F : FnP K "_law_same" (topS 34) f fd) : Binds K fd ["one", "other"] [] := F.bindsN fun _ _ _ _ _ _ us hl => match us, hl with | [_, _], _ => rfl
def spSm : Sp := fun vs H Q _ => ∃ i : Int, vs = [.int i, .int i] ∧ i.natAbs.log2 < 1920 ∧ Q (.bl true) H
theorem ok__law_same (T : Tx K mg) : Dk P w K mg base 1 "_law_same" ["one", "other"] spSm := by
  obtain ⟨fd, F⟩ := T.d__law_same
  refine ⟨⟨fd, F.ok sc__law_same (fun vs H Q E h => ?_) (fun cdv A outer s H vs Q E hr h => ?_), bd__law_same F⟩, F.kp, T.g__law_same⟩
  · obtain ⟨i, rfl, _⟩ := h
    rfl
  · obtain ⟨i, rfl, hi, q⟩ := h
    refine ⟨_, PSs.nox (pss_one (ps_ret (pe_and (pe_cmpR op_eq (pv 0) (pv 1) (nomark _)) (pe_one (pe_cmpR op_eq (pe_callB call_reprP (by rfl) T.f_repr (by decide +kernel) (pa_cons (pv 0) pa_nil)) (pe_callB call_reprP (by rfl) T.f_repr (by decide +kernel) (pa_cons (pv 1) pa_nil)) (nomark _)))))), ?_⟩
    simp only [cxOf, tYes, eq_self, if_true, if_false, wipe, rLenQ, rIxTQ, rIxLQ, rIxSQ, rInt1Q, rTupQ, rAppQ, rPopQ, rPopAtQ, rRevQ, rListS, rReprP, tLenSetT, tChain, tRetN, tRet, tSeq, tAsg, gName, tVar, tC, tCons, tNil, tCB, tOp, rI0, rI, tAndV, tOrV, tNotV, tIf, tTest, tB, tNot, tAnd, tOr, tIfS, tNext, tCallR, rIsK, rEq, rNe, tDrop, L2.start, List.map_cons, List.map_nil, List.length_cons, List.length_nil, Nat.reduceAdd, Nat.reduceSub, Nat.sub_self, List.replicate_zero, List.replicate_succ, List.append_nil, List.cons_append, List.nil_append, List.getElem?_cons_zero, List.getElem?_cons_succ, List.set_cons_zero, List.set_cons_succ, Option.some.injEq, List.cons.injEq, and_true, true_and, exists_eq_left, exists_eq_left', exists_eq_right, V.ty.injEq, V.int.injEq, V.bl.injEq, V.str.injEq, V.ref.injEq, exists_and_left, exists_const, reduceIte, reduceCtorEq, false_and, and_false, exists_false, or_false, false_or, Bool.not_true, Bool.not_false, Bool.false_eq_true, String.reduceEq, true_or, or_true, rNotT, tNNew, tNNotIn, tNGet, sNPut, tLenSetN, tPar, tAug, ipI, tDNotIn, sDPut, tDGet, tTup, tLst, tBM, tBM0]
    exact ⟨rfl, ifT (by simp) ⟨hi, hi, rfl, q⟩⟩
theorem sc__law_walked : FnScope ["looker", "line", "p", "sign"] ["looker", "line"] (defScope (topS 38)) := ⟨rfl, rfl, rfl, by decide +kernel, rfl, by decide +kernel, by decide +kernel⟩
theorem bd__law_walked {K : PySem.W.Frag} {f : Addr} {fd : FuncData} (F : FnP K "_law_walked" (topS 38) f fd) : Binds K fd ["looker", "line"] [] := F.bindsN fun _ _ _ _ _ _ us hl => match us, hl with | [_, _], _ => rfl
def spWk (K : PySem.W.Frag) : Sp := fun vs H Q _ => ∃ v z rs t, vs = [v, .str t] ∧ RLk K H v z rs ∧ SignsOk z ∧ RowsOk z.length rs ∧ txB z t = true ∧ Q (.int (endB z rs t)) H
theorem ok__law_walked (T : Tx K mg) : Dk P w K mg base 1 "_law_walked" ["looker", "line"] (spWk K) := by
  obtain ⟨fd, F⟩ := T.d__law_walked
  refine ⟨⟨fd, F.ok sc__law_walked (fun vs H Q E h => ?_) (fun cdv A outer s H vs Q E hr h => ?_), bd__law_walked F⟩, F.kp, T.g__law_walked⟩
  · obtain ⟨v, z, rs, t, rfl, _⟩ := h
    rfl
  · obtain ⟨v, z, rs, t, rfl, ⟨a, b, rfl, g0, hb⟩, hz, hr2, ht, q⟩ := h
    refine ⟨_, PSs.nox (pss_cons (ps_set (i := 2) sc__law_walked.nd rfl (.inl rfl) pe_int)
      (pss_cons (ps_for PassesOwn.never rfl (pi_str (pv 1)) (pg_name (i := 3) sc__law_walked.nd rfl (.inl rfl)) (pss_one (ps_set (i := 2) sc__law_walked.nd rfl (.inl rfl) (pe_ix ix_tupQ (pe_ix ix_tupQ (pe_ix ix_tupQ (pe_ix ix_tupQ (pv 0) pe_int (fun _ _ => rfl)) (pv 2) (fun _ _ => rfl)) pe_int (fun _ _ => rfl)) (pe_m1 PySem.F.slot_str_find PySem.F.type_str_find mt_find (pe_ix ix_tupQ (pv 0) pe_int (fun _ _ => rfl)) (pv 3)) (fun _ _ => rfl)))))
      (pss_one (ps_ret (pe_ix ix_tupQ (pe_ix ix_tupQ (pe_ix ix_tupQ (pv 0) pe_int (fun _ _ => rfl)) (pv 2) (fun _ _ => rfl)) pe_int (fun _ _ => rfl)))))), ?_⟩
    simp only [cxOf, tYes, eq_self, if_true, if_false, wipe, rLenQ, rIxTQ, rIxLQ, rIxSQ, rInt1Q, rTupQ, rAppQ, rPopQ, rPopAtQ, rRevQ, rListS, rReprP, tLenSetT, tChain, tRetN, tRet, tSeq, tAsg, gName, tVar, tC, tCons, tNil, tCB, tOp, rI0, rI, tAndV, tOrV, tNotV, tIf, tTest, tB, tNot, tAnd, tOr, tIfS, tNext, tCallR, rIsK, rEq, rNe, tDrop, L2.start, List.map_cons, List.map_nil, List.length_cons, List.length_nil, Nat.reduceAdd, Nat.reduceSub, Nat.sub_self, List.replicate_zero, List.replicate_succ, List.append_nil, List.cons_append, List.nil_append, List.getElem?_cons_zero, List.getElem?_cons_succ, List.set_cons_zero, List.set_cons_succ, Option.some.injEq, List.cons.injEq, and_true, true_and, exists_eq_left, exists_eq_left', exists_eq_right, V.ty.injEq, V.int.injEq, V.bl.injEq, V.str.injEq, V.ref.injEq, exists_and_left, exists_const, reduceIte, reduceCtorEq, false_and, and_false, exists_false, or_false, false_or, Bool.not_true, Bool.not_false, Bool.false_eq_true, String.reduceEq, true_or, or_true, rNotT, tNNew, tNNotIn, tNGet, sNPut, tLenSetN, tPar, tAug, ipI, tDNotIn, sDPut, tDGet, tTup, tLst, tBM, tBM0]
    have hin0 := in_zero hr2
    refine ⟨.str t, rfl, t, rfl, for_gen (n := t.cps.size) (fun i σ H' => H' = H ∧ InSt rs (walkS z rs 0 (t.cps.toList.take i)) ∧ ∃ x4, σ = [some (.ref a), some (.str t), some (.int (walkS z rs 0 (t.cps.toList.take i))), x4]) ⟨rfl, hin0, _, rfl⟩ (fun i σ H' hi _ => hi) (fun σ H' _ => Nat.le_refl _) ?_ ?_⟩
    · rintro i x σ H1 H2 hi ⟨rfl, hin, x4, rfl⟩ ⟨rfl, c, hc, rfl⟩
      have hc2 : t.cps.toList[i]? = some c := by rw [Array.getElem?_toList]; exact hc
      have hcm : c ∈ z.cps.toList := of_decide_eq_true (List.all_eq_true.mp ht c (List.mem_of_getElem? hc2))
      have hx : z.cps.toList.idxOf c < z.cps.toList.length := List.idxOf_lt_length_of_mem hcm
      have hxi : z.cps.toList[z.cps.toList.idxOf c]? = some c := by
        rw [List.getElem?_eq_getElem hx]
        exact congrArg some (List.getElem_idxOf hx)
      have hxl : z.cps.toList.idxOf c < z.length := by
        have e : z.cps.toList.length = z.length := Array.length_toList
        omega
      obtain ⟨vs, a1, b1, h1, h2, h3, h4⟩ := hb.at hin
      simp only [cxOf, tYes, eq_self, if_true, if_false, wipe, rLenQ, rIxTQ, rIxLQ, rIxSQ, rInt1Q, rTupQ, rAppQ, rPopQ, rPopAtQ, rRevQ, rListS, rReprP, tLenSetT, tChain, tRetN, tRet, tSeq, tAsg, gName, tVar, tC, tCons, tNil, tCB, tOp, rI0, rI, tAndV, tOrV, tNotV, tIf, tTest, tB, tNot, tAnd, tOr, tIfS, tNext, tCallR, rIsK, rEq, rNe, tDrop, L2.start, List.map_cons, List.map_nil, List.length_cons, List.length_nil, Nat.reduceAdd, Nat.reduceSub, Nat.sub_self, List.replicate_zero, List.replicate_succ, List.append_nil, List.cons_append, List.nil_append, List.getElem?_cons_zero, List.getElem?_cons_succ, List.set_cons_zero, List.set_cons_succ, Option.some.injEq, List.cons.injEq, and_true, true_and, exists_eq_left, exists_eq_left', exists_eq_right, V.ty.injEq, V.int.injEq, V.bl.injEq, V.str.injEq, V.ref.injEq, exists_and_left, exists_const, reduceIte, reduceCtorEq, false_and, and_false, exists_false, or_false, false_or, Bool.not_true, Bool.not_false, Bool.false_eq_true, String.reduceEq, true_or, or_true, rNotT, tNNew, tNNotIn, tNGet, sNPut, tLenSetN, tPar, tAug, ipI, tDNotIn, sDPut, tDGet, tTup, tLst, tBM, tBM0]
      have step : walkS z rs 0 (t.cps.toList.take (i + 1)) = nxt rs (walkS z rs 0 (t.cps.toList.take i)) (z.cps.toList.idxOf c) := by
        unfold walkS
        rw [List.take_add_one, hc2, List.foldl_append]
        rfl
      have ef : Txt.find z ⟨#[c]⟩ = ((z.cps.toList.idxOf c : Nat) : Int) := find_sign hz.nd hxi
      refine ⟨_, g0, .ref b, rfl, vs, h1, .ref a1, h2, _, h3, .ref b1, rfl, .ref a, rfl, _, .str z, g0, rfl, ⟨z, rfl⟩, .str ⟨#[c]⟩, rfl, z, rfl, ⟨#[c]⟩, rfl, ?_⟩
      rw [ef]
      refine ⟨_, h4, _, row_at hr2 hin hxl, rfl, ?_, ?_, _, rfl⟩
      · rw [step]
        exact nxt_in hr2 hin hxl
      · rw [step]
    · rintro σ H1 ⟨rfl, hin, x4, rfl⟩
      have ee : t.cps.toList.take t.cps.size = t.cps.toList := List.take_of_length_le (by simp)
      rw [ee] at hin ⊢
      simp only [cxOf, tYes, eq_self, if_true, if_false, wipe, rLenQ, rIxTQ, rIxLQ, rIxSQ, rInt1Q, rTupQ, rAppQ, rPopQ, rPopAtQ, rRevQ, rListS, rReprP, tLenSetT, tChain, tRetN, tRet, tSeq, tAsg, gName, tVar, tC, tCons, tNil, tCB, tOp, rI0, rI, tAndV, tOrV, tNotV, tIf, tTest, tB, tNot, tAnd, tOr, tIfS, tNext, tCallR, rIsK, rEq, rNe, tDrop, L2.start, List.map_cons, List.map_nil, List.length_cons, List.length_nil, Nat.reduceAdd, Nat.reduceSub, Nat.sub_self, List.replicate_zero, List.replicate_succ, List.append_nil, List.cons_append, List.nil_append, List.getElem?_cons_zero, List.getElem?_cons_succ, List.set_cons_zero, List.set_cons_succ, Option.some.injEq, List.cons.injEq, and_true, true_and, exists_eq_left, exists_eq_left', exists_eq_right, V.ty.injEq, V.int.injEq, V.bl.injEq, V.str.injEq, V.ref.injEq, exists_and_left, exists_const, reduceIte, reduceCtorEq, false_and, and_false, exists_false, or_false, false_or, Bool.not_true, Bool.not_false, Bool.false_eq_true, String.reduceEq, true_or, or_true, rNotT, tNNew, tNNotIn, tNGet, sNPut, tLenSetN, tPar, tAug, ipI, tDNotIn, sDPut, tDGet, tTup, tLst, tBM, tBM0]
      obtain ⟨vs, a1, b1, h1, h2, h3, h4⟩ := hb.at hin
      exact ⟨_, g0, .ref b, rfl, vs, h1, .ref a1, h2, _, h3, _, rfl, q⟩
theorem sign_mem {z : Str} {x : Nat} (hx : x < z.length) : z.cps.getD x 0 ∈ z.cps.toList := by
  have e : z.cps.getD x 0 = z.cps[x] := by
    rw [Array.getD_eq_getD_getElem?, Array.getElem?_eq_getElem hx]
    rfl
  rw [e]
  exact Array.mem_toList_iff.mpr (Array.getElem_mem hx)
theorem txB_snoc {z t : Str} {c : Nat} (ht : txB z t = true) (hc : c ∈ z.cps.toList) : txB z (t ++ sgn c) = true := by
  unfold txB at ht ⊢
  rw [snoc_cps, List.all_append, ht]
  simpa using hc
theorem sc__law_line : FnScope ["pool", "signs", "most", "line", "k"] ["pool", "signs", "most"] (defScope (topS 36)) := ⟨rfl, rfl, rfl, by decide +kernel, rfl, by decide +kernel, by decide +kernel⟩
theorem bd__law_line {K : PySem.W.Frag} {f : Addr} {fd : FuncData} (F : FnP K "_law_line" (topS 36) f fd) : Binds K fd ["pool", "signs", "most"] [] := F.bindsN fun _ _ _ _ _ _ us hl => match us, hl with | [_, _, _], _ => rfl
def spLn : Sp := fun vs H Q _ => ∃ l z m, vs = [.ref l, .str z, .int m] ∧ PoolL H l ∧ SignsOk z ∧ 0 ≤ m ∧ m ≤ 1000 ∧ ∀ (t : Str) H', txB z t = true → (t.length : Int) ≤ m → But l H H' → PoolL H' l → Q (.str t) H'
def LnI (H : Hp) (l : Addr) (z : Str) (m : Int) (k : Nat) (σ : L2.St) (H' : Hp) : Prop :=
  ∃ (t : Str) (x4 : Option V), σ = [some (.ref l), some (.str z), some (.int m), some (.str t), x4] ∧ But l H H' ∧ PoolL H' l ∧ t.length = k ∧ txB z t = true
theorem ok__law_line (T : Tx K mg) : Dk P w K mg base 2 "_law_line" ["pool", "signs", "most"] spLn := by
  have D__law_draw := ok__law_draw (P := P) (w := w) (base := base) T
  obtain ⟨fd, F⟩ := T.d__law_line
  refine ⟨⟨fd, F.ok sc__law_line (fun vs H Q E h => ?_) (fun cdv A outer s H vs Q E hr h => ?_), bd__law_line F⟩, F.kp, T.g__law_line⟩
  · obtain ⟨l, z, m, rfl, _⟩ := h
    rfl
  · obtain ⟨l, z, m, rfl, hp, hz, h0, h1, q⟩ := h
    refine ⟨_, PSs.nox (pss_cons (ps_set (i := 3) sc__law_line.nd rfl (.inl rfl) pe_str)
      (pss_cons (ps_for PassesOwn.never rfl (pi_range1 (by rfl) T.f_range (pa_cons (pe_callR D__law_draw (hr.mono (by decide)) takes0 (pa_cons (pv 0) (pa_cons (pe_op op_add (pv 2) pe_int) pa_nil))) pa_nil)) (pg_name (i := 4) sc__law_line.nd rfl (.inl rfl)) (pss_one (ps_set (i := 3) sc__law_line.nd rfl (.inl rfl) (pe_op op_add_str (pv 3) (pe_ix ix_strQ (pv 1) (pe_callR D__law_draw (hr.mono (by decide)) takes0 (pa_cons (pv 0) (pa_cons (pe_callB call_lenQ (by rfl) T.f_len PySem.boot_len (pa_cons (pv 1) pa_nil)) pa_nil))) (fun _ _ => rfl))))))
      (pss_one (ps_ret (pv 3))))), ?_⟩
    simp only [cxOf, tYes, eq_self, if_true, if_false, wipe, rLenQ, rIxTQ, rIxLQ, rIxSQ, rInt1Q, rTupQ, rAppQ, rPopQ, rPopAtQ, rRevQ, rListS, rReprP, tLenSetT, tChain, tRetN, tRet, tSeq, tAsg, gName, tVar, tC, tCons, tNil, tCB, tOp, rI0, rI, tAndV, tOrV, tNotV, tIf, tTest, tB, tNot, tAnd, tOr, tIfS, tNext, tCallR, rIsK, rEq, rNe, tDrop, L2.start, List.map_cons, List.map_nil, List.length_cons, List.length_nil, Nat.reduceAdd, Nat.reduceSub, Nat.sub_self, List.replicate_zero, List.replicate_succ, List.append_nil, List.cons_append, List.nil_append, List.getElem?_cons_zero, List.getElem?_cons_succ, List.set_cons_zero, List.set_cons_succ, Option.some.injEq, List.cons.injEq, and_true, true_and, exists_eq_left, exists_eq_left', exists_eq_right, V.ty.injEq, V.int.injEq, V.bl.injEq, V.str.injEq, V.ref.injEq, exists_and_left, exists_const, reduceIte, reduceCtorEq, false_and, and_false, exists_false, or_false, false_or, Bool.not_true, Bool.not_false, Bool.false_eq_true, String.reduceEq, true_or, or_true, rNotT, tNNew, tNNotIn, tNGet, sNPut, tLenSetN, tPar, tAug, ipI, tDNotIn, sDPut, tDGet, tTup, tLst, tBM, tBM0]
    refine ⟨.ref l, rfl, .int m, rfl, m, 1, rfl, rfl, l, m + 1, rfl, hp, by omega, fun d H1 hd0 hd1 b1 p1 => ⟨d, rfl, by omega, by omega, ?_⟩⟩
    refine for_range (LnI H l z m) ⟨Str.ofString "", none, rfl, b1, p1, by decide, rfl⟩ ?_ ?_
    · rintro k σ H2 hk ⟨t, x4, rfl, b2, p2, ht, htx⟩
      simp only [cxOf, tYes, eq_self, if_true, if_false, wipe, rLenQ, rIxTQ, rIxLQ, rIxSQ, rInt1Q, rTupQ, rAppQ, rPopQ, rPopAtQ, rRevQ, rListS, rReprP, tLenSetT, tChain, tRetN, tRet, tSeq, tAsg, gName, tVar, tC, tCons, tNil, tCB, tOp, rI0, rI, tAndV, tOrV, tNotV, tIf, tTest, tB, tNot, tAnd, tOr, tIfS, tNext, tCallR, rIsK, rEq, rNe, tDrop, L2.start, List.map_cons, List.map_nil, List.length_cons, List.length_nil, Nat.reduceAdd, Nat.reduceSub, Nat.sub_self, List.replicate_zero, List.replicate_succ, List.append_nil, List.cons_append, List.nil_append, List.getElem?_cons_zero, List.getElem?_cons_succ, List.set_cons_zero, List.set_cons_succ, Option.some.injEq, List.cons.injEq, and_true, true_and, exists_eq_left, exists_eq_left', exists_eq_right, V.ty.injEq, V.int.injEq, V.bl.injEq, V.str.injEq, V.ref.injEq, exists_and_left, exists_const, reduceIte, reduceCtorEq, false_and, and_false, exists_false, or_false, false_or, Bool.not_true, Bool.not_false, Bool.false_eq_true, String.reduceEq, true_or, or_true, rNotT, tNNew, tNNotIn, tNGet, sNPut, tLenSetN, tPar, tAug, ipI, tDNotIn, sDPut, tDGet, tTup, tLst, tBM, tBM0]
      have hz5 := hz.top
      have hz1 := hz.pos
      refine ⟨szle (m := 5) hz5, l, _, rfl, p2, by omega, fun x H3 hx0 hx1 b3 p3 => ?_⟩
      have hx : x.toNat < z.length := by omega
      have ha := at_sign hx
      rw [show ((x.toNat : Nat) : Int) = x by omega] at ha
      refine ⟨szle (m := 5) hz5, _, ha, ?_, t ++ sgn (z.cps.getD x.toNat 0), _, rfl, b2.trans b3, p3, ?_, ?_⟩
      · rw [show (sgn (z.cps.getD x.toNat 0)).length = 1 from rfl]
        exact szle (m := 2000) (by omega)
      · rw [snoc_len, ht]
      · exact txB_snoc htx (sign_mem hx)
    · rintro σ H2 ⟨t, x4, rfl, b2, p2, ht, htx⟩
      exact ⟨_, rfl, q t H2 htx (by omega) b2 p2⟩
theorem sc__law_lines : FnScope ["signs", "most", "lines", "last", "k", "new", "line", "sign"] ["signs", "most"] (defScope (topS 35)) := ⟨rfl, rfl, rfl, by decide +kernel, rfl, by decide +kernel, by decide +kernel⟩
theorem bd__law_lines {K : PySem.W.Frag} {f : Addr} {fd : FuncData} (F : FnP K "_law_lines" (topS 35) f fd) : Binds K fd ["signs", "most"] [] := F.bindsN fun _ _ _ _ _ _ us hl => match us, hl with | [_, _], _ => rfl
def lvl (z : Str) : Nat → List Str
  | 0 => [Str.ofString ""]
  | k + 1 => (lvl z k).flatMap fun t => z.cps.toList.map fun c => t ++ sgn c
def lns (z : Str) : Nat → List Str
  | 0 => [Str.ofString ""]
  | k + 1 => lns z k ++ lvl z (k + 1)
theorem lvl_len (z : Str) : ∀ k, (lvl z k).length = z.length ^ k
  | 0 => rfl
  | k + 1 => by
    show ((lvl z k).flatMap _).length = _
    rw [List.length_flatMap]
    have e : (lvl z k).map (fun t => (z.cps.toList.map fun c => t ++ sgn c).length) = (lvl z k).map fun _ => z.length := by
      apply List.map_congr_left
      intro t _
      rw [List.length_map]
      exact Array.length_toList
    rw [e, List.map_const', List.sum_replicate_nat, lvl_len z k, Nat.pow_succ]
theorem lvl_of {z : Str} : ∀ {k : Nat} {t : Str}, t ∈ lvl z k → txB z t = true ∧ t.length = k
  | 0, t, h => by
    obtain rfl := List.mem_singleton.mp h
    exact ⟨rfl, by decide⟩
  | k + 1, t, h => by
    obtain ⟨u, hu, ht⟩ := List.mem_flatMap.mp h
    obtain ⟨c, hc, rfl⟩ := List.mem_map.mp ht
    have := lvl_of hu
    exact ⟨txB_snoc this.1 hc, by rw [snoc_len, this.2]⟩
theorem li_put (pre : List Str) (mid : List Nat) (t : Str) (c : Nat) : (List.map V.str (pre ++ mid.map fun c => t ++ sgn c)) ++ [V.str (t ++ sgn c)] = List.map V.str (pre ++ (mid ++ [c]).map fun c => t ++ sgn c) := by
  rw [List.map_append, List.map_append, List.map_append, List.map_append, List.append_assoc]
  rfl
def spLi : Sp := fun vs H Q _ => ∃ z, vs = [.str z, .int 2] ∧ SignsOk z ∧ ∀ a H', Same H H' → H' a = some (.lst ((lns z 2).map V.str)) → Q (.ref a) H'
def LiO (H : Hp) (z : Str) (k : Nat) (σ : L2.St) (H' : Hp) : Prop :=
  ∃ (a b : Addr) (x4 x5 x6 x7 : Option V), Same H H' ∧ H' a = some (.lst ((lns z k).map V.str)) ∧ H' b = some (.lst ((lvl z k).map V.str)) ∧ σ = [some (.str z), some (.int 2), some (.ref a), some (.ref b), x4, x5, x6, x7]
def LiM (H : Hp) (z : Str) (a b c : Addr) (x4 : Option V) (l : List Str) (i : Nat) (σ : L2.St) (H' : Hp) : Prop :=
  ∃ (x6 x7 : Option V), Same H H' ∧ H' c = some (.lst (((l.take i).flatMap fun t => z.cps.toList.map fun c => t ++ sgn c).map V.str)) ∧ σ = [some (.str z), some (.int 2), some (.ref a), some (.ref b), x4, some (.ref c), x6, x7]
def LiI (H : Hp) (z : Str) (a b c : Addr) (x4 : Option V) (pre : List Str) (t : Str) (j : Nat) (σ : L2.St) (H' : Hp) : Prop :=
  ∃ (x7 : Option V), Same H H' ∧ H' c = some (.lst ((pre ++ (z.cps.toList.take j).map fun c => t ++ sgn c).map V.str)) ∧ σ = [some (.str z), some (.int 2), some (.ref a), some (.ref b), x4, some (.ref c), some (.str t), x7]
theorem ok__law_lines (T : Tx K mg) : Dk P w K mg base 1 "_law_lines" ["signs", "most"] spLi := by
  obtain ⟨fd, F⟩ := T.d__law_lines
  refine ⟨⟨fd, F.ok sc__law_lines (fun vs H Q E h => ?_) (fun cdv A outer s H vs Q E hr h => ?_), bd__law_lines F⟩, F.kp, T.g__law_lines⟩
  · obtain ⟨z, rfl, _⟩ := h
    rfl
  · obtain ⟨z, rfl, hz, q⟩ := h
    refine ⟨_, PSs.nox (pss_cons (ps_set (i := 2) sc__law_lines.nd rfl (.inl rfl) (pe_lst (pa_cons pe_str pa_nil)))
      (pss_cons (ps_set (i := 3) sc__law_lines.nd rfl (.inl rfl) (pe_lst (pa_cons pe_str pa_nil)))
      (pss_cons (ps_for PassesOwn.never rfl (pi_range1 (by rfl) T.f_range (pa_cons (pv 1) pa_nil)) (pg_name (i := 4) sc__law_lines.nd rfl (.inl rfl)) (pss_cons (ps_set (i := 5) sc__law_lines.nd rfl (.inl rfl) (pe_lst pa_nil))
      (pss_cons (ps_for PassesOwn.never rfl (pi_list (pv 3)) (pg_name (i := 6) sc__law_lines.nd rfl (.inl rfl)) (pss_one (ps_for PassesOwn.never rfl (pi_str (pv 0)) (pg_name (i := 7) sc__law_lines.nd rfl (.inl rfl)) (pss_one (ps_expr (pe_bm PySem.F.plainAttrs_list PySem.F.slot_list_append PySem.F.type_list_append mt_appQ (pv 5) (pa_cons (pe_op op_add_str (pv 6) (pv 7)) pa_nil)))))))
      (pss_cons (ps_set (i := 3) sc__law_lines.nd rfl (.inl rfl) (pv 5))
      (pss_one (ps_set (i := 2) sc__law_lines.nd rfl (.inl rfl) (pe_op op_cat (pv 2) (pv 3))))))))
      (pss_one (ps_ret (pv 2)))))), ?_⟩
    simp only [cxOf, tYes, eq_self, if_true, if_false, wipe, rLenQ, rIxTQ, rIxLQ, rIxSQ, rInt1Q, rTupQ, rAppQ, rPopQ, rPopAtQ, rRevQ, rListS, rReprP, tLenSetT, tChain, tRetN, tRet, tSeq, tAsg, gName, tVar, tC, tCons, tNil, tCB, tOp, rI0, rI, tAndV, tOrV, tNotV, tIf, tTest, tB, tNot, tAnd, tOr, tIfS, tNext, tCallR, rIsK, rEq, rNe, tDrop, L2.start, List.map_cons, List.map_nil, List.length_cons, List.length_nil, Nat.reduceAdd, Nat.reduceSub, Nat.sub_self, List.replicate_zero, List.replicate_succ, List.append_nil, List.cons_append, List.nil_append, List.getElem?_cons_zero, List.getElem?_cons_succ, List.set_cons_zero, List.set_cons_succ, Option.some.injEq, List.cons.injEq, and_true, true_and, exists_eq_left, exists_eq_left', exists_eq_right, V.ty.injEq, V.int.injEq, V.bl.injEq, V.str.injEq, V.ref.injEq, exists_and_left, exists_const, reduceIte, reduceCtorEq, false_and, and_false, exists_false, or_false, false_or, Bool.not_true, Bool.not_false, Bool.false_eq_true, String.reduceEq, true_or, or_true, rNotT, tNNew, tNNotIn, tNGet, sNPut, tLenSetN, tPar, tAug, ipI, tDNotIn, sDPut, tDGet, tTup, tLst, tBM, tBM0]
    refine ⟨szle (m := 1) (Nat.le_refl _), fun a ha => ⟨szle (m := 1) (Nat.le_refl _), fun b hb => ?_⟩⟩
    have hz5 := hz.top
    have few : ∀ k, k ≤ 2 → (lvl z k).length ≤ 25 := fun k hk => by
      rw [lvl_len]
      exact Nat.le_trans (Nat.pow_le_pow_left hz5 k) (Nat.le_trans (Nat.pow_le_pow_right (by decide) hk) (by decide))
    refine ⟨.int 2, rfl, 2, rfl, by decide, by decide, ?_⟩
    have e2 : (2 : Int).toNat = 2 := rfl
    rw [e2]
    refine for_range (LiO H z) ⟨a, b, none, none, none, none, Same.trans (same_upd ha) (same_upd hb), same_upd hb _ _ upd_same, upd_same, rfl⟩ ?_ ?_
    · rintro k σ H1 hk ⟨a, b, x4, x5, x6, x7, s1, ha1, hb1, rfl⟩
      simp only [cxOf, tYes, eq_self, if_true, if_false, wipe, rLenQ, rIxTQ, rIxLQ, rIxSQ, rInt1Q, rTupQ, rAppQ, rPopQ, rPopAtQ, rRevQ, rListS, rReprP, tLenSetT, tChain, tRetN, tRet, tSeq, tAsg, gName, tVar, tC, tCons, tNil, tCB, tOp, rI0, rI, tAndV, tOrV, tNotV, tIf, tTest, tB, tNot, tAnd, tOr, tIfS, tNext, tCallR, rIsK, rEq, rNe, tDrop, L2.start, List.map_cons, List.map_nil, List.length_cons, List.length_nil, Nat.reduceAdd, Nat.reduceSub, Nat.sub_self, List.replicate_zero, List.replicate_succ, List.append_nil, List.cons_append, List.nil_append, List.getElem?_cons_zero, List.getElem?_cons_succ, List.set_cons_zero, List.set_cons_succ, Option.some.injEq, List.cons.injEq, and_true, true_and, exists_eq_left, exists_eq_left', exists_eq_right, V.ty.injEq, V.int.injEq, V.bl.injEq, V.str.injEq, V.ref.injEq, exists_and_left, exists_const, reduceIte, reduceCtorEq, false_and, and_false, exists_false, or_false, false_or, Bool.not_true, Bool.not_false, Bool.false_eq_true, String.reduceEq, true_or, or_true, rNotT, tNNew, tNNotIn, tNGet, sNPut, tLenSetN, tPar, tAug, ipI, tDNotIn, sDPut, tDGet, tTup, tLst, tBM, tBM0]
      refine ⟨Nat.zero_le _, fun p hp => ?_⟩
      have fk := few k (by omega)
      have fk1 := few (k + 1) (by omega)
      have s2 : Same H1 (upd H1 p (.lst [])) := same_upd hp
      have lin : lns z k = lns z k := rfl
      refine ⟨.ref b, rfl, b, rfl, ⟨_, .inl (.inl (s2 _ _ hb1))⟩, ?_⟩
      refine for_gen (n := (lvl z k).length) (LiM H1 z a b p (some (.int (0 + (k : Int)))) (lvl z k)) ⟨_, _, s2, upd_same, rfl⟩ ?_ ?_ ?_ ?_
      · rintro i σ H2 hi ⟨w6, w7, s3, hc, rfl⟩
        exact ⟨_, .str (lvl z k)[i], .inl (.inl (s3 _ _ hb1)), by rw [List.getElem?_map, List.getElem?_eq_getElem hi]; rfl⟩
      · rintro σ H2 ⟨w6, w7, s3, hc, rfl⟩
        exact ⟨_, .inl (.inl (s3 _ _ hb1)), by rw [List.length_map]; exact Nat.le_refl _⟩
      · rintro i x σ H2 H3 hi ⟨w6, w7, s3, hc, rfl⟩ ⟨rfl, hx⟩
        have hx2 := hx _ (.inl (.inl (s3 _ _ hb1)))
        obtain ⟨t, ht, rfl⟩ : ∃ t, (lvl z k)[i]? = some t ∧ x = .str t := by
          refine ⟨(lvl z k)[i], List.getElem?_eq_getElem hi, ?_⟩
          rw [List.getElem?_map, List.getElem?_eq_getElem hi] at hx2
          exact (Option.some.inj hx2).symm
        have htl := (lvl_of (List.mem_of_getElem? ht)).2
        refine ⟨.str z, rfl, z, rfl, ?_⟩
        refine for_gen (n := z.cps.size) (LiI H1 z a b p (some (.int (0 + (k : Int)))) (((lvl z k).take i).flatMap fun t => z.cps.toList.map fun c => t ++ sgn c) t) ⟨_, s3, by simpa using hc, rfl⟩ (fun j σ H' hj _ => hj) (fun σ H' _ => Nat.le_refl _) ?_ ?_
        · rintro j y σ H4 H5 hj ⟨v7, s4, hc4, rfl⟩ ⟨rfl, c, hcj, rfl⟩
          have hc2 : z.cps.toList[j]? = some c := by rw [Array.getElem?_toList]; exact hcj
          simp only [cxOf, tYes, eq_self, if_true, if_false, wipe, rLenQ, rIxTQ, rIxLQ, rIxSQ, rInt1Q, rTupQ, rAppQ, rPopQ, rPopAtQ, rRevQ, rListS, rReprP, tLenSetT, tChain, tRetN, tRet, tSeq, tAsg, gName, tVar, tC, tCons, tNil, tCB, tOp, rI0, rI, tAndV, tOrV, tNotV, tIf, tTest, tB, tNot, tAnd, tOr, tIfS, tNext, tCallR, rIsK, rEq, rNe, tDrop, L2.start, List.map_cons, List.map_nil, List.length_cons, List.length_nil, Nat.reduceAdd, Nat.reduceSub, Nat.sub_self, List.replicate_zero, List.replicate_succ, List.append_nil, List.cons_append, List.nil_append, List.getElem?_cons_zero, List.getElem?_cons_succ, List.set_cons_zero, List.set_cons_succ, Option.some.injEq, List.cons.injEq, and_true, true_and, exists_eq_left, exists_eq_left', exists_eq_right, V.ty.injEq, V.int.injEq, V.bl.injEq, V.str.injEq, V.ref.injEq, exists_and_left, exists_const, reduceIte, reduceCtorEq, false_and, and_false, exists_false, or_false, false_or, Bool.not_true, Bool.not_false, Bool.false_eq_true, String.reduceEq, true_or, or_true, rNotT, tNNew, tNNotIn, tNGet, sNPut, tLenSetN, tPar, tAug, ipI, tDNotIn, sDPut, tDGet, tTup, tLst, tBM, tBM0]
          refine ⟨lst_ty hc4, ?_, _, hc4, ?_, _, ?_, ?_, rfl⟩
          · rw [htl]
            exact szle (m := 10) (by show k + 1 ≤ 10; omega)
          · have h1 : (((lvl z k).take i).flatMap (fun t => z.cps.toList.map fun c => t ++ sgn c)).length = i * z.length := by
              rw [List.length_flatMap]
              have e : ((lvl z k).take i).map (fun t => (z.cps.toList.map fun c => t ++ sgn c).length) = ((lvl z k).take i).map fun _ => z.length := by
                apply List.map_congr_left
                intro t _
                rw [List.length_map]
                exact Array.length_toList
              rw [e, List.map_const', List.sum_replicate_nat, List.length_take, Nat.min_eq_left (by omega)]
            have h2 : i * z.length ≤ 25 * 5 := Nat.mul_le_mul (by omega) hz5
            have h3 : z.cps.size ≤ 5 := hz5
            rw [List.length_map, List.length_append, h1, List.length_map, List.length_take]
            exact szlt (m := 1000) (by omega)
          · exact fun b o hb => by rw [upd_ne (ne_of_none hb hp)]; exact s4 b o hb
          · rw [upd_same, List.take_add_one, hc2]
            exact congrArg (fun l => some (HO.lst l)) (li_put _ _ t c)
        · rintro σ H4 ⟨v7, s4, hc4, rfl⟩
          refine ⟨_, _, s4, ?_, rfl⟩
          have ez : z.cps.toList.take z.cps.size = z.cps.toList := List.take_of_length_le (by simp)
          rw [hc4, ez, List.take_add_one, ht]
          simp
      · rintro σ H2 ⟨w6, w7, s3, hc, rfl⟩
        have hc' : H2 p = some (.lst ((lvl z (k + 1)).map V.str)) := by
          rw [hc, List.take_length]
          rfl
        refine ⟨.ref p, rfl, .ref a, rfl, .ref p, rfl, a, p, _, _, rfl, rfl, s3 _ _ ha1, hc', ?_, fun p2 hp2 => ⟨p2, p, _, _, _, _, Same.trans s1 (Same.trans s3 (same_upd hp2)), ?_, same_upd hp2 _ _ hc', rfl⟩⟩
        · have hln : (lns z k).length ≤ 26 := by
            have h0 := few 0 (by omega)
            have h1 := few 1 (by omega)
            match k, hk with
            | 0, _ => exact Nat.le_trans (Nat.le_refl 1) (by decide)
            | 1, _ =>
              show (lns z 0 ++ lvl z 1).length ≤ 26
              rw [List.length_append]
              exact Nat.le_trans (Nat.add_le_add (Nat.le_refl 1) h1) (by decide)
          rw [List.length_map, List.length_map]
          exact szle (m := 100) (by omega)
        · rw [upd_same, ← List.map_append]
          rfl
    · rintro σ H1 ⟨a, b, x4, x5, x6, x7, s1, ha1, hb1, rfl⟩
      exact ⟨_, rfl, q _ _ s1 ha1⟩
end
end K37

namespace K37
open PySem PySem.Spec PyProof.Rows L2 Sg
section
variable {P : Program} {w : World} {K : PySem.W.Frag} {mg : Str → Option Value} {base : Heap}
theorem sc__law_counted : FnScope ["states", "many", "p", "there", "k", "new", "q"] ["states", "many"] (defScope (topS 37)) := ⟨rfl, rfl, rfl, by decide +kernel, rfl, by decide +kernel, by decide +kernel⟩
theorem bd__law_counted {K : PySem.W.Frag} {f : Addr} {fd : FuncData} (F : FnP K "_law_counted" (topS 37) f fd) : Binds K fd ["states", "many"] [] := F.bindsN fun _ _ _ _ _ _ us hl => match us, hl with | [_, _], _ => rfl
def spCd (K : PySem.W.Frag) : Sp := fun vs H Q _ => ∃ rr us rs n, ∃ m : Nat, vs = [.ref rr, .int (m : Int)] ∧ H rr = some (.lst us) ∧ Paired (RSt K H) us rs ∧ RowsOk n rs ∧ n ≤ 1000 ∧ m ≤ 1000 ∧ ∀ H', Same H H' → Q (.int (cntAt n rs m 0)) H'
def zer (i : Nat) : List Int := List.replicate i 0
theorem zer_len (i : Nat) : (zer i).length = i := List.length_replicate
theorem zer_succ (i : Nat) : zer (i + 1) = zer i ++ [0] := List.replicate_succ'
theorem one0_succ (i : Nat) : one0 (i + 1) = one0 i ++ [if i = 0 then 1 else 0] := by
  unfold one0
  rw [List.range_succ, List.map_append]
  rfl
theorem endAt_bit {n : Nat} {rs : List LRow} (ok : RowsOk n rs) {p : Int} (hp : InSt rs p) : endAt rs p = 0 ∨ endAt rs p = 1 := ok.bit _ (rowOf_mem hp)
def CdI (H : Hp) (rr : Addr) (m n : Nat) (rs : List LRow) (k : Nat) (σ : L2.St) (H' : Hp) : Prop :=
  ∃ (a : Addr) (U : List Int) (x2 x4 x5 x6 : Option V), Same H H' ∧ H' a = some (.lst (U.map V.int)) ∧ U.length = rs.length ∧ dot (cntAt n rs (m - k)) 0 U = cntAt n rs m 0 ∧ σ = [some (.ref rr), some (.int (m : Int)), x2, some (.ref a), x4, x5, x6]
def CdM (H : Hp) (D rr a : Addr) (m n : Nat) (rs : List LRow) (U : List Int) (x4 : Option V) (j : Nat) (p : Nat) (σ : L2.St) (H' : Hp) : Prop :=
  ∃ (W : List Int) (x2 x6 : Option V), Same H H' ∧ H' D = some (.lst (W.map V.int)) ∧ W.length = rs.length ∧ dot (cntAt n rs j) 0 W = dot (fun x => ((rowOf rs x).2.map (cntAt n rs j)).sum) 0 (U.take p) ∧ σ = [some (.ref rr), some (.int (m : Int)), x2, some (.ref a), x4, some (.ref D), x6]
def CdJ (H : Hp) (D rr a : Addr) (m n : Nat) (rs : List LRow) (U : List Int) (x4 : Option V) (j : Nat) (p : Nat) (row : List Int) (i : Nat) (σ : L2.St) (H' : Hp) : Prop :=
  ∃ (W : List Int) (x6 : Option V), Same H H' ∧ H' D = some (.lst (W.map V.int)) ∧ W.length = rs.length ∧ dot (cntAt n rs j) 0 W = dot (fun x => ((rowOf rs x).2.map (cntAt n rs j)).sum) 0 (U.take p) + mk U p * ((row.take i).map (cntAt n rs j)).sum ∧ σ = [some (.ref rr), some (.int (m : Int)), some (.int (p : Int)), some (.ref a), x4, some (.ref D), x6]
theorem ok__law_counted (T : Tx K mg) : Dk P w K mg base 1 "_law_counted" ["states", "many"] (spCd K) := by
  obtain ⟨fd, F⟩ := T.d__law_counted
  refine ⟨⟨fd, F.ok sc__law_counted (fun vs H Q E h => ?_) (fun cdv A outer s H vs Q E hr h => ?_), bd__law_counted F⟩, F.kp, T.g__law_counted⟩
  · obtain ⟨rr, us, rs, n, m, rfl, _⟩ := h
    rfl
  · obtain ⟨rr, us, rs, n, m, rfl, hrr, hpr, ok, hn, hm, q⟩ := h
    refine ⟨_, PSs.nox (pss_cons (ps_set (i := 3) sc__law_counted.nd rfl (.inr rfl) (pe_lc (own := [("p", 2)]) rfl sc__law_counted.nd (pi_range1 (by rfl) T.f_range (pa_cons (pe_callB call_lenQ (by rfl) T.f_len PySem.boot_len (pa_cons (pv 0) pa_nil)) pa_nil)) (blkOk_by (own := [("p", 2)]) (N := ["states", "many", "p", "there", "k", "new", "q"]) (sc := defScope (topS 37)) (by decide +kernel)) (fun _ _ _ _ _ => (pg_name (i := 2) sc__law_counted.nd rfl (.inl rfl))) (fun _ _ _ _ _ => pts_nil) (fun _ _ _ _ _ => (pe_callTy call_int1Q (by rfl) T.f_int PyProof.Rows.boot_int (pa_cons (pe_cmpR op_eq (pv 2) pe_int (nomark _)) pa_nil)))))
      (pss_cons (ps_for PassesOwn.never rfl (pi_range1 (by rfl) T.f_range (pa_cons (pv 1) pa_nil)) (pg_name (i := 4) sc__law_counted.nd rfl (.inl rfl)) (pss_cons (ps_setLc (i := 5) (own := [("p", 2)]) rfl sc__law_counted.nd rfl rfl (sw_true rfl rfl rfl (by decide +kernel)) (pi_list (pv 0)) (blkOk_by (own := [("p", 2)]) (N := ["states", "many", "p", "there", "k", "new", "q"]) (sc := defScope (topS 37)) (by decide +kernel)) (fun _ _ _ _ _ => (pg_name (i := 2) sc__law_counted.nd rfl (.inl rfl))) (fun _ _ _ _ _ => pts_nil) (fun _ _ _ _ _ => pe_int))
      (pss_cons (ps_for PassesOwn.never rfl (pi_range1 (by rfl) T.f_range (pa_cons (pe_callB call_lenQ (by rfl) T.f_len PySem.boot_len (pa_cons (pv 0) pa_nil)) pa_nil)) (pg_name (i := 2) sc__law_counted.nd rfl (.inl rfl)) (pss_one (ps_for PassesOwn.never rfl (pi_tup (pe_ix ix_tupQ (pe_ix ix_listQ (pv 0) (pv 2) (fun _ _ => rfl)) pe_int (fun _ _ => rfl))) (pg_name (i := 6) sc__law_counted.nd rfl (.inl rfl)) (pss_one (ps_asg (pe_op op_add (pe_ix ix_listQ (pv 5) (pv 6) (fun _ _ => rfl)) (pe_ix ix_listQ (pv 3) (pv 2) (fun _ _ => rfl))) (pg_sub (pv 5) (pv 6) set_list))))))
      (pss_one (ps_set (i := 3) sc__law_counted.nd rfl (.inr rfl) (pv 5))))))
      (pss_one (ps_ret (pe_callB (show CallR _ (.builtin "sum") (rSum K) by exact cr_sum rfl) (by rfl) T.f_sum (by decide +kernel) (pa_cons (pe_lc (own := [("p", 2)]) rfl sc__law_counted.nd (pi_range1 (by rfl) T.f_range (pa_cons (pe_callB call_lenQ (by rfl) T.f_len PySem.boot_len (pa_cons (pv 0) pa_nil)) pa_nil)) (blkOk_by (own := [("p", 2)]) (N := ["states", "many", "p", "there", "k", "new", "q"]) (sc := defScope (topS 37)) (by decide +kernel)) (fun _ _ _ _ _ => (pg_name (i := 2) sc__law_counted.nd rfl (.inl rfl))) (fun _ _ _ _ _ => (pts_one (pt_cmpR op_eq (pe_ix (show IxR _ (rIxTQ K) by exact ix_tupQ) (pe_ix (show IxR _ (rIxLQ K) by exact ix_listQ) (pv 0) (pv 2) (fun _ _ => rfl)) pe_int (fun _ _ => rfl)) pe_int (nomark _)))) (fun _ _ _ _ _ => (pe_ix (show IxR _ (rIxLQ K) by exact ix_listQ) (pv 3) (pv 2) (fun _ _ => rfl)))) pa_nil)))))), ?_⟩
    simp only [cxOf, tYes, eq_self, if_true, if_false, wipe, rLenQ, rIxTQ, rIxLQ, rIxSQ, rInt1Q, rTupQ, rAppQ, rPopQ, rPopAtQ, rRevQ, rListS, rReprP, tLenSetT, tChain, tRetN, tRet, tSeq, tAsg, gName, tVar, tC, tCons, tNil, tCB, tOp, rI0, rI, tAndV, tOrV, tNotV, tIf, tTest, tB, tNot, tAnd, tOr, tIfS, tNext, tCallR, rIsK, rEq, rNe, tDrop, L2.start, List.map_cons, List.map_nil, List.length_cons, List.length_nil, Nat.reduceAdd, Nat.reduceSub, Nat.sub_self, List.replicate_zero, List.replicate_succ, List.append_nil, List.cons_append, List.nil_append, List.getElem?_cons_zero, List.getElem?_cons_succ, List.set_cons_zero, List.set_cons_succ, Option.some.injEq, List.cons.injEq, and_true, true_and, exists_eq_left, exists_eq_left', exists_eq_right, V.ty.injEq, V.int.injEq, V.bl.injEq, V.str.injEq, V.ref.injEq, exists_and_left, exists_const, reduceIte, reduceCtorEq, false_and, and_false, exists_false, or_false, false_or, Bool.not_true, Bool.not_false, Bool.false_eq_true, String.reduceEq, true_or, or_true, rNotT, tNNew, tNNotIn, tNGet, sNPut, tLenSetN, tPar, tAug, ipI, tDNotIn, sDPut, tDGet, tTup, tLst, tBM, tBM0]
    have el : us.length = rs.length := pr_len hpr
    have h600 := ok.top
    have hpos := ok.pos
    refine ⟨.ref rr, rfl, us, .inl (.inl (.inl hrr)), (us.length : Int), rfl, by omega, by omega, fun D hD => ?_⟩
    rw [Int.toNat_natCast]
    refine lc_gen (n := us.length) (fun i H' => Same H H' ∧ H' D = some (.lst ((one0 i).map V.int))) ⟨same_upd hD, upd_same⟩ (fun i H' hi _ => hi) (fun H' _ => Nat.le_refl _) ?_ ?_
    · rintro i x H1 H2 hi ⟨s1, h1⟩ ⟨rfl, rfl⟩
      rw [show (0 : Int) + (i : Int) = (i : Int) by omega]
      refine ⟨rfl, ?_⟩
      simp only [cxOf, tYes, eq_self, if_true, if_false, wipe, rLenQ, rIxTQ, rIxLQ, rIxSQ, rInt1Q, rTupQ, rAppQ, rPopQ, rPopAtQ, rRevQ, rListS, rReprP, tLenSetT, tChain, tRetN, tRet, tSeq, tAsg, gName, tVar, tC, tCons, tNil, tCB, tOp, rI0, rI, tAndV, tOrV, tNotV, tIf, tTest, tB, tNot, tAnd, tOr, tIfS, tNext, tCallR, rIsK, rEq, rNe, tDrop, L2.start, List.map_cons, List.map_nil, List.length_cons, List.length_nil, Nat.reduceAdd, Nat.reduceSub, Nat.sub_self, List.replicate_zero, List.replicate_succ, List.append_nil, List.cons_append, List.nil_append, List.getElem?_cons_zero, List.getElem?_cons_succ, List.set_cons_zero, List.set_cons_succ, Option.some.injEq, List.cons.injEq, and_true, true_and, exists_eq_left, exists_eq_left', exists_eq_right, V.ty.injEq, V.int.injEq, V.bl.injEq, V.str.injEq, V.ref.injEq, exists_and_left, exists_const, reduceIte, reduceCtorEq, false_and, and_false, exists_false, or_false, false_or, Bool.not_true, Bool.not_false, Bool.false_eq_true, String.reduceEq, true_or, or_true, rNotT, tNNew, tNNotIn, tNGet, sNPut, tLenSetN, tPar, tAug, ipI, tDNotIn, sDPut, tDGet, tTup, tLst, tBM, tBM0]
      refine ⟨rfl, _, h1, ?_, fun b o hb => by rw [upd_ne (ne_of_none hb hD)]; exact s1 b o hb, ?_⟩
      · unfold one0
        rw [List.length_map, List.length_map, List.length_range]
        exact szlt (m := 1000) (by omega)
      · rw [upd_same, one0_succ, List.map_append]
        refine congrArg (fun y => some (HO.lst (List.map V.int (one0 i) ++ [V.int y]))) ?_
        by_cases h : i = 0
        · subst h
          rfl
        · rw [if_neg h, if_neg (by simp; omega)]
    · rintro H1 ⟨s1, h1⟩
      refine ⟨.int (m : Int), rfl, (m : Int), rfl, by omega, by omega, ?_⟩
      rw [Int.toNat_natCast]
      refine for_range (CdI H rr m n rs) ⟨D, one0 us.length, none, none, none, none, s1, h1, by unfold one0; rw [List.length_map, List.length_range, el], ?_, rfl⟩ ?_ ?_
      · rw [dot_one0, if_neg (by omega)]
        rfl
      · rintro k σ H2 hk ⟨a, U, x2, x4, x5, x6, s2, ha, hU, hd, rfl⟩
        simp only [cxOf, tYes, eq_self, if_true, if_false, wipe, rLenQ, rIxTQ, rIxLQ, rIxSQ, rInt1Q, rTupQ, rAppQ, rPopQ, rPopAtQ, rRevQ, rListS, rReprP, tLenSetT, tChain, tRetN, tRet, tSeq, tAsg, gName, tVar, tC, tCons, tNil, tCB, tOp, rI0, rI, tAndV, tOrV, tNotV, tIf, tTest, tB, tNot, tAnd, tOr, tIfS, tNext, tCallR, rIsK, rEq, rNe, tDrop, L2.start, List.map_cons, List.map_nil, List.length_cons, List.length_nil, Nat.reduceAdd, Nat.reduceSub, Nat.sub_self, List.replicate_zero, List.replicate_succ, List.append_nil, List.cons_append, List.nil_append, List.getElem?_cons_zero, List.getElem?_cons_succ, List.set_cons_zero, List.set_cons_succ, Option.some.injEq, List.cons.injEq, and_true, true_and, exists_eq_left, exists_eq_left', exists_eq_right, V.ty.injEq, V.int.injEq, V.bl.injEq, V.str.injEq, V.ref.injEq, exists_and_left, exists_const, reduceIte, reduceCtorEq, false_and, and_false, exists_false, or_false, false_or, Bool.not_true, Bool.not_false, Bool.false_eq_true, String.reduceEq, true_or, or_true, rNotT, tNNew, tNNotIn, tNGet, sNPut, tLenSetN, tPar, tAug, ipI, tDNotIn, sDPut, tDGet, tTup, tLst, tBM, tBM0]
        have hpr2 : Paired (RSt K H2) us rs := pr_mono hpr fun _ _ r => r.mono (TK.of_same s2)
        refine ⟨.ref rr, rfl, rr, rfl, ⟨us, .inl (.inl (s2 _ _ hrr))⟩, fun D hD => ?_⟩
        refine lc_gen (n := us.length) (fun i H' => Same H2 H' ∧ H' D = some (.lst ((zer i).map V.int))) ⟨same_upd hD, upd_same⟩ (fun i H' hi e => ⟨us, us[i], .inl (.inl (e.1 _ _ (s2 _ _ hrr))), List.getElem?_eq_getElem hi⟩) (fun H' e => ⟨us, .inl (.inl (e.1 _ _ (s2 _ _ hrr))), Nat.le_refl _⟩) ?_ ?_
        · rintro i x H3 H4 hi ⟨s3, h3⟩ ⟨rfl, _⟩
          refine ⟨rfl, ?_⟩
          simp only [cxOf, tYes, eq_self, if_true, if_false, wipe, rLenQ, rIxTQ, rIxLQ, rIxSQ, rInt1Q, rTupQ, rAppQ, rPopQ, rPopAtQ, rRevQ, rListS, rReprP, tLenSetT, tChain, tRetN, tRet, tSeq, tAsg, gName, tVar, tC, tCons, tNil, tCB, tOp, rI0, rI, tAndV, tOrV, tNotV, tIf, tTest, tB, tNot, tAnd, tOr, tIfS, tNext, tCallR, rIsK, rEq, rNe, tDrop, L2.start, List.map_cons, List.map_nil, List.length_cons, List.length_nil, Nat.reduceAdd, Nat.reduceSub, Nat.sub_self, List.replicate_zero, List.replicate_succ, List.append_nil, List.cons_append, List.nil_append, List.getElem?_cons_zero, List.getElem?_cons_succ, List.set_cons_zero, List.set_cons_succ, Option.some.injEq, List.cons.injEq, and_true, true_and, exists_eq_left, exists_eq_left', exists_eq_right, V.ty.injEq, V.int.injEq, V.bl.injEq, V.str.injEq, V.ref.injEq, exists_and_left, exists_const, reduceIte, reduceCtorEq, false_and, and_false, exists_false, or_false, false_or, Bool.not_true, Bool.not_false, Bool.false_eq_true, String.reduceEq, true_or, or_true, rNotT, tNNew, tNNotIn, tNGet, sNPut, tLenSetN, tPar, tAug, ipI, tDNotIn, sDPut, tDGet, tTup, tLst, tBM, tBM0]
          refine ⟨_, h3, ?_, fun b o hb => by rw [upd_ne (ne_of_none hb hD)]; exact s3 b o hb, ?_⟩
          · rw [List.length_map, zer_len]
            exact szlt (m := 1000) (by omega)
          · rw [upd_same, zer_succ, List.map_append]
            rfl
        · rintro H3 ⟨s3, h3⟩
          refine ⟨.ref rr, rfl, us, .inl (.inl (.inl (s3 _ _ (s2 _ _ hrr)))), (us.length : Int), rfl, by omega, by omega, ?_⟩
          rw [Int.toNat_natCast]
          refine for_range (CdM H2 D rr a m n rs U (some (.int (0 + (k : Int)))) (m - (k + 1))) ⟨_, _, _, s3, h3, by rw [zer_len, el], by unfold zer; rw [dot_zero]; rfl, rfl⟩ ?_ ?_
          · rintro p σ H4 hp ⟨W, y2, y6, s4, hW, hWl, hWd, rfl⟩
            rw [show (0 : Int) + (p : Int) = (p : Int) by omega]
            simp only [cxOf, tYes, eq_self, if_true, if_false, wipe, rLenQ, rIxTQ, rIxLQ, rIxSQ, rInt1Q, rTupQ, rAppQ, rPopQ, rPopAtQ, rRevQ, rListS, rReprP, tLenSetT, tChain, tRetN, tRet, tSeq, tAsg, gName, tVar, tC, tCons, tNil, tCB, tOp, rI0, rI, tAndV, tOrV, tNotV, tIf, tTest, tB, tNot, tAnd, tOr, tIfS, tNext, tCallR, rIsK, rEq, rNe, tDrop, L2.start, List.map_cons, List.map_nil, List.length_cons, List.length_nil, Nat.reduceAdd, Nat.reduceSub, Nat.sub_self, List.replicate_zero, List.replicate_succ, List.append_nil, List.cons_append, List.nil_append, List.getElem?_cons_zero, List.getElem?_cons_succ, List.set_cons_zero, List.set_cons_succ, Option.some.injEq, List.cons.injEq, and_true, true_and, exists_eq_left, exists_eq_left', exists_eq_right, V.ty.injEq, V.int.injEq, V.bl.injEq, V.str.injEq, V.ref.injEq, exists_and_left, exists_const, reduceIte, reduceCtorEq, false_and, and_false, exists_false, or_false, false_or, Bool.not_true, Bool.not_false, Bool.false_eq_true, String.reduceEq, true_or, or_true, rNotT, tNNew, tNNotIn, tNGet, sNPut, tLenSetN, tPar, tAug, ipI, tDNotIn, sDPut, tDGet, tTup, tLst, tBM, tBM0]
            obtain ⟨v, hv, sa, sb, rfl, g3, g4⟩ := pr_get' hpr2 (List.getElem?_eq_getElem (show p < rs.length by omega))
            generalize hr : rs[p]'(show p < rs.length by omega) = r at g3 g4
            have hrm : r ∈ rs := by rw [← hr]; exact List.getElem_mem _
            have hrp : rowOf rs (p : Int) = r := by
              have h5 := rowOf_get (rs := rs) (p := (p : Int)) ⟨by omega, by omega⟩
              rw [Int.toNat_natCast, List.getElem?_eq_getElem (show p < rs.length by omega), hr] at h5
              exact (Option.some.inj h5).symm
            have hUp : U[p]? = some (mk U (p : Int)) := by
              unfold mk
              rw [Int.toNat_natCast, List.getD_eq_getElem?_getD, List.getElem?_eq_getElem (show p < U.length by omega)]
              rfl
            refine ⟨.ref rr, rfl, .int (p : Int), rfl, us, .ref sa, .inl (.inl (s4 _ _ (s2 _ _ hrr))), atI_nat hv, _, .ref sb, Same.sqT s4 g3, rfl, sb, rfl, ⟨_, Same.sqT s4 g4⟩, ?_⟩
            refine for_gen (n := r.2.length) (CdJ H2 D rr a m n rs U (some (.int (0 + (k : Int)))) (m - (k + 1)) p r.2) ⟨W, y6, s4, hW, hWl, by rw [hWd]; simp, rfl⟩ ?_ ?_ ?_ ?_
            · rintro i σ H5 hi ⟨W2, z6, s5, h5, h6, h7, rfl⟩
              exact ⟨_, .int r.2[i], Same.sqT s5 g4, by rw [List.getElem?_map, List.getElem?_eq_getElem hi]; rfl⟩
            · rintro σ H5 ⟨W2, z6, s5, h5, h6, h7, rfl⟩
              exact ⟨_, Same.sqT s5 g4, by rw [List.length_map]; exact Nat.le_refl _⟩
            · rintro i x σ H5 H6 hi ⟨W2, z6, s5, h5, h6, h7, rfl⟩ ⟨rfl, hx⟩
              have hx2 := hx _ (Same.sqT s5 g4)
              rw [List.getElem?_map, List.getElem?_eq_getElem hi] at hx2
              obtain rfl := (Option.some.inj hx2).symm
              have hto := ok.to r hrm r.2[i] (List.getElem_mem hi)
              generalize hqv : r.2[i] = qv at hto
              have gW := getD_get (ms := W2) h6 hto.1 hto.2
              have gU := getD_get (ms := U) (p := (p : Int)) hU (by omega) (by omega)
              simp only [cxOf, tYes, eq_self, if_true, if_false, wipe, rLenQ, rIxTQ, rIxLQ, rIxSQ, rInt1Q, rTupQ, rAppQ, rPopQ, rPopAtQ, rRevQ, rListS, rReprP, tLenSetT, tChain, tRetN, tRet, tSeq, tAsg, gName, tVar, tC, tCons, tNil, tCB, tOp, rI0, rI, tAndV, tOrV, tNotV, tIf, tTest, tB, tNot, tAnd, tOr, tIfS, tNext, tCallR, rIsK, rEq, rNe, tDrop, L2.start, List.map_cons, List.map_nil, List.length_cons, List.length_nil, Nat.reduceAdd, Nat.reduceSub, Nat.sub_self, List.replicate_zero, List.replicate_succ, List.append_nil, List.cons_append, List.nil_append, List.getElem?_cons_zero, List.getElem?_cons_succ, List.set_cons_zero, List.set_cons_succ, Option.some.injEq, List.cons.injEq, and_true, true_and, exists_eq_left, exists_eq_left', exists_eq_right, V.ty.injEq, V.int.injEq, V.bl.injEq, V.str.injEq, V.ref.injEq, exists_and_left, exists_const, reduceIte, reduceCtorEq, false_and, and_false, exists_false, or_false, false_or, Bool.not_true, Bool.not_false, Bool.false_eq_true, String.reduceEq, true_or, or_true, rNotT, tNNew, tNNotIn, tNGet, sNPut, tLenSetN, tPar, tAug, ipI, tDNotIn, sDPut, tDGet, tTup, tLst, tBM, tBM0]
              have eq0 : ((qv.toNat : Nat) : Int) = qv := by omega
              have hWq : W2[qv.toNat]? = some (mk W2 qv) := by
                unfold mk
                rw [List.getD_eq_getElem?_getD, List.getElem?_eq_getElem (show qv.toNat < W2.length by omega)]
                rfl
              refine ⟨_, .inl (.inl h5), _, gW, _, .inl (.inl (s5 _ _ ha)), _, gU, _, rfl, _, rfl, .ref D, rfl, .int qv, rfl, D, W2.map V.int, qv, qv.toNat, rfl, rfl, h5, ?_, W2.set qv.toNat (mk W2 qv + mk U p), _, fun b o hb => by rw [upd_ne (ne_of_none hb hD)]; exact s5 b o hb, ?_, by rw [List.length_set, h6], ?_, rfl⟩
              · unfold ixN
                rw [if_pos hto.1, if_pos (by rw [List.length_map]; omega)]
              · rw [upd_same, List.map_set]
              · rw [dot_set _ _ _ _ _ _ hWq, h7, Nat.zero_add, eq0, List.take_add_one, List.getElem?_eq_getElem hi, hqv, List.map_append, List.sum_append_int, Int.mul_add, ← Int.add_assoc, Int.add_comm (mk W2 qv), Int.add_sub_cancel]
                simp
            · rintro σ H5 ⟨W2, z6, s5, h5, h6, h7, rfl⟩
              refine ⟨W2, _, _, s5, h5, h6, ?_, rfl⟩
              rw [h7, dot_take _ _ _ _ hUp, hrp, List.take_length]
          · rintro σ H4 ⟨W, y2, y6, s4, hW, hWl, hWd, rfl⟩
            simp only [cxOf, tYes, eq_self, if_true, if_false, wipe, rLenQ, rIxTQ, rIxLQ, rIxSQ, rInt1Q, rTupQ, rAppQ, rPopQ, rPopAtQ, rRevQ, rListS, rReprP, tLenSetT, tChain, tRetN, tRet, tSeq, tAsg, gName, tVar, tC, tCons, tNil, tCB, tOp, rI0, rI, tAndV, tOrV, tNotV, tIf, tTest, tB, tNot, tAnd, tOr, tIfS, tNext, tCallR, rIsK, rEq, rNe, tDrop, L2.start, List.map_cons, List.map_nil, List.length_cons, List.length_nil, Nat.reduceAdd, Nat.reduceSub, Nat.sub_self, List.replicate_zero, List.replicate_succ, List.append_nil, List.cons_append, List.nil_append, List.getElem?_cons_zero, List.getElem?_cons_succ, List.set_cons_zero, List.set_cons_succ, Option.some.injEq, List.cons.injEq, and_true, true_and, exists_eq_left, exists_eq_left', exists_eq_right, V.ty.injEq, V.int.injEq, V.bl.injEq, V.str.injEq, V.ref.injEq, exists_and_left, exists_const, reduceIte, reduceCtorEq, false_and, and_false, exists_false, or_false, false_or, Bool.not_true, Bool.not_false, Bool.false_eq_true, String.reduceEq, true_or, or_true, rNotT, tNNew, tNNotIn, tNGet, sNPut, tLenSetN, tPar, tAug, ipI, tDNotIn, sDPut, tDGet, tTup, tLst, tBM, tBM0]
            refine ⟨D, W, _, _, _, _, Same.trans s2 s4, hW, hWl, ?_, rfl⟩
            rw [hWd, ← hd, show us.length = U.length by omega, List.take_length]
            refine dot_congr U 0 fun j hj => ?_
            rw [Nat.zero_add, show m - k = m - (k + 1) + 1 by omega]
            exact (cnt_succ ok ⟨by omega, by omega⟩ _).symm
      · rintro σ H2 ⟨a, U, x2, x4, x5, x6, s2, ha, hU, hd, rfl⟩
        refine ⟨.ref rr, rfl, us, .inl (.inl (.inl (s2 _ _ hrr))), (us.length : Int), rfl, by omega, by omega, fun D hD => ?_⟩
        rw [Int.toNat_natCast]
        refine lc_gen (n := us.length) (fun i H' => Same H2 H' ∧ H' D = some (.lst ((pick (endAt rs) U i).map V.int))) ⟨same_upd hD, upd_same⟩ (fun i H' hi _ => hi) (fun H' _ => Nat.le_refl _) ?_ ?_
        · rintro i x H3 H4 hi ⟨s3, h3⟩ ⟨rfl, rfl⟩
          rw [show (0 : Int) + (i : Int) = (i : Int) by omega]
          refine ⟨rfl, ?_⟩
          simp only [cxOf, tYes, eq_self, if_true, if_false, wipe, rLenQ, rIxTQ, rIxLQ, rIxSQ, rInt1Q, rTupQ, rAppQ, rPopQ, rPopAtQ, rRevQ, rListS, rReprP, tLenSetT, tChain, tRetN, tRet, tSeq, tAsg, gName, tVar, tC, tCons, tNil, tCB, tOp, rI0, rI, tAndV, tOrV, tNotV, tIf, tTest, tB, tNot, tAnd, tOr, tIfS, tNext, tCallR, rIsK, rEq, rNe, tDrop, L2.start, List.map_cons, List.map_nil, List.length_cons, List.length_nil, Nat.reduceAdd, Nat.reduceSub, Nat.sub_self, List.replicate_zero, List.replicate_succ, List.append_nil, List.cons_append, List.nil_append, List.getElem?_cons_zero, List.getElem?_cons_succ, List.set_cons_zero, List.set_cons_succ, Option.some.injEq, List.cons.injEq, and_true, true_and, exists_eq_left, exists_eq_left', exists_eq_right, V.ty.injEq, V.int.injEq, V.bl.injEq, V.str.injEq, V.ref.injEq, exists_and_left, exists_const, reduceIte, reduceCtorEq, false_and, and_false, exists_false, or_false, false_or, Bool.not_true, Bool.not_false, Bool.false_eq_true, String.reduceEq, true_or, or_true, rNotT, tNNew, tNNotIn, tNGet, sNPut, tLenSetN, tPar, tAug, ipI, tDNotIn, sDPut, tDGet, tTup, tLst, tBM, tBM0]
          have hpr2 : Paired (RSt K H2) us rs := pr_mono hpr fun _ _ r => r.mono (TK.of_same s2)
          obtain ⟨v, hv, sa, sb, rfl, g3, g4⟩ := pr_get' hpr2 (List.getElem?_eq_getElem (show i < rs.length by omega))
          have h5 := rowOf_get (rs := rs) (p := (i : Int)) ⟨by omega, by omega⟩
          rw [Int.toNat_natCast, List.getElem?_eq_getElem (show i < rs.length by omega)] at h5
          have ee : endAt rs (i : Int) = (rs[i]'(show i < rs.length by omega)).1 := by rw [Option.some.inj h5]; rfl
          have gU := getD_get (ms := U) (p := (i : Int)) hU (by omega) (by omega)
          refine ⟨_, .inl (.inl (s3 _ _ (s2 _ _ hrr))), .ref sa, atI_nat hv, _, Same.sqT s3 g3, _, rfl, rfl, ?_⟩
          have hp := pick_len (endAt rs) U i
          by_cases h : endAt rs (i : Int) = 1
          · refine ifT (by rw [← ee, h]; rfl) ⟨_, .inl (.inl (s3 _ _ ha)), _, gU, _, h3, by rw [List.length_map]; exact szlt (m := 1000) (by omega), fun b o hb => by rw [upd_ne (ne_of_none hb hD)]; exact s3 b o hb, ?_⟩
            have e : pick (endAt rs) U (i + 1) = pick (endAt rs) U i ++ if endAt rs (i : Int) = 1 then [mk U i] else [] := rfl
            rw [upd_same, e, if_pos h, List.map_append]
            rfl
          · refine ifF (by rw [← ee]; simp; exact h) ⟨s3, ?_⟩
            have e : pick (endAt rs) U (i + 1) = pick (endAt rs) U i ++ if endAt rs (i : Int) = 1 then [mk U i] else [] := rfl
            rw [e, if_neg h, List.append_nil]
            exact h3
        · rintro H3 ⟨s3, h3⟩
          refine ⟨D, _, rfl, .inl (.inl h3), ?_⟩
          have e : (pick (endAt rs) U us.length).sum = cntAt n rs m 0 := by
            rw [pick_sum us.length (by omega) (fun j hj => endAt_bit ok ⟨by omega, by omega⟩), show us.length = U.length by omega, List.take_length, ← hd, Nat.sub_self]
            rfl
          rw [e]
          exact q _ (Same.trans s2 s3)
theorem sc__law_refused : FnScope ["looker", "number", "line", "told", "e"] ["looker", "number", "line"] (defScope (topS 39)) := ⟨rfl, rfl, rfl, by decide +kernel, rfl, by decide +kernel, by decide +kernel⟩
theorem bd__law_refused {K : PySem.W.Frag} {f : Addr} {fd : FuncData} (F : FnP K "_law_refused" (topS 39) f fd) : Binds K fd ["looker", "number", "line"] [] := F.bindsN fun _ _ _ _ _ _ us hl => match us, hl with | [_, _, _], _ => rfl
def spRf (K : PySem.W.Frag) : Sp := fun vs H Q _ => ∃ v z rs, ∃ m : Int, ∃ x, vs = [v, .int m, x] ∧ RLk K H v z rs ∧ SignsOk z ∧ RowsOk z.length rs ∧ ((x = .non ∧ ¬ (0 ≤ m ∧ m ≤ 200)) ∨ ∃ t, x = .str t ∧ t.length ≤ 100000 ∧ txB z t = false) ∧ ∀ H', Same H H' → Q (.bl true) H'
theorem ok__law_refused (T : Tx K mg) : Dk P w K mg base 6 "_law_refused" ["looker", "number", "line"] (spRf K) := by
  have D_count_taken := ok_count_taken (P := P) (w := w) (base := base) T
  have D_takes := ok_takes (P := P) (w := w) (base := base) T
  obtain ⟨fd, F⟩ := T.d__law_refused
  refine ⟨⟨fd, F.ok sc__law_refused (fun vs H Q E h => ?_) (fun cdv A outer s H vs Q E hr h => ?_), bd__law_refused F⟩, F.kp, T.g__law_refused⟩
  · obtain ⟨v, z, rs, m, x, rfl, _⟩ := h
    rfl
  · obtain ⟨v, z, rs, m, x, rfl, hv, hz, ok, hc, q⟩ := h
    refine ⟨_, PSs.nox (pss_one (ps_try_cl rfl rfl takes0 (fun W pn xe tk pz => (pss_cons (ps_set (i := 3) sc__law_refused.nd rfl (.inl rfl) (pe_ifExp (pt_cmpR op_isN (pv 2) pe_non (nomark _)) (pe_callR D_count_taken (hr.mono (by decide)) tk (pa_cons (pv 0) (pa_cons (pv 1) pa_nil))) (pe_callR D_takes (hr.mono (by decide)) tk (pa_cons (pv 0) (pa_cons (pv 2) pa_nil)))))
      (pss_one (ps_ret (pe_cmpR op_eq (pv 3) (pe_un un_neg pe_int) (nomark _)))))) (ClOk.named ⟨rfl, by decide, .inl T.e_BadNumber.gm⟩ sc__law_refused.nd rfl rfl (i := 4) (fun a oe cls d pn hz hf => (pss_one (ps_ret (pe_and (pe_cmpR op_isN (pv 2) pe_non (nomark _)) (pe_and (pe_callB (call_isX hz hf) (by rfl) T.f_isinstance PyProof.Rows.boot_isinstance (pa_cons (pv 4) (pa_cons (pe_glob (v := .ref (He.ga K "SignError")) (by rfl) T.e_SignError.gm rfl) pa_nil))) (pe_and (pe_callB (call_isX hz hf) (by rfl) T.f_isinstance PyProof.Rows.boot_isinstance (pa_cons (pv 4) (pa_cons (pe_bltn (v := .ty "ValueError") (by rfl) T.f_ValueError (by decide +kernel) rfl) pa_nil))) (pe_one (pe_not (pe_callB (call_isX hz hf) (by rfl) T.f_isinstance PyProof.Rows.boot_isinstance (pa_cons (pv 4) (pa_cons (pe_glob (v := .ref (He.ga K "BadSigns")) (by rfl) T.e_BadSigns.gm rfl) pa_nil))))))))))) (ClOk.named ⟨rfl, by decide, .inl T.e_BadSigns.gm⟩ sc__law_refused.nd rfl rfl (i := 4) (fun a oe cls d pn hz hf => (pss_one (ps_ret (pe_and (pe_cmpR op_notN (pv 2) pe_non (nomark _)) (pe_and (pe_callB (call_isX hz hf) (by rfl) T.f_isinstance PyProof.Rows.boot_isinstance (pa_cons (pv 4) (pa_cons (pe_glob (v := .ref (He.ga K "SignError")) (by rfl) T.e_SignError.gm rfl) pa_nil))) (pe_one (pe_callB (call_isX hz hf) (by rfl) T.f_isinstance PyProof.Rows.boot_isinstance (pa_cons (pv 4) (pa_cons (pe_bltn (v := .ty "ValueError") (by rfl) T.f_ValueError (by decide +kernel) rfl) pa_nil))))))))) ClOk.nil)))), ?_⟩
    simp only [cxOf, tYes, eq_self, if_true, if_false, wipe, rLenQ, rIxTQ, rIxLQ, rIxSQ, rInt1Q, rTupQ, rAppQ, rPopQ, rPopAtQ, rRevQ, rListS, rReprP, tLenSetT, tChain, tRetN, tRet, tSeq, tAsg, gName, tVar, tC, tCons, tNil, tCB, tOp, rI0, rI, tAndV, tOrV, tNotV, tIf, tTest, tB, tNot, tAnd, tOr, tIfS, tNext, tCallR, rIsK, rEq, rNe, tDrop, L2.start, List.map_cons, List.map_nil, List.length_cons, List.length_nil, Nat.reduceAdd, Nat.reduceSub, Nat.sub_self, List.replicate_zero, List.replicate_succ, List.append_nil, List.cons_append, List.nil_append, List.getElem?_cons_zero, List.getElem?_cons_succ, List.set_cons_zero, List.set_cons_succ, Option.some.injEq, List.cons.injEq, and_true, true_and, exists_eq_left, exists_eq_left', exists_eq_right, V.ty.injEq, V.int.injEq, V.bl.injEq, V.str.injEq, V.ref.injEq, exists_and_left, exists_const, reduceIte, reduceCtorEq, false_and, and_false, exists_false, or_false, false_or, Bool.not_true, Bool.not_false, Bool.false_eq_true, String.reduceEq, true_or, or_true, rNotT, tNNew, tNNotIn, tNGet, sNPut, tLenSetN, tPar, tAug, ipI, tDNotIn, sDPut, tDGet, tTup, tLst, tBM, tBM0]
    rcases hc with ⟨rfl, hm⟩ | ⟨t, rfl, htl, htx⟩
    · refine ifT rfl ⟨v, z, rs, m, rfl, hv, hz, ok, fun h0 h1 => absurd ⟨h0, h1⟩ hm, fun _ => ?_⟩
      refine ⟨true, T.x_BadNumber_BadNumber, fun _ x _ => ?_, fun e => nomatch e⟩
      simp only [cxOf, tYes, eq_self, if_true, if_false, wipe, rLenQ, rIxTQ, rIxLQ, rIxSQ, rInt1Q, rTupQ, rAppQ, rPopQ, rPopAtQ, rRevQ, rListS, rReprP, tLenSetT, tChain, tRetN, tRet, tSeq, tAsg, gName, tVar, tC, tCons, tNil, tCB, tOp, rI0, rI, tAndV, tOrV, tNotV, tIf, tTest, tB, tNot, tAnd, tOr, tIfS, tNext, tCallR, rIsK, rEq, rNe, tDrop, L2.start, List.map_cons, List.map_nil, List.length_cons, List.length_nil, Nat.reduceAdd, Nat.reduceSub, Nat.sub_self, List.replicate_zero, List.replicate_succ, List.append_nil, List.cons_append, List.nil_append, List.getElem?_cons_zero, List.getElem?_cons_succ, List.set_cons_zero, List.set_cons_succ, Option.some.injEq, List.cons.injEq, and_true, true_and, exists_eq_left, exists_eq_left', exists_eq_right, V.ty.injEq, V.int.injEq, V.bl.injEq, V.str.injEq, V.ref.injEq, exists_and_left, exists_const, reduceIte, reduceCtorEq, false_and, and_false, exists_false, or_false, false_or, Bool.not_true, Bool.not_false, Bool.false_eq_true, String.reduceEq, true_or, or_true, rNotT, tNNew, tNNotIn, tNGet, sNPut, tLenSetN, tPar, tAug, ipI, tDNotIn, sDPut, tDGet, tTup, tLst, tBM, tBM0]
      refine ifT rfl ⟨_, _, _, true, rfl, rfl, T.q_BadNumber, rfl, fun u hu => hu, T.k_BadNumber_SignError, true, rfl, ifT rfl ?_⟩
      refine ⟨_, _, _, true, rfl, rfl, T.q_BadNumber, rfl, fun u hu => hu, T.k_BadNumber_ValueError, true, rfl, ifT rfl ?_⟩
      exact ⟨_, _, _, false, rfl, rfl, T.q_BadNumber, rfl, fun u hu => hu, T.k_BadNumber_BadSigns, false, rfl, q _ fun _ _ h => h⟩
    · refine ifF rfl ⟨v, z, rs, t, rfl, hv, hz, ok, htl, fun e => (by rw [htx] at e; cases e), fun _ H' s' => ?_⟩
      refine ⟨false, T.x_BadSigns_BadNumber, (fun e => nomatch e), fun _ => ⟨true, T.x_BadSigns_BadSigns, fun _ x _ => ?_, fun e => nomatch e⟩⟩
      simp only [cxOf, tYes, eq_self, if_true, if_false, wipe, rLenQ, rIxTQ, rIxLQ, rIxSQ, rInt1Q, rTupQ, rAppQ, rPopQ, rPopAtQ, rRevQ, rListS, rReprP, tLenSetT, tChain, tRetN, tRet, tSeq, tAsg, gName, tVar, tC, tCons, tNil, tCB, tOp, rI0, rI, tAndV, tOrV, tNotV, tIf, tTest, tB, tNot, tAnd, tOr, tIfS, tNext, tCallR, rIsK, rEq, rNe, tDrop, L2.start, List.map_cons, List.map_nil, List.length_cons, List.length_nil, Nat.reduceAdd, Nat.reduceSub, Nat.sub_self, List.replicate_zero, List.replicate_succ, List.append_nil, List.cons_append, List.nil_append, List.getElem?_cons_zero, List.getElem?_cons_succ, List.set_cons_zero, List.set_cons_succ, Option.some.injEq, List.cons.injEq, and_true, true_and, exists_eq_left, exists_eq_left', exists_eq_right, V.ty.injEq, V.int.injEq, V.bl.injEq, V.str.injEq, V.ref.injEq, exists_and_left, exists_const, reduceIte, reduceCtorEq, false_and, and_false, exists_false, or_false, false_or, Bool.not_true, Bool.not_false, Bool.false_eq_true, String.reduceEq, true_or, or_true, rNotT, tNNew, tNNotIn, tNGet, sNPut, tLenSetN, tPar, tAug, ipI, tDNotIn, sDPut, tDGet, tTup, tLst, tBM, tBM0]
      refine ifT rfl ⟨_, _, _, true, rfl, rfl, T.q_BadSigns, rfl, fun u hu => hu, T.k_BadSigns_SignError, true, rfl, ifT rfl ?_⟩
      exact ⟨_, _, _, true, rfl, rfl, T.q_BadSigns, rfl, fun u hu => hu, T.k_BadSigns_ValueError, q _ s'⟩
end
end K37

namespace K37
open PySem PySem.Spec PyProof.Rows L2 Sg
theorem sum_flat {α β : Type} (f : β → Int) (g : α → List β) : ∀ l : List α, ((l.flatMap g).map f).sum = (l.map fun a => ((g a).map f).sum).sum
  | [] => rfl
  | a :: l => by rw [List.flatMap_cons, List.map_append, List.sum_append_int, List.map_cons, List.sum_cons, sum_flat f g l]
theorem walkS_snoc (z : Str) (rs : List LRow) (t : Str) (c : Nat) : walkS z rs 0 (t ++ sgn c).cps.toList = nxt rs (walkS z rs 0 t.cps.toList) (z.cps.toList.idxOf c) := by
  unfold walkS
  rw [snoc_cps, List.foldl_append]
  rfl
theorem sum_lvl {z : Str} {rs : List LRow} (hz : SignsOk z) (ok : RowsOk z.length rs) (k j : Nat) : ((lvl z (k + 1)).map fun t => cntAt z.length rs j (walkS z rs 0 t.cps.toList)).sum = ((lvl z k).map fun t => cntAt z.length rs (j + 1) (walkS z rs 0 t.cps.toList)).sum := by
  show (((lvl z k).flatMap _).map _).sum = _
  rw [sum_flat]
  congr 1
  apply List.map_congr_left
  intro t ht
  have hin : InSt rs (walkS z rs 0 t.cps.toList) := walk_in ok _ (fun c hc => of_decide_eq_true (List.all_eq_true.mp (lvl_of ht).1 c hc)) _ (in_zero ok)
  rw [cnt_succ ok hin, List.map_map]
  congr 1
  apply List.ext_getElem?
  intro i
  rw [List.getElem?_map, List.getElem?_map]
  have e : z.cps.toList.length = z.length := Array.length_toList
  by_cases hi : i < z.length
  · have hi2 : i < z.cps.toList.length := by omega
    have hc : z.cps.toList[i]? = some (z.cps.toList[i]'hi2) := List.getElem?_eq_getElem hi2
    have hx : z.cps.toList.idxOf (z.cps.toList[i]'hi2) = i := List.Nodup.idxOf_getElem hz.nd i hi2
    generalize z.cps.toList[i]'hi2 = c at hc hx
    rw [hc, nxt_get ok hin hi]
    show some (cntAt z.length rs j (walkS z rs 0 (t ++ sgn c).cps.toList)) = _
    rw [walkS_snoc, hx]
    rfl
  · rw [List.getElem?_eq_none (by omega), List.getElem?_eq_none (by have := ok.wid _ (rowOf_mem hin); omega)]
    rfl
theorem sum_two {z : Str} {rs : List LRow} (hz : SignsOk z) (ok : RowsOk z.length rs) : ((lvl z 2).map (endB z rs)).sum = cntAt z.length rs 2 0 := by
  have h := (sum_lvl hz ok 1 0).trans (sum_lvl hz ok 0 1)
  refine Eq.trans ?_ (h.trans ?_)
  · rfl
  · show cntAt z.length rs 2 (walkS z rs 0 (Str.ofString "").cps.toList) + 0 = _
    rw [Int.add_zero]
    rfl
end K37

namespace K37
open PySem PySem.Spec PyProof.Rows L2 Sg
section
variable {P : Program} {w : World} {K : PySem.W.Frag} {mg : Str → Option Value} {base : Heap}
theorem sc_law : FnScope ["script", "pool", "signs", "rows", "many", "p", "looker", "other", "number", "due", "whole", "k", "told", "line", "few", "part", "at", "end", "row", "sign"] ["script"] (defScope (topS 40)) := ⟨rfl, rfl, rfl, by decide +kernel, rfl, by decide +kernel, by decide +kernel⟩
theorem bd_law {K : PySem.W.Frag} {f : Addr} {fd : FuncData} (F : FnP K "law" (topS 40) f fd) : Binds K fd ["script"] [] := F.bindsN fun _ _ _ _ _ _ us hl => match us, hl with | [_], _ => rfl
theorem tk_upd {H : Hp} {D : Addr} {o : HO} (nt : ∀ ys, H D ≠ some (.tup ys)) (nf : ∀ q v, H D ≠ some (.frz q v)) : TK H (upd H D o) :=
  ⟨fun b xs h => by rw [upd_ne (fun z => nt xs (by rw [← z]; exact h))]; exact h, fun b q v h => by rw [upd_ne (fun z => nf q v (by rw [← z]; exact h))]; exact h⟩
structure DlH (K : PySem.W.Frag) (H : Hp) (l rr : Addr) (z : Str) (m : Int) (p : Nat) (H' : Hp) (vs : List V) (rs : List LRow) : Prop where
  but : But l H H'
  pool : PoolL H' l
  list : H' rr = some (.lst vs)
  pr : Paired (RSt K H') vs rs
  len : rs.length = p
  ok : ∀ r ∈ rs, (r.1 = 0 ∨ r.1 = 1) ∧ r.2.length = z.length ∧ ∀ q ∈ r.2, 0 ≤ q ∧ q < m
section
variable {H H1 H2 : Hp} {l rr D : Addr} {z : Str} {m : Int} {p : Nat} {vs : List V} {rs : List LRow} {o : HO}
theorem DlH.put (h : DlH K H l rr z m p H1 vs rs) (h0 : H D = none) (h1 : l ≠ D) (h2 : rr ≠ D) (nt : ∀ ys, H1 D ≠ some (.tup ys)) (nf : ∀ q v, H1 D ≠ some (.frz q v)) : DlH K H l rr z m p (upd H1 D o) vs rs := by
  refine ⟨fun b x hb hx => ?_, ?_, by rw [upd_ne h2]; exact h.list, pr_mono h.pr fun _ _ r => r.mono (tk_upd nt nf), h.len, h.ok⟩
  · rw [upd_ne (ne_of_none hx h0)]
    exact h.but b x hb hx
  · obtain ⟨js, e⟩ := h.pool
    exact ⟨js, by rw [upd_ne h1]; exact e⟩
theorem DlH.free (h : DlH K H l rr z m p H1 vs rs) (h0 : H1 D = none) : l ≠ D ∧ rr ≠ D ∧ H D = none := by
  obtain ⟨js, e⟩ := h.pool
  refine ⟨ne_of_none e h0, ne_of_none h.list h0, ?_⟩
  cases hd : H D with
  | none => rfl
  | some x =>
    have := h.but D x (Ne.symm (ne_of_none e h0)) hd
    rw [h0] at this
    cases this
theorem DlH.fresh (h : DlH K H l rr z m p H1 vs rs) (h0 : H1 D = none) : DlH K H l rr z m p (upd H1 D o) vs rs :=
  h.put (h.free h0).2.2 (h.free h0).1 (h.free h0).2.1 (fun _ => by rw [h0]; nofun) (fun _ _ => by rw [h0]; nofun)
theorem DlH.draw (h : DlH K H l rr z m p H1 vs rs) (hne : rr ≠ l) (b : But l H1 H2) (hp : PoolL H2 l) : DlH K H l rr z m p H2 vs rs := by
  obtain ⟨js, e⟩ := h.pool
  exact ⟨fun c x hc hx => b c x hc (h.but c x hc hx), hp, b rr _ hne h.list, pr_mono h.pr fun _ _ r => r.mono (TK.of_but b e), h.len, h.ok⟩
end
theorem dl_tail {R : Hp → Prop} {H H2 : Hp} {l rr A : Addr} {z : Str} {m e : Int} {p : Nat} {vs : List V} {rs : List LRow} {acc : List Int} (h : DlH K H l rr z m p H2 vs rs) (hA : H2 A = some (.lst (acc.map V.int))) (hlen : acc.length = z.length) (hb : ∀ q ∈ acc, 0 ≤ q ∧ q < m) (he : e = 0 ∨ e = 1) (hz : H rr = none) (hp : p < 1000) (hlr : l ≠ rr)
    (hq : ∀ H3 vs' rs', rs' = rs ++ [(e, acc)] → DlH K H l rr z m (p + 1) H3 vs' rs' → R H3) :
    tyV K "list" (.ref rr) H2 ∧ ∃ ys, SqL K H2 A ys ∧ ∀ T1, H2 T1 = none → 2 ≤ sizeLine ∧ ∀ T2, upd H2 T1 (.tup ys) T2 = none → ∃ xs, (upd (upd H2 T1 (.tup ys)) T2 (.tup [.int e, .ref T1])) rr = some (.lst xs) ∧ xs.length < sizeLine ∧
      R (upd (upd (upd H2 T1 (.tup ys)) T2 (.tup [.int e, .ref T1])) rr (.lst (xs ++ [.ref T2]))) := by
  refine ⟨lst_ty h.list, _, .inl (.inl hA), fun T1 hT1 => ⟨szle (m := 2) (Nat.le_refl _), fun T2 hT2 => ?_⟩⟩
  have g1 := h.fresh (o := .tup (acc.map V.int)) hT1
  have g2 := g1.fresh (o := .tup [.int e, .ref T1]) hT2
  refine ⟨vs, g2.list, ?_, hq _ (vs ++ [.ref T2]) (rs ++ [(e, acc)]) rfl ?_⟩
  · have := pr_len h.pr
    rw [this, h.len]
    exact szlt (m := 1000) (by omega)
  · have t1 : (upd (upd H2 T1 (.tup (acc.map V.int))) T2 (.tup [.int e, .ref T1])) T1 = some (.tup (acc.map V.int)) := same_upd hT2 _ _ upd_same
    have t2 : (upd (upd H2 T1 (.tup (acc.map V.int))) T2 (.tup [.int e, .ref T1])) T2 = some (.tup [.int e, .ref T1]) := upd_same
    have k : TK (upd (upd H2 T1 (.tup (acc.map V.int))) T2 (.tup [.int e, .ref T1])) (upd (upd (upd H2 T1 (.tup (acc.map V.int))) T2 (.tup [.int e, .ref T1])) rr (.lst (vs ++ [.ref T2]))) :=
      tk_upd (fun _ => by rw [g2.list]; nofun) (fun _ _ => by rw [g2.list]; nofun)
    refine ⟨fun b x hb hx => ?_, ?_, upd_same, pr_snoc (pr_mono g2.pr fun _ _ r => r.mono k) ⟨T2, T1, rfl, k.sqT (.inl (.inl t2)), k.sqT (.inl (.inl t1))⟩, by rw [List.length_append, h.len]; rfl, ?_⟩
    · rw [upd_ne (ne_of_none hx hz)]
      exact g2.but b x hb hx
    · obtain ⟨js, e⟩ := g2.pool
      exact ⟨js, by rw [upd_ne hlr]; exact e⟩
    · intro r hr
      rcases List.mem_append.mp hr with hr | hr
      · exact h.ok r hr
      · obtain rfl := List.mem_singleton.mp hr
        exact ⟨he, hlen, hb⟩
def DlL (K : PySem.W.Frag) (H : Hp) (l rr : Addr) (z : Str) (m : Int) (p : Nat) (A : Addr) (i : Nat) (H' : Hp) : Prop :=
  ∃ vs rs, ∃ acc : List Int, DlH K H l rr z m p H' vs rs ∧ H' A = some (.lst (acc.map V.int)) ∧ acc.length = i ∧ ∀ q ∈ acc, 0 ≤ q ∧ q < m
theorem dl_step {H H2 : Hp} {l rr A : Addr} {z : Str} {m : Int} {p i : Nat} {acc : List Int} {vs : List V} {rs : List LRow} (h : DlH K H l rr z m p H2 vs rs) (hA : H2 A = some (.lst (acc.map V.int))) (hlen : acc.length = i) (hb : ∀ q ∈ acc, 0 ≤ q ∧ q < m) (h1 : l ≠ A) (h2 : rr ≠ A) (h0 : H A = none) (hi : i < 1000) {y : Int} (hy : 0 ≤ y ∧ y < m) :
    ∃ a, H2 A = some (.lst a) ∧ a.length < sizeLine ∧ DlL K H l rr z m p A (i + 1) (upd H2 A (.lst (a ++ [.int y]))) := by
  refine ⟨_, hA, by rw [List.length_map, hlen]; exact szlt (m := 1000) (by omega), vs, rs, acc ++ [y], h.put h0 h1 h2 (fun _ => by rw [hA]; nofun) (fun _ _ => by rw [hA]; nofun), by rw [upd_same, List.map_append]; rfl, by rw [List.length_append, hlen]; rfl, fun q hq => ?_⟩
  rcases List.mem_append.mp hq with hq | hq
  · exact hb q hq
  · obtain rfl := List.mem_singleton.mp hq
    exact hy
theorem dl_tail2 {R : Hp → Prop} {H H2 : Hp} {l rr : Addr} {z : Str} {m e q : Int} {p : Nat} {vs : List V} {rs : List LRow} (h : DlH K H l rr z m p H2 vs rs) (hlen : z.length = 1) (hb : 0 ≤ q ∧ q < m) (he : e = 0 ∨ e = 1) (hz : H rr = none) (hp : p < 1000) (hlr : l ≠ rr)
    (hq : ∀ H3 vs' rs', DlH K H l rr z m (p + 1) H3 vs' rs' → (∀ b x, b ≠ rr → H2 b = some x → H3 b = some x) → R H3) :
    ∀ T1, H2 T1 = none → 2 ≤ sizeLine ∧ ∀ T2, upd H2 T1 (.tup [.int q]) T2 = none → ∃ xs, (upd (upd H2 T1 (.tup [.int q])) T2 (.tup [.int e, .ref T1])) rr = some (.lst xs) ∧ xs.length < sizeLine ∧
      R (upd (upd (upd H2 T1 (.tup [.int q])) T2 (.tup [.int e, .ref T1])) rr (.lst (xs ++ [.ref T2]))) := by
  refine fun T1 hT1 => ⟨szle (m := 2) (Nat.le_refl _), fun T2 hT2 => ?_⟩
  have g1 := h.fresh (o := .tup [V.int q]) hT1
  have g2 := g1.fresh (o := .tup [.int e, .ref T1]) hT2
  refine ⟨vs, g2.list, ?_, hq _ (vs ++ [.ref T2]) (rs ++ [(e, [q])]) ?_ fun b x nb hb => ?_⟩
  · have := pr_len h.pr
    rw [this, h.len]
    exact szlt (m := 1000) (by omega)
  · have t1 : (upd (upd H2 T1 (.tup [V.int q])) T2 (.tup [.int e, .ref T1])) T1 = some (.tup [V.int q]) := same_upd hT2 _ _ upd_same
    have t2 : (upd (upd H2 T1 (.tup [V.int q])) T2 (.tup [.int e, .ref T1])) T2 = some (.tup [.int e, .ref T1]) := upd_same
    have k : TK (upd (upd H2 T1 (.tup [V.int q])) T2 (.tup [.int e, .ref T1])) (upd (upd (upd H2 T1 (.tup [V.int q])) T2 (.tup [.int e, .ref T1])) rr (.lst (vs ++ [.ref T2]))) :=
      tk_upd (fun _ => by rw [g2.list]; nofun) (fun _ _ => by rw [g2.list]; nofun)
    refine ⟨fun b x hb => ?_, ?_, upd_same, pr_snoc (pr_mono g2.pr fun _ _ r => r.mono k) ⟨T2, T1, rfl, k.sqT (.inl (.inl t2)), k.sqT (.inl (.inl t1))⟩, by rw [List.length_append, h.len]; rfl, ?_⟩
    · intro hx
      rw [upd_ne (ne_of_none hx hz)]
      exact g2.but b x hb hx
    · obtain ⟨js, e⟩ := g2.pool
      exact ⟨js, by rw [upd_ne hlr]; exact e⟩
    · intro r hr
      rcases List.mem_append.mp hr with hr | hr
      · exact h.ok r hr
      · obtain rfl := List.mem_singleton.mp hr
        refine ⟨he, by rw [hlen]; rfl, fun q' hq' => ?_⟩
        obtain rfl := List.mem_singleton.mp hq'
        exact hb
  · rw [upd_ne nb]
    exact same_upd hT2 _ _ (same_upd hT1 _ _ hb)
def DlE (K : PySem.W.Frag) (H : Hp) (l rr : Addr) (z : Str) (m c : Int) (p : Nat) (A : Addr) (i : Nat) (H' : Hp) : Prop :=
  ∃ vs rs, ∃ acc : List Int, DlH K H l rr z m p H' vs rs ∧ H' A = some (.lst (acc.map V.int)) ∧ acc.length = i ∧ ∀ q ∈ acc, 0 ≤ q ∧ q < c
theorem dl_stepE {H H2 : Hp} {l rr A : Addr} {z : Str} {m c : Int} {p i : Nat} {acc : List Int} {vs : List V} {rs : List LRow} (h : DlH K H l rr z m p H2 vs rs) (hA : H2 A = some (.lst (acc.map V.int))) (hlen : acc.length = i) (hb : ∀ q ∈ acc, 0 ≤ q ∧ q < c) (h1 : l ≠ A) (h2 : rr ≠ A) (h0 : H A = none) (hi : i < 1000) {y : Int} (hy : 0 ≤ y ∧ y < c) :
    ∃ a, H2 A = some (.lst a) ∧ a.length < sizeLine ∧ DlE K H l rr z m c p A (i + 1) (upd H2 A (.lst (a ++ [.int y]))) := by
  refine ⟨_, hA, by rw [List.length_map, hlen]; exact szlt (m := 1000) (by omega), vs, rs, acc ++ [y], h.put h0 h1 h2 (fun _ => by rw [hA]; nofun) (fun _ _ => by rw [hA]; nofun), by rw [upd_same, List.map_append]; rfl, by rw [List.length_append, hlen]; rfl, fun q hq => ?_⟩
  rcases List.mem_append.mp hq with hq | hq
  · exact hb q hq
  · obtain rfl := List.mem_singleton.mp hq
    exact hy
/-! each state twice, told the other way about -/
def phi (N k : Int) : Int := (if k = 0 then 0 else 2 * N - k) % N
theorem phi_in {N k : Int} (hN : 0 < N) : 0 ≤ phi N k ∧ phi N k < N := ⟨Int.emod_nonneg _ (by omega), Int.emod_lt_of_pos _ hN⟩
theorem phi_copy {N q d : Int} (h0 : 0 ≤ q) (h1 : q < N) (hd : d = 0 ∨ d = 1) : phi N (if q + N * d = 0 then 0 else 2 * N - 1 + 1 - (q + N * d)) = q ∧ 0 ≤ (if q + N * d = 0 then 0 else 2 * N - 1 + 1 - (q + N * d)) ∧ (if q + N * d = 0 then 0 else 2 * N - 1 + 1 - (q + N * d)) < 2 * N := by
  unfold phi
  rcases hd with rfl | rfl
  · rw [Int.mul_zero, Int.add_zero]
    by_cases c : q = 0
    · subst c
      simp
      omega
    · rw [if_neg c, if_neg (show ¬ (2 * N - 1 + 1 - q = 0) by omega)]
      refine ⟨?_, by omega, by omega⟩
      rw [show 2 * N - (2 * N - 1 + 1 - q) = q by omega]
      exact Int.emod_eq_of_lt h0 h1
  · rw [Int.mul_one]
    have c : ¬ (q + N = 0) := by omega
    rw [if_neg c, if_neg (show ¬ (2 * N - 1 + 1 - (q + N) = 0) by omega)]
    refine ⟨?_, by omega, by omega⟩
    rw [show 2 * N - (2 * N - 1 + 1 - (q + N)) = q + N by omega, Int.add_emod_right]
    exact Int.emod_eq_of_lt h0 h1
def TwinRow (n : Nat) (rs : List LRow) (j : Nat) (r : LRow) : Prop := r.1 = endAt rs (phi rs.length j) ∧ ∀ x, x < n → ∃ t, r.2[x]? = some t ∧ phi rs.length t = nxt rs (phi rs.length j) x
theorem twin_lang {n : Nat} {rs rs2 : List LRow} (ok : RowsOk n rs) (ok2 : RowsOk n rs2) (h : ∀ j r, rs2[j]? = some r → TwinRow n rs j r) : lang rs2 0 = lang rs 0 := by
  have hN : (0 : Int) < rs.length := by have := ok.pos; omega
  have key : ∀ (w : List Nat) (k : Int), InSt rs2 k → lang rs2 k w = lang rs (phi rs.length k) w := by
    intro w
    induction w with
    | nil =>
      intro k hk
      have hr := (h _ _ (rowOf_get hk)).1
      rw [(in_nat hk).1] at hr
      exact hr
    | cons x w ih =>
      intro k hk
      show lang rs2 (nxt rs2 k x) w = lang rs (nxt rs (phi rs.length k) x) w
      have hp : InSt rs (phi rs.length k) := phi_in hN
      by_cases hx : x < n
      · obtain ⟨t, ht, hp2⟩ := (h _ _ (rowOf_get hk)).2 x hx
        rw [nxt_get ok2 hk hx] at ht
        obtain rfl := Option.some.inj ht
        rw [(in_nat hk).1] at hp2
        rw [ih _ (nxt_in ok2 hk hx), hp2]
      · rw [nxt_far ok2 hk hx, nxt_far ok hp hx, ih 0 (in_zero ok2)]
        have e : phi rs.length 0 = 0 := by unfold phi; simp
        rw [e]
  have h0 := funext fun w => key w 0 (in_zero ok2)
  have e : phi rs.length 0 = 0 := by unfold phi; simp
  rw [e] at h0
  exact h0

/-- the law's variables, the first n of them set -/
def st (l : List (Option V)) : L2.St := l ++ List.replicate (20 - l.length) none
def LwA (a : Addr) (σ : L2.St) (H' : Hp) : Prop := ∃ l, PoolL H' l ∧ σ = st [some (.ref a), some (.ref l)]
def LwB (a : Addr) (σ : L2.St) (H' : Hp) : Prop := ∃ (l : Addr) (z : Str), PoolL H' l ∧ SignsOk z ∧ (∀ c ∈ z.cps.toList, c ≠ 36) ∧ σ = st [some (.ref a), some (.ref l), some (.str z)]
def H0 : Hp := fun _ => none
def LwC (K : PySem.W.Frag) (a : Addr) (σ : L2.St) (H' : Hp) : Prop := ∃ (l rr : Addr) (z : Str) (m : Int), SignsOk z ∧ (∀ c ∈ z.cps.toList, c ≠ 36) ∧ l ≠ rr ∧ DlH K H0 l rr z m 0 H' [] [] ∧ σ = st [some (.ref a), some (.ref l), some (.str z), some (.ref rr)]
def LwD (K : PySem.W.Frag) (a : Addr) (σ : L2.St) (H' : Hp) : Prop := ∃ (l rr : Addr) (z : Str) (m : Int), SignsOk z ∧ (∀ c ∈ z.cps.toList, c ≠ 36) ∧ l ≠ rr ∧ 1 ≤ m ∧ m ≤ 9 ∧ DlH K H0 l rr z m 0 H' [] [] ∧ σ = st [some (.ref a), some (.ref l), some (.str z), some (.ref rr), some (.int m)]
def LwE (K : PySem.W.Frag) (a : Addr) (l rr : Addr) (z : Str) (m : Int) (p : Nat) (σ : L2.St) (H' : Hp) : Prop := ∃ vs rs x5, DlH K H0 l rr z m p H' vs rs ∧ σ = st [some (.ref a), some (.ref l), some (.str z), some (.ref rr), some (.int m), x5]
def LwF (K : PySem.W.Frag) (a : Addr) (σ : L2.St) (H' : Hp) : Prop := ∃ (l rr : Addr) (z : Str) (m : Int) (vs : List V) (rs : List LRow) (v : V) (x5 : Option V), SignsOk z ∧ (∀ c ∈ z.cps.toList, c ≠ 36) ∧ l ≠ rr ∧ PoolL H' l ∧ H' rr = some (.lst vs) ∧ Paired (RSt K H') vs rs ∧ RowsOk z.length rs ∧ rs.length ≤ 9 ∧ RLk K H' v z rs ∧ σ = st [some (.ref a), some (.ref l), some (.str z), some (.ref rr), some (.int m), x5, some v]
def LwG (K : PySem.W.Frag) (a : Addr) (σ : L2.St) (H' : Hp) : Prop := ∃ (l rr : Addr) (z : Str) (m : Int) (vs : List V) (rs : List LRow) (v v2 : V) (x5 : Option V), SignsOk z ∧ (∀ c ∈ z.cps.toList, c ≠ 36) ∧ l ≠ rr ∧ PoolL H' l ∧ H' rr = some (.lst vs) ∧ Paired (RSt K H') vs rs ∧ RowsOk z.length rs ∧ rs.length ≤ 9 ∧ RLk K H' v z rs ∧ RLk K H' v2 z (flip rs) ∧ σ = st [some (.ref a), some (.ref l), some (.str z), some (.ref rr), some (.int m), x5, some v, some v2]
/-- what stands once both lookers are drawn -/
structure Bx (K : PySem.W.Frag) (H' : Hp) (l rr : Addr) (z : Str) (m : Int) (vs : List V) (rs : List LRow) (v v2 : V) : Prop where
  hz : SignsOk z
  h36 : ∀ c ∈ z.cps.toList, c ≠ 36
  hlr : l ≠ rr
  pool : PoolL H' l
  list : H' rr = some (.lst vs)
  pr : Paired (RSt K H') vs rs
  ok : RowsOk z.length rs
  h9 : rs.length ≤ 9
  one : RLk K H' v z rs
  two : RLk K H' v2 z (Sg.flip rs)
theorem Bx.draw {H H' : Hp} {l rr : Addr} {z : Str} {m : Int} {vs : List V} {rs : List LRow} {v v2 : V} (B : Bx K H l rr z m vs rs v v2) (b : But l H H') (p : PoolL H' l) : Bx K H' l rr z m vs rs v v2 := by
  obtain ⟨js, e⟩ := B.pool
  have k := TK.of_but b e
  exact ⟨B.hz, B.h36, B.hlr, p, b rr _ (Ne.symm B.hlr) B.list, pr_mono B.pr fun _ _ q => q.mono k, B.ok, B.h9, B.one.mono k, B.two.mono k⟩
theorem Bx.same {H H' : Hp} {l rr : Addr} {z : Str} {m : Int} {vs : List V} {rs : List LRow} {v v2 : V} (B : Bx K H l rr z m vs rs v v2) (s : Same H H') : Bx K H' l rr z m vs rs v v2 := by
  obtain ⟨js, e⟩ := B.pool
  exact B.draw (But.of_same s) ⟨js, s _ _ e⟩
def LwH (K : PySem.W.Frag) (a l rr : Addr) (z : Str) (m : Int) (vs : List V) (rs : List LRow) (v v2 : V) (x5 : Option V) (σ : L2.St) (H' : Hp) : Prop := ∃ n : Nat, n ≤ 200 ∧ Bx K H' l rr z m vs rs v v2 ∧ σ = st [some (.ref a), some (.ref l), some (.str z), some (.ref rr), some (.int m), x5, some v, some v2, some (.int (n : Int))]
def LwI (K : PySem.W.Frag) (a l rr : Addr) (z : Str) (m : Int) (vs : List V) (rs : List LRow) (v v2 : V) (x5 : Option V) (n : Nat) (σ : L2.St) (H' : Hp) : Prop := Bx K H' l rr z m vs rs v v2 ∧ σ = st [some (.ref a), some (.ref l), some (.str z), some (.ref rr), some (.int m), x5, some v, some v2, some (.int (n : Int)), some (.int (cntAt z.length rs n 0))]
def lst9 (a l rr : Addr) (z : Str) (m : Int) (rs : List LRow) (v v2 : V) (x5 : Option V) (n : Nat) : List (Option V) := [some (.ref a), some (.ref l), some (.str z), some (.ref rr), some (.int m), x5, some v, some v2, some (.int (n : Int)), some (.int (cntAt z.length rs n 0))]
def LwJ (K : PySem.W.Frag) (a l rr : Addr) (z : Str) (m : Int) (vs : List V) (rs : List LRow) (v v2 : V) (x5 : Option V) (n k : Nat) (σ : L2.St) (H' : Hp) : Prop := ∃ x11, Bx K H' l rr z m vs rs v v2 ∧ σ = st (lst9 a l rr z m rs v v2 x5 n ++ [some (.int ((z.length : Int) ^ k)), x11])
def LwK (K : PySem.W.Frag) (a l rr : Addr) (z : Str) (m : Int) (vs : List V) (rs : List LRow) (v v2 : V) (x5 : Option V) (n : Nat) (σ : L2.St) (H' : Hp) : Prop := ∃ x11 x12, Bx K H' l rr z m vs rs v v2 ∧ σ = st (lst9 a l rr z m rs v v2 x5 n ++ [some (.int ((z.length : Int) ^ n)), x11, x12])
def LwL (K : PySem.W.Frag) (a l rr : Addr) (z : Str) (m : Int) (vs : List V) (rs : List LRow) (v v2 : V) (x5 : Option V) (n : Nat) (σ : L2.St) (H' : Hp) : Prop := ∃ x11 x12 fw, H' fw = some (.lst (((lvl z 2).map (endB z rs)).map V.int)) ∧ fw ≠ l ∧ Bx K H' l rr z m vs rs v v2 ∧ σ = st (lst9 a l rr z m rs v v2 x5 n ++ [some (.int ((z.length : Int) ^ n)), x11, x12, none, some (.ref fw)])
def LwM (K : PySem.W.Frag) (a l rr : Addr) (z : Str) (m : Int) (vs : List V) (rs : List LRow) (v v2 : V) (x5 : Option V) (n : Nat) (σ : L2.St) (H' : Hp) : Prop := ∃ x11 x12 x14, ∃ t : Str, txB z t = true ∧ 1 ≤ t.length ∧ t.length ≤ 29 ∧ Bx K H' l rr z m vs rs v v2 ∧ σ = st (lst9 a l rr z m rs v v2 x5 n ++ [some (.int ((z.length : Int) ^ n)), x11, x12, none, x14, some (.str t)])
def LwN (K : PySem.W.Frag) (a l rr : Addr) (z : Str) (m : Int) (vs : List V) (rs : List LRow) (v v2 : V) (x5 : Option V) (n : Nat) (σ : L2.St) (H' : Hp) : Prop := ∃ x11 x12 x14, ∃ t ln : Str, txB z t = true ∧ t.length ≤ 29 ∧ txB z ln = true ∧ ln.length ≤ 290 ∧ Bx K H' l rr z m vs rs v v2 ∧ σ = st (lst9 a l rr z m rs v v2 x5 n ++ [some (.int ((z.length : Int) ^ n)), x11, x12, some (.str ln), x14, some (.str t)])
theorem txB_mem {z t : Str} (h : ∀ c ∈ t.cps.toList, c ∈ z.cps.toList) : txB z t = true := List.all_eq_true.mpr fun c hc => decide_eq_true (h c hc)
theorem txB_of {z t : Str} (h : txB z t = true) : ∀ c ∈ t.cps.toList, c ∈ z.cps.toList := fun c hc => of_decide_eq_true (List.all_eq_true.mp h c hc)
theorem app_cps (s t : Str) : (s ++ t).cps.toList = s.cps.toList ++ t.cps.toList := by
  show (s.cps ++ t.cps).toList = _
  exact Array.toList_append
theorem txB_app {z s t : Str} (hs : txB z s = true) (ht : txB z t = true) : txB z (s ++ t) = true := txB_mem fun c hc => by
  rw [app_cps] at hc
  rcases List.mem_append.mp hc with h | h
  · exact txB_of hs c h
  · exact txB_of ht c h
theorem app_len (s t : Str) : (s ++ t).length = s.length + t.length := by
  show (s.cps ++ t.cps).size = _
  exact Array.size_append
theorem cutS_sub (z : Str) (lo hi : Option Int) : ∀ c ∈ (cutS z lo hi).cps.toList, c ∈ z.cps.toList := by
  intro c hc
  unfold cutS at hc
  simp only [Array.toList_extract, List.extract_eq_take_drop] at hc
  exact List.mem_of_mem_drop (List.mem_of_mem_take hc)
theorem few_cut {z : Str} (hz : SignsOk z) : cutV ((lns z 2).map V.str) (some (1 + (z.length : Int))) none = (lvl z 2).map V.str := by
  have h1 := lvl_len z 1
  have h2 := lvl_len z 2
  rw [Nat.pow_one] at h1
  have e : lns z 2 = ([Str.ofString ""] ++ lvl z 1) ++ lvl z 2 := rfl
  have h5 := hz.top
  have hl : ((lns z 2).map V.str).length = 1 + z.length + (lvl z 2).length := by
    rw [List.length_map, e, List.length_append, List.length_append, h1]
    rfl
  unfold cutV
  have s1 : HT.sIx ((lns z 2).map V.str).length 0 (some (1 + (z.length : Int))) = 1 + z.length := by
    rw [hl]
    unfold HT.sIx
    show (if (1 + (z.length : Int)) < 0 then _ else _) = _
    rw [if_neg (by omega)]
    show min (1 + (z.length : Int)).toNat (1 + z.length + (lvl z 2).length) = _
    omega
  have s2 : HT.sIx ((lns z 2).map V.str).length ((lns z 2).map V.str).length none = ((lns z 2).map V.str).length := rfl
  rw [s1, s2, hl, e, List.map_append, List.drop_left' (by rw [List.length_map, List.length_append, h1]; rfl)]
  exact List.take_of_length_le (by rw [List.length_map]; omega)
def spLaw (K : PySem.W.Frag) : Sp := fun vs H Q _ => ∃ (a : Addr) (ns : List Int), vs = [.ref a] ∧ SqL K H a (ns.map V.int) ∧ ∀ H', Q (.bl true) H'
theorem fn_law (T : Tx K mg) {fd : FuncData} (F : FnP K "law" (topS 40) (He.ga K "law") fd) : FnOk P w K mg base L2.CX0 7 (He.ga K "law") fd ["script"] (spLaw K) := by
  have D__law_pool := ok__law_pool (P := P) (w := w) (base := base) T
  have D__law_signs := ok__law_signs (P := P) (w := w) (base := base) T
  have D__law_draw := ok__law_draw (P := P) (w := w) (base := base) T
  have D__law_counted := ok__law_counted (P := P) (w := w) (base := base) T
  have D_count_taken := ok_count_taken (P := P) (w := w) (base := base) T
  have D_least := ok_least (P := P) (w := w) (base := base) T
  have D__law_lines := ok__law_lines (P := P) (w := w) (base := base) T
  have D_takes := ok_takes (P := P) (w := w) (base := base) T
  have D__law_line := ok__law_line (P := P) (w := w) (base := base) T
  have D__law_walked := ok__law_walked (P := P) (w := w) (base := base) T
  have D__law_refused := ok__law_refused (P := P) (w := w) (base := base) T
  have D__law_same := ok__law_same (P := P) (w := w) (base := base) T
  have DK_count_taken := okK_count_taken (P := P) (w := w) (base := base) T
  refine F.ok sc_law (fun vs H Q E h => ?_) (fun cdv A outer s H vs Q E hr h => ?_)
  · obtain ⟨a, ns, rfl, _⟩ := h
    rfl
  · obtain ⟨a, ns, rfl, ha, q⟩ := h
    refine ⟨_, PSs.nox (pss_cons (ps_set (i := 1) sc_law.nd rfl (.inr rfl) (pe_callR D__law_pool (hr.mono (by decide)) takes0 (pa_cons (pv 0) pa_nil)))
      (pss_cons (ps_set (i := 2) sc_law.nd rfl (.inl rfl) (pe_callR D__law_signs (hr.mono (by decide)) takes0 (pa_cons (pv 1) (pa_cons (pe_op op_add pe_int (pe_callR D__law_draw (hr.mono (by decide)) takes0 (pa_cons (pv 1) (pa_cons pe_int pa_nil)))) pa_nil))))
      (pss_cons (ps_set (i := 3) sc_law.nd rfl (.inl rfl) (pe_lst pa_nil))
      (pss_cons (ps_set (i := 4) sc_law.nd rfl (.inr rfl) (pe_op op_add pe_int (pe_callR D__law_draw (hr.mono (by decide)) takes0 (pa_cons (pv 1) (pa_cons pe_int pa_nil)))))
      (pss_cons (ps_for PassesOwn.never rfl (pi_range1 (by rfl) T.f_range (pa_cons (pv 4) pa_nil)) (pg_name (i := 5) sc_law.nd rfl (.inl rfl)) (pss_one (ps_expr (pe_bm PySem.F.plainAttrs_list PySem.F.slot_list_append PySem.F.type_list_append mt_appQ (pv 3) (pa_cons (pe_tup (pa_cons (pe_callTy call_int1Q (by rfl) T.f_int PyProof.Rows.boot_int (pa_cons (pe_cmpR op_eq (pe_callR D__law_draw (hr.mono (by decide)) takes0 (pa_cons (pv 1) (pa_cons pe_int pa_nil))) pe_int (nomark _)) pa_nil)) (pa_cons (pe_callTy call_tupQ (by rfl) T.f_tuple PyProof.Rows.boot_tuple (pa_cons (pe_lc (own := [("sign", 19)]) rfl sc_law.nd (pi_str (pv 2)) (blkOk_by (own := [("sign", 19)]) (N := ["script", "pool", "signs", "rows", "many", "p", "looker", "other", "number", "due", "whole", "k", "told", "line", "few", "part", "at", "end", "row", "sign"]) (sc := defScope (topS 40)) (by decide +kernel)) (fun _ _ _ _ _ => (pg_name (i := 19) sc_law.nd rfl (.inl rfl))) (fun _ _ _ _ _ => pts_nil) (fun _ _ _ _ _ => (pe_callR D__law_draw (hr.mono (by decide)) takes0 (pa_cons (pv 1) (pa_cons (pv 4) pa_nil))))) pa_nil)) pa_nil))) pa_nil)))))
      (pss_cons (ps_set (i := 6) sc_law.nd rfl (.inr rfl) (pe_tup (pa_cons (pv 2) (pa_cons (pe_callTy call_tupQ (by rfl) T.f_tuple PyProof.Rows.boot_tuple (pa_cons (pv 3) pa_nil)) pa_nil))))
      (pss_cons (ps_set (i := 7) sc_law.nd rfl (.inl rfl) (pe_tup (pa_cons (pv 2) (pa_cons (pe_callTy call_tupQ (by rfl) T.f_tuple PyProof.Rows.boot_tuple (pa_cons (pe_lc (own := [("end", 17), ("row", 18)]) rfl sc_law.nd (pi_list (pv 3)) (blkOk_by (own := [("end", 17), ("row", 18)]) (N := ["script", "pool", "signs", "rows", "many", "p", "looker", "other", "number", "due", "whole", "k", "told", "line", "few", "part", "at", "end", "row", "sign"]) (sc := defScope (topS 40)) (by decide +kernel)) (fun _ _ _ _ _ => (show PG _ _ (gTup K 2 _) by exact pg_tup (by rfl) (pgs_cons (pg_name (i := 17) sc_law.nd rfl (.inl rfl)) (pgs_cons (pg_name (i := 18) sc_law.nd rfl (.inl rfl)) pgs_nil)))) (fun _ _ _ _ _ => pts_nil) (fun _ _ _ _ _ => (pe_tup (pa_cons (pe_op op_sub pe_int (pv 17)) (pa_cons (pv 18) pa_nil))))) pa_nil)) pa_nil))))
      (pss_cons (ps_set (i := 8) sc_law.nd rfl (.inl rfl) (pe_ifExp (pt_cmpR op_eq (pe_callR D__law_draw (hr.mono (by decide)) takes0 (pa_cons (pv 1) (pa_cons pe_int pa_nil))) pe_int (nomark _)) pe_int (pe_callR D__law_draw (hr.mono (by decide)) takes0 (pa_cons (pv 1) (pa_cons pe_int pa_nil)))))
      (pss_cons (ps_set (i := 9) sc_law.nd rfl (.inl rfl) (pe_callR D__law_counted (hr.mono (by decide)) takes0 (pa_cons (pv 3) (pa_cons (pv 8) pa_nil))))
      (pss_cons (ps_set (i := 10) sc_law.nd rfl (.inl rfl) pe_int)
      (pss_cons (ps_for PassesOwn.never rfl (pi_range1 (by rfl) T.f_range (pa_cons (pv 8) pa_nil)) (pg_name (i := 11) sc_law.nd rfl (.inl rfl)) (pss_one (ps_set (i := 10) sc_law.nd rfl (.inl rfl) (pe_op op_mul (pv 10) (pe_callB call_lenQ (by rfl) T.f_len PySem.boot_len (pa_cons (pv 2) pa_nil))))))
      (pss_cons (ps_for PassesOwn.never rfl (pi_tup (pe_tup (pa_cons (pe_callRK0 DK_count_taken (hr.mono (by decide)) takes0 (pk_cons (pv 8) (pk_cons (pv 6) pk_nil))) (pa_cons (pe_callR D_count_taken (hr.mono (by decide)) takes0 (pa_cons (pe_callR D_least (hr.mono (by decide)) takes0 (pa_cons (pv 6) pa_nil)) (pa_cons (pv 8) pa_nil))) pa_nil)))) (pg_name (i := 12) sc_law.nd rfl (.inl rfl)) (pss_one (ps_if (pt_not (pt_val (pe_callR D__law_same (hr.mono (by decide)) takes0 (pa_cons (pv 12) (pa_cons (pv 9) pa_nil))))) (pss_one (ps_ret pe_bl)) pss_nil)))
      (pss_cons (ps_if (pt_not (pt_val (pe_callR D__law_same (hr.mono (by decide)) takes0 (pa_cons (pe_callR D_count_taken (hr.mono (by decide)) takes0 (pa_cons (pv 7) (pa_cons (pv 8) pa_nil))) (pa_cons (pe_op op_sub (pv 10) (pv 9)) pa_nil))))) (pss_one (ps_ret pe_bl)) pss_nil)
      (pss_cons (ps_setLc (i := 14) (own := [("line", 13)]) rfl sc_law.nd rfl rfl (sw_true rfl rfl rfl (by decide +kernel)) (pi_list (pe_slice sl_list (pe_callR D__law_lines (hr.mono (by decide)) takes0 (pa_cons (pv 2) (pa_cons pe_int pa_nil))) (po_some (pe_op op_add pe_int (pe_callB call_lenQ (by rfl) T.f_len PySem.boot_len (pa_cons (pv 2) pa_nil)))) po_none)) (blkOk_by (own := [("line", 13)]) (N := ["script", "pool", "signs", "rows", "many", "p", "looker", "other", "number", "due", "whole", "k", "told", "line", "few", "part", "at", "end", "row", "sign"]) (sc := defScope (topS 40)) (by decide +kernel)) (fun _ _ _ _ _ => (pg_name (i := 13) sc_law.nd rfl (.inl rfl))) (fun _ _ _ _ _ => pts_nil) (fun _ _ _ _ _ => (pe_callR D_takes (hr.mono (by decide)) takes0 (pa_cons (pv 6) (pa_cons (pv 13) pa_nil)))))
      (pss_cons (ps_if (PW.pt (pw_or (pt_not (pt_val (pe_callR D__law_same (hr.mono (by decide)) takes0 (pa_cons (pe_callR D_count_taken (hr.mono (by decide)) takes0 (pa_cons (pv 6) (pa_cons pe_int pa_nil))) (pa_cons (pe_callB (show CallR _ (.builtin "sum") (rSum K) by exact cr_sum rfl) (by rfl) T.f_sum (by decide +kernel) (pa_cons (pv 14) pa_nil)) pa_nil))))) (pw_or1 (pt_not (pt_val (pe_callR D__law_same (hr.mono (by decide)) takes0 (pa_cons (pe_callR D_count_taken (hr.mono (by decide)) takes0 (pa_cons (pv 6) (pa_cons pe_int pa_nil))) (pa_cons (pe_ix ix_tupQ (pe_ix ix_listQ (pv 3) pe_int (fun _ _ => rfl)) pe_int (fun _ _ => rfl)) pa_nil)))))))) (pss_one (ps_ret pe_bl)) pss_nil)
      (pss_cons (ps_set (i := 15) sc_law.nd rfl (.inl rfl) (pe_op op_add_str (pe_callR D__law_line (hr.mono (by decide)) takes0 (pa_cons (pv 1) (pa_cons (pv 2) (pa_cons pe_int pa_nil)))) (pv 2)))
      (pss_cons (ps_set (i := 13) sc_law.nd rfl (.inl rfl) (pe_slice sl_str (pe_op op_mulS (pv 15) pe_int) po_none (po_some (pe_callR D__law_draw (hr.mono (by decide)) takes0 (pa_cons (pv 1) (pa_cons pe_int pa_nil))))))
      (pss_cons (ps_for PassesOwn.never rfl (pi_tup (pe_tup (pa_cons (pv 13) (pa_cons (pe_slice sl_str (pv 13) po_none (po_some pe_int)) (pa_cons (pe_revS (pv 13)) (pa_cons (pv 15) pa_nil)))))) (pg_name (i := 12) sc_law.nd rfl (.inl rfl)) (pss_one (ps_if (pt_not (pt_val (pe_callR D__law_same (hr.mono (by decide)) takes0 (pa_cons (pe_callR D_takes (hr.mono (by decide)) takes0 (pa_cons (pv 6) (pa_cons (pv 12) pa_nil))) (pa_cons (pe_callR D__law_walked (hr.mono (by decide)) takes0 (pa_cons (pv 6) (pa_cons (pv 12) pa_nil))) pa_nil))))) (pss_one (ps_ret pe_bl)) pss_nil)))
      (pss_cons (ps_if (PW.pt (pw_or (pt_not (pt_val (pe_callR D__law_refused (hr.mono (by decide)) takes0 (pa_cons (pv 6) (pa_cons (pe_un un_neg pe_int) (pa_cons pe_non pa_nil)))))) (pw_or1 (pt_not (pt_val (pe_callR D__law_refused (hr.mono (by decide)) takes0 (pa_cons (pv 6) (pa_cons pe_int (pa_cons pe_non pa_nil))))))))) (pss_one (ps_ret pe_bl)) pss_nil)
      (pss_cons (ps_set (i := 16) sc_law.nd rfl (.inl rfl) (pe_callR D__law_draw (hr.mono (by decide)) takes0 (pa_cons (pv 1) (pa_cons (pe_op op_add (pe_callB call_lenQ (by rfl) T.f_len PySem.boot_len (pa_cons (pv 13) pa_nil)) pe_int) pa_nil))))
      (pss_one (ps_ret (pe_callR D__law_refused (hr.mono (by decide)) takes0 (pa_cons (pv 6) (pa_cons pe_int (pa_cons (pe_op op_add_str (pe_op op_add_str (pe_slice sl_str (pv 13) po_none (po_some (pv 16))) pe_str) (pe_slice sl_str (pv 13) (po_some (pv 16)) po_none)) pa_nil)))))))))))))))))))))))))), ?_⟩
    refine seq_with (LwA a) (fun N tail => ?_) ?_
    · simp only [st, lst9, List.append_assoc, cxOf, tYes, eq_self, if_true, if_false, wipe, rLenQ, rIxTQ, rIxLQ, rIxSQ, rInt1Q, rTupQ, rAppQ, rPopQ, rPopAtQ, rRevQ, rListS, rReprP, tLenSetT, tChain, tRetN, tRet, tSeq, tAsg, gName, tVar, tC, tCons, tNil, tCB, tOp, rI0, rI, tAndV, tOrV, tNotV, tIf, tTest, tB, tNot, tAnd, tOr, tIfS, tNext, tCallR, rIsK, rEq, rNe, tDrop, L2.start, List.map_cons, List.map_nil, List.length_cons, List.length_nil, Nat.reduceAdd, Nat.reduceSub, Nat.sub_self, List.replicate_zero, List.replicate_succ, List.append_nil, List.cons_append, List.nil_append, List.getElem?_cons_zero, List.getElem?_cons_succ, List.set_cons_zero, List.set_cons_succ, Option.some.injEq, List.cons.injEq, and_true, true_and, exists_eq_left, exists_eq_left', exists_eq_right, V.ty.injEq, V.int.injEq, V.bl.injEq, V.str.injEq, V.ref.injEq, exists_and_left, exists_const, reduceIte, reduceCtorEq, false_and, and_false, exists_false, or_false, false_or, Bool.not_true, Bool.not_false, Bool.false_eq_true, String.reduceEq, true_or, or_true, rNotT, tNNew, tNNotIn, tNGet, sNPut, tLenSetN, tPar, tAug, ipI, tDNotIn, sDPut, tDGet, tTup, tLst, tBM, tBM0]
      exact ⟨a, ns, rfl, ha, fun l H1 hl0 s1 p1 => tail _ _ ⟨l, p1, rfl⟩⟩
    rintro σ H1 ⟨l, p1, rfl⟩
    refine seq_with (LwB a) (fun N tail => ?_) ?_
    · simp only [st, lst9, List.append_assoc, cxOf, tYes, eq_self, if_true, if_false, wipe, rLenQ, rIxTQ, rIxLQ, rIxSQ, rInt1Q, rTupQ, rAppQ, rPopQ, rPopAtQ, rRevQ, rListS, rReprP, tLenSetT, tChain, tRetN, tRet, tSeq, tAsg, gName, tVar, tC, tCons, tNil, tCB, tOp, rI0, rI, tAndV, tOrV, tNotV, tIf, tTest, tB, tNot, tAnd, tOr, tIfS, tNext, tCallR, rIsK, rEq, rNe, tDrop, L2.start, List.map_cons, List.map_nil, List.length_cons, List.length_nil, Nat.reduceAdd, Nat.reduceSub, Nat.sub_self, List.replicate_zero, List.replicate_succ, List.append_nil, List.cons_append, List.nil_append, List.getElem?_cons_zero, List.getElem?_cons_succ, List.set_cons_zero, List.set_cons_succ, Option.some.injEq, List.cons.injEq, and_true, true_and, exists_eq_left, exists_eq_left', exists_eq_right, V.ty.injEq, V.int.injEq, V.bl.injEq, V.str.injEq, V.ref.injEq, exists_and_left, exists_const, reduceIte, reduceCtorEq, false_and, and_false, exists_false, or_false, false_or, Bool.not_true, Bool.not_false, Bool.false_eq_true, String.reduceEq, true_or, or_true, rNotT, tNNew, tNNotIn, tNGet, sNPut, tLenSetN, tPar, tAug, ipI, tDNotIn, sDPut, tDGet, tTup, tLst, tBM, tBM0]
      exact ⟨l, 5, rfl, p1, by decide, fun r H2 h0 h1 b2 p2 => ⟨r, rfl, l, _, rfl, p2, by omega, by omega, fun z H3 hz h36 _ b3 p3 => tail _ _ ⟨l, z, p3, hz, h36, rfl⟩⟩⟩
    rintro σ H1 ⟨l, z, p1, hz, h36, rfl⟩
    have hz5 := hz.top
    refine seq_with (LwC K a) (fun N tail => ?_) ?_
    · simp only [st, lst9, List.append_assoc, cxOf, tYes, eq_self, if_true, if_false, wipe, rLenQ, rIxTQ, rIxLQ, rIxSQ, rInt1Q, rTupQ, rAppQ, rPopQ, rPopAtQ, rRevQ, rListS, rReprP, tLenSetT, tChain, tRetN, tRet, tSeq, tAsg, gName, tVar, tC, tCons, tNil, tCB, tOp, rI0, rI, tAndV, tOrV, tNotV, tIf, tTest, tB, tNot, tAnd, tOr, tIfS, tNext, tCallR, rIsK, rEq, rNe, tDrop, L2.start, List.map_cons, List.map_nil, List.length_cons, List.length_nil, Nat.reduceAdd, Nat.reduceSub, Nat.sub_self, List.replicate_zero, List.replicate_succ, List.append_nil, List.cons_append, List.nil_append, List.getElem?_cons_zero, List.getElem?_cons_succ, List.set_cons_zero, List.set_cons_succ, Option.some.injEq, List.cons.injEq, and_true, true_and, exists_eq_left, exists_eq_left', exists_eq_right, V.ty.injEq, V.int.injEq, V.bl.injEq, V.str.injEq, V.ref.injEq, exists_and_left, exists_const, reduceIte, reduceCtorEq, false_and, and_false, exists_false, or_false, false_or, Bool.not_true, Bool.not_false, Bool.false_eq_true, String.reduceEq, true_or, or_true, rNotT, tNNew, tNNotIn, tNGet, sNPut, tLenSetN, tPar, tAug, ipI, tDNotIn, sDPut, tDGet, tTup, tLst, tBM, tBM0]
      refine ⟨Nat.zero_le _, fun rr hr0 => tail _ _ ⟨l, rr, z, 0, hz, h36, ?_, ?_, rfl⟩⟩
      · obtain ⟨js, hp⟩ := p1
        exact ne_of_none hp hr0
      · obtain ⟨js, hp⟩ := p1
        exact ⟨(fun b x _ h => nomatch h), ⟨js, by rw [upd_ne (ne_of_none hp hr0)]; exact hp⟩, upd_same, .nil, rfl, fun r hr => nomatch hr⟩
    rintro σ H1 ⟨l, rr, z, m0, hz, h36, hlr, d, rfl⟩
    refine seq_with (LwD K a) (fun N tail => ?_) ?_
    · simp only [st, lst9, List.append_assoc, cxOf, tYes, eq_self, if_true, if_false, wipe, rLenQ, rIxTQ, rIxLQ, rIxSQ, rInt1Q, rTupQ, rAppQ, rPopQ, rPopAtQ, rRevQ, rListS, rReprP, tLenSetT, tChain, tRetN, tRet, tSeq, tAsg, gName, tVar, tC, tCons, tNil, tCB, tOp, rI0, rI, tAndV, tOrV, tNotV, tIf, tTest, tB, tNot, tAnd, tOr, tIfS, tNext, tCallR, rIsK, rEq, rNe, tDrop, L2.start, List.map_cons, List.map_nil, List.length_cons, List.length_nil, Nat.reduceAdd, Nat.reduceSub, Nat.sub_self, List.replicate_zero, List.replicate_succ, List.append_nil, List.cons_append, List.nil_append, List.getElem?_cons_zero, List.getElem?_cons_succ, List.set_cons_zero, List.set_cons_succ, Option.some.injEq, List.cons.injEq, and_true, true_and, exists_eq_left, exists_eq_left', exists_eq_right, V.ty.injEq, V.int.injEq, V.bl.injEq, V.str.injEq, V.ref.injEq, exists_and_left, exists_const, reduceIte, reduceCtorEq, false_and, and_false, exists_false, or_false, false_or, Bool.not_true, Bool.not_false, Bool.false_eq_true, String.reduceEq, true_or, or_true, rNotT, tNNew, tNNotIn, tNGet, sNPut, tLenSetN, tPar, tAug, ipI, tDNotIn, sDPut, tDGet, tTup, tLst, tBM, tBM0]
      exact ⟨l, 9, rfl, d.pool, by decide, fun r H2 h0 h1 b2 p2 => ⟨r, rfl, tail _ _ ⟨l, rr, z, 1 + r, hz, h36, hlr, by omega, by omega, ⟨(fun b x _ h => nomatch h), p2, b2 rr _ (Ne.symm hlr) d.list, .nil, rfl, fun r hr => nomatch hr⟩, rfl⟩⟩⟩
    rintro σ H1 ⟨l, rr, z, m, hz, h36, hlr, hm1, hm9, d, rfl⟩
    refine seq_with (LwE K a l rr z m m.toNat) (fun N tail => ?_) ?_
    · simp only [st, lst9, List.append_assoc, cxOf, tYes, eq_self, if_true, if_false, wipe, rLenQ, rIxTQ, rIxLQ, rIxSQ, rInt1Q, rTupQ, rAppQ, rPopQ, rPopAtQ, rRevQ, rListS, rReprP, tLenSetT, tChain, tRetN, tRet, tSeq, tAsg, gName, tVar, tC, tCons, tNil, tCB, tOp, rI0, rI, tAndV, tOrV, tNotV, tIf, tTest, tB, tNot, tAnd, tOr, tIfS, tNext, tCallR, rIsK, rEq, rNe, tDrop, L2.start, List.map_cons, List.map_nil, List.length_cons, List.length_nil, Nat.reduceAdd, Nat.reduceSub, Nat.sub_self, List.replicate_zero, List.replicate_succ, List.append_nil, List.cons_append, List.nil_append, List.getElem?_cons_zero, List.getElem?_cons_succ, List.set_cons_zero, List.set_cons_succ, Option.some.injEq, List.cons.injEq, and_true, true_and, exists_eq_left, exists_eq_left', exists_eq_right, V.ty.injEq, V.int.injEq, V.bl.injEq, V.str.injEq, V.ref.injEq, exists_and_left, exists_const, reduceIte, reduceCtorEq, false_and, and_false, exists_false, or_false, false_or, Bool.not_true, Bool.not_false, Bool.false_eq_true, String.reduceEq, true_or, or_true, rNotT, tNNew, tNNotIn, tNGet, sNPut, tLenSetN, tPar, tAug, ipI, tDNotIn, sDPut, tDGet, tTup, tLst, tBM, tBM0]
      refine ⟨.int m, rfl, m, rfl, by omega, by omega, ?_⟩
      refine for_range (LwE K a l rr z m) ⟨[], [], none, d, rfl⟩ ?_ (fun σ H' h => tail _ _ h)
      rintro p σ H2 hp2 ⟨vs, rs, x5, d, rfl⟩
      rw [show (0 : Int) + (p : Int) = (p : Int) by omega]
      simp only [st, lst9, List.append_assoc, cxOf, tYes, eq_self, if_true, if_false, wipe, rLenQ, rIxTQ, rIxLQ, rIxSQ, rInt1Q, rTupQ, rAppQ, rPopQ, rPopAtQ, rRevQ, rListS, rReprP, tLenSetT, tChain, tRetN, tRet, tSeq, tAsg, gName, tVar, tC, tCons, tNil, tCB, tOp, rI0, rI, tAndV, tOrV, tNotV, tIf, tTest, tB, tNot, tAnd, tOr, tIfS, tNext, tCallR, rIsK, rEq, rNe, tDrop, L2.start, List.map_cons, List.map_nil, List.length_cons, List.length_nil, Nat.reduceAdd, Nat.reduceSub, Nat.sub_self, List.replicate_zero, List.replicate_succ, List.append_nil, List.cons_append, List.nil_append, List.getElem?_cons_zero, List.getElem?_cons_succ, List.set_cons_zero, List.set_cons_succ, Option.some.injEq, List.cons.injEq, and_true, true_and, exists_eq_left, exists_eq_left', exists_eq_right, V.ty.injEq, V.int.injEq, V.bl.injEq, V.str.injEq, V.ref.injEq, exists_and_left, exists_const, reduceIte, reduceCtorEq, false_and, and_false, exists_false, or_false, false_or, Bool.not_true, Bool.not_false, Bool.false_eq_true, String.reduceEq, true_or, or_true, rNotT, tNNew, tNNotIn, tNGet, sNPut, tLenSetN, tPar, tAug, ipI, tDNotIn, sDPut, tDGet, tTup, tLst, tBM, tBM0]
      refine ⟨lst_ty d.list, l, 3, rfl, d.pool, by decide, fun r H3 hr0 hr1 b3 p3 => ⟨rfl, ?_⟩⟩
      have d3 := d.draw (Ne.symm hlr) b3 p3
      have hz5 := hz.top
      have size : z.cps.size = z.length := rfl
      refine ⟨.str z, rfl, z, rfl, fun A hA0 => ?_⟩
      have fA := d3.free hA0
      have d4 := d3.fresh (o := .lst []) hA0
      refine lc_gen (n := z.cps.size) (DlL K H0 l rr z m p A) ⟨vs, rs, [], d4, upd_same, rfl, fun q hq => nomatch hq⟩ (fun i H' hi _ => hi) (fun H' _ => Nat.le_refl _) ?_ ?_
      · rintro i x H3 H4 hi ⟨vs, rs, acc, d5, hacc, hlen, hbb⟩ ⟨rfl, c, hc, rfl⟩
        simp only [st, lst9, List.append_assoc, cxOf, tYes, eq_self, if_true, if_false, wipe, rLenQ, rIxTQ, rIxLQ, rIxSQ, rInt1Q, rTupQ, rAppQ, rPopQ, rPopAtQ, rRevQ, rListS, rReprP, tLenSetT, tChain, tRetN, tRet, tSeq, tAsg, gName, tVar, tC, tCons, tNil, tCB, tOp, rI0, rI, tAndV, tOrV, tNotV, tIf, tTest, tB, tNot, tAnd, tOr, tIfS, tNext, tCallR, rIsK, rEq, rNe, tDrop, L2.start, List.map_cons, List.map_nil, List.length_cons, List.length_nil, Nat.reduceAdd, Nat.reduceSub, Nat.sub_self, List.replicate_zero, List.replicate_succ, List.append_nil, List.cons_append, List.nil_append, List.getElem?_cons_zero, List.getElem?_cons_succ, List.set_cons_zero, List.set_cons_succ, Option.some.injEq, List.cons.injEq, and_true, true_and, exists_eq_left, exists_eq_left', exists_eq_right, V.ty.injEq, V.int.injEq, V.bl.injEq, V.str.injEq, V.ref.injEq, exists_and_left, exists_const, reduceIte, reduceCtorEq, false_and, and_false, exists_false, or_false, false_or, Bool.not_true, Bool.not_false, Bool.false_eq_true, String.reduceEq, true_or, or_true, rNotT, tNNew, tNNotIn, tNGet, sNPut, tLenSetN, tPar, tAug, ipI, tDNotIn, sDPut, tDGet, tTup, tLst, tBM, tBM0]
        refine ⟨l, m, rfl, d5.pool, by omega, fun r H6 hr0' hr1 hb6 hp6 => ?_⟩
        exact dl_step (d5.draw (Ne.symm hlr) hb6 hp6) (hb6 A _ (Ne.symm fA.1) hacc) hlen hbb fA.1 fA.2.1 fA.2.2 (by omega) ⟨hr0', hr1⟩
      · rintro H3 ⟨vs, rs, acc, dd, hacc, hlen, hbb⟩
        refine (dl_tail (R := fun H3 => LwE K a l rr z m (p + 1) _ H3) dd hacc (by rw [hlen]; rfl) hbb (by split <;> simp) rfl (by omega) hlr ?_).2
        intro H4 vs' rs' _ d6
        exact ⟨vs', rs', _, d6, rfl⟩
    rintro σ H1 ⟨vs, rs, x5, d, rfl⟩
    refine seq_with (LwF K a) (fun N tail => ?_) ?_
    · simp only [st, lst9, List.append_assoc, cxOf, tYes, eq_self, if_true, if_false, wipe, rLenQ, rIxTQ, rIxLQ, rIxSQ, rInt1Q, rTupQ, rAppQ, rPopQ, rPopAtQ, rRevQ, rListS, rReprP, tLenSetT, tChain, tRetN, tRet, tSeq, tAsg, gName, tVar, tC, tCons, tNil, tCB, tOp, rI0, rI, tAndV, tOrV, tNotV, tIf, tTest, tB, tNot, tAnd, tOr, tIfS, tNext, tCallR, rIsK, rEq, rNe, tDrop, L2.start, List.map_cons, List.map_nil, List.length_cons, List.length_nil, Nat.reduceAdd, Nat.reduceSub, Nat.sub_self, List.replicate_zero, List.replicate_succ, List.append_nil, List.cons_append, List.nil_append, List.getElem?_cons_zero, List.getElem?_cons_succ, List.set_cons_zero, List.set_cons_succ, Option.some.injEq, List.cons.injEq, and_true, true_and, exists_eq_left, exists_eq_left', exists_eq_right, V.ty.injEq, V.int.injEq, V.bl.injEq, V.str.injEq, V.ref.injEq, exists_and_left, exists_const, reduceIte, reduceCtorEq, false_and, and_false, exists_false, or_false, false_or, Bool.not_true, Bool.not_false, Bool.false_eq_true, String.reduceEq, true_or, or_true, rNotT, tNNew, tNNotIn, tNGet, sNPut, tLenSetN, tPar, tAug, ipI, tDNotIn, sDPut, tDGet, tTup, tLst, tBM, tBM0]
      refine ⟨vs, .inl (.inl d.list), fun T1 hT1 => ⟨szle (m := 2) (Nat.le_refl _), fun T2 hT2 => ?_⟩⟩
      have g1 := d.fresh (o := .tup vs) hT1
      have g2 := g1.fresh (o := .tup [.str z, .ref T1]) hT2
      have t1 : (upd (upd H1 T1 (.tup vs)) T2 (.tup [.str z, .ref T1])) T1 = some (.tup vs) := same_upd hT2 _ _ upd_same
      have hl : (rs.length : Int) = m := by rw [d.len]; omega
      exact tail _ _ ⟨l, rr, z, m, vs, rs, _, _, hz, h36, hlr, g2.pool, g2.list, g2.pr, ⟨by omega, by omega, fun r hr => (d.ok r hr).1, fun r hr => (d.ok r hr).2.1, fun r hr q hq => by rw [hl]; exact (d.ok r hr).2.2 q hq⟩, by omega, ⟨T2, T1, rfl, .inl (.inl upd_same), vs, .inl (.inl t1), g2.pr⟩, rfl⟩
    rintro σ H1 ⟨l, rr, z, m, vs, rs, v, x5, hz, h36, hlr, p1, hrr, hpr, ok, h9, hv, rfl⟩
    refine seq_with (LwG K a) (fun N tail => ?_) ?_
    · simp only [st, lst9, List.append_assoc, cxOf, tYes, eq_self, if_true, if_false, wipe, rLenQ, rIxTQ, rIxLQ, rIxSQ, rInt1Q, rTupQ, rAppQ, rPopQ, rPopAtQ, rRevQ, rListS, rReprP, tLenSetT, tChain, tRetN, tRet, tSeq, tAsg, gName, tVar, tC, tCons, tNil, tCB, tOp, rI0, rI, tAndV, tOrV, tNotV, tIf, tTest, tB, tNot, tAnd, tOr, tIfS, tNext, tCallR, rIsK, rEq, rNe, tDrop, L2.start, List.map_cons, List.map_nil, List.length_cons, List.length_nil, Nat.reduceAdd, Nat.reduceSub, Nat.sub_self, List.replicate_zero, List.replicate_succ, List.append_nil, List.cons_append, List.nil_append, List.getElem?_cons_zero, List.getElem?_cons_succ, List.set_cons_zero, List.set_cons_succ, Option.some.injEq, List.cons.injEq, and_true, true_and, exists_eq_left, exists_eq_left', exists_eq_right, V.ty.injEq, V.int.injEq, V.bl.injEq, V.str.injEq, V.ref.injEq, exists_and_left, exists_const, reduceIte, reduceCtorEq, false_and, and_false, exists_false, or_false, false_or, Bool.not_true, Bool.not_false, Bool.false_eq_true, String.reduceEq, true_or, or_true, rNotT, tNNew, tNNotIn, tNGet, sNPut, tLenSetN, tPar, tAug, ipI, tDNotIn, sDPut, tDGet, tTup, tLst, tBM, tBM0]
      have el : vs.length = rs.length := pr_len hpr
      refine ⟨.ref rr, rfl, rr, rfl, ⟨vs, .inl (.inl hrr)⟩, fun D hD => ?_⟩
      refine lc_gen (n := vs.length) (fun i H' => ∃ us, Same H1 H' ∧ H' D = some (.lst us) ∧ Paired (RSt K H') us (flip (rs.take i))) ⟨[], same_upd hD, upd_same, .nil⟩ (fun i H' hi e => ?_) (fun H' e => ?_) ?_ ?_
      · obtain ⟨us, s3, h3, pr3⟩ := e
        exact ⟨vs, vs[i], .inl (.inl (s3 _ _ hrr)), List.getElem?_eq_getElem hi⟩
      · obtain ⟨us, s3, h3, pr3⟩ := e
        exact ⟨vs, .inl (.inl (s3 _ _ hrr)), Nat.le_refl _⟩
      · rintro i x H3 H4 hi ⟨us, s3, h3, pr3⟩ ⟨rfl, hx⟩
        obtain ⟨r, hr, a1, b1, rfl, g3, g4⟩ := pr_get hpr (hx vs (.inl (.inl (s3 _ _ hrr))))
        refine ⟨a1, _, rfl, Same.sqT s3 g3, rfl, ?_⟩
        simp only [st, lst9, List.append_assoc, cxOf, tYes, eq_self, if_true, if_false, wipe, rLenQ, rIxTQ, rIxLQ, rIxSQ, rInt1Q, rTupQ, rAppQ, rPopQ, rPopAtQ, rRevQ, rListS, rReprP, tLenSetT, tChain, tRetN, tRet, tSeq, tAsg, gName, tVar, tC, tCons, tNil, tCB, tOp, rI0, rI, tAndV, tOrV, tNotV, tIf, tTest, tB, tNot, tAnd, tOr, tIfS, tNext, tCallR, rIsK, rEq, rNe, tDrop, L2.start, List.map_cons, List.map_nil, List.length_cons, List.length_nil, Nat.reduceAdd, Nat.reduceSub, Nat.sub_self, List.replicate_zero, List.replicate_succ, List.append_nil, List.cons_append, List.nil_append, List.getElem?_cons_zero, List.getElem?_cons_succ, List.set_cons_zero, List.set_cons_succ, Option.some.injEq, List.cons.injEq, and_true, true_and, exists_eq_left, exists_eq_left', exists_eq_right, V.ty.injEq, V.int.injEq, V.bl.injEq, V.str.injEq, V.ref.injEq, exists_and_left, exists_const, reduceIte, reduceCtorEq, false_and, and_false, exists_false, or_false, false_or, Bool.not_true, Bool.not_false, Bool.false_eq_true, String.reduceEq, true_or, or_true, rNotT, tNNew, tNNotIn, tNGet, sNPut, tLenSetN, tPar, tAug, ipI, tDNotIn, sDPut, tDGet, tTup, tLst, tBM, tBM0]
        have hul : us.length ≤ 9 := by
          rw [pr_len pr3]
          unfold Sg.flip
          rw [List.length_map, List.length_take]
          omega
        refine ⟨_, _, rfl, _, _, rfl, rfl, rfl, _, rfl, _, rfl, _, rfl, szle (m := 2) (Nat.le_refl _), fun p hp => ⟨us, same_upd hp _ _ h3, szlt (m := 100) (by omega), fun b o hb => ?_, _, upd_same, ?_⟩⟩
        · rw [upd_ne (ne_of_none hb hD), upd_ne (ne_of_none (s3 b o hb) hp)]
          exact s3 b o hb
        · have k1 : TK H4 (upd H4 p (.tup [.int (1 - r.1), .ref b1])) := TK.of_same (same_upd hp)
          have k2 : TK (upd H4 p (.tup [.int (1 - r.1), .ref b1])) (upd (upd H4 p (.tup [.int (1 - r.1), .ref b1])) D (.lst (us ++ [.ref p]))) := tk_upd (fun _ => by rw [same_upd hp _ _ h3]; nofun) (fun _ _ => by rw [same_upd hp _ _ h3]; nofun)
          have e : Sg.flip (rs.take (i + 1)) = Sg.flip (rs.take i) ++ [(1 - r.1, r.2)] := by
            unfold Sg.flip
            rw [List.take_add_one, hr, List.map_append]
            rfl
          rw [e]
          have t1 : (upd H4 p (.tup [.int (1 - r.1), .ref b1])) p = some (.tup [.int (1 - r.1), .ref b1]) := upd_same
          exact pr_snoc (pr_mono pr3 fun _ _ q => (q.mono k1).mono k2) ⟨p, b1, rfl, k2.sqT (.inl (.inl t1)), k2.sqT (k1.sqT (Same.sqT s3 g4))⟩
      · rintro H3 ⟨us, s3, h3, pr3⟩
        simp only [st, lst9, List.append_assoc, cxOf, tYes, eq_self, if_true, if_false, wipe, rLenQ, rIxTQ, rIxLQ, rIxSQ, rInt1Q, rTupQ, rAppQ, rPopQ, rPopAtQ, rRevQ, rListS, rReprP, tLenSetT, tChain, tRetN, tRet, tSeq, tAsg, gName, tVar, tC, tCons, tNil, tCB, tOp, rI0, rI, tAndV, tOrV, tNotV, tIf, tTest, tB, tNot, tAnd, tOr, tIfS, tNext, tCallR, rIsK, rEq, rNe, tDrop, L2.start, List.map_cons, List.map_nil, List.length_cons, List.length_nil, Nat.reduceAdd, Nat.reduceSub, Nat.sub_self, List.replicate_zero, List.replicate_succ, List.append_nil, List.cons_append, List.nil_append, List.getElem?_cons_zero, List.getElem?_cons_succ, List.set_cons_zero, List.set_cons_succ, Option.some.injEq, List.cons.injEq, and_true, true_and, exists_eq_left, exists_eq_left', exists_eq_right, V.ty.injEq, V.int.injEq, V.bl.injEq, V.str.injEq, V.ref.injEq, exists_and_left, exists_const, reduceIte, reduceCtorEq, false_and, and_false, exists_false, or_false, false_or, Bool.not_true, Bool.not_false, Bool.false_eq_true, String.reduceEq, true_or, or_true, rNotT, tNNew, tNNotIn, tNGet, sNPut, tLenSetN, tPar, tAug, ipI, tDNotIn, sDPut, tDGet, tTup, tLst, tBM, tBM0]
        rw [el, List.take_length] at pr3
        refine ⟨us, .inl (.inl h3), fun T1 hT1 => ⟨szle (m := 2) (Nat.le_refl _), fun T2 hT2 => ?_⟩⟩
        have s4 := Same.trans (same_upd (o := .tup us) hT1) (same_upd (o := .tup [.str z, .ref T1]) hT2)
        have s5 := Same.trans s3 s4
        have t1 : (upd (upd H3 T1 (.tup us)) T2 (.tup [.str z, .ref T1])) T1 = some (.tup us) := same_upd hT2 _ _ upd_same
        obtain ⟨js, hp⟩ := p1
        exact tail _ _ ⟨l, rr, z, m, vs, rs, v, _, x5, hz, h36, hlr, ⟨js, s5 _ _ hp⟩, s5 _ _ hrr, pr_mono hpr fun _ _ q => q.mono (TK.of_same s5), ok, h9, hv.mono (TK.of_same s5), ⟨T2, T1, rfl, .inl (.inl upd_same), us, .inl (.inl t1), pr_mono pr3 fun _ _ q => q.mono (TK.of_same s4)⟩, rfl⟩
    rintro σ H1 ⟨l, rr, z, m, vs, rs, v, v2, x5, hz, h36, hlr, p1, hrr, hpr, ok, h9, hv, hv2, rfl⟩
    have B : Bx K H1 l rr z m vs rs v v2 := ⟨hz, h36, hlr, p1, hrr, hpr, ok, h9, hv, hv2⟩
    clear p1 hrr hpr hv hv2
    refine seq_with (LwH K a l rr z m vs rs v v2 x5) (fun N tail => ?_) ?_
    · simp only [st, lst9, List.append_assoc, cxOf, tYes, eq_self, if_true, if_false, wipe, rLenQ, rIxTQ, rIxLQ, rIxSQ, rInt1Q, rTupQ, rAppQ, rPopQ, rPopAtQ, rRevQ, rListS, rReprP, tLenSetT, tChain, tRetN, tRet, tSeq, tAsg, gName, tVar, tC, tCons, tNil, tCB, tOp, rI0, rI, tAndV, tOrV, tNotV, tIf, tTest, tB, tNot, tAnd, tOr, tIfS, tNext, tCallR, rIsK, rEq, rNe, tDrop, L2.start, List.map_cons, List.map_nil, List.length_cons, List.length_nil, Nat.reduceAdd, Nat.reduceSub, Nat.sub_self, List.replicate_zero, List.replicate_succ, List.append_nil, List.cons_append, List.nil_append, List.getElem?_cons_zero, List.getElem?_cons_succ, List.set_cons_zero, List.set_cons_succ, Option.some.injEq, List.cons.injEq, and_true, true_and, exists_eq_left, exists_eq_left', exists_eq_right, V.ty.injEq, V.int.injEq, V.bl.injEq, V.str.injEq, V.ref.injEq, exists_and_left, exists_const, reduceIte, reduceCtorEq, false_and, and_false, exists_false, or_false, false_or, Bool.not_true, Bool.not_false, Bool.false_eq_true, String.reduceEq, true_or, or_true, rNotT, tNNew, tNNotIn, tNGet, sNPut, tLenSetN, tPar, tAug, ipI, tDNotIn, sDPut, tDGet, tTup, tLst, tBM, tBM0]
      refine ⟨l, 4, rfl, B.pool, by decide, fun r H2 _ _ b2 p2 => ⟨rfl, ?_⟩⟩
      by_cases hr : r = 0
      · exact ifT (by simp [hr]) (tail _ _ ⟨200, by decide, B.draw b2 p2, rfl⟩)
      · refine ifF (by simp [hr]) ⟨l, 201, rfl, p2, by decide, fun n H3 n0 n1 b3 p3 => ?_⟩
        obtain ⟨n, rfl⟩ : ∃ k : Nat, n = (k : Int) := ⟨n.toNat, by omega⟩
        exact tail _ _ ⟨n, by omega, (B.draw b2 p2).draw b3 p3, rfl⟩
    rintro σ H2 ⟨n, hn, B, rfl⟩
    have hz5 := hz.top
    refine seq_with (LwI K a l rr z m vs rs v v2 x5 n) (fun N tail => ?_) ?_
    · simp only [st, lst9, List.append_assoc, cxOf, tYes, eq_self, if_true, if_false, wipe, rLenQ, rIxTQ, rIxLQ, rIxSQ, rInt1Q, rTupQ, rAppQ, rPopQ, rPopAtQ, rRevQ, rListS, rReprP, tLenSetT, tChain, tRetN, tRet, tSeq, tAsg, gName, tVar, tC, tCons, tNil, tCB, tOp, rI0, rI, tAndV, tOrV, tNotV, tIf, tTest, tB, tNot, tAnd, tOr, tIfS, tNext, tCallR, rIsK, rEq, rNe, tDrop, L2.start, List.map_cons, List.map_nil, List.length_cons, List.length_nil, Nat.reduceAdd, Nat.reduceSub, Nat.sub_self, List.replicate_zero, List.replicate_succ, List.append_nil, List.cons_append, List.nil_append, List.getElem?_cons_zero, List.getElem?_cons_succ, List.set_cons_zero, List.set_cons_succ, Option.some.injEq, List.cons.injEq, and_true, true_and, exists_eq_left, exists_eq_left', exists_eq_right, V.ty.injEq, V.int.injEq, V.bl.injEq, V.str.injEq, V.ref.injEq, exists_and_left, exists_const, reduceIte, reduceCtorEq, false_and, and_false, exists_false, or_false, false_or, Bool.not_true, Bool.not_false, Bool.false_eq_true, String.reduceEq, true_or, or_true, rNotT, tNNew, tNNotIn, tNGet, sNPut, tLenSetN, tPar, tAug, ipI, tDNotIn, sDPut, tDGet, tTup, tLst, tBM, tBM0]
      exact ⟨rr, vs, rs, z.length, n, rfl, B.list, B.pr, ok, by omega, by omega, fun H3 s3 => tail _ _ ⟨B.same s3, rfl⟩⟩
    rintro σ H3 ⟨B, rfl⟩
    refine seq_with (LwJ K a l rr z m vs rs v v2 x5 n 0) (fun N tail => ?_) ?_
    · simp only [st, lst9, List.append_assoc, cxOf, tYes, eq_self, if_true, if_false, wipe, rLenQ, rIxTQ, rIxLQ, rIxSQ, rInt1Q, rTupQ, rAppQ, rPopQ, rPopAtQ, rRevQ, rListS, rReprP, tLenSetT, tChain, tRetN, tRet, tSeq, tAsg, gName, tVar, tC, tCons, tNil, tCB, tOp, rI0, rI, tAndV, tOrV, tNotV, tIf, tTest, tB, tNot, tAnd, tOr, tIfS, tNext, tCallR, rIsK, rEq, rNe, tDrop, L2.start, List.map_cons, List.map_nil, List.length_cons, List.length_nil, Nat.reduceAdd, Nat.reduceSub, Nat.sub_self, List.replicate_zero, List.replicate_succ, List.append_nil, List.cons_append, List.nil_append, List.getElem?_cons_zero, List.getElem?_cons_succ, List.set_cons_zero, List.set_cons_succ, Option.some.injEq, List.cons.injEq, and_true, true_and, exists_eq_left, exists_eq_left', exists_eq_right, V.ty.injEq, V.int.injEq, V.bl.injEq, V.str.injEq, V.ref.injEq, exists_and_left, exists_const, reduceIte, reduceCtorEq, false_and, and_false, exists_false, or_false, false_or, Bool.not_true, Bool.not_false, Bool.false_eq_true, String.reduceEq, true_or, or_true, rNotT, tNNew, tNNotIn, tNGet, sNPut, tLenSetN, tPar, tAug, ipI, tDNotIn, sDPut, tDGet, tTup, tLst, tBM, tBM0]
      exact tail _ _ ⟨none, B, rfl⟩
    rintro σ H4 ⟨x11, B, rfl⟩
    refine seq_with (LwJ K a l rr z m vs rs v v2 x5 n n) (fun N tail => ?_) ?_
    · refine ⟨.int (n : Int), rfl, (n : Int), rfl, by omega, by omega, ?_⟩
      rw [Int.toNat_natCast]
      refine for_range (LwJ K a l rr z m vs rs v v2 x5 n) ⟨x11, B, rfl⟩ ?_ (fun σ H' h => tail _ _ h)
      rintro k σ H5 hk ⟨x11, B, rfl⟩
      refine ⟨_, rfl, .str z, rfl, szle (m := 5) hz5, _, _, rfl, rfl, .inr ?_, _, B, by rw [Int.pow_succ]; rfl⟩
      omega
    rintro σ H5 ⟨x11, B, rfl⟩
    have box := cnt_box ok n 0 (in_zero ok)
    have shw : (cntAt z.length rs n 0).natAbs.log2 < 1920 := box_show hz5 hn box.1 box.2
    refine seq_with (LwK K a l rr z m vs rs v v2 x5 n) (fun N tail => ?_) ?_
    · simp only [st, lst9, List.append_assoc, cxOf, tYes, eq_self, if_true, if_false, wipe, rLenQ, rIxTQ, rIxLQ, rIxSQ, rInt1Q, rTupQ, rAppQ, rPopQ, rPopAtQ, rRevQ, rListS, rReprP, tLenSetT, tChain, tRetN, tRet, tSeq, tAsg, gName, tVar, tC, tCons, tNil, tCB, tOp, rI0, rI, tAndV, tOrV, tNotV, tIf, tTest, tB, tNot, tAnd, tOr, tIfS, tNext, tCallR, rIsK, rEq, rNe, tDrop, L2.start, List.map_cons, List.map_nil, List.length_cons, List.length_nil, Nat.reduceAdd, Nat.reduceSub, Nat.sub_self, List.replicate_zero, List.replicate_succ, List.append_nil, List.cons_append, List.nil_append, List.getElem?_cons_zero, List.getElem?_cons_succ, List.set_cons_zero, List.set_cons_succ, Option.some.injEq, List.cons.injEq, and_true, true_and, exists_eq_left, exists_eq_left', exists_eq_right, V.ty.injEq, V.int.injEq, V.bl.injEq, V.str.injEq, V.ref.injEq, exists_and_left, exists_const, reduceIte, reduceCtorEq, false_and, and_false, exists_false, or_false, false_or, Bool.not_true, Bool.not_false, Bool.false_eq_true, String.reduceEq, true_or, or_true, rNotT, tNNew, tNNotIn, tNGet, sNPut, tLenSetN, tPar, tAug, ipI, tDNotIn, sDPut, tDGet, tTup, tLst, tBM, tBM0]
      refine ⟨_, rfl, _, rfl, v, z, rs, n, rfl, B.one, hz, ok, fun _ _ H6 s6 => ⟨_, rfl, v, z, rs, rfl, (B.same s6).one, hz, ok, fun u H7 s7 hu => ⟨_, rfl, u, z, leastOf z rs, n, rfl, hu, hz, (canon_ok ok).1, fun _ _ H8 s8 => ⟨szle (m := 2) (Nat.le_refl _), fun p hp => ⟨p, rfl, ⟨_, .inl (.inl upd_same)⟩, ?_⟩⟩, fun h => absurd ⟨by omega, by omega⟩ h⟩⟩, fun h => absurd ⟨by omega, by omega⟩ h⟩
      have B8 := (((B.same s6).same s7).same s8).same (same_upd (o := .tup [V.int (cntAt z.length rs ((n : Int).toNat) 0), V.int (cntAt z.length (leastOf z rs) ((n : Int).toNat) 0)]) hp)
      have ec : cntAt z.length (leastOf z rs) n 0 = cntAt z.length rs n 0 := cnt_least (canon_ok ok).2 n
      rw [Int.toNat_natCast, ec] at B8 ⊢
      have t : SqT K (upd H8 p (.tup [V.int (cntAt z.length rs n 0), V.int (cntAt z.length rs n 0)])) p [V.int (cntAt z.length rs n 0), V.int (cntAt z.length rs n 0)] := .inl (.inl upd_same)
      refine for_gen (n := 2) (fun i σ H' => H' = upd H8 p (.tup [V.int (cntAt z.length rs n 0), V.int (cntAt z.length rs n 0)]) ∧ ∃ x12, σ = st (lst9 a l rr z m rs v v2 x5 n ++ [some (.int ((z.length : Int) ^ n)), x11, x12])) ⟨rfl, none, rfl⟩ ?_ ?_ ?_ ?_
      · rintro i σ H' hi ⟨rfl, x12, rfl⟩
        exact ⟨_, V.int (cntAt z.length rs n 0), t, by match i, hi with | 0, _ => rfl | 1, _ => rfl⟩
      · rintro σ H' ⟨rfl, x12, rfl⟩
        exact ⟨_, t, Nat.le_refl _⟩
      · rintro i x σ H' H'' hi ⟨rfl, x12, rfl⟩ ⟨rfl, hx⟩
        have hx2 := hx _ t
        obtain rfl : x = V.int (cntAt z.length rs n 0) := by
          match i, hi with
          | 0, _ => exact (Option.some.inj hx2).symm
          | 1, _ => exact (Option.some.inj hx2).symm
        exact ⟨_, rfl, _, rfl, _, rfl, shw, true, rfl, ifF rfl ⟨rfl, _, rfl⟩⟩
      · rintro σ H' ⟨rfl, x12, rfl⟩
        exact tail _ _ ⟨_, _, B8, rfl⟩
    rintro σ H5 ⟨x11, x12, B, rfl⟩
    have box2 := cnt_box (flip_ok ok) n 0 (in_zero (flip_ok ok))
    have shw2 : (cntAt z.length (Sg.flip rs) n 0).natAbs.log2 < 1920 := box_show hz5 hn box2.1 box2.2
    have efl : cntAt z.length (Sg.flip rs) n 0 = (z.length : Int) ^ n - cntAt z.length rs n 0 := cnt_flip ok n 0 (in_zero ok)
    refine seq_with (LwK K a l rr z m vs rs v v2 x5 n) (fun N tail => ?_) ?_
    · simp only [st, lst9, List.append_assoc, cxOf, tYes, eq_self, if_true, if_false, wipe, rLenQ, rIxTQ, rIxLQ, rIxSQ, rInt1Q, rTupQ, rAppQ, rPopQ, rPopAtQ, rRevQ, rListS, rReprP, tLenSetT, tChain, tRetN, tRet, tSeq, tAsg, gName, tVar, tC, tCons, tNil, tCB, tOp, rI0, rI, tAndV, tOrV, tNotV, tIf, tTest, tB, tNot, tAnd, tOr, tIfS, tNext, tCallR, rIsK, rEq, rNe, tDrop, L2.start, List.map_cons, List.map_nil, List.length_cons, List.length_nil, Nat.reduceAdd, Nat.reduceSub, Nat.sub_self, List.replicate_zero, List.replicate_succ, List.append_nil, List.cons_append, List.nil_append, List.getElem?_cons_zero, List.getElem?_cons_succ, List.set_cons_zero, List.set_cons_succ, Option.some.injEq, List.cons.injEq, and_true, true_and, exists_eq_left, exists_eq_left', exists_eq_right, V.ty.injEq, V.int.injEq, V.bl.injEq, V.str.injEq, V.ref.injEq, exists_and_left, exists_const, reduceIte, reduceCtorEq, false_and, and_false, exists_false, or_false, false_or, Bool.not_true, Bool.not_false, Bool.false_eq_true, String.reduceEq, true_or, or_true, rNotT, tNNew, tNNotIn, tNGet, sNPut, tLenSetN, tPar, tAug, ipI, tDNotIn, sDPut, tDGet, tTup, tLst, tBM, tBM0]
      refine ⟨v2, z, Sg.flip rs, n, rfl, B.two, hz, flip_ok ok, fun _ _ H6 s6 => ?_, fun h => absurd ⟨by omega, by omega⟩ h⟩
      rw [Int.toNat_natCast, efl]
      rw [efl] at shw2
      exact ⟨_, rfl, shw2, true, rfl, ifF rfl (tail _ _ ⟨_, _, B.same s6, rfl⟩)⟩
    rintro σ H6 ⟨x11, x12, B, rfl⟩
    refine seq_with (LwL K a l rr z m vs rs v v2 x5 n) (fun N tail => ?_) ?_
    · simp only [st, lst9, List.append_assoc, cxOf, tYes, eq_self, if_true, if_false, wipe, rLenQ, rIxTQ, rIxLQ, rIxSQ, rInt1Q, rTupQ, rAppQ, rPopQ, rPopAtQ, rRevQ, rListS, rReprP, tLenSetT, tChain, tRetN, tRet, tSeq, tAsg, gName, tVar, tC, tCons, tNil, tCB, tOp, rI0, rI, tAndV, tOrV, tNotV, tIf, tTest, tB, tNot, tAnd, tOr, tIfS, tNext, tCallR, rIsK, rEq, rNe, tDrop, L2.start, List.map_cons, List.map_nil, List.length_cons, List.length_nil, Nat.reduceAdd, Nat.reduceSub, Nat.sub_self, List.replicate_zero, List.replicate_succ, List.append_nil, List.cons_append, List.nil_append, List.getElem?_cons_zero, List.getElem?_cons_succ, List.set_cons_zero, List.set_cons_succ, Option.some.injEq, List.cons.injEq, and_true, true_and, exists_eq_left, exists_eq_left', exists_eq_right, V.ty.injEq, V.int.injEq, V.bl.injEq, V.str.injEq, V.ref.injEq, exists_and_left, exists_const, reduceIte, reduceCtorEq, false_and, and_false, exists_false, or_false, false_or, Bool.not_true, Bool.not_false, Bool.false_eq_true, String.reduceEq, true_or, or_true, rNotT, tNNew, tNNotIn, tNGet, sNPut, tLenSetN, tPar, tAug, ipI, tDNotIn, sDPut, tDGet, tTup, tLst, tBM, tBM0]
      refine ⟨.str z, rfl, z, rfl, hz, fun ad H7 s7 had => ?_⟩
      refine ⟨.str z, rfl, szle (m := 5) hz5, 1, (z.length : Int), rfl, rfl, 1 + (z.length : Int), rfl, ad, _, rfl, .inl (.inl had), fun p hp => ?_⟩
      rw [few_cut hz]
      refine ⟨p, rfl, ⟨_, .inl (.inl upd_same)⟩, fun D hD => ?_⟩
      have hL : (upd H7 p (.lst ((lvl z 2).map V.str))) p = some (.lst ((lvl z 2).map V.str)) := upd_same
      have B8 := (B.same s7).same (same_upd (o := .lst ((lvl z 2).map V.str)) hp)
      generalize hg : upd H7 p (.lst ((lvl z 2).map V.str)) = H8 at hD hL B8
      refine lc_gen (n := (lvl z 2).length) (fun i H' => Same H8 H' ∧ H' D = some (.lst (((lvl z 2).take i |>.map (endB z rs)).map V.int))) ⟨same_upd hD, upd_same⟩ (fun i H' hi e => ⟨_, .str (lvl z 2)[i], .inl (.inl (e.1 _ _ hL)), by rw [List.getElem?_map, List.getElem?_eq_getElem hi]; rfl⟩) (fun H' e => ⟨_, .inl (.inl (e.1 _ _ hL)), by rw [List.length_map]; exact Nat.le_refl _⟩) ?_ ?_
      · rintro i x H9 H10 hi ⟨s9, h9'⟩ ⟨rfl, hx⟩
        have hx2 := hx _ (.inl (.inl (s9 _ _ hL)))
        obtain ⟨t, ht, rfl⟩ : ∃ t, (lvl z 2)[i]? = some t ∧ x = .str t := by
          refine ⟨(lvl z 2)[i], List.getElem?_eq_getElem hi, ?_⟩
          rw [List.getElem?_map, List.getElem?_eq_getElem hi] at hx2
          exact (Option.some.inj hx2).symm
        have hlv := lvl_of (List.mem_of_getElem? ht)
        refine ⟨rfl, ?_⟩
        simp only [st, lst9, List.append_assoc, cxOf, tYes, eq_self, if_true, if_false, wipe, rLenQ, rIxTQ, rIxLQ, rIxSQ, rInt1Q, rTupQ, rAppQ, rPopQ, rPopAtQ, rRevQ, rListS, rReprP, tLenSetT, tChain, tRetN, tRet, tSeq, tAsg, gName, tVar, tC, tCons, tNil, tCB, tOp, rI0, rI, tAndV, tOrV, tNotV, tIf, tTest, tB, tNot, tAnd, tOr, tIfS, tNext, tCallR, rIsK, rEq, rNe, tDrop, L2.start, List.map_cons, List.map_nil, List.length_cons, List.length_nil, Nat.reduceAdd, Nat.reduceSub, Nat.sub_self, List.replicate_zero, List.replicate_succ, List.append_nil, List.cons_append, List.nil_append, List.getElem?_cons_zero, List.getElem?_cons_succ, List.set_cons_zero, List.set_cons_succ, Option.some.injEq, List.cons.injEq, and_true, true_and, exists_eq_left, exists_eq_left', exists_eq_right, V.ty.injEq, V.int.injEq, V.bl.injEq, V.str.injEq, V.ref.injEq, exists_and_left, exists_const, reduceIte, reduceCtorEq, false_and, and_false, exists_false, or_false, false_or, Bool.not_true, Bool.not_false, Bool.false_eq_true, String.reduceEq, true_or, or_true, rNotT, tNNew, tNNotIn, tNGet, sNPut, tLenSetN, tPar, tAug, ipI, tDNotIn, sDPut, tDGet, tTup, tLst, tBM, tBM0]
        have B9 := B8.same s9
        refine ⟨v, z, rs, t, rfl, B9.one, hz, ok, by omega, fun _ H11 s11 => ⟨_, s11 _ _ h9', ?_, fun b o hb => ?_, ?_⟩, fun e => by rw [hlv.1] at e; cases e⟩
        · have h25 : z.length ^ 2 ≤ 25 := Nat.pow_le_pow_left hz5 2
          rw [lvl_len] at hi
          rw [List.length_map, List.length_map, List.length_take]
          exact szlt (m := 100) (by omega)
        · rw [upd_ne (ne_of_none hb hD)]
          exact s11 _ _ (s9 b o hb)
        · rw [upd_same, List.take_add_one, ht, List.map_append, List.map_append]
          rfl
      · rintro H9 ⟨s9, h9'⟩
        rw [List.take_length] at h9'
        refine tail _ _ ⟨_, _, D, h9', ?_, B8.same s9, rfl⟩
        obtain ⟨js, hp8⟩ := B8.pool
        exact (Ne.symm (ne_of_none hp8 hD))
    rintro σ H7 ⟨x11, x12, fw, hfw, hfl, B, rfl⟩
    refine seq_with (LwL K a l rr z m vs rs v v2 x5 n) (fun N tail => ?_) ?_
    · simp only [st, lst9, List.append_assoc, cxOf, tYes, eq_self, if_true, if_false, wipe, rLenQ, rIxTQ, rIxLQ, rIxSQ, rInt1Q, rTupQ, rAppQ, rPopQ, rPopAtQ, rRevQ, rListS, rReprP, tLenSetT, tChain, tRetN, tRet, tSeq, tAsg, gName, tVar, tC, tCons, tNil, tCB, tOp, rI0, rI, tAndV, tOrV, tNotV, tIf, tTest, tB, tNot, tAnd, tOr, tIfS, tNext, tCallR, rIsK, rEq, rNe, tDrop, L2.start, List.map_cons, List.map_nil, List.length_cons, List.length_nil, Nat.reduceAdd, Nat.reduceSub, Nat.sub_self, List.replicate_zero, List.replicate_succ, List.append_nil, List.cons_append, List.nil_append, List.getElem?_cons_zero, List.getElem?_cons_succ, List.set_cons_zero, List.set_cons_succ, Option.some.injEq, List.cons.injEq, and_true, true_and, exists_eq_left, exists_eq_left', exists_eq_right, V.ty.injEq, V.int.injEq, V.bl.injEq, V.str.injEq, V.ref.injEq, exists_and_left, exists_const, reduceIte, reduceCtorEq, false_and, and_false, exists_false, or_false, false_or, Bool.not_true, Bool.not_false, Bool.false_eq_true, String.reduceEq, true_or, or_true, rNotT, tNNew, tNNotIn, tNGet, sNPut, tLenSetN, tPar, tAug, ipI, tDNotIn, sDPut, tDGet, tTup, tLst, tBM, tBM0]
      refine ⟨v, z, rs, 2, rfl, B.one, hz, ok, fun _ _ H8 s8 => ⟨fw, _, rfl, .inl (.inl (s8 _ _ hfw)), ?_⟩, fun h => absurd ⟨by decide, by decide⟩ h⟩
      rw [sum_two hz ok]
      have bx2 := cnt_box ok 2 0 (in_zero ok)
      have bx0 := cnt_box ok 0 0 (in_zero ok)
      have B8 := B.same s8
      refine ⟨_, rfl, box_show hz5 (by decide) bx2.1 bx2.2, true, rfl, ifF rfl ⟨v, z, rs, 0, rfl, B8.one, hz, ok, fun _ _ H9 s9 => ?_, fun h => absurd ⟨by decide, by decide⟩ h⟩⟩
      have B9 := B8.same s9
      have hr0 : rs[0]? = some (rs[0]'ok.pos) := List.getElem?_eq_getElem ok.pos
      obtain ⟨u, hu, sa, sb, rfl, g3, g4⟩ := pr_get' B9.pr hr0
      have h5 := rowOf_get (in_zero ok)
      have e0 : cntAt z.length rs 0 0 = (rs[0]'ok.pos).1 := by
        show (rowOf rs 0).1 = _
        rw [show (0 : Int).toNat = 0 from rfl, hr0] at h5
        rw [Option.some.inj h5]
      refine ⟨_, .inl (.inl B9.list), .ref sa, atI_nat hu, _, g3, _, rfl, ?_⟩
      rw [← e0]
      exact ⟨_, rfl, box_show hz5 (by decide) bx0.1 bx0.2, true, rfl, ifF rfl (tail _ _ ⟨_, _, fw, s9 _ _ (s8 _ _ hfw), hfl, B9, rfl⟩)⟩
    rintro σ H8 ⟨x11, x12, fw, hfw, hfl, B, rfl⟩
    clear hfw hfl
    refine seq_with (LwM K a l rr z m vs rs v v2 x5 n) (fun N tail => ?_) ?_
    · simp only [st, lst9, List.append_assoc, cxOf, tYes, eq_self, if_true, if_false, wipe, rLenQ, rIxTQ, rIxLQ, rIxSQ, rInt1Q, rTupQ, rAppQ, rPopQ, rPopAtQ, rRevQ, rListS, rReprP, tLenSetT, tChain, tRetN, tRet, tSeq, tAsg, gName, tVar, tC, tCons, tNil, tCB, tOp, rI0, rI, tAndV, tOrV, tNotV, tIf, tTest, tB, tNot, tAnd, tOr, tIfS, tNext, tCallR, rIsK, rEq, rNe, tDrop, L2.start, List.map_cons, List.map_nil, List.length_cons, List.length_nil, Nat.reduceAdd, Nat.reduceSub, Nat.sub_self, List.replicate_zero, List.replicate_succ, List.append_nil, List.cons_append, List.nil_append, List.getElem?_cons_zero, List.getElem?_cons_succ, List.set_cons_zero, List.set_cons_succ, Option.some.injEq, List.cons.injEq, and_true, true_and, exists_eq_left, exists_eq_left', exists_eq_right, V.ty.injEq, V.int.injEq, V.bl.injEq, V.str.injEq, V.ref.injEq, exists_and_left, exists_const, reduceIte, reduceCtorEq, false_and, and_false, exists_false, or_false, false_or, Bool.not_true, Bool.not_false, Bool.false_eq_true, String.reduceEq, true_or, or_true, rNotT, tNNew, tNNotIn, tNGet, sNPut, tLenSetN, tPar, tAug, ipI, tDNotIn, sDPut, tDGet, tTup, tLst, tBM, tBM0]
      exact ⟨l, z, 24, rfl, B.pool, hz, by decide, by decide, fun t H' tx tl b p => ⟨t, rfl, szle (m := 100) (by omega), tail _ _ ⟨_, _, _, t ++ z, txB_app tx (txB_mem fun _ h => h), (by rw [app_len]; have := hz.pos; omega), (by rw [app_len]; omega), B.draw b p, rfl⟩⟩⟩
    rintro σ H9 ⟨x11, x12, x14, t, ht, ht1, ht2, B, rfl⟩
    refine seq_with (LwN K a l rr z m vs rs v v2 x5 n) (fun N tail => ?_) ?_
    · simp only [st, lst9, List.append_assoc, cxOf, tYes, eq_self, if_true, if_false, wipe, rLenQ, rIxTQ, rIxLQ, rIxSQ, rInt1Q, rTupQ, rAppQ, rPopQ, rPopAtQ, rRevQ, rListS, rReprP, tLenSetT, tChain, tRetN, tRet, tSeq, tAsg, gName, tVar, tC, tCons, tNil, tCB, tOp, rI0, rI, tAndV, tOrV, tNotV, tIf, tTest, tB, tNot, tAnd, tOr, tIfS, tNext, tCallR, rIsK, rEq, rNe, tDrop, L2.start, List.map_cons, List.map_nil, List.length_cons, List.length_nil, Nat.reduceAdd, Nat.reduceSub, Nat.sub_self, List.replicate_zero, List.replicate_succ, List.append_nil, List.cons_append, List.nil_append, List.getElem?_cons_zero, List.getElem?_cons_succ, List.set_cons_zero, List.set_cons_succ, Option.some.injEq, List.cons.injEq, and_true, true_and, exists_eq_left, exists_eq_left', exists_eq_right, V.ty.injEq, V.int.injEq, V.bl.injEq, V.str.injEq, V.ref.injEq, exists_and_left, exists_const, reduceIte, reduceCtorEq, false_and, and_false, exists_false, or_false, false_or, Bool.not_true, Bool.not_false, Bool.false_eq_true, String.reduceEq, true_or, or_true, rNotT, tNNew, tNNotIn, tNGet, sNPut, tLenSetN, tPar, tAug, ipI, tDNotIn, sDPut, tDGet, tTup, tLst, tBM, tBM0]
      refine ⟨.str t, rfl, t, 10, rfl, rfl, by decide, by decide, ht1, by omega, _, rfl, l, 251, rfl, B.pool, by decide, fun x H' x0 x1 b p => ⟨x, rfl, mulT t 10, rfl, ?_, ?_⟩⟩
      · rw [mulT_len]
        exact szle (m := 1000) (by omega)
      · refine tail _ _ ⟨_, _, _, t, cutS (mulT t 10) none (some x), ht, ht2, txB_mem fun c hc => ?_, Nat.le_trans (cutS_length _ _ _) (by rw [mulT_len]; omega), B.draw b p, rfl⟩
        have h1 := cutS_sub _ _ _ c hc
        rw [mulT_cps] at h1
        obtain ⟨y, hy, h2⟩ := List.mem_flatten.mp h1
        rw [(List.mem_replicate.mp hy).2] at h2
        exact txB_of ht c h2
    rintro σ H9 ⟨x11, x12, x14, t, ln, ht, htl, hln, hll, B, rfl⟩
    refine seq_with (LwN K a l rr z m vs rs v v2 x5 n) (fun N tail => ?_) ?_
    · simp only [st, lst9, List.append_assoc, cxOf, tYes, eq_self, if_true, if_false, wipe, rLenQ, rIxTQ, rIxLQ, rIxSQ, rInt1Q, rTupQ, rAppQ, rPopQ, rPopAtQ, rRevQ, rListS, rReprP, tLenSetT, tChain, tRetN, tRet, tSeq, tAsg, gName, tVar, tC, tCons, tNil, tCB, tOp, rI0, rI, tAndV, tOrV, tNotV, tIf, tTest, tB, tNot, tAnd, tOr, tIfS, tNext, tCallR, rIsK, rEq, rNe, tDrop, L2.start, List.map_cons, List.map_nil, List.length_cons, List.length_nil, Nat.reduceAdd, Nat.reduceSub, Nat.sub_self, List.replicate_zero, List.replicate_succ, List.append_nil, List.cons_append, List.nil_append, List.getElem?_cons_zero, List.getElem?_cons_succ, List.set_cons_zero, List.set_cons_succ, Option.some.injEq, List.cons.injEq, and_true, true_and, exists_eq_left, exists_eq_left', exists_eq_right, V.ty.injEq, V.int.injEq, V.bl.injEq, V.str.injEq, V.ref.injEq, exists_and_left, exists_const, reduceIte, reduceCtorEq, false_and, and_false, exists_false, or_false, false_or, Bool.not_true, Bool.not_false, Bool.false_eq_true, String.reduceEq, true_or, or_true, rNotT, tNNew, tNNotIn, tNGet, sNPut, tLenSetN, tPar, tAug, ipI, tDNotIn, sDPut, tDGet, tTup, tLst, tBM, tBM0]
      refine ⟨_, rfl, _, rfl, 7, rfl, ln, rfl, szle (m := 1000) (by omega), _, rfl, ln, rfl, by omega, fun y hy hyl => ⟨_, rfl, szle (m := 4) (Nat.le_refl _), fun p hp => ⟨p, rfl, ⟨_, .inl (.inl upd_same)⟩, ?_⟩⟩⟩
      have hall : ∀ u ∈ [ln, cutS ln none (some 7), y, t], txB z u = true ∧ u.length ≤ 1000 := by
        intro u hu
        simp only [List.mem_cons, List.not_mem_nil, or_false] at hu
        rcases hu with rfl | rfl | rfl | rfl
        · exact ⟨hln, by omega⟩
        · exact ⟨txB_mem fun c hc => txB_of hln c (cutS_sub _ _ _ c hc), Nat.le_trans (cutS_length _ _ _) (by omega)⟩
        · exact ⟨txB_mem fun c hc => txB_of hln c (hy c hc), hyl⟩
        · exact ⟨ht, by omega⟩
      have tt : (upd H9 p (.tup [.str ln, .str (cutS ln none (some 7)), .str y, .str t])) p = some (.tup ([ln, cutS ln none (some 7), y, t].map V.str)) := upd_same
      have B1 := B.same (same_upd (o := .tup [.str ln, .str (cutS ln none (some 7)), .str y, .str t]) hp)
      generalize upd H9 p (.tup [.str ln, .str (cutS ln none (some 7)), .str y, .str t]) = H10 at tt B1
      refine for_gen (n := 4) (fun i σ H' => Same H10 H' ∧ ∃ x12, σ = st (lst9 a l rr z m rs v v2 x5 n ++ [some (.int ((z.length : Int) ^ n)), x11, x12, some (.str ln), x14, some (.str t)])) ⟨fun _ _ h => h, _, rfl⟩ ?_ ?_ ?_ ?_
      · rintro i σ H' hi ⟨s, x12, rfl⟩
        exact ⟨_, .str ([ln, cutS ln none (some 7), y, t][i]'hi), .inl (.inl (s _ _ tt)), by rw [List.getElem?_map, List.getElem?_eq_getElem hi]; rfl⟩
      · rintro σ H' ⟨s, x12, rfl⟩
        exact ⟨_, .inl (.inl (s _ _ tt)), Nat.le_refl _⟩
      · rintro i x σ H' H'' hi ⟨s, x12, rfl⟩ ⟨rfl, hx⟩
        have hx2 := hx _ (.inl (.inl (s _ _ tt)))
        obtain ⟨u, hu, rfl⟩ : ∃ u, u ∈ [ln, cutS ln none (some 7), y, t] ∧ x = .str u := by
          refine ⟨[ln, cutS ln none (some 7), y, t][i]'hi, List.getElem_mem hi, ?_⟩
          rw [List.getElem?_map, List.getElem?_eq_getElem hi] at hx2
          exact (Option.some.inj hx2).symm
        have hu2 := hall u hu
        have B2 := B1.same s
        simp only [st, lst9, List.append_assoc, cxOf, tYes, eq_self, if_true, if_false, wipe, rLenQ, rIxTQ, rIxLQ, rIxSQ, rInt1Q, rTupQ, rAppQ, rPopQ, rPopAtQ, rRevQ, rListS, rReprP, tLenSetT, tChain, tRetN, tRet, tSeq, tAsg, gName, tVar, tC, tCons, tNil, tCB, tOp, rI0, rI, tAndV, tOrV, tNotV, tIf, tTest, tB, tNot, tAnd, tOr, tIfS, tNext, tCallR, rIsK, rEq, rNe, tDrop, L2.start, List.map_cons, List.map_nil, List.length_cons, List.length_nil, Nat.reduceAdd, Nat.reduceSub, Nat.sub_self, List.replicate_zero, List.replicate_succ, List.append_nil, List.cons_append, List.nil_append, List.getElem?_cons_zero, List.getElem?_cons_succ, List.set_cons_zero, List.set_cons_succ, Option.some.injEq, List.cons.injEq, and_true, true_and, exists_eq_left, exists_eq_left', exists_eq_right, V.ty.injEq, V.int.injEq, V.bl.injEq, V.str.injEq, V.ref.injEq, exists_and_left, exists_const, reduceIte, reduceCtorEq, false_and, and_false, exists_false, or_false, false_or, Bool.not_true, Bool.not_false, Bool.false_eq_true, String.reduceEq, true_or, or_true, rNotT, tNNew, tNNotIn, tNGet, sNPut, tLenSetN, tPar, tAug, ipI, tDNotIn, sDPut, tDGet, tTup, tLst, tBM, tBM0]
        refine ⟨v, z, rs, u, rfl, B2.one, hz, ok, by omega, fun _ H11 s11 => ⟨v, z, rs, u, rfl, (B2.same s11).one, hz, ok, hu2.1, endB z rs u, rfl, ?_, true, rfl, ifF rfl ⟨Same.trans s s11, _, rfl⟩⟩, fun e => by rw [hu2.1] at e; cases e⟩
        have hb := endAt_bit ok (walk_in ok _ (txB_of hu2.1) _ (in_zero ok))
        show (endAt rs (walkS z rs 0 u.cps.toList)).natAbs.log2 < 1920
        rcases hb with e | e <;> rw [e] <;> decide
      · rintro σ H' ⟨s, x12, rfl⟩
        exact tail _ _ ⟨_, _, _, _, _, ht, htl, hln, hll, B1.same s, rfl⟩
    rintro σ H10 ⟨x11, x12, x14, t, ln, ht, htl, hln, hll, B, rfl⟩
    refine seq_with (LwN K a l rr z m vs rs v v2 x5 n) (fun N tail => ?_) ?_
    · simp only [st, lst9, List.append_assoc, cxOf, tYes, eq_self, if_true, if_false, wipe, rLenQ, rIxTQ, rIxLQ, rIxSQ, rInt1Q, rTupQ, rAppQ, rPopQ, rPopAtQ, rRevQ, rListS, rReprP, tLenSetT, tChain, tRetN, tRet, tSeq, tAsg, gName, tVar, tC, tCons, tNil, tCB, tOp, rI0, rI, tAndV, tOrV, tNotV, tIf, tTest, tB, tNot, tAnd, tOr, tIfS, tNext, tCallR, rIsK, rEq, rNe, tDrop, L2.start, List.map_cons, List.map_nil, List.length_cons, List.length_nil, Nat.reduceAdd, Nat.reduceSub, Nat.sub_self, List.replicate_zero, List.replicate_succ, List.append_nil, List.cons_append, List.nil_append, List.getElem?_cons_zero, List.getElem?_cons_succ, List.set_cons_zero, List.set_cons_succ, Option.some.injEq, List.cons.injEq, and_true, true_and, exists_eq_left, exists_eq_left', exists_eq_right, V.ty.injEq, V.int.injEq, V.bl.injEq, V.str.injEq, V.ref.injEq, exists_and_left, exists_const, reduceIte, reduceCtorEq, false_and, and_false, exists_false, or_false, false_or, Bool.not_true, Bool.not_false, Bool.false_eq_true, String.reduceEq, true_or, or_true, rNotT, tNNew, tNNotIn, tNGet, sNPut, tLenSetN, tPar, tAug, ipI, tDNotIn, sDPut, tDGet, tTup, tLst, tBM, tBM0]
      exact ⟨1, rfl, v, z, rs, -1, .non, rfl, B.one, hz, ok, .inl ⟨rfl, by decide⟩, fun H11 s11 => ⟨true, rfl, ifF rfl ⟨v, z, rs, 201, .non, rfl, (B.same s11).one, hz, ok, .inl ⟨rfl, by decide⟩, fun H12 s12 => ⟨true, rfl, ifF rfl (tail _ _ ⟨_, _, _, _, _, ht, htl, hln, hll, (B.same s11).same s12, rfl⟩)⟩⟩⟩⟩
    rintro σ H10 ⟨x11, x12, x14, t, ln, ht, htl, hln, hll, B, rfl⟩
    simp only [st, lst9, List.append_assoc, cxOf, tYes, eq_self, if_true, if_false, wipe, rLenQ, rIxTQ, rIxLQ, rIxSQ, rInt1Q, rTupQ, rAppQ, rPopQ, rPopAtQ, rRevQ, rListS, rReprP, tLenSetT, tChain, tRetN, tRet, tSeq, tAsg, gName, tVar, tC, tCons, tNil, tCB, tOp, rI0, rI, tAndV, tOrV, tNotV, tIf, tTest, tB, tNot, tAnd, tOr, tIfS, tNext, tCallR, rIsK, rEq, rNe, tDrop, L2.start, List.map_cons, List.map_nil, List.length_cons, List.length_nil, Nat.reduceAdd, Nat.reduceSub, Nat.sub_self, List.replicate_zero, List.replicate_succ, List.append_nil, List.cons_append, List.nil_append, List.getElem?_cons_zero, List.getElem?_cons_succ, List.set_cons_zero, List.set_cons_succ, Option.some.injEq, List.cons.injEq, and_true, true_and, exists_eq_left, exists_eq_left', exists_eq_right, V.ty.injEq, V.int.injEq, V.bl.injEq, V.str.injEq, V.ref.injEq, exists_and_left, exists_const, reduceIte, reduceCtorEq, false_and, and_false, exists_false, or_false, false_or, Bool.not_true, Bool.not_false, Bool.false_eq_true, String.reduceEq, true_or, or_true, rNotT, tNNew, tNNotIn, tNGet, sNPut, tLenSetN, tPar, tAug, ipI, tDNotIn, sDPut, tDGet, tTup, tLst, tBM, tBM0]
    refine ⟨szle (m := 1000) (by omega), l, _, rfl, B.pool, by omega, fun x H11 x0 x1 b p => ⟨_, rfl, _, rfl, _, rfl, ln, rfl, szle (m := 1000) (by omega), _, rfl, ?_, _, rfl, _, rfl, _, rfl, ln, rfl, szle (m := 1000) (by omega), _, rfl, ?_, ?_⟩⟩
    · have := cutS_length ln none (some x)
      exact szle (m := 1000) (by show _ + 1 ≤ 1000; omega)
    · have h1 := cutS_length ln none (some x)
      have h2 := cutS_length ln (some x) none
      rw [app_len]
      exact szle (m := 1000) (by show _ + 1 + _ ≤ 1000; omega)
    · have B2 := B.draw b p
      have h1 := cutS_length ln none (some x)
      have h2 := cutS_length ln (some x) none
      refine ⟨v, z, rs, 0, _, rfl, B2.one, hz, ok, .inr ⟨_, rfl, ?_, ?_⟩, fun H12 s12 => q _⟩
      · rw [app_len, app_len]
        show _ + 1 + _ ≤ 100000
        omega
      · refine Bool.eq_false_iff.mpr fun e => h36 36 (txB_of e 36 ?_) rfl
        rw [app_cps, app_cps]
        exact List.mem_append_left _ (List.mem_append_right _ (List.mem_cons_self))
end
end K37

namespace K37
open PySem PySem.Spec PyProof.Rows L2 Sg
theorem facts {P : Program} {w : World} {K : PySem.W.Frag} {h : Heap} {mg : Str → Option Value} {f : Addr} (X : K.In h) (G : h.Ns mainGlobals mg) (hfa : mg ("law" : Str) = some (.ref f)) (c : SaysX exB fas fns K) :
    ∃ fd : FuncData, (∀ (s : Shared) (v : Value), BindsTo s fd ⟨[v], []⟩ [("script", v)]) ∧ ∀ base : Heap, K.In base → base.Ns mainGlobals mg → FnOk P w K mg base L2.CX0 7 f fd ["script"] (spLaw K) := by
  have T := tx_mk X G c.1 c.2
  obtain ⟨fd0, F0⟩ := T.d_law
  have same := hfa.symm.trans T.g_law
  cases same
  have bound := FunD.bindsA (ps := ["script"]) F0 fun _ _ _ _ _ _ us hl => match us, hl with | [_], _ => rfl
  exact ⟨fd0, fun s v => bound s [v] rfl, fun base _ _ => fn_law T F0⟩
end K37
open PySem PySem.W PySem.Calls PyProof.Rows
theorem PySem.Challenge.cw_signwright_k37_counts_and_long_texts_holds : PySem.Challenge.rw_signwright_k37_counts_and_long_texts.Holds := by
  w_on; o_law
  refine HandSHeadRun.head_any (r := OpenLaw.row PySem.Challenge.rw_signwright_k37_counts_and_long_texts) (q := view (OpenLaw.row PySem.Challenge.rw_signwright_k37_counts_and_long_texts).prog [40]) (H := K37.hk) (ob := K37.ob) (M := 4000) (loose := K37.loose) (d := HandSHeadRun.topDef (OpenLaw.row PySem.Challenge.rw_signwright_k37_counts_and_long_texts).prog 40) (kwd := []) K37.ob_eq
    (by kernel_rfl) (fun s => by kernel_rfl) K37.run (by kernel_rfl) (by kernel_rfl) (by kernel_rfl) (by rfl) (by first | assumption | decide +kernel) (by decide +kernel) ⟨rfl, rfl, rfl, rfl, rfl, by decide +kernel⟩ ?hw ?hc
  case hw => w_witness2
  case hc =>
    refine L2.walk_ofE (l := PySem.Challenge.rw_signwright_k37_counts_and_long_texts) (n := 63) (k := 7) (x := "script") (CX := L2.CX0) rfl (by decide) (by kernel_rfl) ⟨rfl, by decide, by decide⟩ ?F (fun _ _ _ _ z => z)
    intro w mg fa h Y G hmg0
    obtain ⟨K, KX, said⟩ := Y
    have hmg : mg ("law" : PySem.Str) = some (.ref fa) := by
      have name_is : (HandSHeadRun.topDef (OpenLaw.row PySem.Challenge.rw_signwright_k37_counts_and_long_texts).prog 40).name = ("law" : PySem.Str) := by kernel_rfl
      rw [← name_is]
      exact hmg0
    obtain ⟨fd, hb, hF⟩ := K37.facts (P := (PySem.Challenge.rw_signwright_k37_counts_and_long_texts).prog) (w := w) KX G hmg said
    exact ⟨K, fd, K37.spLaw K, KX, hb, fun H a xs _ _ hS => ⟨a, xs, rfl, hS, fun _ => rfl⟩, hF⟩
