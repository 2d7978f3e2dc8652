import PyProof.Rows.All
import Wide.All
import OpenK.AllK
import Wide.FinOn
import Lean
import HandS.ForMost
import HandS.ForExc
import HandS.Defaults
import HandS.Head0
import HandS.Head1
import HandS.Head2
import HandS.HeadEnd
import HandS.HeadHook1
import HandS.HeadHook2
import HandS.IsInst
import HandS.TupAny
import HandS.Style
import HandS.TryMany
import HandS.ExcIs
import PyProof.Rows.SetFrom
import PyProof.StrWalks
import KE.GoesEnum
import KE.KDictDisplayH
import PyProof.ListStr
import PyProof.StrLawsRepr
import PyProof.Rows.StrFirst
import HandS.TupLen
import HandS.TupSets
import KE.KeyNested
import PyProof.Rows.TupTab
import PyProof.ReprRoads
import PyProof.ReprLen
import HandS.FStr
import HandS.TupMul
import PyProof.TupleOfStr
import PySem.Challenge.RW_signwright_k34_lookers_judged_and_refuse
set_option Elab.async false
set_option linter.all false
set_option maxRecDepth 100000
set_option maxHeartbeats 0
namespace Sg
open PySem PySem.Spec PyProof.Rows L2
/-! ### plain data by kinds; isinstance of built-in classes -/
abbrev FnP (K : PySem.W.Frag) (x : Str) (st : Stmt) (f : Addr) (fd : FuncData) : Prop := FunD K x x (defArgs st) (defBody st) (defScope st) [] [] f fd
inductive Kd (K : PySem.W.Frag) (H : Hp) : V → Prop where
  | int (i : Int) : Kd K H (.int i)
  | bl (b : Bool) : Kd K H (.bl b)
  | non : Kd K H .non
  | str (x : Str) : Kd K H (.str x)
  | tup {a : Addr} {xs : List V} (h : SqT K H a xs) : Kd K H (.ref a)
def kdn : V → String
  | .int _ => "int"
  | .bl _ => "bool"
  | .non => "NoneType"
  | .str _ => "str"
  | _ => "tuple"
theorem sqT_ty {K : PySem.W.Frag} {H : Hp} {a : Addr} {xs : List V} (h : SqT K H a xs) : TyX K H (.ref a) (.type "tuple") := by
  rcases h with (h | ⟨o, h⟩) | ⟨o, its, n, h1, h2, _⟩
  · exact .base (.tup h)
  · exact .fTuple h
  · exact .kTuple h1 h2
theorem Kd.ty {K : PySem.W.Frag} {H : Hp} {x : V} (h : Kd K H x) : TyX K H x (.type (kdn x)) := by
  cases h with
  | int i => exact .base (.int i)
  | bl i => exact .base (.bl i)
  | non => exact .base .non
  | str i => exact .base (.str i)
  | tup h => exact sqT_ty h
def isaB (n : String) (x : V) : Bool := match x with
  | .int _ => n == "int"
  | .bl _ => n == "int" || n == "bool"
  | .str _ => n == "str"
  | .ref _ => n == "tuple"
  | _ => false
theorem Kd.kit {K : PySem.W.Frag} {H : Hp} {x : V} (h : Kd K H x) {n : String} (hn : n = "int" ∨ n = "bool" ∨ n = "str" ∨ n = "tuple") : PySem.W.kitOne K (.type (kdn x)) (.type n) = some (isaB n x) := by
  refine kit_ty ?_
  have a1 : kitB "int" "int" = some true ∧ kitB "int" "bool" = some false ∧ kitB "int" "str" = some false ∧ kitB "int" "tuple" = some false := by decide +kernel
  have a2 : kitB "bool" "int" = some true ∧ kitB "bool" "bool" = some true ∧ kitB "bool" "str" = some false ∧ kitB "bool" "tuple" = some false := by decide +kernel
  have a3 : kitB "NoneType" "int" = some false ∧ kitB "NoneType" "bool" = some false ∧ kitB "NoneType" "str" = some false ∧ kitB "NoneType" "tuple" = some false := by decide +kernel
  have a4 : kitB "str" "int" = some false ∧ kitB "str" "bool" = some false ∧ kitB "str" "str" = some true ∧ kitB "str" "tuple" = some false := by decide +kernel
  have a5 : kitB "tuple" "int" = some false ∧ kitB "tuple" "bool" = some false ∧ kitB "tuple" "str" = some false ∧ kitB "tuple" "tuple" = some true := by decide +kernel
  rcases hn with rfl | rfl | rfl | rfl <;> cases h <;> simp only [kdn, isaB, a1, a2, a3, a4, a5] <;> decide
/-- isinstance(x, T), x plain data, T one of int, bool, str, tuple -/
def rIsK (K : PySem.W.Frag) : List V → Hp → VK → Prop := fun xs H Q => match xs with
  | [x, .ty n] => (n = "int" ∨ n = "bool" ∨ n = "str" ∨ n = "tuple") ∧ Kd K H x ∧ Q (.bl (isaB n x)) H
  | _ => False
theorem call_isK {X : Cx} : CallR X (.builtin "isinstance") (rIsK X.K) := by
  intro pins s σ H xs us Q I r h
  match xs, h with
  | [x, .ty n], ⟨hn, hx, q⟩ => exact call_isi pins s σ H _ us Q I r ⟨x, .ty n, _, _, _, rfl, .ty n, hx.ty, hx.kit hn, q⟩
/-! ### defs, and calls of them -/
structure Dk (P : Program) (w : World) (K : PySem.W.Frag) (mg : Str → Option Value) (base : Heap) (k : Nat) (x : Str) (ps : List Str) (sp : Sp) : Prop where
  ok : ∃ fd, FnOk P w K mg base (L2.CX P w) k (He.ga K x) fd ps sp ∧ Binds K fd ps []
  kp : PySem.W.keepIn K (.ref (He.ga K x)) = true
  gm : mg x = some (.ref (He.ga K x))
def tCallR (sp : Sp) (W : WX) (t : TA) : TE := fun σ H Q => t σ H fun vs H1 => sp vs H1 Q fun cls d H' => W cls d σ H'
theorem pe_callR {X : Cx} {k : Nat} {x : Str} {ps : List Str} {sp : Sp} {W : WX} {e : Expr} {es : List Expr} {t : TA} {p pos : Pos} (D : Dk X.prog X.w X.K X.mg X.base k x ps sp) (hr : Room k X.A) (tk : Takes X W) (ha : PA X (e :: es) t) (hg : Gl X x := by rfl)
    (hdb : (x == ("__debug__" : Str)) = false := by decide) (he : starEach (e :: es) X.env = (false, eval e X.env) :: starEach es X.env := by rfl) (hpl : (backTo pos (starEach es X.env)).any (·.1) = false := by rfl) :
    PE X (.Call (.Name x p) (e :: es) [] pos) (tCallR sp W t) := by
  obtain ⟨fd, F, B⟩ := D.ok
  exact pe_callS (E := fun σ cls d H' => W cls d σ H') F hr hg D.gm D.kp B (fun σ => passAt tk σ) ha hdb he hpl
structure ExcF (K : PySem.W.Frag) (mg : Str → Option Value) (x : Str) : Prop where
  gm : mg x = some (.ref (He.ga K x))
  ex : PySem.W.excIn K (He.ga K x) He.veBase "ValueError.__new__" = true
  kp : PySem.W.keepIn K (.ref (He.ga K x)) = true
  sb : PySem.W.subIn K (.ref (He.ga K x)) (.type "BaseException") = some true
  tc : PySem.W.typeIn K (.ref (He.ga K x)) = some (.type "type")
theorem excF_mk {K : PySem.W.Frag} {mg : Str → Option Value} {x : Str} (g : mg x = some (.ref (He.ga K x))) (c : (He.Fa.exc x).ok K = true) : ExcF K mg x :=
  let ⟨h1, h2, h3, h4⟩ := He.exc_ok c
  ⟨g, h1, h2, h3, h4⟩
theorem ExcF.rs {X : Cx} {mg : Str → Option Value} {x : Str} (h : ExcF X.K mg x) : Raises X (.ref (He.ga X.K x)) := raises_own h.sb h.tc
/-! ### the hook of facts, with one Bool more -/
def obsX (ex : PySem.W.Frag → Bool) (fa : List He.Fa) (fn : List He.DefD) (K : PySem.W.Frag) : Bool × He.AlD := (ex K, He.obsD fa fn K)
def obsXG (n : Nat) (ex : PySem.W.Frag → Bool) (fa : List He.Fa) (fn : List He.DefD) (g : Addr → Option Obj) : Bool × He.AlD := obsX ex fa fn (He.frG g (He.asD g n))
def SaysX (ex : PySem.W.Frag → Bool) (fa : List He.Fa) (fn : List He.DefD) (K : PySem.W.Frag) : Prop := He.SaysD fa fn K ∧ ex K = true
def hookX (n : Nat) (ex : PySem.W.Frag → Bool) (fa : List He.Fa) (fn : List He.DefD) : PySem.W.Hook where
  α := Bool × He.AlD
  obs := fun s => obsXG n ex fa fn s.heap.get?
  val := fun _ => (true, He.valD fn)
  says := fun _ h => ∃ K : PySem.W.Frag, K.In h ∧ SaysX ex fa fn K
  of := fun _ _ e => ⟨_, He.frG_in, congrArg (fun z : Bool × He.AlD => z.2) e, congrArg (fun z : Bool × He.AlD => z.1) e⟩
  keeps := fun _ _ _ ⟨K, hK, c⟩ k => ⟨K, PySem.W.Frag.In.keeps hK k, c⟩
theorem obsXG_eq {n : Nat} {ex : PySem.W.Frag → Bool} {fa : List He.Fa} {fn : List He.DefD} {g : Addr → Option Obj} {s : Shared} (h : ∀ a, g a = s.heap.get? a) : obsXG n ex fa fn g = (hookX n ex fa fn).obs s := by
  have e : g = s.heap.get? := funext h
  rw [e]; rfl
/-! ### heaps -/
/-- what stood but the list at p is as it was -/
def But (p : Addr) (H H' : Hp) : Prop := ∀ b o, b ≠ p → H b = some o → H' b = some o
/-- tuples stay -/
def TK (H H' : Hp) : Prop := (∀ b xs, H b = some (.tup xs) → H' b = some (.tup xs)) ∧ ∀ b o u, H b = some (.frz o u) → H' b = some (.frz o u)
theorem TK.refl (H : Hp) : TK H H := ⟨fun _ _ h => h, fun _ _ _ h => h⟩
theorem TK.trans {H H1 H2 : Hp} (a : TK H H1) (b : TK H1 H2) : TK H H2 := ⟨fun c xs h => b.1 c xs (a.1 c xs h), fun c o u h => b.2 c o u (a.2 c o u h)⟩
theorem TK.of_same {H H' : Hp} (s : Same H H') : TK H H' := ⟨fun b _ h => s b _ h, fun b _ _ h => s b _ h⟩
theorem TK.of_but {H H' : Hp} {p : Addr} {xs : List V} (s : But p H H') (hp : H p = some (.lst xs)) : TK H H' :=
  ⟨fun b _ h => s b _ (fun z => by rw [z, hp] at h; cases h) h, fun b _ _ h => s b _ (fun z => by rw [z, hp] at h; cases h) h⟩
theorem TK.sqT {K : PySem.W.Frag} {H H' : Hp} {a : Addr} {xs : List V} (k : TK H H') (h : SqT K H a xs) : SqT K H' a xs := by
  rcases h with (h | ⟨o, h⟩) | h
  · exact .inl (.inl (k.1 _ _ h))
  · exact .inl (.inr ⟨o, k.2 _ _ _ h⟩)
  · exact .inr h
theorem Same.sqT {K : PySem.W.Frag} {H H' : Hp} {a : Addr} {xs : List V} (e : Same H H') (h : SqT K H a xs) : SqT K H' a xs := (TK.of_same e).sqT h
theorem same_upd {H : Hp} {p : Addr} {o : HO} (h : H p = none) : Same H (upd H p o) := fun b x e => by
  rw [upd_ne (ne_of_none e h)]
  exact e
theorem But.refl (p : Addr) (H : Hp) : But p H H := fun _ _ _ h => h
theorem But.trans {p : Addr} {H H1 H2 : Hp} (a : But p H H1) (b : But p H1 H2) : But p H H2 := fun c o n h => b c o n (a c o n h)
theorem But.of_same {p : Addr} {H H' : Hp} (s : Same H H') : But p H H' := fun b o _ h => s b o h
theorem But.upd {p : Addr} {H : Hp} {o : HO} : But p H (upd H p o) := fun b _ n h => by rw [upd_ne n]; exact h
/-! ### loops over any iterator of a known number of turns -/
theorem for_gen {J : It} {n : Nat} {g : TG} {tb : TS} {D : Ends} {σ : L2.St} {H : Hp} (Pv : Nat → L2.St → Hp → Prop) (h0 : Pv 0 σ H) (hg : ∀ i σ H, i < n → Pv i σ H → J.go i H) (he : ∀ σ H, Pv n σ H → J.stop n H)
    (hs : ∀ i x σ H H', i < n → Pv i σ H → J.yld i H x H' → g x σ H' fun σ2 H2 => tb { D with nx := Pv (i + 1), ct := Pv (i + 1), bk := D.nx } σ2 H2) (hd : ∀ σ H, Pv n σ H → D.nx σ H) :
    ∃ W : Nat → Nat → L2.St → Hp → Prop, (∃ m, W 0 m σ H) ∧ ∀ i m σ H, W i m σ H →
      (J.stop i H ∧ D.nx σ H) ∨ (J.go i H ∧ ∃ N : L2.St → Hp → Prop, (∀ σ' H', N σ' H' → ∃ m', m' < m ∧ W (i + 1) m' σ' H') ∧ ∀ x H', J.yld i H x H' → g x σ H' fun σ2 H2 => tb { D with nx := N, ct := N, bk := D.nx } σ2 H2) := by
  refine ⟨fun i m σ H => m + i = n ∧ Pv i σ H, ⟨n, rfl, h0⟩, fun i m σ H hW => ?_⟩
  obtain ⟨e, p⟩ := hW
  cases m with
  | zero =>
    have e2 : i = n := by omega
    subst e2
    exact .inl ⟨he σ H p, hd σ H p⟩
  | succ m =>
    have hlt : i < n := by omega
    exact .inr ⟨hg i σ H hlt p, Pv (i + 1), fun σ' H' p' => ⟨m, Nat.lt_succ_self m, by omega, p'⟩, fun x H' y => hs i x σ H H' hlt p y⟩
theorem lc_gen {J : It} {n : Nat} {g : TG} {tt : TT} {te : TE} {vs : List Nat} {σ : L2.St} {H1 : Hp} {D : Addr} {Qd : Hp → Prop} (Pv : Nat → Hp → Prop) (h0 : Pv 0 (upd H1 D (.lst []))) (hg : ∀ i H, i < n → Pv i H → J.go i H) (he : ∀ H, Pv n H → J.stop n H)
    (hs : ∀ i x H H', i < n → Pv i H → J.yld i H x H' → g x (wipe σ vs) H' fun σ2 H2 => wipe σ2 vs = wipe σ vs ∧ tt σ2 H2 fun b H3 =>
      if b = true then te σ2 H3 fun y H4 => ∃ acc, H4 D = some (.lst acc) ∧ acc.length < sizeLine ∧ Pv (i + 1) (upd H4 D (.lst (acc ++ [y]))) else Pv (i + 1) H3) (hd : ∀ H, Pv n H → Qd H) :
    ∃ W : Nat → Nat → Hp → Prop, (∃ m, W 0 m (upd H1 D (.lst []))) ∧ ∀ i m H, W i m H →
      (J.stop i H ∧ Qd H) ∨ (J.go i H ∧ ∃ Nx : Hp → Prop, (∀ H', Nx H' → ∃ m', m' < m ∧ W (i + 1) m' H') ∧ ∀ x H', J.yld i H x H' → g x (wipe σ vs) H' fun σ2 H2 => wipe σ2 vs = wipe σ vs ∧ tt σ2 H2 fun b H3 =>
        if b = true then te σ2 H3 fun y H4 => ∃ acc, H4 D = some (.lst acc) ∧ acc.length < sizeLine ∧ Nx (upd H4 D (.lst (acc ++ [y]))) else Nx H3) := by
  refine ⟨fun i m H => m + i = n ∧ Pv i H, ⟨n, rfl, h0⟩, fun i m H hW => ?_⟩
  obtain ⟨e, p⟩ := hW
  cases m with
  | zero =>
    have e2 : i = n := by omega
    subst e2
    exact .inl ⟨he H p, hd H p⟩
  | succ m =>
    have hlt : i < n := by omega
    exact .inr ⟨hg i H hlt p, Pv (i + 1), fun H' p' => ⟨m, Nat.lt_succ_self m, by omega, p'⟩, fun x H' y => hs i x H H' hlt p y⟩
end Sg

/-! set(..) of a text: its signs, each once -/
namespace Sg
open PySem
section
variable {κ : Type} [DecidableEq κ]
def addOne (acc : List κ) (v : κ) : List κ := if v ∈ acc then acc else acc ++ [v]
def once (l : List κ) : List κ := l.foldl addOne []
theorem addOne_mem {acc : List κ} {v k : κ} : k ∈ addOne acc v ↔ k ∈ acc ∨ k = v := by
  unfold addOne
  by_cases h : v ∈ acc
  · rw [if_pos h]
    exact ⟨.inl, fun q => q.elim id fun e => e ▸ h⟩
  · rw [if_neg h, List.mem_append, List.mem_singleton]
theorem addOne_len {acc : List κ} {v : κ} : (addOne acc v).length ≤ acc.length + 1 := by
  unfold addOne
  by_cases h : v ∈ acc
  · rw [if_pos h]; exact Nat.le_succ _
  · rw [if_neg h, List.length_append]; exact Nat.le_refl _
theorem once_snoc (l : List κ) (v : κ) : once (l ++ [v]) = addOne (once l) v := by
  unfold once
  rw [List.foldl_append]
  rfl
theorem once_len (l : List κ) : (once l).length ≤ l.length := by
  have h : ∀ (l acc : List κ), (l.foldl addOne acc).length ≤ acc.length + l.length := by
    intro l
    induction l with
    | nil => intro acc; exact Nat.le_refl _
    | cons a r ih =>
      intro acc
      have h1 := ih (addOne acc a)
      have h2 := addOne_len (acc := acc) (v := a)
      show ((r.foldl addOne (addOne acc a))).length ≤ acc.length + (r.length + 1)
      omega
  have h1 := h l []
  rw [List.length_nil, Nat.zero_add] at h1
  exact h1
theorem once_mem (l : List κ) (k : κ) : k ∈ once l ↔ k ∈ l := by
  have h : ∀ (l acc : List κ), k ∈ l.foldl addOne acc ↔ k ∈ acc ∨ k ∈ l := by
    intro l
    induction l with
    | nil => intro acc; simp
    | cons a r ih =>
      intro acc
      show k ∈ r.foldl addOne (addOne acc a) ↔ _
      rw [ih, addOne_mem, List.mem_cons]
      exact or_assoc
  have h1 := h l []
  simpa [once] using h1
theorem once_nodup_self {l : List κ} (h : l.Nodup) : once l = l := by
  have key : ∀ (r acc : List κ), (acc ++ r).Nodup → r.foldl addOne acc = acc ++ r := by
    intro r
    induction r with
    | nil => intro acc _; simp
    | cons a r ih =>
      intro acc hn
      have hna : a ∉ acc := fun hm => by
        have := List.nodup_append.mp hn
        exact this.2.2 a hm a (List.mem_cons_self ..) rfl
      show r.foldl addOne (addOne acc a) = _
      have e : addOne acc a = acc ++ [a] := if_neg hna
      rw [e, ih (acc ++ [a]) (by simpa using hn)]
      simp
  have := key l [] (by simpa using h)
  simpa [once] using this
end
section
variable {prog : Program} {w : World} {A : Around} {R : Result → Shared → Prop} {it : Addr} {fp wr : List Addr} {G : Array GenState → Array GenState → Prop} {n : Nat} {Pk : Nat → Value → Prop} {Sx : Nat → Shared → Prop}
variable {κ : Type} [DecidableEq κ]
def upto (val : Nat → κ) (i : Nat) : List κ := once ((List.range i).map val)
theorem upto_zero (val : Nat → κ) : upto val 0 = [] := rfl
theorem upto_succ (val : Nat → κ) (i : Nat) : upto val (i + 1) = addOne (upto val i) (val i) := by
  unfold upto
  rw [List.range_succ, List.map_append, List.map_singleton, once_snoc]
theorem upto_len (val : Nat → κ) (i : Nat) : (upto val i).length ≤ i := by
  have h := once_len ((List.range i).map val)
  rw [List.length_map, List.length_range] at h
  exact h
theorem setOf_as {knd : KeyKind prog w κ} {h : Heap} {a : Addr} {S T : κ → Bool} {m q : Nat} (x : h.SetOf knd a S m) (e : ∀ k, S k = T k) (en : m = q) : h.SetOf knd a T q := by
  obtain rfl : S = T := funext e
  subst en
  exact x
theorem upto_add (val : Nat → κ) (i : Nat) (k : κ) : (decide (k ∈ upto val i) || decide (k = val i)) = decide (k ∈ upto val (i + 1)) := by
  rw [upto_succ]
  by_cases h : k ∈ addOne (upto val i) (val i)
  · rw [decide_eq_true h]
    rcases addOne_mem.mp h with q | q
    · simp [q]
    · simp [q]
  · rw [decide_eq_false h]
    have h1 : ¬ k ∈ upto val i := fun q => h (addOne_mem.mpr (.inl q))
    have h2 : ¬ k = val i := fun q => h (addOne_mem.mpr (.inr q))
    simp [h1, h2]
theorem upto_count (val : Nat → κ) (i : Nat) : (if decide (val i ∈ upto val i) = true then (upto val i).length else (upto val i).length + 1) = (upto val (i + 1)).length := by
  rw [upto_succ]
  unfold addOne
  by_cases h : val i ∈ upto val i
  · rw [decide_eq_true h, if_pos rfl, if_pos h]
  · rw [decide_eq_false h, if_neg Bool.false_ne_true, if_neg h, List.length_append]
    rfl
/-- set.update over any walk of values that are keys of a kind -/
theorem code_upd {knd : KeyKind prog w κ} (Wk : WalksS prog w A.in1 it fp wr G n Pk Sx) (a : Addr) (haf : a ∉ fp) (val : Nat → κ) (hval : ∀ i v, Pk i v → knd.is (val i) v = true ∧ v.scannable = true) (hb : n + 1 < scanBound) :
    ∀ (m i : Nat) (s : Shared), m + i = n → Sx i s → s.heap.SetOf knd a (fun k => decide (k ∈ upto val i)) (upto val i).length →
      (∀ s', Moved (a :: wr) G s s' → s'.heap.SetOf knd a (fun k => decide (k ∈ upto val n)) (upto val n).length → R (.ok (.ret .none)) s') →
      codeAny (model prog w) A (.builtin "set.update.loop" ⟨[.ref a, .ref it], []⟩) R s := by
  have haw : a ∉ wr := fun q => haf (Wk.sub _ q)
  have sub : ∀ b ∈ wr, b ∈ a :: wr := fun b q => List.mem_cons_of_mem _ q
  have keep : ∀ {s s' : Shared} {S : κ → Bool} {q : Nat}, Moved wr G s s' → s.heap.SetOf knd a S q → s'.heap.SetOf knd a S q := fun hm ⟨o, es, ep, t, ho, r⟩ => ⟨o, es, ep, t, hm.heap a _ haw ho, r⟩
  intro m
  induction m with
  | zero =>
    intro i s e hst hS hR
    obtain rfl : i = n := by omega
    refine codeAny_builtin PyProof.Rows.F.entry_set_update_loop ?_
    rw [Around.under_plainId PyProof.Rows.F.plain_set_update_loop _]
    refine wpAny_bind (Wk.done s _ _ hst fun s' hm => ?_)
    show wpAny _ A.in1 (ret Value.none) _ _ s'
    exact wpAny_pure (hR s' (hm.mono sub) (keep hm hS))
  | succ m ih =>
    intro i s e hst hS hR
    have hlt : i < n := by omega
    refine codeAny_builtin PyProof.Rows.F.entry_set_update_loop ?_
    rw [Around.under_plainId PyProof.Rows.F.plain_set_update_loop _]
    refine wpAny_bind (Wk.item i s _ _ hlt hst fun v s' hP hst' hm => ?_)
    obtain ⟨hk, hsc⟩ := hval i v hP
    show wpAny _ A.in1 (holding [v] (setAdd a v) >>= _) _ _ s'
    refine wpAny_bind (wpAny_holding ?_)
    unfold setAdd
    refine wpAny_holding (wpAny_bind (knd.pyHash hk ?_))
    have room : (upto val i).length + 1 < scanBound := by
      have := upto_len val i
      omega
    have hS1 := keep hm hS
    refine wpAny_setAddHashed_of (knd := knd) (s := { s' with toks := s'.toks + 1 }) hk hsc hS1 room fun h' sb hS2 => ?_
    have hS3 := setOf_as hS2 (upto_add val i) (upto_count val i)
    refine wpAny_pure ⟨plainId_quiet PyProof.Rows.F.plain_set_update_loop _, ih (i + 1) _ (by omega) (Wk.frame _ s' _ _ hst' (Nat.le_succ _) fun b q o z => ?_) hS3 fun s2 hm2 hS4 => ?_⟩
    · rw [sb.2 b fun z2 : b = a => haf (by rw [← z2]; exact q)]
      exact z
    · refine hR s2 (Moved.trans Wk.gtrans ((hm.mono sub).then_heap (Nat.le_succ _) fun b o q z => ?_) hm2) hS4
      rw [sb.2 b fun z2 : b = a => q (by rw [z2]; exact List.mem_cons_self)]
      exact z
end
namespace FX
theorem sub_str_set : isSubtype (.type "str") (.type "set") = pure false := by rw [isSubtype_type]; kernel_rfl
theorem sub_str_frozenset : isSubtype (.type "str") (.type "frozenset") = pure false := by rw [isSubtype_type]; kernel_rfl
end FX
def sgn (c : Nat) : Str := ⟨#[c]⟩
section
variable {prog : Program} {w : World} {A : Around} {E : Value → Shared → Prop} {s : Shared}
theorem call_set_text {x : Str} {u : Tok} {Q : Value → Shared → Prop} (hh : A.handled = none) (hb : x.cps.size + 1 < scanBound)
    (h : ∀ (h' : Heap) (tk : Nat), h'.SetOf (strKind prog w) s.heap.objs.size (fun k => decide (k ∈ upto (fun i => sgn (x.cps.getD i 0)) x.cps.size)) (upto (fun i => sgn (x.cps.getD i 0)) x.cps.size).length →
      (∀ b o, b < s.heap.objs.size → s.heap.get? b = some o → h'.get? b = some o) → Q (.ref s.heap.objs.size) { s with heap := h', toks := tk }) :
    wpAny (model prog w) A (call (.type "set") [.str x u]) Q E s := by
  obtain ⟨c, tl, hmro⟩ := F.called_set.mro
  have hmade := F.called_set.made
  have hsub := F.called_set.sub
  refine wpAny_call (codeAny_of_tree ?_)
  show wpAny _ _ (callAny (.type "set") _) _ _ _
  refine wpAny_pure ⟨Code.quiet_builtin _ (by decide +kernel), codeAny_builtin F.entry_type_call ?_⟩
  rw [Around.under_plain (weight_type_call_type "set" [.str x u] []) rfl]
  have h1 := F.called_set.notType
  have h2 := F.called_set.canCreate
  have hct := F.typeCall_set_1 (.str x u)
  repeat (any_goals (first | assumption | wp_step))
  have fresh : ∀ led : Bool, (s.heap.push { cls := .type "set", dict := none, data := .set #[] 0 (.fresh 0 0 led) }).get? s.heap.objs.size = some { cls := .type "set", dict := none, data := .set #[] 0 (.fresh 0 0 led) } := fun led => Heap.get?_push_size _ rfl
  refine codeAny_mono (code_set_new_1 (.str x u) (E := E) (Q₁ := fun z s₁ => ∃ led : Bool, z = .ref s.heap.objs.size ∧ s₁ = { s with heap := s.heap.push { cls := .type "set", dict := none, data := .set #[] 0 (.fresh 0 0 led) } }) fun led => ⟨led, rfl, rfl⟩) fun r s₁ hr => ?_
  cases r with
  | error e => exact hr
  | ok fl =>
    cases fl with
    | ret z =>
      obtain ⟨led, rfl, rfl⟩ := hr
      have hT : Shared.TypeIs { s with heap := s.heap.push { cls := .type "set", dict := none, data := .set #[] 0 (.fresh 0 0 led) } } (.ref s.heap.objs.size) "set" := ⟨_, fresh led, rfl⟩
      have hli := F.called_set.init.lookup
      have hbi := F.called_set.init.bind (.ref s.heap.objs.size)
      repeat (any_goals (first | assumption | wp_step))
      refine codeAny_mono (codeAny_call_builtin (R := wants (fun r s₂ => r = .none ∧ ∃ h' tk, s₂ = { s with heap := h', toks := tk } ∧
          h'.SetOf (strKind prog w) s.heap.objs.size (fun k => decide (k ∈ upto (fun i => sgn (x.cps.getD i 0)) x.cps.size)) (upto (fun i => sgn (x.cps.getD i 0)) x.cps.size).length ∧
          (∀ b o, b < s.heap.objs.size → s.heap.get? b = some o → h'.get? b = some o)) E) F.called_set.init.plain F.entry_set_init (check_set_init_1 hT ?_)) fun r₂ s₂ hr₂ => ?_
      · have hsls := FX.sub_str_set
        have hslf := FX.sub_str_frozenset
        unfold Builtin.«set.__init__» noKeywords Builtin.Frozenset.updateFrom
        generalize hPI : pyIter = PI
        wp_walk
        subst hPI
        refine wpAny_pyIter_str fun o Sx mk st0 => ?_
        refine wpAny_bind (wpAny_runValue ?_)
        have hh3 : A.in1.in1.in1.handled = none := by simp [hh]
        have hsz : (s.heap.push { cls := .type "set", dict := none, data := .set #[] 0 (.fresh 0 0 led) }).objs.size = s.heap.objs.size + 1 := Heap.size_push ..
        have haf : s.heap.objs.size ∉ [(s.heap.push { cls := .type "set", dict := none, data := .set #[] 0 (.fresh 0 0 led) }).objs.size] := by
          rw [hsz]
          simp
        have hset : ((s.heap.push { cls := .type "set", dict := none, data := .set #[] 0 (.fresh 0 0 led) }).push o).get? s.heap.objs.size = some { cls := .type "set", dict := none, data := .set #[] 0 (.fresh 0 0 led) } := Heap.get?_push_of_some _ (fresh led)
        refine code_upd (knd := strKind prog w) (n := x.cps.size) ((mk _ hh3).toS) s.heap.objs.size haf (fun i => sgn (x.cps.getD i 0)) (fun i v hv => ?_) hb x.cps.size 0 _ (Nat.add_zero _) st0 ?_ fun s' hm hS => ?_
        · obtain ⟨c, u', hc, rfl⟩ := hv
          have e : x.cps.getD i 0 = c := by
            rw [Array.getD_eq_getD_getElem?, hc]
            rfl
          exact ⟨by show (strKind prog w).is (sgn (x.cps.getD i 0)) (.str ⟨#[c]⟩ u') = true; rw [e]; exact strKind_is _ _ _ _, rfl⟩
        · exact setOf_as ((PyProof.Rows.setObjOf_fresh (knd := strKind prog w) led).setOf hset (by unfold scanBound; omega)) (fun _ => rfl) rfl
        · obtain ⟨h', g', d', tk', os'⟩ := s'
          obtain rfl : g' = s.gens := hm.gens
          obtain rfl : d' = s.drawn := hm.drawn
          obtain rfl : os' = s.os := hm.os
          refine wpAny_pure (wpAny_pure ⟨rfl, h', tk', rfl, hS, fun b o2 hlt e => ?_⟩)
          refine hm.heap b o2 ?_ (Heap.get?_push_of_some _ (Heap.get?_push_of_some _ e))
          rw [hsz]
          simp only [List.mem_cons, List.not_mem_nil, or_false, not_or]
          exact ⟨Nat.ne_of_lt hlt, Nat.ne_of_lt (Nat.lt_succ_of_lt hlt)⟩
      · cases r₂ with
        | error e => exact hr₂
        | ok fl₂ =>
          cases fl₂ with
          | ret r =>
            obtain ⟨rfl, h', tk, rfl, hS', hk'⟩ := hr₂
            repeat (any_goals (first | assumption | wp_step))
            exact h _ _ hS' hk'
          | _ => exact hr₂.elim
    | _ => exact hr.elim
end
end Sg

/-! rules: len(set(text)), enumerate(tuple), repr of plain values, list(text), {(a, b): v} -/
namespace Sg
open PySem PySem.Spec PyProof.Rows L2
def signsOf (x : Str) : List Str := x.cps.toList.map sgn
/-! ### len(set(text)) -/
def tLenSetT (ta : TE) : TE := fun σ H Q => ta σ H fun x H1 => match x with
  | .str z => z.length ≤ 1000 ∧ Q (.int ((once (signsOf z)).length : Nat)) H1
  | _ => False
theorem upto_text (z : Str) : upto (fun i => sgn (z.cps.getD i 0)) z.cps.size = once (signsOf z) := by
  unfold upto signsOf
  congr 1
  apply List.ext_getElem?
  intro i
  rw [List.getElem?_map, List.getElem?_map]
  by_cases h : i < z.cps.size
  · rw [List.getElem?_range h, Array.getElem?_toList, Array.getElem?_eq_getElem h, Option.map_some, Option.map_some, Array.getD_eq_getD_getElem?, Array.getElem?_eq_getElem h]
    rfl
  · rw [List.getElem?_eq_none (by simpa using h), Array.getElem?_toList, Array.getElem?_eq_none (by simpa using h)]
    rfl
theorem pe_lenSetT {X : Cx} {a : Expr} {ta : TE} {p p2 q pos : Pos} (hg : Gl X "len") (hm : X.mg "len" = none) (hg2 : Gl X "set") (hm2 : X.mg "set" = none) (ha : PE X a ta) (hc : X.calm = true)
    (na : starEach [a] X.env = (false, eval a X.env) :: starEach [] X.env := by rfl) : PE X (.Call (.Name "len" p) [.Call (.Name "set" p2) [a] [] q] [] pos) (tLenSetT ta) := by
  refine ⟨fun pins s σ H Q I h => ?_⟩
  refine Call_ (ld_blt I hg hm PySem.boot_len ?_)
  refine PyProof.Rows.callWith_builtin1 (PyProof.Rows.args_cons ?_ rfl) rfl rfl
  refine Call_ (ld_blt I hg2 hm2 PyProof.Rows.boot_set ?_)
  refine PyProof.Rows.callWith_type1 (PyProof.Rows.args_cons (thn (ha.run pins s σ H _ I h) fun v s1 ⟨x, H1, I1, r1, q1⟩ => PyProof.Rows.args_nil ?_) na) na rfl
  match x, q1 with
  | .str z, ⟨hz, q2⟩ =>
    obtain ⟨u, rfl⟩ := r1
    refine call_set_text (I1.ok.hd hc) (by unfold scanBound; show z.length + 1 < _; omega) fun h' tk hS hk => PyProof.Rows.args_nil ?_
    rw [upto_text] at hS
    obtain ⟨o, es, ep, t, ho, hex, hd, _, _, _, hf, hn⟩ := hS
    have I2 : Inv X pins σ H1 { s1 with heap := h', toks := tk } := I1.kept fun b o e => hk b o (Heap.lt_size e) e
    have hlen : (once (signsOf z)).length ≤ 1000 := by
      have h1 := once_len (signsOf z)
      unfold signsOf at h1
      rw [List.length_map, Array.length_toList] at h1
      exact Nat.le_trans h1 hz
    exact call_len_set ho hex hd hf (by rw [hn] <;> omega) ⟨.int ((once (signsOf z)).length : Nat), H1, I2.tok _, ⟨_, by rw [hn]⟩, q2⟩
/-! ### repr of None, a bool, an int, a text -/
def rReprP : List V → Hp → VK → Prop := fun xs H Q => match xs with
  | [.non] => Q (.str "None") H
  | [.bl b] => Q (.str (if b then "True" else "False")) H
  | [.int i] => i.natAbs.log2 < 1920 ∧ Q (.str (toString i)) H
  | [.str z] => (reprText z).length ≤ sizeLine ∧ Q (.str (reprText z)) H
  | _ => False
theorem call_reprP {X : Cx} : CallR X (.builtin "repr") rReprP := by
  intro pins s σ H xs us Q I r h
  match xs, h with
  | [.non], q =>
    obtain ⟨u, rfl, rfl⟩ := vals1 r
    exact PySem.P.repr_of_none ⟨.str _, H, I.tok _, ⟨_, rfl⟩, q⟩
  | [.bl b], q =>
    obtain ⟨u, rfl, rfl⟩ := vals1 r
    exact PySem.P.repr_of_bool ⟨.str _, H, I.tok _, ⟨_, rfl⟩, q⟩
  | [.int i], ⟨hz, q⟩ =>
    obtain ⟨u, rfl, t, rfl⟩ := vals1 r
    exact PySem.P.repr_of_int hz ⟨.str _, H, I.tok _, ⟨_, rfl⟩, q⟩
  | [.str z], ⟨hz, q⟩ =>
    obtain ⟨u, rfl, t, rfl⟩ := vals1 r
    exact PySem.P.repr_of_str ⟨.str _, H, I.tok _, ⟨_, rfl⟩, q⟩ hz
/-! ### list(text) -/
def rListS : List V → Hp → VK → Prop := fun xs H Q => match xs with
  | [.str z] => z.length ≤ sizeLine ∧ ∀ l, H l = none → Q (.ref l) (upd H l (.lst ((signsOf z).map V.str)))
  | _ => False
theorem vals_signs {z : Str} : ∀ {acc : Array Value}, ItemsOf (SignAt z) acc z.cps.size → Vals ((signsOf z).map V.str) acc.toList := by
  intro acc h
  have key : ∀ (n : Nat) (xs : List V) (us : List Value), xs.length = n → us.length = n → (∀ (i : Nat) (x : V) (u : Value), xs[i]? = some x → us[i]? = some u → RelV x u) → Vals xs us := by
    intro n
    induction n with
    | zero =>
      intro xs us h1 h2 _
      rw [List.length_eq_zero_iff.mp h1, List.length_eq_zero_iff.mp h2]
      exact .nil
    | succ n ih =>
      intro xs us h1 h2 hr
      match xs, us, h1, h2 with
      | x :: xs, u :: us, h1, h2 => exact .cons (hr 0 x u rfl rfl) (ih xs us (by simpa using h1) (by simpa using h2) fun i y v e1 e2 => hr (i + 1) y v e1 e2)
  have hs : acc.size = z.cps.size := h.1
  refine key z.cps.size _ _ (by simp [signsOf]) (by simp [hs]) fun i x u e1 e2 => ?_
  have hi : i < z.cps.size := by
    have := (List.getElem?_eq_some_iff.mp e2).1
    simpa [hs] using this
  obtain ⟨c, t, hc, hu⟩ := h.2 i u (by simpa using e2)
  rw [List.getElem?_map] at e1
  unfold signsOf at e1
  rw [List.getElem?_map, Array.getElem?_toList, hc] at e1
  have e : V.str (sgn c) = x := Option.some.inj e1
  rw [← e]
  exact ⟨t, hu⟩
theorem call_listS {X : Cx} (hc : X.calm = true) : CallR X (.type "list") rListS := by
  intro pins s σ H xs us Q I r h
  match xs, h with
  | [.str z], ⟨hz, q⟩ =>
    obtain ⟨u, rfl, t, rfl⟩ := vals1 r
    refine call_list_str (I.ok.hd hc) z t (fun h' tk acc' c' kp e hit => ?_) hz
    have hv := vals_signs hit
    have hlen : ((signsOf z).map V.str).length ≤ sizeLine := by
      rw [List.length_map]; unfold signsOf; rw [List.length_map, Array.length_toList]; exact hz
    exact ⟨.ref s.heap.objs.size, _, I.laid (t' := tk) kp (Nat.le_refl _) (show ObjOk X.prog X.w _ h' _ (.lst _) from ⟨hlen, acc'.toList, c', hv, by simpa using e⟩), rfl, q _ (I.hok.fresh (Nat.le_refl _))⟩
/-! ### {k: v}, k a tuple of ints and texts -/
def tDispT (tk tv : TE) : TE := fun σ H Q => ∀ p, H p = none → tk σ (upd H p (.dT [])) fun x H1 => tv σ H1 fun y H2 => H2 p = some (.dT []) ∧ ∃ (b : Addr) (ks : List Key), x = .ref b ∧ H2 b = some (.tup (ks.map kV)) ∧ Q (.ref p) (upd H2 p (.dT [(ks, y)]))
theorem pe_dispT {X : Cx} {k v : Expr} {tk tv : TE} {pos : Pos} (hu : X.A.units + 1 < cLine) (hk : PE X k tk) (hv : PE X v tv) : PE X (.Dict [some k] [v] pos) (tDispT tk tv) := by
  refine ⟨fun pins s σ H Q I q => ?_⟩
  have hn := I.hok.fresh (Nat.le_refl s.heap.objs.size)
  have I1 := I.laid (a := s.heap.objs.size) (o := .dT []) (h' := s.heap.push { cls := .type "dict", data := .dict #[] }) (t' := s.toks) (fun _ _ q => Heap.get?_push_of_some _ q) (Nat.le_refl _) (dt_empty s.heap I.big)
  have e : (evalEachOpt [some k] X.env).zip ((evalEach [v] X.env).map fun v => do let x ← v; standAt pos; pure x) = (pairTrees [some k] [v] X.env pos).map fun p => (some p.1, p.2) := zip_pairTrees [some k] [v] X.env pos rfl rfl
  have hl : (pairTrees [some k] [v] X.env pos).length = 1 := pairTrees_length [some k] [v] X.env pos rfl rfl
  rw [arm_eval_Dict, e, dictDisplay_pairs _ (fun z => by rw [z] at hl; cases hl) (by omega)]
  refine wpAny_bind (wpAny_standAt (wpAny_bind (wpAny_subDictH (knd := tupleKind (mixKind X.prog X.w)) (Nat.lt_of_succ_lt hu) (by omega) ?_)))
  refine pairTrees_cons_walk (thn (hk.run pins _ σ _ _ I1 (q _ hn)) fun u s1 ⟨x, H1, I2, rx, q1⟩ => thn (hv.run pins s1 σ H1 _ I2 q1) fun w2 s2 ⟨y, H2, I3, ry, e2, b, ks, ex, eb, q2⟩ => pairTrees_nil_walk ?_)
  subst ex
  cases (show u = Value.ref b from rx)
  obtain ⟨z, hd, xs, rel, dd⟩ := dt_of I3.hok e2
  cases rel
  refine ⟨[(ks, b, w2)], ⟨rfl, rfl, key_of I3.hok eb, True.intro⟩, dd, fun h' tk dd' hs => wpAny_pure ⟨.ref s.heap.objs.size, _, ?_, rfl, q2⟩⟩
  obtain ⟨o, es, ep, ho, h2, h3, h4, _, h5⟩ := dd'
  have hb : b ≠ s.heap.objs.size := ne_of eb e2 (fun z => nomatch z)
  refine d_write I3 (by rw [e2]; exact True.intro) hs ⟨o, ho⟩ ⟨by rw [sizeLine_eq]; show 1 ≤ _; omega, hd, [(ks, b, w2)], .cons ⟨rfl, ?_, ry⟩ .nil, o, es, ep, ho, h2, h3, h4, h5⟩
  rw [upd_ne hb]
  exact eb
/-! ### enumerate(tuple) -/
def IteT (K : PySem.W.Frag) (a : Addr) : It :=
  ⟨fun i H => ∃ (xs : List V) (x : V), SqT K H a xs ∧ xs[i]? = some x, fun i H v H' => ∃ T x, v = .ref T ∧ H T = none ∧ H' = upd H T (.tup [.int (i : Nat), x]) ∧ ∀ xs, SqT K H a xs → xs[i]? = some x, fun i H => ∃ xs : List V, SqT K H a xs ∧ xs.length ≤ i⟩
theorem turn_enumT {P : Program} {w : World} {K : PySem.W.Frag} {elts : List Expr} {kk : Nat} {tpos : Pos} (a e it : Addr) :
    Turn P w K (.Tuple elts kk tpos) (IteT K a) [e, it] e (fun i h => (∃ old, IsEnum h e it ((i : Nat) : Int) old) ∧ h.IsTupleIter it a i ∧ e ≠ it ∧ a ≠ e ∧ a ≠ it) where
  mem := by simp
  obj := fun i h st b hb => by
    obtain ⟨⟨old, he⟩, ⟨o, ho, hc, hd⟩, _⟩ := st
    have e' : b = e ∨ b = it := by simpa using hb
    rcases e' with z | z
    · exact z ▸ ⟨_, he, fun v q => nomatch q⟩
    · exact z ▸ ⟨o, ho, fun v q => by rw [hd] at q; cases q⟩
  keep := fun i h h' st k => by
    obtain ⟨⟨old, he⟩, hi, n1, n2, n3⟩ := st
    exact ⟨⟨old, k e (by simp) _ he⟩, hi.at fun o q => k it (by simp) o q, n1, n2, n3⟩
  item := by
    intro X hP hw hK hc i pins s σ H E I hf st hg
    subst hP hw hK
    obtain ⟨⟨old, he⟩, hit, n1, n2, n3⟩ := st
    obtain ⟨xs, x, hq, hx⟩ := hg
    obtain ⟨its, rv, p, hz⟩ := I.tuple hq
    obtain ⟨u, hu, ru⟩ := rv.get hx
    have hel : e < s.heap.objs.size := Heap.lt_size he
    have hil : it < s.heap.objs.size := by
      obtain ⟨_, q, _⟩ := hit
      exact Heap.lt_size q
    have low : ∀ b, b ∈ [e, it] → b < s.heap.objs.size := fun b hb => by
      have e' : b = e ∨ b = it := by simpa using hb
      rcases e' with z | z <;> rw [z] <;> assumption
    have hlt : i < its.toArray.size := by
      have := (List.getElem?_eq_some_iff.mp hu).1
      simpa using this
    refine wpAny_pyNext_enum_itemC (Draws.tuple (A := X.A.in1) (I.ok.hd hc) it a n3 its.toArray) he (⟨hit, p⟩ : s.heap.IsTupleIter it a i ∧ s.heap.IsTuple a its.toArray) hlt n1 (by simp [n1, Ne.symm n2]) fun y h' tk hy ho hst hT hsz hk => ?_
    have ey : y = u := by
      have h1 : its.toArray[i]? = some y := hy
      rw [List.getElem?_toArray, hu] at h1
      exact (Option.some.inj h1).symm
    subst ey
    refine ⟨_, rfl, wpAny_letOwnedTupleGo_enum (s := { s with heap := h', toks := tk + 1 }) ho fun h2 he2 sb => ?_⟩
    have hT2 : h2.get? s.heap.objs.size = some { cls := .type "tuple", data := .seq #[.int i tk, y] } := (sb.2 _ (Nat.ne_of_gt hel)).trans hT
    have made : ObjOk X.prog X.w (upd H s.heap.objs.size (.tup [.int (i : Nat), x])) h2 s.heap.objs.size (.tup [.int (i : Nat), x]) :=
      ⟨by show 2 ≤ sizeLine; decide, [.int i tk, y], .cons ⟨_, rfl⟩ (.cons ru .nil), ⟨_, hT2, rfl, _, rfl⟩⟩
    have out : ∀ b, b ∉ [e, it] → b ≠ e ∧ b ≠ it := fun b hb => ⟨fun z => hb (by simp [z]), fun z => hb (by simp [z])⟩
    have I1 : Inv X pins σ (upd H s.heap.objs.size (.tup [.int (i : Nat), x])) { s with heap := h2, toks := tk + 1 } :=
      I.turnedNew (ch := [e, it]) (fun b ob hb q => (sb.2 b (out b hb).1).trans (hk b ob (out b hb).1 (out b hb).2 q)) hf (Nat.le_refl _) made
    refine ⟨.ref s.heap.objs.size, _, I1, rfl, ⟨_, x, rfl, I.hok.fresh (Nat.le_refl _), rfl, fun ys hy => by rw [I.tuple_inj hy hq]; exact hx⟩, ⟨⟨y, ?_⟩, hst.1.at fun o q => (sb.2 it (Ne.symm n1)).trans q, n1, n2, n3⟩, fun b hb => ?_⟩
    · have e1 : ((i + 1 : Nat) : Int) = (i : Int) + 1 := by omega
      rw [e1]
      exact he2
    · rw [upd_ne (Nat.ne_of_lt (low b hb))]
      exact (hf b hb).1
  done := by
    intro X hP hw hK hc i pins s σ H E I hf st hg
    subst hP hw hK
    obtain ⟨⟨old, he⟩, hit, n1, n2, n3⟩ := st
    obtain ⟨xs, hq, hx⟩ := hg
    obtain ⟨its, rv, p, hz⟩ := I.tuple hq
    obtain ⟨f0, f1, f2, f3, f4, f5⟩ := hf it (by simp)
    have hl := rv.length
    have hnone : its.toArray[i]? = none := by
      rw [List.getElem?_toArray]
      exact List.getElem?_eq_none (by omega)
    have D : Draws X.prog X.w X.A.in1 it [it, a] i (fun _ _ => True) (fun j h => j = i ∧ h.IsTupleIter it a i ∧ h.IsTuple a its.toArray) :=
      { live := fun _ _ st => let ⟨o, ho, _⟩ := st.2.1; ⟨o, ho⟩
        frame := fun _ _ _ st k => ⟨st.1, st.2.1.at fun o q => k it (by simp) o q, st.2.2.at fun o q => k a (by simp) o q⟩
        item := fun j s Q E hj st _ => absurd hj (by rw [st.1]; exact Nat.lt_irrefl _)
        done := fun s Q E st hE => wpAny_nextOf_tuple_end (I.ok.hd hc) st.2.1 st.2.2 hnone hE }
    exact wpAny_pyNext_enum_endD D he ⟨rfl, hit, p⟩ fun h' eb => ⟨rfl, I.turned (t' := s.toks) (fun b o hb q => eb b o hb q) f0 f1 f3 f4 f5⟩
  self := fun A i s Q E st h => by
    obtain ⟨⟨_, he⟩, _⟩ := st
    exact wpAny_pyIter_enum he h
namespace FX
/-- enumerate(t) of a tuple: the maker's own tree -/
theorem meets_enumT (l : Addr) (items : Array Value) (n : Nat) (dct : Option Addr) (sl : Array (Option Value)) :
    Meets (Builtin.«enumerate.__new__» ⟨[.type "enumerate", .ref l], []⟩) (fun _ R s => s.heap.get? l = some { cls := .type "tuple", dict := dct, data := .seq items n, slots := sl } ∧
      R (.ok (.ret (.ref (s.heap.push { cls := .type "tuple_iterator", data := .fields #[.ref l, .int 0 0] }).objs.size)))
        { s with heap := (s.heap.push { cls := .type "tuple_iterator", data := .fields #[.ref l, .int 0 0] }).push { cls := .type "enumerate", data := .fields #[.none, .bool false, .ref s.heap.objs.size, rawInt 0, .none, .none] } }) :=
  .of_wp fun prog w A R s h => by
    obtain ⟨hp, g, d, tk, os⟩ := s
    obtain ⟨hl, h⟩ := h
    have hsub := sub_enumerate
    have hT : Heap.IsTuple (Shared.heap ⟨hp, g, d, tk, os⟩) l items := ⟨_, hl, rfl, n, rfl⟩
    wp_walk using AutoSeq1.wpAny_loadPart' hl
    refine wpAny_stack_any fun st => wpAny_pure ?_
    split
    · rename_i c _ _ _ _ _
      cases (c == Value.type "enumerate") <;>
      · wp_walk using AutoSeq1.wpAny_loadPart' hl, wpAny_pyIter_tuple hT
        exact ⟨_, rfl, h⟩
    · wp_walk using AutoSeq1.wpAny_loadPart' hl, wpAny_pyIter_tuple hT
      exact ⟨_, rfl, h⟩
end FX
theorem call_enumT {prog : Program} {w : World} {A : Around} {E : Value → Shared → Prop} {s : Shared} {l : Addr} {items : Array Value} {Q : Value → Shared → Prop} (ht : s.heap.IsTuple l items)
    (h : ∀ h', IsEnum h' (s.heap.objs.size + 1) s.heap.objs.size 0 .none → h'.IsTupleIter s.heap.objs.size l 0 → (∀ b o, s.heap.get? b = some o → h'.get? b = some o) → Q (.ref (s.heap.objs.size + 1)) { s with heap := h' }) :
    wpAny (model prog w) A (call (.type "enumerate") [.ref l]) Q E s := by
  obtain ⟨⟨c, dct, dt, sl⟩, hl, hc, n, hd⟩ := ht
  obtain rfl : c = .type "tuple" := hc
  obtain rfl : dt = .seq items n := hd
  refine callType_new F.called_enumerate (by decide) (F.typeCall_enumerate_1 _) (F.newCall_enumerate_1 _) (fun z => F.args_object_init_2 z _) F.entry_enumerate_new (FX.meets_enumT l items n dct sl) ⟨hl, ?_⟩
  have hz : (s.heap.push { cls := .type "tuple_iterator", data := .fields #[.ref l, .int 0 0] }).objs.size = s.heap.objs.size + 1 := Heap.size_push ..
  show _ ∧ _
  rw [hz]
  have he := Heap.get?_push_size (s.heap.push { cls := .type "tuple_iterator", data := .fields #[.ref l, .int 0 0] }) (o := { cls := .type "enumerate", data := .fields #[.none, .bool false, .ref s.heap.objs.size, rawInt 0, .none, .none] }) rfl
  rw [hz] at he
  exact ⟨⟨_, he, rfl⟩, h _ he ⟨_, Heap.get?_push_of_some _ (Heap.get?_push_size _ rfl), rfl, rfl⟩ fun b o x => Heap.get?_push_of_some _ (Heap.get?_push_of_some _ x)⟩
def iEnumT (K : PySem.W.Frag) (ta : TA) : TI := fun σ H R => ta σ H fun vs H1 => ∃ a xs, vs = [.ref a] ∧ SqT K H1 a xs ∧ R (IteT K a) H1
theorem pi_enumT {X : Cx} {e : Expr} {ta : TA} {p pos tpos : Pos} {elts : List Expr} {kk : Nat} (hg : Gl X "enumerate") (hm : X.mg "enumerate" = none) (ha : PA X [e] ta) (hs : starEach [e] X.env = [(false, eval e X.env)] := by rfl) :
    PI X (.Tuple elts kk tpos) (.Call (.Name "enumerate" p) [e] [] pos) (iEnumT X.K ta) := by
  refine ⟨fun pins s σ H R I h => ?_⟩
  refine Call_ (ld_blt I hg hm boot_enumerate (PyProof.Rows.callWith_type1 (thn (ha.run pos pins s σ H _ I h) fun us s1 ⟨vs, H1, I1, r1, q1⟩ => ?_) hs rfl))
  obtain ⟨a, xs, rfl, hq, q⟩ := q1
  obtain ⟨u, rfl, ru⟩ := vals1 r1
  cases ru
  obtain ⟨its, rv, p', hz⟩ := I1.tuple hq
  have hal : a < s1.heap.objs.size := p'.lt
  refine call_enumT p' fun h' he hit hk => wpAny_pyIter_enum he ?_
  have I2 : Inv X pins σ H1 { s1 with heap := h' } := I1.kept (t' := s1.toks) hk
  refine ⟨s1.heap.objs.size + 1, [s1.heap.objs.size + 1, s1.heap.objs.size], _, _, H1, rfl, I2, turn_enumT a (s1.heap.objs.size + 1) s1.heap.objs.size, ⟨⟨.none, he⟩, hit, Nat.succ_ne_self _, Nat.ne_of_lt (Nat.lt_succ_of_lt hal), Nat.ne_of_lt hal⟩, fun b hb => ?_, q⟩
  have hle : s1.heap.objs.size ≤ b := by
    have e' : b = s1.heap.objs.size + 1 ∨ b = s1.heap.objs.size := by simpa using hb
    rcases e' with z | z <;> rw [z]
    · exact Nat.le_succ _
    · exact Nat.le_refl _
  exact I1.fpOk hle (I1.hok.fresh hle)
end Sg

/-! try: .. with several clauses, each with «as» or without -/
namespace Sg
open PySem PySem.Spec PyProof.Rows L2
abbrev SuiteT : Type := Addr → Value → Option Addr → TS
/-- the ends of a suite whose name (slot i) goes behind it -/
def endsOff (i : Nat) (D : Ends) : Ends := { nx := fun σ' H' => D.nx (σ'.set i none) H', rt := D.rt, bk := fun σ' H' => D.bk (σ'.set i none) H', ct := fun σ' H' => D.ct (σ'.set i none) H' }
/-- what the clauses wish of an exception of the body, from the first on -/
def wCl (K : PySem.W.Frag) (Wo : WX) (D : Ends) : List (Value × Option Nat × SuiteT) → WX
  | [] => Wo
  | (c, oi, ts) :: r => fun cls d σ H => ∃ b, PySem.W.exmOne K cls c = some b ∧
    (b = true → ∀ a, H a = none → match oi with
      | none => ts a cls d D σ H
      | some i => ts a cls d (endsOff i D) (σ.set i (some (.ref a))) H) ∧ (b = false → wCl K Wo D r cls d σ H)
inductive ClOk (X : Cx) : List ExceptHandler → List (Value × Option Nat × SuiteT) → Prop
  | nil : ClOk X [] []
  | one {x : Str} {c : Value} {ts : SuiteT} {b₀ : Stmt} {su : List Stmt} {np pos' : Pos} {hds : List ExceptHandler} {l : List (Value × Option Nat × SuiteT)} (hc : Names X x c)
      (hsu : ∀ (a : Addr) (oe : Obj) (cls : Value) (d : Option Addr) (pn : List (Addr × Obj)), Zc cls d oe → (∃ vs, oe.data = .fields vs) → PSs (X.suite a ((a, oe) :: pn)) (b₀ :: su) (ts a cls d)) (r : ClOk X hds l) :
      ClOk X (.ExceptHandler (some (.Name x np)) none (b₀ :: su) pos' :: hds) ((c, none, ts) :: l)
  | named {x n : Str} {i : Nat} {c : Value} {ts : SuiteT} {b₀ : Stmt} {su : List Stmt} {np pos' : Pos} {hds : List ExceptHandler} {l : List (Value × Option Nat × SuiteT)} (hc : Names X x c)
      (hN : X.N.Nodup) (hi : X.N[i]? = some n) (hln : X.env.kindOf n = some .local)
      (hsu : ∀ (a : Addr) (oe : Obj) (cls : Value) (d : Option Addr) (pn : List (Addr × Obj)), Zc cls d oe → (∃ vs, oe.data = .fields vs) → PSs (X.suite a ((a, oe) :: pn)) (b₀ :: su) (ts a cls d)) (r : ClOk X hds l) :
      ClOk X (.ExceptHandler (some (.Name x np)) (some n) (b₀ :: su) pos' :: hds) ((c, some i, ts) :: l)
section
variable {X : Cx} {body : List Stmt} {h₀ : ExceptHandler} {hds : List ExceptHandler} {l : List (Value × Option Nat × SuiteT)} {pos : Pos} {tb : WX → TS} {Wo : WX}
theorem ps_try_cl (hs : X.stack = X.env :: X.outer) (hf : X.env.frame = some X.env.locals) (tk : Takes X Wo)
    (hb : ∀ (W : WX) (pn : List (Addr × Obj)) (xe : Value → Shared → Prop), Takes (X.tr pn xe) W → PassesOwn (model X.prog X.w) X.A X.env xe → PSs (X.tr pn xe) body (tb W))
    (hh : ClOk X (h₀ :: hds) l) : PS X (.Try body (h₀ :: hds) [] [] pos) (fun D σ H => tb (wCl X.K Wo D l) D σ H) := by
  refine ⟨fun pins s σ H D I hgo => ?_⟩
  have ok := I.ok
  have frm : X.A.frames = some (X.env :: X.outer) := ok.frames.trans (by rw [hs])
  refine wpAny_Try_except ?_
  refine wpAny_mono ((hb (wCl X.K Wo D l) (X.pn ++ pins) (fun e g₁ => wpAny (model X.prog X.w) X.A (noteFrame e X.env) (fun _ g₂ => wpAny (model X.prog X.w) X.A (setFlight e none) (fun _ g₃ =>
    wpAny (model X.prog X.w) X.A (handleBy e X.env (h₀ :: hds)) (SP X pins D) X.xe g₃) X.xe g₂) X.xe g₁) (fun u g gx => ?_) PassesOwn.looking).run [] s σ H D (I.toTry _) hgo) (fun fl g1 hsp => ?_) (fun e g1 he => he)
  · obtain ⟨a, B, sI, pins2, σ2, H2, cls, d, rfl, J0, nb, up, sky, na, os, ag, wish⟩ := gx
    have J : Inv X pins σ2 H2 sI := J0.ofTry ok
    have sky2 : Sky B (X.env :: X.outer) a (Zc cls d) X.env.locals g.heap := hs ▸ sky
    show wpAny (model X.prog X.w) X.A (noteFrame (.ref a) X.env) _ _ _
    refine Sky.land Zc.steady frm hf sky2 fun k3 fly up3 => ?_
    have J3 : Inv X pins σ2 H2 { g with heap := k3 } := J.landed nb fly.1 (up.trans up3) os ag
    obtain ⟨o3, f3, at3, z3, dt3⟩ := fly.there
    have apart : a ∉ frs (X.env :: X.outer) := fun hm => by
      obtain ⟨_, o', e', hnf⟩ := fly.2.2.1.mem hm
      rw [at3] at e'
      cases e'
      exact hnf _ dt3
    have nL : a ≠ X.env.locals := fun z => apart (List.mem_filterMap.mpr ⟨X.env, List.mem_cons_self, by rw [hf, z]⟩)
    have nF : a ∉ X.fs := fun hm => by
      obtain ⟨e, he, q⟩ := List.mem_filterMap.mp hm
      exact apart (List.mem_filterMap.mpr ⟨e, List.mem_cons_of_mem _ he, q⟩)
    have S3 := J3.suite at3 dt3 na nL nF
    have LT : PySem.W.Looks (model X.prog X.w) k3 (typeOf (.ref a)) cls := fun A Q E s k q => wpAny_typeOf_ref (k _ _ at3) (z3.1 ▸ q)
    have named : ∀ {x : Str} {c : Value} {np : Pos}, Names X x c → ∀ {Q : Value → Shared → Prop} {E : Value → Shared → Prop}, Q c { g with heap := k3 } → wpAny (model X.prog X.w) (X.A.mark (some (.ref a))) (eval (.Name x np) X.env) Q E { g with heap := k3 } := by
      intro x c np hc Q E q
      obtain ⟨hg, hdbg, hm | ⟨hm, hv, hnn⟩⟩ := hc
      · exact ld_glob (X := X.suite a ((a, o3) :: (X.pn ++ pins))) S3 hg hm q hdbg
      · exact ld_blt (X := X.suite a ((a, o3) :: (X.pn ++ pins))) S3 hg hm hv q hnn hdbg
    have go : ∀ {hs2 : List ExceptHandler} {l2 : List (Value × Option Nat × SuiteT)}, ClOk X hs2 l2 → wCl X.K Wo D l2 cls d σ2 H2 →
        wpAny (model X.prog X.w) X.A (handleBy (.ref a) X.env hs2) (SP X pins D) X.xe { g with heap := k3 } := by
      intro hs2 l2 hk
      induction hk with
      | nil =>
        intro wq
        refine wpAny_handleBy_nil ?_
        obtain ⟨_, _, _, oe, vs, T, oT, ts', at4, hz, dt4, h1, hr⟩ := id fly
        unfold PySem.passOn
        refine wpAny_bind (wpAny_field at4 dt4 h1 ?_)
        rw [if_neg (show ¬ ((Value.ref T == Value.none) = true) from by simp)]
        have fin : wpAny (model X.prog X.w) X.A (setFlight (.ref a) X.env.frame) (fun _ g4 => wpAny (model X.prog X.w) X.A (throw (.ref a) : Sem Flow) (SP X pins D) X.xe g4) X.xe { g with heap := k3 } := by
          rw [hf]
          refine HandSPX.setFlight_upZ fly fun k4 held up4 => wpAny_throw (tk _ _ ?_)
          exact ⟨a, B, sI, pins, σ2, H2, cls, d, rfl, J, nb, (up.trans up3).trans up4, .inr (.inr (hs ▸ held)), na, os, ag, wq⟩
        first
          | exact wpAny_bind (wpAny_pure (wpAny_bind fin))
          | exact wpAny_bind fin
      | @one x c ts b₀ su np pos' hds2 l2 hc hsu r ih =>
        intro wq
        obtain ⟨b, hb1, hyes, hno⟩ := wq
        refine wpAny_handleBy_cons (codeAny_handlers_test ?_) (by intro q; cases q)
        refine named hc ((PySem.W.exm_one (M := model X.prog X.w) (J3.kIn) LT hb1).here ?_)
        cases b with
        | false => exact ih (hno rfl)
        | true =>
          refine codeAny_handlers_suite ?_
          refine HandSPX.lands_againZ fly fun k4 fl4 up4 => ?_
          have J4 : Inv X pins σ2 H2 { g with heap := k4 } := J.landed nb fl4.1 ((up.trans up3).trans up4) os ag
          obtain ⟨o4, f4, at4, z4, dt4⟩ := fl4.there
          refine wpAny_mono ((hsu a o4 cls d (X.pn ++ pins) z4 ⟨_, dt4⟩).run [] _ _ H2 _ (J4.suite at4 dt4 na nL nF) (hyes rfl a na)) (fun fl g6 q6 => ?_) (fun _ _ z => False.elim z)
          cases fl with
          | ret u => obtain ⟨v6, σ6, H6, S6, r6, q6⟩ := q6; exact ⟨_, _, _, S6.unsuite ok, r6, q6⟩
          | _ => obtain ⟨σ6, H6, S6, q6⟩ := q6; exact ⟨_, _, S6.unsuite ok, q6⟩
      | @named x n i c ts b₀ su np pos' hds2 l2 hc hN hi hln hsu r ih =>
        intro wq
        obtain ⟨b, hb1, hyes, hno⟩ := wq
        refine wpAny_handleBy_cons (codeAny_handlers_test ?_) (by intro q; cases q)
        refine named hc ((PySem.W.exm_one (M := model X.prog X.w) (J3.kIn) LT hb1).here ?_)
        cases b with
        | false => exact ih (hno rfl)
        | true =>
          refine codeAny_handlers_suite_as ?_
          refine HandSPX.lands_againZ fly fun k4 fl4 up4 => ?_
          have J4 : Inv X pins σ2 H2 { g with heap := k4 } := J.landed nb fl4.1 ((up.trans up3).trans up4) os ag
          obtain ⟨o4, f4, at4, z4, dt4⟩ := fl4.there
          have S4 := J4.suite at4 dt4 na nL nF
          refine store_ok (X := X.suite a ((a, o4) :: (X.pn ++ pins))) (v := .ref a) S4 hN hi (.inl hln) rfl (fun g5 S5 => ?_) (.inr hln)
          refine wpAny_mono ((hsu a o4 cls d (X.pn ++ pins) z4 ⟨_, dt4⟩).run [] g5 _ H2 _ S5 (hyes rfl a na)) (fun fl g6 q6 => ?_) (fun _ _ z => False.elim z)
          have gone : ∀ {σ6 : L2.St} {H6 : Hp} {Q : Shared → Prop}, Inv (X.suite a ((a, o4) :: (X.pn ++ pins))) [] σ6 H6 g6 → (∀ g7, Inv X pins (σ6.set i none) H6 g7 → Q g7) →
              wpAny (model X.prog X.w) X.A (do bindName X.env n .none; unbindBehindTheSuite X.env n pos') (fun _ g7 => Q g7) X.xe g6 := fun S6 hq => gone_ok (S6.unsuite ok) hN hi hln hq
          cases fl with
          | ret u => obtain ⟨v6, σ6, H6, S6, r6, q6⟩ := q6; exact gone S6 fun g7 J7 => ⟨_, _, _, J7, r6, q6⟩
          | _ => obtain ⟨σ6, H6, S6, q6⟩ := q6; exact gone S6 fun g7 J7 => ⟨_, _, J7, q6⟩
    exact go hh wish
  · cases fl with
    | next => obtain ⟨σ', H', J', q⟩ := hsp; exact wpAny_execs_nil ⟨σ', H', J'.ofTry ok, q⟩
    | ret u => obtain ⟨v, σ', H', J', r, q⟩ := hsp; exact ⟨v, σ', H', J'.ofTry ok, r, q⟩
    | _ => obtain ⟨σ', H', J', q⟩ := hsp; exact ⟨σ', H', J'.ofTry ok, q⟩
end
/-! ### isinstance(e, C), e the exception that the suite holds, without an own dict -/
def rIsX (K : PySem.W.Frag) (a : Addr) (cls : Value) (d : Option Addr) : List V → Hp → VK → Prop := fun xs H Q => ∃ (D : Addr) (c : V) (cv : Value) (b : Bool), cls = .ref D ∧ d = none ∧ ExcC K D ∧ xs = [.ref a, c] ∧
  (∀ u, RelV c u → u = cv) ∧ PySem.W.kitOne K (.ref D) cv = some b ∧ Q (.bl b) H
theorem call_isX {X : Cx} {a : Addr} {oe : Obj} {cls : Value} {d : Option Addr} {pn : List (Addr × Obj)} (hz : Zc cls d oe) (hf : ∃ vs, oe.data = .fields vs) : CallR (X.suite a ((a, oe) :: pn)) (.builtin "isinstance") (rIsX X.K a cls d) := by
  intro pins s σ H xs us Q I r h
  obtain ⟨D, c, cv, b, rfl, rfl, C, hx, hcv, e, q⟩ := h
  exact call_isE C hz hf pins s σ H xs us Q I r ⟨c, cv, b, hx, hcv, e, q⟩
theorem takesNo {X : Cx} {a : Addr} {pn : List (Addr × Obj)} : Takes (X.suite a pn) (fun _ _ _ _ => False) := takes0
def eqF (a b : Option (Option Value)) : Bool := decide (a = b)
def excCB (K : PySem.W.Frag) (D : Addr) : Bool := eqF (PySem.W.findIn K (.ref D) "__getattribute__") (some (some (.builtin "BaseException.__getattribute__"))) && (eqF (PySem.W.findIn K (.ref D) "__getattr__") (some none) && (decide (PySem.W.subIn K (.ref D) (.type "BaseException") = some true) &&
  (PySem.W.hasDictIn K D && (eqF (PySem.W.findIn K (.ref D) "__class__") (some (some (.builtin "object.__class__"))) && (eqF (PySem.W.specialIn K (.builtin "object.__class__") "__get__") (some (some (.builtin "getset_descriptor.__get__"))) &&
  (decide (PySem.W.takesIn K (.builtin "object.__class__") = some true) && decide (PySem.W.mroIn K D (.type "object") = some true)))))))
theorem excCB_ok {K : PySem.W.Frag} {D : Addr} (h : excCB K D = true) : ExcC K D := by
  obtain ⟨h1, h⟩ := He.ba h
  obtain ⟨h2, h⟩ := He.ba h
  obtain ⟨h3, h⟩ := He.ba h
  obtain ⟨h4, h⟩ := He.ba h
  obtain ⟨h5, h⟩ := He.ba h
  obtain ⟨h6, h⟩ := He.ba h
  obtain ⟨h7, h8⟩ := He.ba h
  exact ⟨of_decide_eq_true h1, of_decide_eq_true h2, of_decide_eq_true h3, h4, of_decide_eq_true h5, of_decide_eq_true h6, of_decide_eq_true h7, of_decide_eq_true h8⟩
theorem exAt {l : List Bool} (h : l.all id = true) {i : Nat} {b : Bool} (e : l[i]? = some b) : b = true := List.all_eq_true.mp h b (List.mem_of_getElem? e)
end Sg

/-! readings by the shape of the values -/
namespace Sg
open PySem PySem.Spec PyProof.Rows L2
section
variable {X : Cx}
def rLenQ (K : PySem.W.Frag) : List V → Hp → VK → Prop := fun xs H Q => match xs with
  | [.ref p] => ∃ ys, (SqL K H p ys ∨ SqT K H p ys) ∧ Q (.int ys.length) H
  | [.str z] => z.length ≤ sizeLine ∧ Q (.int z.length) H
  | _ => False
theorem call_lenQ : CallR X (.builtin "len") (rLenQ X.K) := by
  intro pins s σ H xs us Q I r h
  match xs, h with
  | [.ref p], ⟨ys, hq, q⟩ => exact call_len_seq pins s σ H _ us Q I r ⟨p, ys, rfl, hq, q⟩
  | [.str z], ⟨hz, q⟩ => exact call_len_str pins s σ H _ us Q I r ⟨z, rfl, hz, q⟩
def rIxTQ (K : PySem.W.Frag) : R2 := fun x y H Q => match x, y with
  | .ref p, .int i => ∃ xs v, SqT K H p xs ∧ atI xs i = some v ∧ Q v H
  | _, _ => False
theorem ix_tupQ : IxR X (rIxTQ X.K) := by
  intro value slice pins s σ H x y v u Q I rx ry h hs
  match x, y, h with
  | .ref p, .int i, ⟨xs, w, h1, h2, q⟩ => exact ix_tup value slice pins s σ H _ _ v u Q I rx ry ⟨p, xs, i, w, rfl, rfl, h1, h2, q⟩ hs
def rIxLQ (K : PySem.W.Frag) : R2 := fun x y H Q => match x, y with
  | .ref p, .int i => ∃ xs v, SqL K H p xs ∧ atI xs i = some v ∧ Q v H
  | _, _ => False
theorem ix_listQ : IxR X (rIxLQ X.K) := by
  intro value slice pins s σ H x y v u Q I rx ry h hs
  match x, y, h with
  | .ref p, .int i, ⟨xs, w, h1, h2, q⟩ => exact ix_list value slice pins s σ H _ _ v u Q I rx ry ⟨p, xs, i, w, rfl, rfl, h1, h2, q⟩ hs
def rIxSQ : R2 := fun x y H Q => match x, y with
  | .str z, .int i => ∃ c, z.length ≤ sizeLine ∧ atI z.cps.toList i = some c ∧ Q (.str (sgn c)) H
  | _, _ => False
theorem ix_strQ : IxR X rIxSQ := by
  intro value slice pins s σ H x y v u Q I rx ry h hs
  match x, y, h with
  | .str z, .int i, ⟨c, h1, h2, q⟩ => exact ix_str value slice pins s σ H _ _ v u Q I rx ry ⟨z, i, c, rfl, rfl, h1, h2, q⟩ hs
def rInt1Q : List V → Hp → VK → Prop := fun xs H Q => match xs with
  | [.int i] => Q (.int i) H
  | [.bl k] => Q (.int (if k then 1 else 0)) H
  | _ => False
theorem call_int1Q : CallR X (.type "int") rInt1Q := by
  intro pins s σ H xs us Q I r h
  match xs, h with
  | [.int i], q => exact call_int1 pins s σ H _ us Q I r (.inl ⟨i, rfl, q⟩)
  | [.bl k], q => exact call_int1 pins s σ H _ us Q I r (.inr ⟨k, rfl, q⟩)
def rTupQ (K : PySem.W.Frag) : List V → Hp → VK → Prop := fun xs H Q => match xs with
  | [.ref p] => ∃ ys, SqL K H p ys ∧ ∀ l, H l = none → Q (.ref l) (upd H l (.tup ys))
  | _ => False
/-- tuple(list) -/
theorem call_tupQ : CallR X (.type "tuple") (rTupQ X.K) := by
  intro pins s σ H xs us Q I r h
  match xs, h with
  | [.ref p], ⟨ys, h1, q⟩ => exact call_tuple_of pins s σ H _ us Q I r ⟨p, ys, rfl, .inl ⟨h1, q⟩⟩
def rAppQ : V → List V → Hp → VK → Prop := fun x vs H Q => match x, vs with
  | .ref l, [y] => ∃ xs, H l = some (.lst xs) ∧ xs.length < sizeLine ∧ Q .non (upd H l (.lst (xs ++ [y])))
  | _, _ => False
theorem mt_appQ : MtR X "list.append" rAppQ := by
  intro pins s σ H x vs v us Q I rx rv h
  match x, vs, h with
  | .ref l, [y], ⟨xs, h1, h2, q⟩ => exact mt_append pins s σ H _ _ v us Q I rx rv ⟨l, xs, y, rfl, rfl, h1, h2, q⟩
def rPopQ : V → List V → Hp → VK → Prop := fun x vs H Q => match x, vs with
  | .ref l, [] => ∃ xs y, H l = some (.lst (xs ++ [y])) ∧ Q y (upd H l (.lst xs))
  | _, _ => False
theorem mt_popQ : MtR X "list.pop" rPopQ := by
  intro pins s σ H x vs v us Q I rx rv h
  match x, vs, h with
  | .ref l, [], ⟨xs, y, h1, q⟩ =>
    refine mt_pop pins s σ H _ _ v us Q I rx rv ⟨l, xs ++ [y], y, rfl, rfl, h1, ?_, ?_⟩
    · rw [List.length_append, List.length_singleton, Nat.add_sub_cancel, List.getElem?_append_right (Nat.le_refl _), Nat.sub_self]
      rfl
    · rw [List.dropLast_concat]
      exact q
def rPopAtQ : V → List V → Hp → VK → Prop := fun x vs H Q => match x, vs with
  | .ref l, [.int i] => ∃ xs y, H l = some (.lst xs) ∧ 0 ≤ i ∧ i < 2 ^ 62 ∧ xs[i.toNat]? = some y ∧ Q y (upd H l (.lst (xs.eraseIdx i.toNat)))
  | _, _ => False
theorem mt_popAtQ : MtR X "list.pop" rPopAtQ := by
  intro pins s σ H x vs v us Q I rx rv h
  match x, vs, h with
  | .ref l, [.int i], ⟨xs, y, h1, h0, hi, h2, q⟩ =>
    refine mt_popAt pins s σ H _ _ v us Q I rx rv ⟨l, xs, i, i.toNat, y, rfl, rfl, h1, by omega, by omega, ?_, h2, q⟩
    have hlt := (List.getElem?_eq_some_iff.mp h2).1
    unfold seqIndex?
    dsimp only
    rw [if_neg (show ¬ i < 0 by omega), if_pos (by simp; omega)]
def rRevQ : V → List V → Hp → VK → Prop := fun x vs H Q => match x, vs with
  | .ref l, [] => ∃ xs, H l = some (.lst xs) ∧ Q .non (upd H l (.lst xs.reverse))
  | _, _ => False
theorem mt_revQ : MtR X "list.reverse" rRevQ := by
  intro pins s σ H x vs v us Q I rx rv h
  match x, vs, h with
  | .ref l, [], ⟨xs, h1, q⟩ => exact mt_reverse pins s σ H _ _ v us Q I rx rv ⟨l, xs, rfl, rfl, h1, q⟩
end
theorem lst_ty {K : PySem.W.Frag} {H : Hp} {p : Addr} {ys : List V} (h : H p = some (.lst ys)) : tyV K "list" (.ref p) H := .inl ⟨rfl, _, .inl (.inl h)⟩
end Sg

/-! breadth-first search over numbered steps, in plain Lean -/
namespace Sg
section
variable {α β : Type} [DecidableEq α] [DecidableEq β]
abbrev Met (α : Type) : Type := List (α × List Nat)
def addStep (stp : α → Nat → α) (a : α) (p : List Nat) (acc : Met α) (x : Nat) : Met α := if stp a x ∈ acc.map Prod.fst then acc else acc ++ [(stp a x, p ++ [x])]
def expand (n : Nat) (stp : α → Nat → α) (acc : Met α) (a : α) (p : List Nat) : Met α := (List.range n).foldl (addStep stp a p) acc
def expandTo (stp : α → Nat → α) (acc : Met α) (a : α) (p : List Nat) (k : Nat) : Met α := (List.range k).foldl (addStep stp a p) acc
def bfs (n : Nat) (stp : α → Nat → α) (tst : α → Bool) : Nat → Nat → Met α → Option (List Nat)
  | 0, _, _ => none
  | f + 1, i, acc => match acc[i]? with
    | none => none
    | some (a, p) => if tst a then some p else bfs n stp tst f (i + 1) (expand n stp acc a p)
theorem expandTo_zero (stp : α → Nat → α) (acc : Met α) (a : α) (p : List Nat) : expandTo stp acc a p 0 = acc := rfl
theorem expandTo_succ (stp : α → Nat → α) (acc : Met α) (a : α) (p : List Nat) (k : Nat) : expandTo stp acc a p (k + 1) = addStep stp a p (expandTo stp acc a p k) k := by
  unfold expandTo
  rw [List.range_succ, List.foldl_append]
  rfl
/-- what holds of all that is met -/
structure MetOk (n : Nat) (stp : α → Nat → α) (s : α) (acc : Met α) : Prop where
  nd : (acc.map Prod.fst).Nodup
  way : ∀ e ∈ acc, e.1 = e.2.foldl stp s ∧ (∀ x ∈ e.2, x < n) ∧ e.2.length < acc.length
theorem met_start (n : Nat) (stp : α → Nat → α) (s : α) : MetOk n stp s [(s, [])] where
  nd := by simp
  way := by
    intro e he
    obtain rfl := List.mem_singleton.mp he
    exact ⟨rfl, by simp, by simp⟩
theorem met_add {n : Nat} {stp : α → Nat → α} {s : α} {acc : Met α} (h : MetOk n stp s acc) {a : α} {p : List Nat} (hm : (a, p) ∈ acc) {x : Nat} (hx : x < n) : MetOk n stp s (addStep stp a p acc x) := by
  unfold addStep
  by_cases c : stp a x ∈ acc.map Prod.fst
  · rw [if_pos c]; exact h
  · rw [if_neg c]
    refine ⟨?_, ?_⟩
    · rw [List.map_append, List.nodup_append]
      refine ⟨h.nd, by simp, fun y hy z hz => ?_⟩
      obtain rfl := List.mem_singleton.mp hz
      exact fun e => c ((show y = stp a x from e) ▸ hy)
    · intro e he
      rw [List.length_append]
      rcases List.mem_append.mp he with he | he
      · obtain ⟨h1, h2, h3⟩ := h.way e he
        exact ⟨h1, h2, by simp; omega⟩
      · obtain rfl := List.mem_singleton.mp he
        obtain ⟨h1, h2, h3⟩ := h.way _ hm
        have h1' : a = p.foldl stp s := h1
        refine ⟨?_, ?_, ?_⟩
        · show stp a x = (p ++ [x]).foldl stp s
          rw [List.foldl_append, ← h1']
          rfl
        · intro y hy
          rcases List.mem_append.mp hy with hy | hy
          · exact h2 y hy
          · rw [List.mem_singleton.mp hy]; exact hx
        · show (p ++ [x]).length < _
          have h3' : p.length < acc.length := h3
          simp
          omega
theorem addStep_sub {stp : α → Nat → α} {a : α} {p : List Nat} {acc : Met α} {x : Nat} : ∃ more, addStep stp a p acc x = acc ++ more := by
  unfold addStep
  by_cases c : stp a x ∈ acc.map Prod.fst
  · rw [if_pos c]; exact ⟨[], by simp⟩
  · rw [if_neg c]; exact ⟨_, rfl⟩
theorem expandTo_sub {stp : α → Nat → α} {acc : Met α} {a : α} {p : List Nat} : ∀ k, ∃ more, expandTo stp acc a p k = acc ++ more
  | 0 => ⟨[], by rw [expandTo_zero]; simp⟩
  | k + 1 => by
    obtain ⟨m1, e1⟩ := expandTo_sub (stp := stp) (acc := acc) (a := a) (p := p) k
    obtain ⟨m2, e2⟩ := addStep_sub (stp := stp) (a := a) (p := p) (acc := expandTo stp acc a p k) (x := k)
    exact ⟨m1 ++ m2, by rw [expandTo_succ, e2, e1, List.append_assoc]⟩
theorem met_expandTo {n : Nat} {stp : α → Nat → α} {s : α} {acc : Met α} (h : MetOk n stp s acc) {a : α} {p : List Nat} (hm : (a, p) ∈ acc) : ∀ k, k ≤ n → MetOk n stp s (expandTo stp acc a p k)
  | 0, _ => h
  | k + 1, hk => by
    rw [expandTo_succ]
    obtain ⟨more, e⟩ := expandTo_sub (stp := stp) (acc := acc) (a := a) (p := p) k
    exact met_add (met_expandTo h hm k (by omega)) (by rw [e]; exact List.mem_append_left _ hm) (by omega)
theorem met_expand {n : Nat} {stp : α → Nat → α} {s : α} {acc : Met α} (h : MetOk n stp s acc) {a : α} {p : List Nat} (hm : (a, p) ∈ acc) : MetOk n stp s (expand n stp acc a p) := met_expandTo h hm n (Nat.le_refl _)
/-- what is found leads to where the test holds -/
theorem bfs_way {n : Nat} {stp : α → Nat → α} {s : α} {tst : α → Bool} : ∀ {f i : Nat} {acc : Met α} {p : List Nat}, MetOk n stp s acc → bfs n stp tst f i acc = some p → tst (p.foldl stp s) = true ∧ ∀ x ∈ p, x < n
  | 0, _, _, _, _, e => nomatch e
  | f + 1, i, acc, p, h, e => by
    unfold bfs at e
    cases hi : acc[i]? with
    | none => rw [hi] at e; cases e
    | some ap =>
      obtain ⟨a, q⟩ := ap
      rw [hi] at e
      have hm : (a, q) ∈ acc := List.mem_of_getElem? hi
      have e2 : (if tst a then some q else bfs n stp tst f (i + 1) (expand n stp acc a q)) = some p := e
      by_cases c : tst a = true
      · rw [if_pos c] at e2
        obtain rfl := Option.some.inj e2
        obtain ⟨h1, h2, _⟩ := h.way _ hm
        have h1' : a = q.foldl stp s := h1
        exact ⟨by rw [← h1']; exact c, h2⟩
      · rw [if_neg c] at e2
        exact bfs_way (met_expand h hm) e2
/-- the met ones are few -/
theorem nodup_few : ∀ {l u : List α}, l.Nodup → (∀ a ∈ l, a ∈ u) → l.length ≤ u.length
  | [], _, _, _ => Nat.zero_le _
  | a :: l, u, h, hs => by
    obtain ⟨h1, h2⟩ := List.nodup_cons.mp h
    have ha : a ∈ u := hs a List.mem_cons_self
    have hl : (u.erase a).length = u.length - 1 := List.length_erase_of_mem ha
    have hpos : 0 < u.length := List.length_pos_of_mem ha
    have := nodup_few (l := l) (u := u.erase a) h2 fun b hb => (List.mem_erase_of_ne (fun e : b = a => h1 (e ▸ hb))).mpr (hs b (List.mem_cons_of_mem _ hb))
    rw [List.length_cons]
    omega
theorem met_few {n : Nat} {stp : α → Nat → α} {s : α} {acc : Met α} (h : MetOk n stp s acc) {u : List α} (hs : s ∈ u) (hc : ∀ a ∈ u, ∀ x, x < n → stp a x ∈ u) : acc.length ≤ u.length := by
  have hin : ∀ (p : List Nat) (a : α), a ∈ u → (∀ x ∈ p, x < n) → p.foldl stp a ∈ u := by
    intro p
    induction p with
    | nil => intro a ha _; exact ha
    | cons x r ih => intro a ha hp; exact ih _ (hc a ha x (hp x List.mem_cons_self)) fun y hy => hp y (List.mem_cons_of_mem _ hy)
  have := nodup_few (l := acc.map Prod.fst) (u := u) h.nd fun a ha => by
    obtain ⟨e, he, rfl⟩ := List.mem_map.mp ha
    obtain ⟨h1, h2, _⟩ := h.way e he
    rw [h1]
    exact hin _ _ hs h2
  rwa [List.length_map] at this
/-- more turns than things tell the same -/
theorem bfs_more {n : Nat} {stp : α → Nat → α} {s : α} {tst : α → Bool} {u : List α} (hs : s ∈ u) (hc : ∀ a ∈ u, ∀ x, x < n → stp a x ∈ u) : ∀ {f g i : Nat} {acc : Met α}, MetOk n stp s acc → u.length < f + i → u.length < g + i → bfs n stp tst f i acc = bfs n stp tst g i acc
  | 0, 0, _, _, _, _, _ => rfl
  | 0, g + 1, i, acc, h, hf, _ => by
    have := met_few h hs hc
    have hn : acc[i]? = none := List.getElem?_eq_none (by omega)
    unfold bfs
    rw [hn]
  | f + 1, 0, i, acc, h, _, hg => by
    have := met_few h hs hc
    have hn : acc[i]? = none := List.getElem?_eq_none (by omega)
    unfold bfs
    rw [hn]
  | f + 1, g + 1, i, acc, h, hf, hg => by
    unfold bfs
    cases hi : acc[i]? with
    | none => rfl
    | some ap =>
      obtain ⟨a, q⟩ := ap
      have hm : (a, q) ∈ acc := List.mem_of_getElem? hi
      show (if tst a then some q else _) = (if tst a then some q else _)
      rw [bfs_more hs hc (f := f) (g := g) (met_expand h hm) (by omega) (by omega)]
/-- another name for each thing -/
def ren (g : α → β) (acc : Met α) : Met β := acc.map fun e => (g e.1, e.2)
theorem ren_add {stp : α → Nat → α} {stq : β → Nat → β} {g : α → β} (gi : ∀ a b, g a = g b → a = b) {a : α} {p : List Nat} {acc : Met α} {x : Nat} (hg : g (stp a x) = stq (g a) x) : addStep stq (g a) p (ren g acc) x = ren g (addStep stp a p acc x) := by
  unfold addStep ren
  have e : (stq (g a) x ∈ (acc.map fun e => (g e.1, e.2)).map Prod.fst) ↔ (stp a x ∈ acc.map Prod.fst) := by
    rw [← hg]
    simp only [List.map_map, List.mem_map, Function.comp]
    constructor
    · rintro ⟨e, he, h⟩
      exact ⟨e, he, gi _ _ h⟩
    · rintro ⟨e, he, h⟩
      exact ⟨e, he, by rw [h]⟩
  by_cases c : stp a x ∈ acc.map Prod.fst
  · rw [if_pos (e.mpr c), if_pos c]
  · rw [if_neg (fun z => c (e.mp z)), if_neg c, List.map_append, ← hg]
    rfl
theorem ren_expandTo {stp : α → Nat → α} {stq : β → Nat → β} {g : α → β} (gi : ∀ a b, g a = g b → a = b) {n : Nat} {a : α} {p : List Nat} {acc : Met α} (hg : ∀ x, x < n → g (stp a x) = stq (g a) x) : ∀ k, k ≤ n → expandTo stq (ren g acc) (g a) p k = ren g (expandTo stp acc a p k)
  | 0, _ => rfl
  | k + 1, hk => by
    rw [expandTo_succ, expandTo_succ, ren_expandTo gi hg k (by omega), ren_add gi (hg k (by omega))]
theorem ren_bfs {n : Nat} {stp : α → Nat → α} {stq : β → Nat → β} {tst : α → Bool} {tsq : β → Bool} {g : α → β} (gi : ∀ a b, g a = g b → a = b) (hg : ∀ a x, x < n → g (stp a x) = stq (g a) x) (ht : ∀ a, tst a = tsq (g a)) :
    ∀ (f i : Nat) (acc : Met α), bfs n stq tsq f i (ren g acc) = bfs n stp tst f i acc
  | 0, _, _ => rfl
  | f + 1, i, acc => by
    unfold bfs
    have e : (ren g acc)[i]? = (acc[i]?).map fun e => (g e.1, e.2) := by
      unfold ren
      rw [List.getElem?_map]
    rw [e]
    cases hi : acc[i]? with
    | none => rfl
    | some ap =>
      obtain ⟨a, q⟩ := ap
      show (if tsq (g a) then some q else bfs n stq tsq f (i + 1) (expandTo stq (ren g acc) (g a) q n)) = (if tst a then some q else bfs n stp tst f (i + 1) (expand n stp acc a q))
      rw [ht a, ren_expandTo gi (fun x hx => hg a x hx) n (Nat.le_refl _), ren_bfs gi hg ht f (i + 1) _]
      rfl
end
end Sg
namespace Sg
section
variable {α : Type} [DecidableEq α]
theorem bfs_end {n : Nat} {stp : α → Nat → α} {tst : α → Bool} {f i : Nat} {acc : Met α} (h : acc.length ≤ i) : bfs n stp tst f i acc = none := by
  cases f with
  | zero => rfl
  | succ f =>
    unfold bfs
    rw [List.getElem?_eq_none h]
theorem bfs_hit {n : Nat} {stp : α → Nat → α} {tst : α → Bool} {f i : Nat} {acc : Met α} {a : α} {p : List Nat} (h : acc[i]? = some (a, p)) (t : tst a = true) : bfs n stp tst (f + 1) i acc = some p := by
  show (match acc[i]? with | none => none | some (a, p) => if tst a then some p else bfs n stp tst f (i + 1) (expand n stp acc a p)) = _
  rw [h]
  exact if_pos t
theorem bfs_go {n : Nat} {stp : α → Nat → α} {tst : α → Bool} {f i : Nat} {acc : Met α} {a : α} {p : List Nat} (h : acc[i]? = some (a, p)) (t : tst a = false) : bfs n stp tst (f + 1) i acc = bfs n stp tst f (i + 1) (expandTo stp acc a p n) := by
  show (match acc[i]? with | none => none | some (a, p) => if tst a then some p else bfs n stp tst f (i + 1) (expand n stp acc a p)) = _
  rw [h]
  exact if_neg (by rw [t]; exact Bool.false_ne_true)
theorem met_closed {n : Nat} {stp : α → Nat → α} {s : α} {acc : Met α} (h : MetOk n stp s acc) (C : α → Prop) (hs : C s) (hc : ∀ a x, C a → x < n → C (stp a x)) : ∀ e ∈ acc, C e.1 := by
  have hin : ∀ (p : List Nat) (a : α), C a → (∀ x ∈ p, x < n) → C (p.foldl stp a) := by
    intro p
    induction p with
    | nil => intro a ha _; exact ha
    | cons x r ih => intro a ha hp; exact ih _ (hc a x ha (hp x List.mem_cons_self)) fun y hy => hp y (List.mem_cons_of_mem _ hy)
  intro e he
  obtain ⟨h1, h2, _⟩ := h.way e he
  rw [h1]
  exact hin _ _ hs h2
end
end Sg

/-! lookers as data -/
namespace Sg
open PySem PySem.Spec PyProof.Rows L2
def isWh : V → Bool
  | .int i => decide (0 ≤ i)
  | _ => false
def isBt : V → Bool
  | .int i => decide (0 ≤ i) && decide (i ≤ 1)
  | _ => false
def isSt (n : Int) : V → Bool
  | .int i => decide (0 ≤ i) && decide (i < n)
  | _ => false
/-- a tuple of how many things -/
def RowB (K : PySem.W.Frag) (H : Hp) (x : V) (n : Int) (b : Bool) : Prop :=
  (∃ a xs, x = .ref a ∧ SqT K H a xs ∧ b = decide ((xs.length : Int) = n)) ∨ (Kd K H x ∧ isaB "tuple" x = false ∧ b = false)
/-- one to five unlike signs -/
def sgB (z : Str) : Bool := decide (1 ≤ z.length) && (decide (z.length ≤ 5) && decide ((once (signsOf z)).length = z.length))
abbrev LRow : Type := Int × List Int
def RSt (K : PySem.W.Frag) (H : Hp) (v : V) (r : LRow) : Prop := ∃ a b, v = .ref a ∧ SqT K H a [.int r.1, .ref b] ∧ SqT K H b (r.2.map V.int)
def RRows (K : PySem.W.Frag) (H : Hp) (b : Addr) (rs : List LRow) : Prop := ∃ vs, SqT K H b vs ∧ Paired (RSt K H) vs rs
def RLk (K : PySem.W.Frag) (H : Hp) (v : V) (z : Str) (rs : List LRow) : Prop := ∃ a b, v = .ref a ∧ SqT K H a [.str z, .ref b] ∧ RRows K H b rs
structure RowsOk (n : Nat) (rs : List LRow) : Prop where
  pos : 1 ≤ rs.length
  top : rs.length ≤ 600
  bit : ∀ r ∈ rs, r.1 = 0 ∨ r.1 = 1
  wid : ∀ r ∈ rs, r.2.length = n
  to : ∀ r ∈ rs, ∀ q ∈ r.2, 0 ≤ q ∧ q < (rs.length : Int)
structure SignsOk (z : Str) : Prop where
  pos : 1 ≤ z.length
  top : z.length ≤ 5
  nd : z.cps.toList.Nodup
  low : ∀ c ∈ z.cps.toList, c < 128
theorem signs_once {z : Str} (h : z.cps.toList.Nodup) : (once (signsOf z)).length = z.length := by
  have hn : (signsOf z).Nodup := by
    unfold signsOf
    refine List.Pairwise.map _ (fun a b hab e => hab ?_) h
    have e2 : (#[a] : Array Nat) = #[b] := congrArg Str.cps e
    have e3 : [a] = [b] := congrArg Array.toList e2
    exact (List.cons.inj e3).1
  rw [once_nodup_self hn]
  unfold signsOf
  rw [List.length_map, Array.length_toList]
  rfl
theorem SignsOk.sgB {z : Str} (h : SignsOk z) : sgB z = true := by
  unfold Sg.sgB
  rw [decide_eq_true h.pos, decide_eq_true h.top, decide_eq_true (signs_once h.nd)]
  rfl
theorem pr_mono {α β : Type} {F G : α → β → Prop} {l : List α} {m : List β} (h : Paired F l m) (f : ∀ a b, F a b → G a b) : Paired G l m := by
  induction h with
  | nil => exact .nil
  | cons r _ ih => exact .cons (f _ _ r) ih
theorem pr_get {α β : Type} {F : α → β → Prop} {l : List α} {m : List β} (h : Paired F l m) : ∀ {i : Nat} {a : α}, l[i]? = some a → ∃ b, m[i]? = some b ∧ F a b := by
  induction h with
  | nil => intro i a e; simp at e
  | cons r _ ih =>
    intro i a e
    cases i with
    | zero =>
      obtain rfl := Option.some.inj e
      exact ⟨_, rfl, r⟩
    | succ i => exact ih e
theorem pr_get' {α β : Type} {F : α → β → Prop} {l : List α} {m : List β} (h : Paired F l m) : ∀ {i : Nat} {b : β}, m[i]? = some b → ∃ a, l[i]? = some a ∧ F a b := by
  induction h with
  | nil => intro i b e; simp at e
  | cons r _ ih =>
    intro i b e
    cases i with
    | zero =>
      obtain rfl := Option.some.inj e
      exact ⟨_, rfl, r⟩
    | succ i => exact ih e
theorem RSt.mono {K : PySem.W.Frag} {H H' : Hp} (k : TK H H') {v : V} {r : LRow} (h : RSt K H v r) : RSt K H' v r := by
  obtain ⟨a, b, e, h1, h2⟩ := h
  exact ⟨a, b, e, k.sqT h1, k.sqT h2⟩
theorem RRows.mono {K : PySem.W.Frag} {H H' : Hp} (k : TK H H') {b : Addr} {rs : List LRow} (h : RRows K H b rs) : RRows K H' b rs := by
  obtain ⟨vs, h1, h2⟩ := h
  exact ⟨vs, k.sqT h1, pr_mono h2 fun _ _ r => r.mono k⟩
theorem RLk.mono {K : PySem.W.Frag} {H H' : Hp} (k : TK H H') {v : V} {z : Str} {rs : List LRow} (h : RLk K H v z rs) : RLk K H' v z rs := by
  obtain ⟨a, b, e, h1, h2⟩ := h
  exact ⟨a, b, e, k.sqT h1, h2.mono k⟩
/-- tests that come out -/
theorem ifT {A B : Prop} {c : Bool} (hc : c = true) (h : A) : if c = true then A else B := by
  rw [if_pos hc]
  exact h
theorem ifF {A B : Prop} {c : Bool} (hc : c = false) (h : B) : if c = true then A else B := by
  rw [hc, if_neg Bool.false_ne_true]
  exact h
theorem szle {n m : Nat} (h : n ≤ m) (hm : m ≤ 1000000 := by omega) : n ≤ sizeLine := by
  rw [sizeLine_eq]
  omega
theorem szlt {n m : Nat} (h : n ≤ m) (hm : m ≤ 1000000 := by omega) : n < sizeLine := by
  rw [sizeLine_eq]
  omega
end Sg

namespace Sg
open PySem PySem.Spec PyProof.Rows L2
/-! ### lookers, what they do -/
def rowOf (rs : List LRow) (p : Int) : LRow := rs.getD p.toNat (0, [])
def nxt (rs : List LRow) (p : Int) (x : Nat) : Int := (rowOf rs p).2.getD x 0
def endAt (rs : List LRow) (p : Int) : Int := (rowOf rs p).1
def InSt (rs : List LRow) (p : Int) : Prop := 0 ≤ p ∧ p < (rs.length : Int)
theorem rowOf_get {rs : List LRow} {p : Int} (h : InSt rs p) : rs[p.toNat]? = some (rowOf rs p) := by
  unfold rowOf
  have : p.toNat < rs.length := by have := h.1; have := h.2; omega
  rw [List.getD_eq_getElem?_getD, List.getElem?_eq_getElem this]
  rfl
theorem rowOf_mem {rs : List LRow} {p : Int} (h : InSt rs p) : rowOf rs p ∈ rs := List.mem_of_getElem? (rowOf_get h)
theorem nxt_get {n : Nat} {rs : List LRow} (ok : RowsOk n rs) {p : Int} (h : InSt rs p) {x : Nat} (hx : x < n) : (rowOf rs p).2[x]? = some (nxt rs p x) := by
  unfold nxt
  have : x < (rowOf rs p).2.length := by rw [ok.wid _ (rowOf_mem h)]; exact hx
  rw [List.getD_eq_getElem?_getD, List.getElem?_eq_getElem this]
  rfl
theorem nxt_in {n : Nat} {rs : List LRow} (ok : RowsOk n rs) {p : Int} (h : InSt rs p) {x : Nat} (hx : x < n) : InSt rs (nxt rs p x) := ok.to _ (rowOf_mem h) _ (List.mem_of_getElem? (nxt_get ok h hx))
theorem endAt_bit {n : Nat} {rs : List LRow} (ok : RowsOk n rs) {p : Int} (h : InSt rs p) : endAt rs p = 0 ∨ endAt rs p = 1 := ok.bit _ (rowOf_mem h)
theorem in_zero {n : Nat} {rs : List LRow} (ok : RowsOk n rs) : InSt rs 0 := ⟨Int.le_refl _, by have := ok.pos; omega⟩
/-- reading a state of a looker -/
theorem RRows.at {K : PySem.W.Frag} {H : Hp} {b : Addr} {rs : List LRow} (h : RRows K H b rs) {p : Int} (hp : InSt rs p) :
    ∃ vs a1 b1, SqT K H b vs ∧ atI vs p = some (.ref a1) ∧ SqT K H a1 [.int (endAt rs p), .ref b1] ∧ SqT K H b1 ((rowOf rs p).2.map V.int) := by
  obtain ⟨vs, h1, h2⟩ := h
  obtain ⟨v, hv, a1, b1, rfl, h3, h4⟩ := pr_get' h2 (rowOf_get hp)
  refine ⟨vs, a1, b1, h1, ?_, h3, h4⟩
  have e : p = ((p.toNat : Nat) : Int) := by have := hp.1; omega
  exact L2.at_of e hv
theorem row_at {n : Nat} {rs : List LRow} (ok : RowsOk n rs) {p : Int} (h : InSt rs p) {x : Nat} (hx : x < n) : atI ((rowOf rs p).2.map V.int) (x : Int) = some (.int (nxt rs p x)) :=
  atI_nat (by rw [List.getElem?_map, nxt_get ok h hx]; rfl)
/-! ### texts by places of signs -/
def textOf (z : Str) (p : List Nat) : Str := ⟨(p.map fun x => z.cps.getD x 0).toArray⟩
theorem str_ext {x y : Str} (h : x.cps.toList = y.cps.toList) : x = y := by
  obtain ⟨a⟩ := x
  obtain ⟨b⟩ := y
  have e : a = b := Array.toList_inj.mp h
  rw [e]
theorem joinL_nil : ∀ l : List (List Nat), TL.joinL [] l = l.flatten
  | [] => rfl
  | [p] => by simp [TL.joinL]
  | p :: q :: r => by
    show p ++ ([] ++ TL.joinL [] (q :: r)) = _
    rw [List.nil_append, joinL_nil (q :: r)]
    rfl
theorem flatten_ones : ∀ l : List Nat, ((l.map fun c => [c]).flatten) = l
  | [] => rfl
  | c :: r => by
    show [c] ++ (r.map fun c => [c]).flatten = _
    rw [flatten_ones r]
    rfl
theorem join_signs (l : List Nat) : Txt.join (Str.ofString "") (l.map sgn) = ⟨l.toArray⟩ := by
  apply str_ext
  rw [TL.join_eq]
  have h := TL.tl_join (Str.ofString "") (l.map sgn)
  have e : TL.tl (Str.ofString "") = [] := by decide
  rw [e, joinL_nil, List.map_map] at h
  have e2 : (l.map (TL.tl ∘ sgn)).flatten = l := flatten_ones l
  rw [e2] at h
  exact h
theorem sum_ones : ∀ l : List Nat, ((l.map sgn).map (·.length)).sum = l.length
  | [] => rfl
  | c :: r => by
    show (1 : Nat) + ((r.map sgn).map (·.length)).sum = r.length + 1
    rw [sum_ones r]
    omega
theorem find_sign {z : Str} {i c : Nat} (nd : z.cps.toList.Nodup) (hi : z.cps.toList[i]? = some c) : Txt.find z (sgn c) = (i : Int) := by
  have at_i : ∀ j, StrLaws.At z (sgn c) z.length j ↔ z.cps.toList[j]? = some c := by
    intro j
    rw [TL.at_iff (by show [c] ≠ []; simp)]
    show TL.pre [c] (z.cps.toList.drop j) = true ↔ _
    cases hd : z.cps.toList.drop j with
    | nil =>
      have : z.cps.toList[j]? = none := by
        have h := congrArg (fun l : List Nat => l[0]?) hd
        simp only [List.getElem?_drop] at h
        simpa using h
      rw [this]
      constructor
      · intro h; cases h
      · intro h; cases h
    | cons a r =>
      have : z.cps.toList[j]? = some a := by
        have h := congrArg (fun l : List Nat => l[0]?) hd
        simp only [List.getElem?_drop] at h
        simpa using h
      rw [this]
      constructor
      · intro h
        have h2 : ([a] == [c]) = true := h
        have h3 : [a] = [c] := beq_iff_eq.mp h2
        rw [(List.cons.inj h3).1]
      · intro h
        obtain rfl := Option.some.inj h
        show ([a] == [a]) = true
        exact beq_self_eq_true _
  rcases find_whole z (sgn c) with ⟨_, h⟩ | ⟨k, e, h1, _⟩
  · exact absurd ((at_i i).mpr hi) (h i)
  · rw [e]
    have h2 := (at_i k).mp h1
    obtain ⟨q1, e1⟩ := List.getElem?_eq_some_iff.mp h2
    obtain ⟨q2, e2⟩ := List.getElem?_eq_some_iff.mp hi
    have : k = i := (List.getElem_inj nd).mp (e1.trans e2.symm)
    rw [this]
/-! ### how a thing was met: the dict of what came ahead -/
theorem dget_mono {H H' : Hp} (s : Same H H') {d : Addr} {y : V} {r : Option V} (h : DGet H d y r) : DGet H' d y r := by
  have rd : ∀ {a : Addr} {u : HO}, Rd H a u → Rd H' a u := fun h => h.elim (fun h => .inl (s _ _ h)) fun ⟨o, h⟩ => .inr ⟨o, s _ _ h⟩
  rcases h with ⟨kvs, k, h1, h2, h3⟩ | ⟨kvs, k, b, h1, h2, h3, h4⟩
  · exact .inl ⟨kvs, k, rd h1, h2, h3⟩
  · exact .inr ⟨kvs, k, b, rd h1, h2, s _ _ h3, h4⟩
inductive Chain (K : PySem.W.Frag) (H : Hp) (d : Addr) : V → List Nat → Prop where
  | root {y : V} (h : DGet H d y (some .non)) : Chain K H d y []
  | step {y y' : V} {t : Addr} {x : Nat} {p : List Nat} (h : DGet H d y (some (.ref t))) (ht : SqT K H t [y', .int (x : Int)]) (r : Chain K H d y' p) : Chain K H d y (p ++ [x])
theorem Chain.mono {K : PySem.W.Frag} {H H' : Hp} {d : Addr} (s : Same H H') {y : V} {p : List Nat} (h : Chain K H d y p) : Chain K H' d y p := by
  induction h with
  | root h => exact .root (dget_mono s h)
  | step h ht _ ih => exact .step (dget_mono s h) (Same.sqT s ht) ih
/-- what the dict tells of a key that was met by q -/
def StepV (K : PySem.W.Frag) (H : Hp) (d : Addr) (v : V) (q : List Nat) : Prop := (v = .non ∧ q = []) ∨ ∃ t y x q0, v = .ref t ∧ SqT K H t [y, .int ((x : Nat) : Int)] ∧ Chain K H d y q0 ∧ q = q0 ++ [x]
theorem Chain.get {K : PySem.W.Frag} {H : Hp} {d : Addr} {y : V} {p : List Nat} (h : Chain K H d y p) : ∃ v, DGet H d y (some v) ∧ StepV K H d v p := by
  cases h with
  | root h => exact ⟨_, h, .inl ⟨rfl, rfl⟩⟩
  | step h ht r => exact ⟨_, h, .inr ⟨_, _, _, _, rfl, ht, r, rfl⟩⟩
theorem StepV.mono {K : PySem.W.Frag} {H H' : Hp} {d : Addr} (s : Same H H') {v : V} {q : List Nat} (h : StepV K H d v q) : StepV K H' d v q := by
  rcases h with h | ⟨t, y, x, q0, h1, h2, h3, h4⟩
  · exact .inl h
  · exact .inr ⟨t, y, x, q0, h1, Same.sqT s h2, h3.mono s, h4⟩
def sgs (z : Str) (q : List Nat) : List V := q.map fun x => V.str (sgn (z.cps.getD x 0))
theorem at_sign {z : Str} {x : Nat} (h : x < z.length) : atI z.cps.toList (x : Int) = some (z.cps.getD x 0) := by
  refine atI_nat ?_
  rw [Array.getElem?_toList, Array.getElem?_eq_getElem h, Array.getD_eq_getD_getElem?, Array.getElem?_eq_getElem h]
  rfl
end Sg

namespace Sg
open PySem PySem.Spec PyProof.Rows L2
theorem sqT_upd {K : PySem.W.Frag} {H : Hp} {p a : Addr} {o u : HO} {xs : List V} (hp : H p = some u) (nt : ∀ ys, u ≠ .tup ys) (nf : ∀ q v, u ≠ .frz q v) (h : SqT K H a xs) : SqT K (upd H p o) a xs := by
  rcases h with (h | ⟨q, h⟩) | h
  · exact .inl (.inl (by rw [upd_ne (fun z => nt _ (by rw [z, hp] at h; exact Option.some.inj h))]; exact h))
  · exact .inl (.inr ⟨q, by rw [upd_ne (fun z => nf _ _ (by rw [z, hp] at h; exact Option.some.inj h))]; exact h⟩)
  · exact .inr h
theorem Chain.grow {K : PySem.W.Frag} {H H' : Hp} {d : Addr} (hd : ∀ y v, DGet H d y (some v) → DGet H' d y (some v)) (ht : ∀ a xs, SqT K H a xs → SqT K H' a xs) {y : V} {p : List Nat} (h : Chain K H d y p) : Chain K H' d y p := by
  induction h with
  | root h => exact .root (hd _ _ h)
  | step h h2 _ ih => exact .step (hd _ _ h) (ht _ _ h2) ih
/-- a list changes: the dict tells the same -/
theorem dget_lst {H : Hp} {d l : Addr} {xs ys : List V} (hl : H l = some (.lst xs)) {y v : V} (h : DGet H d y (some v)) : DGet (upd H l (.lst ys)) d y (some v) := by
  have rd : ∀ {a : Addr} {u : HO}, (∀ zs, u ≠ .lst zs) → Rd H a u → Rd (upd H l (.lst ys)) a u := fun {a u} n h => by
    rcases h with h | ⟨o, h⟩
    · exact .inl (by rw [upd_ne (fun z => n xs (by rw [z, hl] at h; exact (Option.some.inj h).symm))]; exact h)
    · exact .inr ⟨o, by rw [upd_ne (fun z => by rw [z, hl] at h; cases h)]; exact h⟩
  rcases h with ⟨kvs, k, h1, h2, h3⟩ | ⟨kvs, k, b, h1, h2, h3, h4⟩
  · exact .inl ⟨kvs, k, rd (fun zs => nofun) h1, h2, h3⟩
  · exact .inr ⟨kvs, k, b, rd (fun zs => nofun) h1, h2, by rw [upd_ne (fun z => by rw [z, hl] at h3; cases h3)]; exact h3, h4⟩
/-! ### dicts with int keys -/
theorem dget_int {H : Hp} {d : Addr} {kvs : List (Key × V)} (hd : H d = some (.dK kvs)) {y : V} {r : Option V} (h : DGet H d y r) : ∃ k, y = kV k ∧ r = valV kvs k := by
  rcases h with ⟨kvs', k, h1, h2, h3⟩ | ⟨kvs', k, b, h1, _⟩
  · rcases h1 with h1 | ⟨o, h1⟩
    · rw [hd] at h1
      have e : kvs = kvs' := by injection Option.some.inj h1
      exact ⟨k, h2, e ▸ h3⟩
    · rw [hd] at h1; cases h1
  · rcases h1 with h1 | ⟨o, h1⟩ <;> (rw [hd] at h1; cases h1)
theorem dget_putK {H : Hp} {d : Addr} {kvs : List (Key × V)} (hd : H d = some (.dK kvs)) {k0 : Key} {w : V} (hn : valV kvs k0 = none) {y v : V} (h : DGet H d y (some v)) : DGet (upd H d (.dK (putK kvs k0 w))) d y (some v) := by
  obtain ⟨k, rfl, hk⟩ := dget_int hd h
  refine .inl ⟨_, k, .inl upd_same, rfl, ?_⟩
  rw [valV_put, if_neg (fun z => by rw [z, hn] at hk; cases hk)]
  exact hk
structure CameI (K : PySem.W.Frag) (H0 : Hp) (dc lo : Addr) (acc : Met Int) (H : Hp) : Prop where
  same : Same H0 H
  n1 : H0 dc = none
  n2 : H0 lo = none
  dict : ∃ kvs, H dc = some (.dK kvs) ∧ (∀ a, (valV kvs (.inl a)).isSome = true ↔ a ∈ acc.map Prod.fst) ∧ kvs.length ≤ acc.length
  list : H lo = some (.lst (acc.map fun e => V.int e.1))
  chain : ∀ e ∈ acc, Chain K H dc (.int e.1) e.2
theorem CameI.other {K : PySem.W.Frag} {H0 H : Hp} {dc lo : Addr} {acc : Met Int} (c : CameI K H0 dc lo acc H) {T : Addr} {o : HO} (hT : H T = none) : CameI K H0 dc lo acc (upd H T o) := by
  have s : Same H (upd H T o) := same_upd hT
  obtain ⟨kvs, h1, h2, h3⟩ := c.dict
  exact ⟨Same.trans c.same s, c.n1, c.n2, ⟨kvs, s _ _ h1, h2, h3⟩, s _ _ c.list, fun e he => (c.chain e he).mono s⟩
theorem CameI.add {K : PySem.W.Frag} {H0 H : Hp} {dc lo : Addr} {acc : Met Int} (c : CameI K H0 dc lo acc H) {kvs : List (Key × V)} (hd : H dc = some (.dK kvs)) {a : Int} {p : List Nat} (hm : (a, p) ∈ acc) {x : Nat} {T : Addr} (hT : SqT K H T [.int a, .int (x : Int)]) {y : Int} (hy : y ∉ acc.map Prod.fst) :
    CameI K H0 dc lo (acc ++ [(y, p ++ [x])]) (upd (upd H dc (.dK (putK kvs (.inl y) (.ref T)))) lo (.lst ((acc.map fun e => V.int e.1) ++ [.int y]))) := by
  obtain ⟨kvs', h1, h2, h3⟩ := c.dict
  have ek : kvs' = kvs := by
    rw [hd] at h1
    injection Option.some.inj h1 with e
    exact e.symm
  subst ek
  have hn : valV kvs' (.inl y) = none := by
    cases e : valV kvs' (.inl y) with
    | none => rfl
    | some v => exact absurd ((h2 y).mp (by rw [e]; rfl)) hy
  have hne : dc ≠ lo := ne_of hd c.list (fun z => nomatch z)
  have l1 : (upd H dc (.dK (putK kvs' (.inl y) (.ref T)))) lo = some (.lst (acc.map fun e => V.int e.1)) := by rw [upd_ne (Ne.symm hne)]; exact c.list
  have dg : ∀ y' v, DGet H dc y' (some v) → DGet (upd (upd H dc (.dK (putK kvs' (.inl y) (.ref T)))) lo (.lst ((acc.map fun e => V.int e.1) ++ [.int y]))) dc y' (some v) := fun y' v h => dget_lst l1 (dget_putK hd hn h)
  have st : ∀ a xs, SqT K H a xs → SqT K (upd (upd H dc (.dK (putK kvs' (.inl y) (.ref T)))) lo (.lst ((acc.map fun e => V.int e.1) ++ [.int y]))) a xs := fun a xs h => sqT_upd l1 (fun _ => nofun) (fun _ _ => nofun) (sqT_upd hd (fun _ => nofun) (fun _ _ => nofun) h)
  refine ⟨fun b o hb => ?_, c.n1, c.n2, ⟨putK kvs' (.inl y) (.ref T), by rw [upd_ne hne, upd_same], fun b => ?_, ?_⟩, ?_, fun e he => ?_⟩
  · rw [upd_ne (ne_of_none hb c.n2), upd_ne (ne_of_none hb c.n1)]
    exact c.same b o hb
  · rw [valV_put, List.map_append, List.mem_append]
    by_cases e : (Sum.inl b : Key) = Sum.inl y
    · rw [if_pos e]
      have e2 : b = y := Sum.inl.inj e
      exact ⟨fun _ => .inr (by rw [e2]; simp), fun _ => rfl⟩
    · rw [if_neg e, h2 b]
      have e2 : b ≠ y := fun z => e (by rw [z])
      exact ⟨.inl, fun h => h.elim id fun h => absurd (by simpa using h) e2⟩
  · have := length_putK kvs' (.inl y) (.ref T)
    rw [List.length_append]
    simp
    omega
  · rw [upd_same, List.map_append]
    rfl
  · rcases List.mem_append.mp he with he | he
    · exact (c.chain e he).grow dg st
    · obtain rfl := List.mem_singleton.mp he
      refine .step (y' := .int a) (t := T) ?_ (st _ _ hT) ((c.chain _ hm).grow dg st)
      refine dget_lst l1 (.inl ⟨_, .inl y, .inl upd_same, rfl, ?_⟩)
      rw [valV_put, if_pos rfl]
end Sg
namespace Sg
open PySem PySem.Spec PyProof.Rows L2
theorem CameI.start {K : PySem.W.Frag} {H H1 : Hp} {dc lo : Addr} {s : Int} (n1 : H dc = none) (e1 : H1 = upd (upd H dc (.dK [])) dc (.dK [(.inl s, .non)])) (n2 : H1 lo = none) : CameI K H dc lo [(s, [])] (upd H1 lo (.lst [.int s])) := by
  have hne : dc ≠ lo := fun z => by rw [← z, e1, upd_same] at n2; cases n2
  have l1 : H1 dc = some (.dK [(.inl s, .non)]) := by rw [e1, upd_same]
  have h0 : H lo = none := by rw [e1, upd_ne (Ne.symm hne), upd_ne (Ne.symm hne)] at n2; exact n2
  refine ⟨fun b o hb => ?_, n1, h0, ⟨_, by rw [upd_ne hne]; exact l1, fun a => ?_, Nat.le_refl _⟩, by rw [upd_same]; rfl, fun e he => ?_⟩
  · rw [upd_ne (ne_of_none hb h0), e1, upd_ne (ne_of_none hb n1), upd_ne (ne_of_none hb n1)]
    exact hb
  · by_cases c : s = a
    · subst c
      simp [valV]
    · simp [valV, c, Ne.symm c]
  · obtain rfl := List.mem_singleton.mp he
    exact .root (dget_mono (same_upd n2) (.inl ⟨_, .inl s, .inl l1, rfl, by simp [valV]⟩))
def stR (n : Nat) : List Int := (List.range n).map Int.ofNat
theorem mem_stR {rs : List LRow} {p : Int} : p ∈ stR rs.length ↔ InSt rs p := by
  unfold stR
  rw [List.mem_map]
  constructor
  · rintro ⟨x, hx, rfl⟩
    have := List.mem_range.mp hx
    exact ⟨Int.natCast_nonneg _, by show ((x : Nat) : Int) < _; omega⟩
  · rintro ⟨h1, h2⟩
    exact ⟨p.toNat, List.mem_range.mpr (by omega), by show ((p.toNat : Nat) : Int) = p; omega⟩
theorem stR_len (n : Nat) : (stR n).length = n := by simp [stR]
end Sg

namespace Sg
open PySem PySem.Spec PyProof.Rows L2
/-! ### dicts whose keys are pairs of ints -/
abbrev IP : Type := Int × Int
def kyP (a : IP) : List Key := [.inl a.1, .inl a.2]
theorem kyP_inj {a b : IP} (h : kyP a = kyP b) : a = b := by
  unfold kyP at h
  obtain ⟨h1, h2⟩ := List.cons.inj h
  exact Prod.ext (Sum.inl.inj h1) (Sum.inl.inj (List.cons.inj h2).1)
def tuP (a : IP) : HO := .tup [.int a.1, .int a.2]
theorem dget_tup {H : Hp} {d : Addr} {kvs : List (List Key × V)} (hd : H d = some (.dT kvs)) {y : V} {r : Option V} (h : DGet H d y r) : ∃ k b, y = .ref b ∧ H b = some (.tup (k.map kV)) ∧ r = valV kvs k := by
  rcases h with ⟨kvs', k, h1, _⟩ | ⟨kvs', k, b, h1, h2, h3, h4⟩
  · rcases h1 with h1 | ⟨o, h1⟩ <;> (rw [hd] at h1; cases h1)
  · rcases h1 with h1 | ⟨o, h1⟩
    · rw [hd] at h1
      have e : kvs = kvs' := by injection Option.some.inj h1
      exact ⟨k, b, h2, h3, e ▸ h4⟩
    · rw [hd] at h1; cases h1
theorem dget_putT {H : Hp} {d : Addr} {kvs : List (List Key × V)} (hd : H d = some (.dT kvs)) {k0 : List Key} {w : V} (hn : valV kvs k0 = none) {y v : V} (h : DGet H d y (some v)) : DGet (upd H d (.dT (putK kvs k0 w))) d y (some v) := by
  obtain ⟨k, b, rfl, hb, hk⟩ := dget_tup hd h
  refine .inr ⟨_, k, b, .inl upd_same, rfl, by rw [upd_ne (fun z => by rw [z, hd] at hb; cases hb)]; exact hb, ?_⟩
  rw [valV_put, if_neg (fun z => by rw [z, hn] at hk; cases hk)]
  exact hk
structure CameT (K : PySem.W.Frag) (H0 : Hp) (dc lo : Addr) (acc : Met IP) (H : Hp) (os : List Addr) : Prop where
  same : Same H0 H
  n1 : H0 dc = none
  n2 : H0 lo = none
  dict : ∃ kvs, H dc = some (.dT kvs) ∧ (∀ a, (valV kvs (kyP a)).isSome = true ↔ a ∈ acc.map Prod.fst) ∧ kvs.length ≤ acc.length
  list : H lo = some (.lst (os.map V.ref))
  chain : Paired (fun o e => H o = some (tuP e.1) ∧ Chain K H dc (.ref o) e.2) os acc
theorem CameT.other {K : PySem.W.Frag} {H0 H : Hp} {dc lo : Addr} {acc : Met IP} {os : List Addr} (c : CameT K H0 dc lo acc H os) {T : Addr} {o : HO} (hT : H T = none) : CameT K H0 dc lo acc (upd H T o) os := by
  have s : Same H (upd H T o) := same_upd hT
  obtain ⟨kvs, h1, h2, h3⟩ := c.dict
  exact ⟨Same.trans c.same s, c.n1, c.n2, ⟨kvs, s _ _ h1, h2, h3⟩, s _ _ c.list, pr_mono c.chain fun o e h => ⟨s _ _ h.1, h.2.mono s⟩⟩
theorem pr_snoc {α β : Type} {F : α → β → Prop} {l : List α} {m : List β} (h : Paired F l m) {a : α} {b : β} (r : F a b) : Paired F (l ++ [a]) (m ++ [b]) := by
  induction h with
  | nil => exact .cons r .nil
  | cons r' _ ih => exact .cons r' ih
theorem pr_len {α β : Type} {F : α → β → Prop} {l : List α} {m : List β} (h : Paired F l m) : l.length = m.length := by
  induction h with
  | nil => rfl
  | cons _ _ ih => rw [List.length_cons, List.length_cons, ih]
theorem CameT.add {K : PySem.W.Frag} {H0 H : Hp} {dc lo : Addr} {acc : Met IP} {os : List Addr} (c : CameT K H0 dc lo acc H os) {kvs : List (List Key × V)} (hd : H dc = some (.dT kvs)) {o : Addr} {p : List Nat} (hc : Chain K H dc (.ref o) p) {x : Nat} {T : Addr} (hT : SqT K H T [.ref o, .int (x : Int)]) {y : IP} {t : Addr} (ht : H t = some (tuP y)) (hy : y ∉ acc.map Prod.fst) :
    CameT K H0 dc lo (acc ++ [(y, p ++ [x])]) (upd (upd H dc (.dT (putK kvs (kyP y) (.ref T)))) lo (.lst (os.map V.ref ++ [.ref t]))) (os ++ [t]) := by
  obtain ⟨kvs', h1, h2, h3⟩ := c.dict
  have ek : kvs' = kvs := by
    rw [hd] at h1
    injection Option.some.inj h1 with e
    exact e.symm
  subst ek
  have hn : valV kvs' (kyP y) = none := by
    cases e : valV kvs' (kyP y) with
    | none => rfl
    | some v => exact absurd ((h2 y).mp (by rw [e]; rfl)) hy
  have hne : dc ≠ lo := ne_of hd c.list (fun z => nomatch z)
  have l1 : (upd H dc (.dT (putK kvs' (kyP y) (.ref T)))) lo = some (.lst (os.map V.ref)) := by rw [upd_ne (Ne.symm hne)]; exact c.list
  have dg : ∀ y' v, DGet H dc y' (some v) → DGet (upd (upd H dc (.dT (putK kvs' (kyP y) (.ref T)))) lo (.lst (os.map V.ref ++ [.ref t]))) dc y' (some v) := fun y' v h => dget_lst l1 (dget_putT hd hn h)
  have st : ∀ a xs, SqT K H a xs → SqT K (upd (upd H dc (.dT (putK kvs' (kyP y) (.ref T)))) lo (.lst (os.map V.ref ++ [.ref t]))) a xs := fun a xs h => sqT_upd l1 (fun _ => nofun) (fun _ _ => nofun) (sqT_upd hd (fun _ => nofun) (fun _ _ => nofun) h)
  have tu : ∀ a e, H a = some (tuP e) → (upd (upd H dc (.dT (putK kvs' (kyP y) (.ref T)))) lo (.lst (os.map V.ref ++ [.ref t]))) a = some (tuP e) := fun a e h => by
    rw [upd_ne (fun z => by rw [z, c.list] at h; cases h), upd_ne (fun z => by rw [z, hd] at h; cases h)]
    exact h
  refine ⟨fun b o hb => ?_, c.n1, c.n2, ⟨putK kvs' (kyP y) (.ref T), by rw [upd_ne hne, upd_same], fun b => ?_, ?_⟩, ?_, ?_⟩
  · rw [upd_ne (ne_of_none hb c.n2), upd_ne (ne_of_none hb c.n1)]
    exact c.same b o hb
  · rw [valV_put, List.map_append, List.mem_append]
    by_cases e : kyP b = kyP y
    · rw [if_pos e]
      have e2 : b = y := kyP_inj e
      exact ⟨fun _ => .inr (by rw [e2]; simp), fun _ => rfl⟩
    · rw [if_neg e, h2 b]
      have e2 : b ≠ y := fun z => e (by rw [z])
      exact ⟨.inl, fun h => h.elim id fun h => absurd (by simpa using h) e2⟩
  · have := length_putK kvs' (kyP y) (.ref T)
    rw [List.length_append]
    simp
    omega
  · rw [upd_same, List.map_append]
    rfl
  · refine pr_snoc (pr_mono c.chain fun o e h => ⟨tu _ _ h.1, h.2.grow dg st⟩) ⟨tu _ _ ht, ?_⟩
    refine .step (y' := .ref o) (t := T) ?_ (st _ _ hT) (hc.grow dg st)
    refine dget_lst l1 (.inr ⟨_, kyP y, t, .inl upd_same, rfl, ?_, ?_⟩)
    · rw [upd_ne (fun z => by rw [z, hd] at ht; cases ht)]
      exact ht
    · rw [valV_put, if_pos rfl]
theorem CameT.start {K : PySem.W.Frag} {H H1 H2 : Hp} {dc lo b t : Addr} {s : IP} (n1 : H dc = none) (eb : H1 b = some (tuP s)) (es : Same (upd H dc (.dT [])) H1) (e1 : H1 dc = some (.dT [])) (e2 : H2 = upd H1 dc (.dT [(kyP s, .non)])) (n2 : H2 t = none) (n3 : (upd H2 t (tuP s)) lo = none) :
    CameT K H dc lo [(s, [])] (upd (upd H2 t (tuP s)) lo (.lst [.ref t])) [t] := by
  have k1 : H2 dc = some (.dT [(kyP s, .non)]) := by rw [e2, upd_same]
  have k2 : (upd H2 t (tuP s)) dc = some (.dT [(kyP s, .non)]) := same_upd n2 _ _ k1
  have hne : dc ≠ lo := fun z => by rw [← z, k2] at n3; cases n3
  have hb : ∀ a o, H a = some o → a ≠ dc ∧ H1 a = some o := fun a o ha => ⟨ne_of_none ha n1, es _ _ (same_upd n1 _ _ ha)⟩
  have s3 : Same (upd H2 t (tuP s)) (upd (upd H2 t (tuP s)) lo (.lst [.ref t])) := same_upd n3
  have t1 : (upd H2 t (tuP s)) t = some (tuP s) := upd_same
  have sm : Same H (upd (upd H2 t (tuP s)) lo (.lst [.ref t])) := fun a o ha => s3 _ _ (same_upd n2 _ _ (by rw [e2, upd_ne (hb a o ha).1]; exact (hb a o ha).2))
  refine ⟨sm, n1, ?_, ⟨_, s3 _ _ k2, fun a => ?_, Nat.le_refl _⟩, upd_same, .cons ⟨s3 _ _ t1, .root (dget_mono s3 (.inr ⟨_, kyP s, t, .inl k2, rfl, t1, by simp [valV]⟩))⟩ .nil⟩
  · cases e : H lo with
    | none => rfl
    | some o =>
      have := same_upd (o := tuP s) n2 _ _ (show H2 lo = some o by rw [e2, upd_ne (hb lo o e).1]; exact (hb lo o e).2)
      rw [n3] at this
      cases this
  · by_cases c : s = a
    · subst c
      simp [valV]
    · have : kyP s ≠ kyP a := fun z => c (kyP_inj z)
      simp [valV, this, Ne.symm c]
end Sg
namespace Sg
open PySem PySem.Spec PyProof.Rows L2
theorem CameT.grow {K : PySem.W.Frag} {H0 H : Hp} {dc lo : Addr} {acc : Met IP} {os : List Addr} (c : CameT K H0 dc lo acc H os) {kvs : List (List Key × V)} (hd : H dc = some (.dT kvs)) {y : IP} (hy : y ∉ acc.map Prod.fst) {v0 : V} {l : List V} :
    (∀ y' p, Chain K H dc y' p → Chain K (upd (upd H dc (.dT (putK kvs (kyP y) v0))) lo (.lst l)) dc y' p) ∧ ∀ a e, H a = some (tuP e) → (upd (upd H dc (.dT (putK kvs (kyP y) v0))) lo (.lst l)) a = some (tuP e) := by
  obtain ⟨kvs', h1, h2, h3⟩ := c.dict
  have ek : kvs' = kvs := by
    rw [hd] at h1
    injection Option.some.inj h1 with e
    exact e.symm
  subst ek
  have hn : valV kvs' (kyP y) = none := by
    cases e : valV kvs' (kyP y) with
    | none => rfl
    | some v => exact absurd ((h2 y).mp (by rw [e]; rfl)) hy
  have hne : dc ≠ lo := ne_of hd c.list (fun z => nomatch z)
  have l1 : (upd H dc (.dT (putK kvs' (kyP y) v0))) lo = some (.lst (os.map V.ref)) := by rw [upd_ne (Ne.symm hne)]; exact c.list
  refine ⟨fun y' p h => h.grow (fun y' v h => dget_lst l1 (dget_putT hd hn h)) fun a xs h => sqT_upd l1 (fun _ => nofun) (fun _ _ => nofun) (sqT_upd hd (fun _ => nofun) (fun _ _ => nofun) h), fun a e h => ?_⟩
  rw [upd_ne (fun z => by rw [z, c.list] at h; cases h), upd_ne (fun z => by rw [z, hd] at h; cases h)]
  exact h
end Sg

namespace Sg
open PySem PySem.Spec PyProof.Rows L2
/-! ### a tuple with one thing put in at a place -/
section
variable {K : PySem.W.Frag} {H : Hp} {Q : VK} {a b : Addr} {xs ys : List V}
theorem sl_take {i : Nat} (h : SqT K H a xs) (hi : i ≤ xs.length) (q : ∀ c H', Same H H' → SqT K H' c (xs.take i) → Q (.ref c) H') : rSlA K (.ref a) none (some (i : Int)) H Q := by
  have e : HT.sIx xs.length xs.length (some (i : Int)) = i := by rw [HT.sIx_nat]; omega
  refine ⟨a, xs, rfl, h, fun w => q a H (Same.refl H) ?_, fun _ p hp => q p _ (same_upd hp) (.inl (.inl ?_))⟩
  · have e2 := w.2
    rw [e] at e2
    rw [e2, List.take_length]
    exact h
  · rw [upd_same]
    unfold cutV
    rw [e, HT.sIx_none]
    rfl
theorem sl_drop {i : Nat} (h : SqT K H a xs) (hi : i ≤ xs.length) (q : ∀ c H', Same H H' → SqT K H' c (xs.drop i) → Q (.ref c) H') : rSlA K (.ref a) (some (i : Int)) none H Q := by
  have e : HT.sIx xs.length 0 (some (i : Int)) = i := by rw [HT.sIx_nat]; omega
  refine ⟨a, xs, rfl, h, fun w => q a H (Same.refl H) ?_, fun _ p hp => q p _ (same_upd hp) (.inl (.inl ?_))⟩
  · have e2 := w.1
    rw [e] at e2
    rw [e2]
    exact h
  · rw [upd_same]
    unfold cutV
    rw [e, HT.sIx_none, List.take_of_length_le (by rw [List.length_drop]; exact Nat.le_refl _)]
theorem cat_use (h1 : SqT K H a xs) (h2 : SqT K H b ys) (hl : xs.length + ys.length ≤ 1000000) (q : ∀ c H', Same H H' → SqT K H' c (xs ++ ys) → Q (.ref c) H') : rCatA K (.ref a) (.ref b) H Q :=
  ⟨a, b, xs, ys, rfl, rfl, h1, h2, szle hl, fun e => q b H (Same.refl H) (by rw [e]; exact h2), fun _ e => q a H (Same.refl H) (by rw [e, List.append_nil]; exact h1), fun _ _ p hp => q p _ (same_upd hp) (.inl (.inl upd_same))⟩
end
def putAt {α : Type} (l : List α) (i : Nat) (a : α) : List α := l.take i ++ [a] ++ l.drop (i + 1)
theorem putAt_len {α : Type} {l : List α} {i : Nat} (a : α) (h : i < l.length) : (putAt l i a).length = l.length := by
  unfold putAt
  rw [List.length_append, List.length_append, List.length_take, List.length_drop, List.length_singleton]
  omega
theorem putAt_mem {α : Type} {l : List α} {i : Nat} {a b : α} (h : b ∈ putAt l i a) : b ∈ l ∨ b = a := by
  unfold putAt at h
  rcases List.mem_append.mp h with h | h
  · rcases List.mem_append.mp h with h | h
    · exact .inl (List.mem_of_mem_take h)
    · exact .inr (List.mem_singleton.mp h)
  · exact .inl (List.mem_of_mem_drop h)
theorem putAt_map {α β : Type} (f : α → β) (l : List α) (i : Nat) (a : α) : putAt (l.map f) i (f a) = (putAt l i a).map f := by
  unfold putAt
  rw [List.map_append, List.map_append, List.map_take, List.map_drop]
  rfl
theorem pr_take {α β : Type} {F : α → β → Prop} {l : List α} {m : List β} (h : Paired F l m) : ∀ i, Paired F (l.take i) (m.take i) := by
  induction h with
  | nil => intro i; simp; exact .nil
  | cons r _ ih =>
    intro i
    cases i with
    | zero => exact .nil
    | succ i => exact .cons r (ih i)
theorem pr_drop {α β : Type} {F : α → β → Prop} {l : List α} {m : List β} (h : Paired F l m) : ∀ i, Paired F (l.drop i) (m.drop i) := by
  induction h with
  | nil => intro i; simp; exact .nil
  | cons r t ih =>
    intro i
    cases i with
    | zero => exact .cons r t
    | succ i => exact ih i
theorem pr_append {α β : Type} {F : α → β → Prop} {l l' : List α} {m m' : List β} (h : Paired F l m) (h' : Paired F l' m') : Paired F (l ++ l') (m ++ m') := by
  induction h with
  | nil => exact h'
  | cons r _ ih => exact .cons r ih
theorem pr_putAt {α β : Type} {F : α → β → Prop} {l : List α} {m : List β} (h : Paired F l m) {a : α} {b : β} (r : F a b) (i : Nat) : Paired F (putAt l i a) (putAt m i b) :=
  pr_append (pr_append (pr_take h i) (.cons r .nil)) (pr_drop h (i + 1))
theorem RowsOk.putAt {n : Nat} {rs : List LRow} (ok : RowsOk n rs) {i : Nat} (hi : i < rs.length) {r : LRow} (h1 : r.1 = 0 ∨ r.1 = 1) (h2 : r.2.length = n) (h3 : ∀ q ∈ r.2, 0 ≤ q ∧ q < (rs.length : Int)) : RowsOk n (Sg.putAt rs i r) := by
  have e := putAt_len r hi
  refine ⟨by rw [e]; exact ok.pos, by rw [e]; exact ok.top, fun x hx => ?_, fun x hx => ?_, fun x hx => ?_⟩
  · rcases putAt_mem hx with hx | rfl
    · exact ok.bit x hx
    · exact h1
  · rcases putAt_mem hx with hx | rfl
    · exact ok.wid x hx
    · exact h2
  · rw [e]
    rcases putAt_mem hx with hx | rfl
    · exact ok.to x hx
    · exact h3
end Sg
namespace Sg
open PySem PySem.Spec PyProof.Rows L2
theorem rest_use {K : PySem.W.Frag} {H : Hp} {Q : VK} {σ : L2.St} {j k i : Nat} {b c : Addr} {xs : List V} {v : V} (hj : σ[j]? = some (some (.ref b))) (hk : σ[k]? = some (some (.int (i : Int)))) (hb : SqT K H b xs) (hi : i < xs.length) (hl : xs.length ≤ 1000) (hc : SqT K H c (xs.take i)) (hp : ∀ p, H p = none → ∀ c' H', Same H H' → SqT K H' c' (putAt xs i v) → Q (.ref c') H') :
    1 ≤ sizeLine ∧ ∀ p, H p = none → rCatA K (.ref c) (.ref p) (upd H p (.tup [v])) fun x2 H1 => tSl (rSlA K) (tVar j) (tPart (tOp (rI0 fun i j => V.int (i + j)) (tVar k) (tC (V.int 1)))) tNoPart σ H1 fun y H2 => rCatA K x2 y H2 Q := by
  refine ⟨szle (m := 1) (Nat.le_refl _), fun p hp0 => ?_⟩
  have s1 : Same H (upd H p (.tup [v])) := same_upd hp0
  have lt : (xs.take i).length = i := by rw [List.length_take]; omega
  refine cat_use (Same.sqT s1 hc) (.inl (.inl upd_same)) (by rw [lt]; show i + 1 ≤ _; omega) fun c2 H2 s2 h2 => ?_
  refine ⟨_, hj, _, hk, _, _, rfl, rfl, _, rfl, ?_⟩
  have e1 : ((i : Nat) : Int) + 1 = ((i + 1 : Nat) : Int) := by omega
  show rSlA K (.ref b) (some (((i : Nat) : Int) + 1)) none H2 (fun y H2 => rCatA K (.ref c2) y H2 Q)
  rw [e1]
  refine sl_drop (Same.sqT s2 (Same.sqT s1 hb)) (by omega) fun c3 H3 s3 h3 => ?_
  refine cat_use (Same.sqT s3 h2) h3 ?_ fun c4 H4 s4 h4 => hp p hp0 c4 H4 (Same.trans s1 (Same.trans s2 (Same.trans s3 s4))) h4
  rw [List.length_append, lt, List.length_drop]
  show i + 1 + _ ≤ _
  omega
theorem take_use {K : PySem.W.Frag} {H : Hp} {Q : VK} {σ : L2.St} {j k i : Nat} {b : Addr} {xs : List V} (hj : σ[j]? = some (some (.ref b))) (hk : σ[k]? = some (some (.int (i : Int)))) (hb : SqT K H b xs) (hi : i < xs.length) (q : ∀ c H', Same H H' → SqT K H' c (xs.take i) → Q (.ref c) H') :
    tSl (rSlA K) (tVar j) tNoPart (tPart (tVar k)) σ H Q := by
  refine ⟨_, hj, _, hk, _, rfl, ?_⟩
  exact sl_take hb (by omega) q
theorem splice {K : PySem.W.Frag} {H : Hp} {Q : VK} {σ : L2.St} {j k i : Nat} {b : Addr} {xs : List V} {v : V} (hj : σ[j]? = some (some (.ref b))) (hk : σ[k]? = some (some (.int (i : Int)))) (hb : SqT K H b xs) (hi : i < xs.length) (hl : xs.length ≤ 1000) (q : ∀ c' H', Same H H' → SqT K H' c' (putAt xs i v) → Q (.ref c') H') :
    tSl (rSlA K) (tVar j) tNoPart (tPart (tVar k)) σ H fun x1 H1 => 1 ≤ sizeLine ∧ ∀ p, H1 p = none → rCatA K x1 (.ref p) (upd H1 p (.tup [v])) fun x2 H1 => tSl (rSlA K) (tVar j) (tPart (tOp (rI0 fun i j => V.int (i + j)) (tVar k) (tC (V.int 1)))) tNoPart σ H1 fun y H2 => rCatA K x2 y H2 Q :=
  take_use hj hk hb hi fun _ _ s1 h1 => rest_use hj hk (Same.sqT s1 hb) hi hl h1 fun _ _ c' H' s' h' => q c' H' (Same.trans s1 s') h'
end Sg
namespace Sg
open PySem PySem.Spec PyProof.Rows L2
/-- one statement, then the rest: what holds between -/
theorem seq_with {ta tb : TS} {D : Ends} {σ : L2.St} {H : Hp} (M : L2.St → Hp → Prop) (h : ∀ N : L2.St → Hp → Prop, (∀ σ' H', M σ' H' → N σ' H') → ta { D with nx := N } σ H) (tail : ∀ σ' H', M σ' H' → tb D σ' H') : tSeq ta tb D σ H := h _ tail
end Sg

/-! dicts whose keys are (int, tuple of ints) and whose values are ints; len(set(ints)) -/
namespace Sg
open PySem PySem.Spec PyProof.Rows L2
/-! ### len(set(list of ints)) -/
theorem step_add (acc : List Int) (v : Int) : step_dedup acc v = addOne acc v := by
  unfold step_dedup addOne
  by_cases h : v ∈ acc
  · rw [if_pos h]
    simp [h]
  · rw [if_neg h]
    simp [h]
theorem met_once (ns : List Int) : firstMet (fun i => ns.getD i 0) ns.length = once ns := by
  unfold firstMet once
  have e1 : (List.range ns.length).map (fun i => ns.getD i 0) = ns := by
    apply List.ext_getElem?
    intro i
    rw [List.getElem?_map]
    by_cases h : i < ns.length
    · rw [List.getElem?_range h, List.getElem?_eq_getElem h, Option.map_some, List.getD_eq_getElem?_getD, List.getElem?_eq_getElem h]
      rfl
    · rw [List.getElem?_eq_none (by simpa using h), List.getElem?_eq_none (by omega)]
      rfl
  rw [e1]
  have e2 : (step_dedup : List Int → Int → List Int) = addOne := funext fun a => funext fun v => step_add a v
  rw [e2]
def tLenSetN (K : PySem.W.Frag) (ta : TE) : TE := fun σ H Q => ta σ H fun x H1 => match x with
  | .ref l => ∃ ns : List Int, SqL K H1 l (ns.map V.int) ∧ ns.length ≤ 1000 ∧ Q (.int ((once ns).length : Nat)) H1
  | _ => False
theorem pe_lenSetN {X : Cx} {a : Expr} {ta : TE} {p p2 q pos : Pos} (hc : X.calm = true) (hg : Gl X "len") (hm : X.mg "len" = none) (hg2 : Gl X "set") (hm2 : X.mg "set" = none) (ha : PE X a ta)
    (na : starEach [a] X.env = (false, eval a X.env) :: starEach [] X.env := by rfl) : PE X (.Call (.Name "len" p) [.Call (.Name "set" p2) [a] [] q] [] pos) (tLenSetN X.K ta) := by
  refine ⟨fun pins s σ H Q I h => ?_⟩
  refine Call_ (ld_blt I hg hm PySem.boot_len ?_)
  refine PyProof.Rows.callWith_builtin1 (PyProof.Rows.args_cons ?_ rfl) rfl rfl
  refine Call_ (ld_blt I hg2 hm2 PyProof.Rows.boot_set ?_)
  refine PyProof.Rows.callWith_type1 (PyProof.Rows.args_cons (thn (ha.run pins s σ H _ I h) fun v s1 ⟨x, H1, I1, r1, q1⟩ => PyProof.Rows.args_nil ?_) na) na rfl
  match x, q1 with
  | .ref l, ⟨ns, hq, hn1, q2⟩ =>
    cases (show v = Value.ref l from r1)
    obtain ⟨its, r, pl, hz⟩ := I1.list hq
    have hl : its.toArray.size = ns.length := by rw [List.size_toArray, ← r.length, List.length_map]
    refine call_set_list (I1.ok.hd hc) pl.isList (ns := ns) (by simpa using r.ints) (by unfold scanBound; omega) fun h' tk hS hk => PyProof.Rows.args_nil ?_
    rw [hl, met_once] at hS
    obtain ⟨o, es, ep, t, ho, hex, hd, _, _, _, hf, hn⟩ := hS
    have I2 : Inv X pins σ H1 { s1 with heap := h', toks := tk } := I1.kept fun b o e => hk b o (Heap.lt_size e) e
    have hlen : (once ns).length ≤ 1000 := Nat.le_trans (once_len ns) hn1
    exact call_len_set ho hex hd hf (by rw [hn] <;> omega) ⟨.int ((once ns).length : Nat), H1, I2.tok _, ⟨_, by rw [hn]⟩, q2⟩
/-! ### nested keys -/
abbrev NK : Type := Int × List Int
def nk (k : NK) : NestedKey := .tup [.num k.1, .tup (k.2.map .num)]
theorem nums_inj : ∀ {l m : List Int}, l.map NestedKey.num = m.map NestedKey.num → l = m
  | [], [], _ => rfl
  | [], b :: m, h => by cases h
  | a :: l, [], h => by cases h
  | a :: l, b :: m, h => by
    obtain ⟨h1, h2⟩ := List.cons.inj h
    rw [NestedKey.num.inj h1, nums_inj h2]
theorem nk_inj {a b : NK} (h : nk a = nk b) : a = b := by
  have h1 := NestedKey.tup.inj h
  obtain ⟨h2, h3⟩ := List.cons.inj h1
  have h4 := NestedKey.tup.inj (List.cons.inj h3).1
  exact Prod.ext (NestedKey.num.inj h2) (nums_inj h4)
abbrev NE : Type := NK × Addr × Int
def nEnt (p : NE) (x : NestedKey × Addr × Value) : Prop := nk p.1 = x.1 ∧ p.2.1 = x.2.1 ∧ ∃ t, x.2.2 = .int p.2.2 t
/-- the dict's own object -/
def NestD (P : Program) (w : World) (h : Heap) (d : Addr) (kvs : List NE) : Prop :=
  (d == sysModules) = false ∧ ∃ xs, Paired nEnt kvs xs ∧ ∃ o es ep, h.get? d = some o ∧ o.ExactDict ∧ o.data = .dict es ep ∧ es.toList = xs.map (entryOfKey (nestedKind P w)) ∧ (xs.map (·.1)).Nodup
def dN (P : Program) (w : World) (d : Addr) (kvs : List NE) : HO := .ext fun h => NestD P w h d kvs
def KeyN (H : Hp) (b : Addr) (k : NK) : Prop := ∃ c, H b = some (.tup [.int k.1, .ref c]) ∧ H c = some (.tup (k.2.map V.int))
def EntN (H : Hp) (kvs : List NE) : Prop := ∀ e ∈ kvs, KeyN H e.2.1 e.1
def valN (kvs : List NE) (k : NK) : Option Int := (kvs.find? fun e => decide (e.1 = k)).map (·.2.2)
theorem KeyN.mono {H H' : Hp} (s : ∀ b xs, H b = some (.tup xs) → H' b = some (.tup xs)) {b : Addr} {k : NK} (h : KeyN H b k) : KeyN H' b k := by
  obtain ⟨c, h1, h2⟩ := h
  exact ⟨c, s _ _ h1, s _ _ h2⟩
theorem EntN.mono {H H' : Hp} (s : ∀ b xs, H b = some (.tup xs) → H' b = some (.tup xs)) {kvs : List NE} (h : EntN H kvs) : EntN H' kvs := fun e he => (h e he).mono s
theorem dN_new {P : Program} {w : World} {H : Hp} {h : Heap} {d : Addr} {kvs : List NE} (x : NestD P w h d kvs) : ObjOk P w H h d (dN P w d kvs) := by
  obtain ⟨hd, xs, pr, o, es, ep, ho, r⟩ := id x
  refine ⟨x, ⟨o, ho⟩, fun h1 h2 p k => ?_⟩
  obtain ⟨hd, xs, pr, o, es, ep, ho, r⟩ := p
  exact ⟨hd, xs, pr, o, es, ep, k o ho, r⟩
theorem nums_all {h : Heap} : ∀ {l : List Int} {vs : List Value}, Vals (l.map V.int) vs → NestedAll h (l.map .num) vs
  | [], _, r => by cases r; exact .nil
  | i :: l, _, r => by
    cases r with
    | cons r1 r2 =>
      obtain ⟨t, rfl⟩ := (show ∃ t, _ = Value.int i t from r1)
      exact .cons (.int i t) (nums_all r2)
theorem depth_nums : ∀ l : List Int, NestedKey.depthAll (l.map .num) = 0
  | [] => rfl
  | i :: l => by
    show max (NestedKey.depth (.num i)) (NestedKey.depthAll (l.map .num)) = 0
    rw [depth_nums l]
    rfl
theorem nkey_of {P : Program} {w : World} {H : Hp} {h : Heap} {b : Addr} {k : NK} (ok : HOk P w H h) (x : KeyN H b k) : (nestedKind P w).is h (nk k) b := by
  obtain ⟨c, h1, h2⟩ := x
  obtain ⟨_, its, r, o, g1, g2, n, g3⟩ := (show ObjOk P w H h b (.tup _) from ok b _ h1)
  obtain ⟨_, its2, r2, o2, g4, g5, n2, g6⟩ := (show ObjOk P w H h c (.tup _) from ok c _ h2)
  refine ⟨.tup g1 g2 g3 ?_, ?_⟩
  · cases r with
    | cons r1 t1 =>
      cases t1 with
      | cons r3 t3 =>
        cases t3
        obtain ⟨t, rfl⟩ := (show ∃ t, _ = Value.int k.1 t from r1)
        cases (show _ = Value.ref c from r3)
        exact .cons (.int k.1 t) (.cons (.tup g4 g5 g6 (nums_all (by simpa using r2))) .nil)
  · show NestedKey.depth (.tup [.num k.1, .tup (k.2.map .num)]) ≤ 8
    show max 0 (max (NestedKey.depthAll (k.2.map .num) + 1) 0) + 1 ≤ 8
    rw [depth_nums]
    decide
section
variable {P : Program} {w : World} {H : Hp} {h : Heap} {d : Addr} {kvs : List NE}
theorem dN_get (ok : HOk P w H h) (e : H d = some (dN P w d kvs)) : NestD P w h d kvs := (show ObjOk P w H h d (.ext _) from ok d _ e).1
theorem dN_of (ok : HOk P w H h) (e : H d = some (dN P w d kvs)) (en : EntN H kvs) : (d == sysModules) = false ∧ ∃ xs, Paired nEnt kvs xs ∧ h.DictOfH (nestedKind P w) d xs := by
  obtain ⟨hd, xs, pr, o, es, ep, ho, h2, h3, h4, h5⟩ := dN_get ok e
  refine ⟨hd, xs, pr, o, es, ep, ho, h2, h3, h4, fun x hx => ?_, h5⟩
  obtain ⟨i, hi⟩ := List.mem_iff_getElem?.mp hx
  obtain ⟨p, hp, e1, e2, _⟩ := pr_get' pr hi
  have := nkey_of ok (en p (List.mem_of_getElem? hp))
  rw [e1, e2] at this
  exact this
theorem ent_val {kvs : List NE} {xs : List (NestedKey × Addr × Value)} (pr : Paired nEnt kvs xs) (k : NK) : (∀ i, valN kvs k = some i → ∃ a t, atKey xs (nk k) = some (a, .int i t)) ∧ (valN kvs k = none → atKey xs (nk k) = none) := by
  induction pr with
  | nil =>
    refine ⟨fun i h => ?_, fun _ => rfl⟩
    cases h
  | @cons p x ps qs hq t ih =>
    obtain ⟨e1, e2, t', e3⟩ := hq
    by_cases c : p.1 = k
    · have c2 : x.1 = nk k := by rw [← e1, c]
      have v1 : valN (p :: ps) k = some p.2.2 := by simp [valN, c]
      have v2 : atKey (x :: qs) (nk k) = some x.2 := by simp [atKey, c2]
      refine ⟨fun i h => ?_, fun h => by rw [v1] at h; cases h⟩
      rw [v1] at h
      obtain rfl := Option.some.inj h
      exact ⟨x.2.1, t', by rw [v2, ← e3]⟩
    · have c2 : ¬ x.1 = nk k := fun z => c (nk_inj (e1.trans z))
      have v1 : valN (p :: ps) k = valN ps k := by simp [valN, c]
      have v2 : atKey (x :: qs) (nk k) = atKey qs (nk k) := by simp [atKey, c2]
      rw [v1, v2]
      exact ih
theorem nest_empty (hp : Heap) (hb : sysModules < hp.objs.size) : NestD P w (hp.push { cls := .type "dict", data := .dict #[] }) hp.objs.size [] :=
  ⟨beq_eq_false_iff_ne.mpr (Ne.symm (Nat.ne_of_lt hb)), [], .nil, _, #[], 0, Heap.get?_push_size _ rfl, ⟨rfl, rfl, rfl⟩, rfl, rfl, List.nodup_nil⟩
end
/-! ### readings and rules -/
def tNNew (P : Program) (w : World) : TE := fun _ H Q => ∀ p, H p = none → Q (.ref p) (upd H p (dN P w p []))
def tNNotIn (P : Program) (w : World) (ty td : TE) : TE := fun σ H Q => ty σ H fun y H1 => td σ H1 fun x H2 => ∃ a b kvs k, x = .ref a ∧ y = .ref b ∧ H2 a = some (dN P w a kvs) ∧ EntN H2 kvs ∧ KeyN H2 b k ∧ Q (.bl (!(valN kvs k).isSome)) H2
def tNGet (P : Program) (w : World) (td ty : TE) : TE := fun σ H Q => td σ H fun x H1 => ty σ H1 fun y H2 => ∃ a b kvs k i, x = .ref a ∧ y = .ref b ∧ H2 a = some (dN P w a kvs) ∧ EntN H2 kvs ∧ KeyN H2 b k ∧ valN kvs k = some i ∧ Q (.int i) H2
def sNPut (P : Program) (w : World) (td ty tv : TE) : TS := fun D σ H => tv σ H fun v H1 => td σ H1 fun x H2 => ty σ H2 fun y H3 => ∃ a b kvs k i, x = .ref a ∧ y = .ref b ∧ v = .int i ∧ H3 a = some (dN P w a kvs) ∧ EntN H3 kvs ∧ KeyN H3 b k ∧ valN kvs k = none ∧ kvs.length < 100000 ∧
  D.nx σ (upd H3 a (dN P w a (kvs ++ [(k, b, i)])))
def rLenN (P : Program) (w : World) : List V → Hp → VK → Prop := fun xs H Q => match xs with
  | [.ref a] => ∃ kvs, H a = some (dN P w a kvs) ∧ EntN H kvs ∧ kvs.length < 100000 ∧ Q (.int kvs.length) H
  | _ => False
section
variable {X : Cx} {o i value : Expr} {pos pos' : Pos} {td ty tv : TE}
theorem nroom (hu : X.A.units + 64 < cLine) : (nestedKind X.prog X.w).room X.A.in1 := by show X.A.units + 1 + 8 < cLine; omega
theorem pe_nnew : PE X (.Dict [] [] pos) (tNNew X.prog X.w) := ⟨fun pins s σ H Q I h =>
  wpAny_Dict_empty ⟨.ref s.heap.objs.size, _, I.laid (a := s.heap.objs.size) (o := dN X.prog X.w s.heap.objs.size []) (t' := s.toks) (fun _ _ q => Heap.get?_push_of_some _ q) (Nat.le_refl _) (dN_new (nest_empty s.heap I.big)), rfl, h _ (I.hok.fresh (Nat.le_refl _))⟩⟩
theorem pc_nnotin (hu : X.A.units + 64 < cLine) (hi : PE X i ty) (ho : PE X o td) : PC X .NotIn i o (tNNotIn X.prog X.w ty td) := by
  refine ⟨fun pins s σ H Q I h => ?_⟩
  refine thn (hi.run pins s σ H _ I h) fun iv s1 ⟨y, H1, I1, ry, q1⟩ => thn (ho.run pins s1 σ H1 _ I1 q1) fun u s2 ⟨x, H2, I2, rx, a, b, kvs, k, ex, ey, e, en, kk, q2⟩ => ?_
  subst ex ey
  cases (show u = Value.ref a from rx)
  cases (show iv = Value.ref b from ry)
  obtain ⟨hd, xs, pr, dd⟩ := dN_of I2.hok e en
  refine wpAny_notIn_heap (nroom hu) (nkey_of I2.hok kk) hd dd ⟨.bl (!(valN kvs k).isSome), H2, I2.tok _, ?_, q2⟩
  obtain ⟨g1, g2⟩ := ent_val pr k
  cases hv : valN kvs k with
  | none => rw [g2 hv]; rfl
  | some j =>
    obtain ⟨c, t, hat⟩ := g1 j hv
    rw [hat]
    rfl
theorem pe_nget (hu : X.A.units + 64 < cLine) (ho : PE X o td) (hi : PE X i ty) (hs : NoSl i) : PE X (.Subscript o i pos) (tNGet X.prog X.w td ty) := by
  refine ⟨fun pins s σ H Q I h => ?_⟩
  refine subD_of PySem.F.slot_dict_getitem.lookup hs (thn (ho.run pins s σ H _ I h) fun u s1 ⟨x, H1, I1, rx, q1⟩ => thn (hi.run pins s1 σ H1 _ I1 q1) fun iv s2 ⟨y, H2, I2, ry, a, b, kvs, k, j, ex, ey, e, en, kk, hv, q2⟩ => ?_)
  subst ex ey
  cases (show u = Value.ref a from rx)
  cases (show iv = Value.ref b from ry)
  obtain ⟨hd, xs, pr, dd⟩ := dN_of I2.hok e en
  obtain ⟨c, t, hat⟩ := (ent_val pr k).1 j hv
  exact ⟨dd.typeIs, wpAny_getItem_heap (nroom hu) (nkey_of I2.hok kk) dd hat ⟨.int j, H2, I2.tok _, ⟨t, rfl⟩, q2⟩⟩
theorem ps_nput (hu : X.A.units + 64 < cLine) (ho : PE X o td) (hi : PE X i ty) (hv : PE X value tv) (hs : swapsWith value (some (.Subscript o i pos')) pos.line X.env = pure false) :
    PS X (.Assign [.Subscript o i pos'] value pos) (sNPut X.prog X.w td ty tv) := by
  refine ⟨fun pins s σ H D I h => ?_⟩
  refine wpAny_Assign_Subscript (thn (hv.run pins s σ H _ I h) fun r s1 ⟨v, H1, I1, rv, q1⟩ => thn (ho.run pins s1 σ H1 _ I1 q1) fun u s2 ⟨x, H2, I2, rx, q2⟩ => thn (hi.run pins s2 σ H2 _ I2 q2) fun iv s3 ⟨y, H3, I3, ry, a, b, kvs, k, j, ex, ey, ev, e, en, kk, hno, hl, q3⟩ => ?_) hs
  subst ex ey ev
  cases (show u = Value.ref a from rx)
  cases (show iv = Value.ref b from ry)
  obtain ⟨t, rfl⟩ := (show ∃ t, r = Value.int j t from rv)
  obtain ⟨hd, xs, pr, dd⟩ := dN_of I3.hok e en
  have hz : xs.length ≤ sizeLine := by rw [← pr_len pr]; exact szle (m := 100000) (by omega)
  refine wpAny_setItem_heap (hsz := hz) (nroom hu) (nkey_of I3.hok kk) dd fun h' dd' hsb => ?_
  rw [storedH_new ((ent_val pr k).2 hno)] at dd'
  obtain ⟨ob, es, ep, hq, h2, h3, h4, _, h5⟩ := dd'
  exact ⟨σ, _, d_write I3 (by rw [e]; exact True.intro) hsb ⟨ob, hq⟩ (dN_new ⟨hd, _, pr_snoc pr ⟨rfl, rfl, t, rfl⟩, ob, es, ep, hq, h2, h3, h4, h5⟩), q3⟩
theorem call_lenN : CallR X (.builtin "len") (rLenN X.prog X.w) := by
  intro pins s σ H xs us Q I r h
  match xs, h with
  | [.ref a], ⟨kvs, e, en, hl, q⟩ =>
    obtain ⟨u, rfl, rx⟩ := vals1 r
    cases (show u = Value.ref a from rx)
    obtain ⟨hd, ys, pr, dd⟩ := dN_of I.hok e en
    have hl2 : kvs.length = ys.length := pr_len pr
    refine call_len_dictH hd dd (by omega) ?_
    rw [← hl2]
    exact ⟨.int ((kvs.length : Nat) : Int), H, I.tok _, ⟨_, rfl⟩, q⟩
end
end Sg

namespace Sg
open PySem PySem.Spec PyProof.Rows L2
/-! lookers by what they take; the least looker, in plain Lean -/
def Lang : Type := List Nat → Int
noncomputable instance : DecidableEq Lang := fun a b => Classical.propDecidable (a = b)
def lang (rs : List LRow) (p : Int) : Lang := fun w => endAt rs (w.foldl (fun p x => nxt rs p x) p)
def der (L : Lang) (x : Nat) : Lang := fun w => L (x :: w)
theorem der_lang (rs : List LRow) (p : Int) (x : Nat) : lang rs (nxt rs p x) = der (lang rs p) x := rfl
theorem nxt_far {n : Nat} {rs : List LRow} (ok : RowsOk n rs) {p : Int} (h : InSt rs p) {x : Nat} (hx : ¬ x < n) : nxt rs p x = 0 := by
  unfold nxt
  have := ok.wid _ (rowOf_mem h)
  rw [List.getD_eq_getElem?_getD, List.getElem?_eq_none (by omega)]
  rfl
theorem once_nodup {κ : Type} [DecidableEq κ] (l : List κ) : (once l).Nodup := by
  have key : ∀ (r acc : List κ), acc.Nodup → (r.foldl addOne acc).Nodup := by
    intro r
    induction r with
    | nil => intro acc h; exact h
    | cons a r ih =>
      intro acc h
      refine ih _ ?_
      unfold addOne
      by_cases c : a ∈ acc
      · rw [if_pos c]; exact h
      · rw [if_neg c, List.nodup_append]
        exact ⟨h, by simp, fun x hx y hy e => c (by rw [List.mem_singleton.mp hy] at e; exact e ▸ hx)⟩
  exact key l [] List.nodup_nil
theorem nodup_of_once {κ : Type} [DecidableEq κ] {l : List κ} (h : l.length ≤ (once l).length) : l.Nodup := by
  have key : ∀ (r acc : List κ), acc.Nodup → acc.length + r.length ≤ (r.foldl addOne acc).length → (acc ++ r).Nodup := by
    intro r
    induction r with
    | nil => intro acc h _; simpa using h
    | cons a r ih =>
      intro acc hn hl
      have hb : ∀ (r acc : List κ), (r.foldl addOne acc).length ≤ acc.length + r.length := by
        intro r
        induction r with
        | nil => intro acc; exact Nat.le_refl _
        | cons b r ih2 =>
          intro acc
          have h1 := ih2 (addOne acc b)
          have h2 := addOne_len (acc := acc) (v := b)
          show (r.foldl addOne (addOne acc b)).length ≤ acc.length + (r.length + 1)
          omega
      have hl2 : acc.length + (r.length + 1) ≤ (r.foldl addOne (addOne acc a)).length := hl
      have h1 := hb r (addOne acc a)
      by_cases c : a ∈ acc
      · have e : addOne acc a = acc := if_pos c
        rw [e] at hl2 h1
        omega
      · have e : addOne acc a = acc ++ [a] := if_neg c
        rw [e] at hl2 h1
        have := ih (acc ++ [a]) (by
          rw [List.nodup_append]
          exact ⟨hn, by simp, fun x hx y hy e => c (by rw [List.mem_singleton.mp hy] at e; exact e ▸ hx)⟩) (by rw [List.length_append]; simp at hl2 ⊢; omega)
        simpa using this
  have := key l [] List.nodup_nil (by simpa [once] using h)
  simpa using this
/-- two tellings of the same things, the second one finer -/
theorem finer {α β : Type} [DecidableEq α] [DecidableEq β] {N : Nat} {f : Nat → α} {g : Nat → β} (hg : ∀ p q, p < N → q < N → g p = g q → f p = f q) :
    (once ((List.range N).map f)).length ≤ (once ((List.range N).map g)).length ∧
      ((once ((List.range N).map g)).length ≤ (once ((List.range N).map f)).length → ∀ p q, p < N → q < N → f p = f q → g p = g q) := by
  let φ : β → α := fun v => f (((List.range N).map g).idxOf v)
  have hφ : ∀ p, p < N → φ (g p) = f p := by
    intro p hp
    have hm : g p ∈ (List.range N).map g := List.mem_map.mpr ⟨p, List.mem_range.mpr hp, rfl⟩
    have hi := List.idxOf_lt_length_of_mem hm
    have he := List.getElem_idxOf hi
    rw [List.length_map, List.length_range] at hi
    refine hg _ _ hi hp ?_
    rw [List.getElem_map, List.getElem_range] at he
    exact he
  have sub : ∀ a ∈ once ((List.range N).map f), a ∈ (once ((List.range N).map g)).map φ := by
    intro a ha
    rw [once_mem] at ha
    obtain ⟨p, hp, rfl⟩ := List.mem_map.mp ha
    have hp2 := List.mem_range.mp hp
    exact List.mem_map.mpr ⟨g p, (once_mem _ _).mpr (List.mem_map.mpr ⟨p, hp, rfl⟩), hφ p hp2⟩
  refine ⟨by have := nodup_few (once_nodup _) sub; rwa [List.length_map] at this, fun hle p q hp hq e => ?_⟩
  have hn : ((once ((List.range N).map g)).map φ).Nodup := by
    refine nodup_of_once ?_
    have := nodup_few (once_nodup ((List.range N).map f)) (u := once ((once ((List.range N).map g)).map φ)) fun a ha => (once_mem _ _).mpr (sub a ha)
    rw [List.length_map]
    omega
  have inj : ∀ {l : List β}, (l.map φ).Nodup → ∀ x ∈ l, ∀ y ∈ l, φ x = φ y → x = y := by
    intro l
    induction l with
    | nil => intro _ x hx; exact nomatch hx
    | cons c r ih =>
      intro hn x hx y hy e
      obtain ⟨h1, h2⟩ := List.nodup_cons.mp hn
      rcases List.mem_cons.mp hx with ex | hx2
      · rcases List.mem_cons.mp hy with ey | hy2
        · rw [ex, ey]
        · exact absurd (List.mem_map.mpr ⟨y, hy2, by rw [← e, ex]⟩) h1
      · rcases List.mem_cons.mp hy with ey | hy2
        · exact absurd (List.mem_map.mpr ⟨x, hx2, by rw [e, ey]⟩) h1
        · exact ih h2 x hx2 y hy2 e
  have mem : ∀ p, p < N → g p ∈ once ((List.range N).map g) := fun p hp => (once_mem _ _).mpr (List.mem_map.mpr ⟨p, List.mem_range.mpr hp, rfl⟩)
  exact inj hn _ (mem p hp) _ (mem q hq) (by rw [hφ p hp, hφ q hq]; exact e)
/-! ### one round -/
def mk (ms : List Int) (p : Int) : Int := ms.getD p.toNat 0
def keyAt (rs : List LRow) (ms : List Int) (p : Nat) : NK := (mk ms p, (rowOf rs p).2.map (mk ms))
def keysTo (rs : List LRow) (ms : List Int) (i : Nat) : List NK := (List.range i).map (keyAt rs ms)
def markTo (rs : List LRow) (ms : List Int) (i : Nat) : List Int := (keysTo rs ms i).map fun k => (((once (keysTo rs ms i)).idxOf k : Nat) : Int)
/-- what holds of the marks of a round -/
structure MarkOk (rs : List LRow) (ms : List Int) : Prop where
  len : ms.length = rs.length
  fin : ∀ p q, InSt rs p → InSt rs q → mk ms p = mk ms q → endAt rs p = endAt rs q
  all : ∀ p q, InSt rs p → InSt rs q → lang rs p = lang rs q → mk ms p = mk ms q
def Kern (rs : List LRow) (ms : List Int) : Prop := ∀ p q, InSt rs p → InSt rs q → (mk ms p = mk ms q ↔ lang rs p = lang rs q)
theorem in_nat {rs : List LRow} {p : Int} (h : InSt rs p) : ((p.toNat : Nat) : Int) = p ∧ p.toNat < rs.length := ⟨by have := h.1; omega, by have := h.1; have := h.2; omega⟩
theorem idx_inj {κ : Type} [BEq κ] [LawfulBEq κ] {l : List κ} {a b : κ} (ha : a ∈ l) (hb : b ∈ l) (h : l.idxOf a = l.idxOf b) : a = b := by
  have h1 := List.getElem_idxOf (List.idxOf_lt_length_of_mem ha)
  have h2 := List.getElem_idxOf (List.idxOf_lt_length_of_mem hb)
  rw [← h1, ← h2]
  congr 1
theorem mk_mark {rs : List LRow} {ms : List Int} {p : Int} (h : InSt rs p) : mk (markTo rs ms rs.length) p = (((once (keysTo rs ms rs.length)).idxOf (keyAt rs ms p.toNat) : Nat) : Int) := by
  obtain ⟨h1, h2⟩ := in_nat h
  unfold mk markTo keysTo
  rw [List.getD_eq_getElem?_getD, List.getElem?_map, List.getElem?_map, List.getElem?_range h2]
  rfl
theorem key_mem {rs : List LRow} {ms : List Int} {p : Nat} (h : p < rs.length) : keyAt rs ms p ∈ once (keysTo rs ms rs.length) := (once_mem _ _).mpr (List.mem_map.mpr ⟨p, List.mem_range.mpr h, rfl⟩)
theorem mark_key {rs : List LRow} {ms : List Int} {p q : Int} (hp : InSt rs p) (hq : InSt rs q) : mk (markTo rs ms rs.length) p = mk (markTo rs ms rs.length) q ↔ keyAt rs ms p.toNat = keyAt rs ms q.toNat := by
  rw [mk_mark hp, mk_mark hq]
  constructor
  · intro h
    exact idx_inj (key_mem (in_nat hp).2) (key_mem (in_nat hq).2) (by omega)
  · intro h
    rw [h]
theorem key_mk {rs : List LRow} {ms : List Int} {p q : Int} (hp : InSt rs p) (hq : InSt rs q) (h : keyAt rs ms p.toNat = keyAt rs ms q.toNat) : mk ms p = mk ms q ∧ (rowOf rs p).2.map (mk ms) = (rowOf rs q).2.map (mk ms) := by
  have h1 := congrArg Prod.fst h
  have h2 := congrArg Prod.snd h
  unfold keyAt at h1 h2
  rw [(in_nat hp).1, (in_nat hq).1] at h1 h2
  exact ⟨h1, h2⟩
theorem lang_nxt {rs : List LRow} {p q : Int} (h : lang rs p = lang rs q) (x : Nat) : lang rs (nxt rs p x) = lang rs (nxt rs q x) := by rw [der_lang, der_lang, h]
theorem row_ext {n : Nat} {rs : List LRow} (ok : RowsOk n rs) {p q : Int} (hp : InSt rs p) (hq : InSt rs q) {f : Int → Int} : (rowOf rs p).2.map f = (rowOf rs q).2.map f ↔ ∀ x, x < n → f (nxt rs p x) = f (nxt rs q x) := by
  constructor
  · intro h x hx
    have := congrArg (fun l => l[x]?) h
    simp only [List.getElem?_map, nxt_get ok hp hx, nxt_get ok hq hx, Option.map_some] at this
    exact Option.some.inj this
  · intro h
    apply List.ext_getElem?
    intro x
    rw [List.getElem?_map, List.getElem?_map]
    by_cases hx : x < n
    · rw [nxt_get ok hp hx, nxt_get ok hq hx, Option.map_some, Option.map_some, h x hx]
    · have h1 := ok.wid _ (rowOf_mem hp)
      have h2 := ok.wid _ (rowOf_mem hq)
      rw [List.getElem?_eq_none (by omega), List.getElem?_eq_none (by omega)]
theorem mark_round {n : Nat} {rs : List LRow} (ok : RowsOk n rs) {ms : List Int} (h : MarkOk rs ms) : MarkOk rs (markTo rs ms rs.length) := by
  refine ⟨by simp [markTo, keysTo], fun p q hp hq e => ?_, fun p q hp hq e => ?_⟩
  · exact h.fin p q hp hq (key_mk hp hq ((mark_key hp hq).mp e)).1
  · refine (mark_key hp hq).mpr ?_
    unfold keyAt
    rw [(in_nat hp).1, (in_nat hq).1, h.all p q hp hq e]
    congr 1
    exact (row_ext ok hp hq).mpr fun x hx => h.all _ _ (nxt_in ok hp hx) (nxt_in ok hq hx) (lang_nxt e x)
theorem mk_list {ms : List Int} {N : Nat} (h : ms.length = N) : (List.range N).map (fun (p : Nat) => mk ms (p : Int)) = ms := by
  apply List.ext_getElem?
  intro i
  rw [List.getElem?_map]
  by_cases hi : i < N
  · rw [List.getElem?_range hi, List.getElem?_eq_getElem (by omega), Option.map_some]
    unfold mk
    rw [Int.toNat_natCast, List.getD_eq_getElem?_getD, List.getElem?_eq_getElem (by omega)]
    rfl
  · rw [List.getElem?_eq_none (by simpa using hi), List.getElem?_eq_none (by omega)]
    rfl
theorem mark_more {rs : List LRow} {ms : List Int} (hl : ms.length = rs.length) : (once ms).length ≤ (once (keysTo rs ms rs.length)).length := by
  have h := (finer (N := rs.length) (f := fun p : Nat => mk ms (p : Int)) (g := keyAt rs ms) fun p q _ _ e => congrArg Prod.fst e).1
  rwa [mk_list hl] at h
theorem mark_same {n : Nat} {rs : List LRow} (ok : RowsOk n rs) {ms : List Int} (h : MarkOk rs ms) (hc : (once (keysTo rs ms rs.length)).length = (once ms).length) : Kern rs (markTo rs ms rs.length) := by
  have h2 := (finer (N := rs.length) (f := fun p : Nat => mk ms (p : Int)) (g := keyAt rs ms) fun p q _ _ e => congrArg Prod.fst e).2
  rw [mk_list h.len] at h2
  have h3 := h2 (Nat.le_of_eq hc)
  have st : ∀ p q, InSt rs p → InSt rs q → mk ms p = mk ms q → ∀ x, mk ms (nxt rs p x) = mk ms (nxt rs q x) ∧ InSt rs (nxt rs p x) ∧ InSt rs (nxt rs q x) := by
    intro p q hp hq e x
    by_cases hx : x < n
    · refine ⟨?_, nxt_in ok hp hx, nxt_in ok hq hx⟩
      have := h3 p.toNat q.toNat (in_nat hp).2 (in_nat hq).2 (by show mk ms ((p.toNat : Nat) : Int) = mk ms ((q.toNat : Nat) : Int); rw [(in_nat hp).1, (in_nat hq).1]; exact e)
      exact (row_ext ok hp hq).mp (key_mk hp hq this).2 x hx
    · rw [nxt_far ok hp hx, nxt_far ok hq hx]
      exact ⟨rfl, in_zero ok, in_zero ok⟩
  have la : ∀ w p q, InSt rs p → InSt rs q → mk ms p = mk ms q → lang rs p w = lang rs q w := by
    intro w
    induction w with
    | nil => intro p q hp hq e; exact h.fin p q hp hq e
    | cons x w ih =>
      intro p q hp hq e
      obtain ⟨a, b, c⟩ := st p q hp hq e x
      exact ih _ _ b c a
  have hm := mark_round ok h
  intro p q hp hq
  refine ⟨fun e => ?_, fun e => hm.all p q hp hq e⟩
  exact funext fun w => la w p q hp hq (key_mk hp hq ((mark_key hp hq).mp e)).1
theorem mark_start {rs : List LRow} : MarkOk rs (rs.map (·.1)) := by
  have e : ∀ p, InSt rs p → mk (rs.map (·.1)) p = endAt rs p := by
    intro p hp
    unfold mk endAt rowOf
    rw [List.getD_eq_getElem?_getD, List.getElem?_map, List.getD_eq_getElem?_getD, List.getElem?_eq_getElem (in_nat hp).2]
    rfl
  refine ⟨by simp, fun p q hp hq h => ?_, fun p q hp hq h => ?_⟩
  · rw [e p hp, e q hq] at h; exact h
  · rw [e p hp, e q hq]
    exact congrFun h []
end Sg

namespace Sg
open PySem PySem.Spec PyProof.Rows L2
/-- a list told over a tuple, each thing by reading alone -/
theorem lc_read {K : PySem.W.Frag} {a D : Addr} {xs ys : List V} {j : Nat} {te : TE} {vs : List Nat} {σ : L2.St} {H1 : Hp} {Qd : Hp → Prop} (hD : H1 D = none) (hA : SqT K H1 a xs) (hl : ys.length = xs.length) (hz : xs.length ≤ 100000)
    (hw : ∀ x, wipe ((wipe σ vs).set j (some x)) vs = wipe σ vs)
    (hs : ∀ i x y, xs[i]? = some x → ys[i]? = some y → ∀ R : V → Hp → Prop, R y (upd H1 D (.lst (ys.take i))) → te ((wipe σ vs).set j (some x)) (upd H1 D (.lst (ys.take i))) R)
    (hd : Qd (upd H1 D (.lst ys))) :
    ∃ W : Nat → Nat → Hp → Prop, (∃ m, W 0 m (upd H1 D (.lst []))) ∧ ∀ i m H, W i m H →
      ((Itt K a).stop i H ∧ Qd H) ∨ ((Itt K a).go i H ∧ ∃ Nx : Hp → Prop, (∀ H', Nx H' → ∃ m', m' < m ∧ W (i + 1) m' H') ∧ ∀ x H', (Itt K a).yld i H x H' → gName j x (wipe σ vs) H' fun σ2 H2 => wipe σ2 vs = wipe σ vs ∧ tYes σ2 H2 fun b H3 =>
        if b = true then te σ2 H3 fun y H4 => ∃ acc, H4 D = some (.lst acc) ∧ acc.length < sizeLine ∧ Nx (upd H4 D (.lst (acc ++ [y]))) else Nx H3) := by
  have hA2 : ∀ i, SqT K (upd H1 D (.lst (ys.take i))) a xs := fun i => Same.sqT (same_upd hD) hA
  refine lc_gen (n := xs.length) (fun i H => H = upd H1 D (.lst (ys.take i))) rfl (fun i H hi e => ?_) (fun H e => ?_) (fun i x H H' hi e y => ?_) (fun H e => ?_)
  · subst e
    obtain ⟨x, hx⟩ : ∃ x, xs[i]? = some x := ⟨_, List.getElem?_eq_getElem hi⟩
    exact ⟨xs, x, hA2 i, hx⟩
  · subst e
    exact ⟨xs, hA2 _, Nat.le_refl _⟩
  · subst e
    obtain ⟨rfl, hx⟩ := y
    have hx2 := hx xs (hA2 i)
    obtain ⟨v, hv⟩ : ∃ v, ys[i]? = some v := ⟨_, List.getElem?_eq_getElem (by omega)⟩
    refine ⟨hw x, ?_⟩
    refine hs i x v hx2 hv _ ⟨_, upd_same, ?_, ?_⟩
    · rw [List.length_take]
      exact szlt (m := 100000) (by omega)
    · rw [upd_upd, List.take_add_one, hv]
      rfl
  · subst e
    rw [← hl, List.take_length]
    exact hd
theorem getD_get {ms : List Int} {p : Int} {N : Nat} (hl : ms.length = N) (h0 : 0 ≤ p) (h1 : p < (N : Int)) : atI (ms.map V.int) p = some (.int (mk ms p)) := by
  have e : p = ((p.toNat : Nat) : Int) := by omega
  have hlt : p.toNat < ms.length := by omega
  rw [e]
  refine atI_nat ?_
  rw [List.getElem?_map, List.getElem?_eq_getElem hlt]
  unfold mk
  rw [Int.toNat_natCast, List.getD_eq_getElem?_getD, List.getElem?_eq_getElem hlt]
  rfl
/-! ### numbers given as keys are met -/
theorem once_to_succ (rs : List LRow) (ms : List Int) (i : Nat) : once (keysTo rs ms (i + 1)) = addOne (once (keysTo rs ms i)) (keyAt rs ms i) := by
  unfold keysTo
  rw [List.range_succ, List.map_append, List.map_singleton, once_snoc]
theorem keysTo_succ (rs : List LRow) (ms : List Int) (i : Nat) : keysTo rs ms (i + 1) = keysTo rs ms i ++ [keyAt rs ms i] := by
  unfold keysTo
  rw [List.range_succ, List.map_append, List.map_singleton]
theorem idx_add {κ : Type} [DecidableEq κ] [BEq κ] [LawfulBEq κ] {l : List κ} {a b : κ} (h : a ∈ l) : (addOne l b).idxOf a = l.idxOf a := by
  unfold addOne
  by_cases c : b ∈ l
  · rw [if_pos c]
  · rw [if_neg c, List.idxOf_append, if_pos h]
theorem markTo_succ (rs : List LRow) (ms : List Int) (i : Nat) : markTo rs ms (i + 1) = markTo rs ms i ++ [(((once (keysTo rs ms (i + 1))).idxOf (keyAt rs ms i) : Nat) : Int)] := by
  unfold markTo
  rw [once_to_succ]
  conv => lhs; rw [keysTo_succ, List.map_append]
  congr 1
  refine List.map_congr_left fun k hk => ?_
  rw [idx_add ((once_mem _ _).mpr hk)]
theorem valN_idx : ∀ {kvs : List NE} {ks : List NK} {s : Nat}, kvs.map (·.1) = ks → (∀ j e, kvs[j]? = some e → e.2.2 = ((s + j : Nat) : Int)) → ∀ k, valN kvs k = if k ∈ ks then some ((s + ks.idxOf k : Nat) : Int) else none
  | [], _, s, rfl, _, k => by simp [valN]
  | e :: kvs, _, s, rfl, hp, k => by
    have ih := valN_idx (kvs := kvs) (ks := kvs.map (·.1)) (s := s + 1) rfl (fun j e' he => by
      have := hp (j + 1) e' he
      rw [this]
      omega) k
    by_cases c : e.1 = k
    · have h0 := hp 0 e rfl
      have v1 : valN (e :: kvs) k = some e.2.2 := by simp [valN, c]
      rw [v1, h0, List.map_cons, if_pos (by rw [c]; exact List.mem_cons_self), List.idxOf_cons, beq_iff_eq.mpr c]
      rfl
    · have v1 : valN (e :: kvs) k = valN kvs k := by simp [valN, c]
      rw [v1, ih, List.map_cons]
      by_cases hm : k ∈ kvs.map (·.1)
      · rw [if_pos hm, if_pos (List.mem_cons_of_mem _ hm), List.idxOf_cons, beq_eq_false_iff_ne.mpr c]
        show some ((s + 1 + _ : Nat) : Int) = some ((s + (_ + 1) : Nat) : Int)
        congr 2
        omega
      · rw [if_neg hm, if_neg (fun h => (List.mem_cons.mp h).elim (fun e2 => c e2.symm) hm)]
/-! ### the heap of one round -/
structure CoH (P : Program) (w : World) (H : Hp) (l pd fr : Addr) (rs : List LRow) (ms : List Int) (i : Nat) (H2 : Hp) (kvs : List NE) : Prop where
  same : Same H H2
  lm : H2 l = some (.lst (ms.map V.int))
  dict : H2 pd = some (dN P w pd kvs)
  ent : EntN H2 kvs
  keys : kvs.map (·.1) = once (keysTo rs ms i)
  pos : ∀ (j : Nat) e, kvs[j]? = some e → e.2.2 = (j : Int)
  fresh : H2 fr = some (.lst ((markTo rs ms i).map V.int))
section
variable {P : Program} {w : World} {H H2 : Hp} {l pd fr T : Addr} {rs : List LRow} {ms : List Int} {i : Nat} {kvs : List NE} {o : HO}
theorem CoH.other (c : CoH P w H l pd fr rs ms i H2 kvs) (hT : H2 T = none) : CoH P w H l pd fr rs ms i (upd H2 T o) kvs := by
  have s : Same H2 (upd H2 T o) := same_upd hT
  exact ⟨Same.trans c.same s, s _ _ c.lm, s _ _ c.dict, c.ent.mono fun b xs h => s _ _ h, c.keys, c.pos, s _ _ c.fresh⟩
theorem CoH.len (c : CoH P w H l pd fr rs ms i H2 kvs) : kvs.length = (once (keysTo rs ms i)).length := by rw [← c.keys, List.length_map]
theorem CoH.val (c : CoH P w H l pd fr rs ms i H2 kvs) (k : NK) : valN kvs k = if k ∈ once (keysTo rs ms i) then some (((once (keysTo rs ms i)).idxOf k : Nat) : Int) else none := by
  have h := valN_idx (s := 0) c.keys (fun j e he => by rw [c.pos j e he, Nat.zero_add]) k
  rw [Nat.zero_add] at h
  exact h
/-- the turn's end: the key is there, its number goes to the list -/
theorem CoH.step (c : CoH P w H l pd fr rs ms i H2 kvs) (n0 : H l = none) (n1 : H pd = none) (n2 : H fr = none) (e1 : l ≠ pd) (e2 : l ≠ fr) (e3 : pd ≠ fr) {b : Addr} (hb : KeyN H2 b (keyAt rs ms i)) (hno : keyAt rs ms i ∉ once (keysTo rs ms i)) :
    CoH P w H l pd fr rs ms (i + 1) (upd (upd H2 pd (dN P w pd (kvs ++ [(keyAt rs ms i, b, (kvs.length : Int))]))) fr (.lst ((markTo rs ms i).map V.int ++ [.int (kvs.length : Int)]))) (kvs ++ [(keyAt rs ms i, b, (kvs.length : Int))]) := by
  have hkeys : (kvs ++ [(keyAt rs ms i, b, (kvs.length : Int))]).map (·.1) = once (keysTo rs ms (i + 1)) := by
    rw [List.map_append, c.keys, once_to_succ]
    unfold addOne
    rw [if_neg hno]
    rfl
  have tu : ∀ a xs, H2 a = some (.tup xs) → (upd (upd H2 pd (dN P w pd (kvs ++ [(keyAt rs ms i, b, (kvs.length : Int))]))) fr (.lst ((markTo rs ms i).map V.int ++ [.int (kvs.length : Int)]))) a = some (.tup xs) := fun a xs h => by
    rw [upd_ne (ne_of h c.fresh (fun z => nomatch z)), upd_ne (ne_of h c.dict (fun z => nomatch z))]
    exact h
  refine ⟨fun a x ha => ?_, by rw [upd_ne e2, upd_ne e1]; exact c.lm, by rw [upd_ne e3, upd_same], fun e he => ?_, hkeys, fun j e he => ?_, ?_⟩
  · rw [upd_ne (ne_of_none ha n2), upd_ne (ne_of_none ha n1)]
    exact c.same a x ha
  · rcases List.mem_append.mp he with he | he
    · exact (c.ent e he).mono tu
    · obtain rfl := List.mem_singleton.mp he
      exact hb.mono tu
  · by_cases hj : j < kvs.length
    · rw [List.getElem?_append_left hj] at he
      exact c.pos j e he
    · rw [List.getElem?_append_right (by omega)] at he
      obtain ⟨h0, h1⟩ := List.getElem?_eq_some_iff.mp he
      have : j - kvs.length = 0 := by simpa using h0
      have e4 : j = kvs.length := by omega
      subst e4
      simp at he
      rw [← he]
  · rw [upd_same, markTo_succ, List.map_append, List.map_singleton]
    congr 4
    rw [c.len, once_to_succ]
    unfold addOne
    rw [if_neg hno, List.idxOf_append, if_neg hno]
    simp
theorem CoH.stay (c : CoH P w H l pd fr rs ms i H2 kvs) (n0 : H l = none) (n2 : H fr = none) (e2 : l ≠ fr) (e3 : pd ≠ fr) (hin : keyAt rs ms i ∈ once (keysTo rs ms i)) :
    CoH P w H l pd fr rs ms (i + 1) (upd H2 fr (.lst ((markTo rs ms i).map V.int ++ [.int (((once (keysTo rs ms i)).idxOf (keyAt rs ms i) : Nat) : Int)]))) kvs := by
  have ho : once (keysTo rs ms (i + 1)) = once (keysTo rs ms i) := by
    rw [once_to_succ]
    unfold addOne
    rw [if_pos hin]
  refine ⟨fun a x ha => ?_, by rw [upd_ne e2]; exact c.lm, by rw [upd_ne e3]; exact c.dict, c.ent.mono fun a xs h => ?_, by rw [ho]; exact c.keys, c.pos, ?_⟩
  · rw [upd_ne (ne_of_none ha n2)]
    exact c.same a x ha
  · rw [upd_ne (ne_of h c.fresh (fun z => nomatch z))]
    exact h
  · rw [upd_same, markTo_succ, List.map_append, List.map_singleton, ho]
end
end Sg
namespace Sg
open PySem PySem.Spec PyProof.Rows L2
theorem CoH.start {P : Program} {w : World} {H H1 : Hp} {l pd fr : Addr} {rs : List LRow} {ms : List Int} (s : Same H H1) (hl : H1 l = some (.lst (ms.map V.int))) (hp : H1 pd = none) (hf : (upd H1 pd (dN P w pd [])) fr = none) :
    CoH P w H l pd fr rs ms 0 (upd (upd H1 pd (dN P w pd [])) fr (.lst [])) [] := by
  have s1 : Same H1 (upd H1 pd (dN P w pd [])) := same_upd hp
  have s2 : Same (upd H1 pd (dN P w pd [])) (upd (upd H1 pd (dN P w pd [])) fr (.lst [])) := same_upd hf
  exact ⟨Same.trans s (Same.trans s1 s2), s2 _ _ (s1 _ _ hl), s2 _ _ upd_same, fun e he => (nomatch he), rfl, fun j e he => (by simp at he), upd_same⟩
end Sg
namespace Sg
open PySem PySem.Spec PyProof.Rows L2
theorem CoH.mid {P : Program} {w : World} {H H2 : Hp} {l pd fr : Addr} {rs : List LRow} {ms : List Int} {i : Nat} {kvs : List NE} (c : CoH P w H l pd fr rs ms i H2 kvs) (e3 : pd ≠ fr) {b : Addr} (hb : KeyN H2 b (keyAt rs ms i)) (hno : keyAt rs ms i ∉ once (keysTo rs ms i)) :
    (upd H2 pd (dN P w pd (kvs ++ [(keyAt rs ms i, b, (kvs.length : Int))]))) fr = some (.lst ((markTo rs ms i).map V.int)) ∧ EntN (upd H2 pd (dN P w pd (kvs ++ [(keyAt rs ms i, b, (kvs.length : Int))]))) (kvs ++ [(keyAt rs ms i, b, (kvs.length : Int))]) ∧
      KeyN (upd H2 pd (dN P w pd (kvs ++ [(keyAt rs ms i, b, (kvs.length : Int))]))) b (keyAt rs ms i) ∧ valN (kvs ++ [(keyAt rs ms i, b, (kvs.length : Int))]) (keyAt rs ms i) = some (kvs.length : Int) := by
  have tu : ∀ a xs, H2 a = some (.tup xs) → (upd H2 pd (dN P w pd (kvs ++ [(keyAt rs ms i, b, (kvs.length : Int))]))) a = some (.tup xs) := fun a xs h => by
    rw [upd_ne (ne_of h c.dict (fun z => nomatch z))]
    exact h
  refine ⟨by rw [upd_ne (Ne.symm e3)]; exact c.fresh, fun e he => ?_, hb.mono tu, ?_⟩
  · rcases List.mem_append.mp he with he | he
    · exact (c.ent e he).mono tu
    · obtain rfl := List.mem_singleton.mp he
      exact hb.mono tu
  · have h0 := c.val (keyAt rs ms i)
    rw [if_neg hno] at h0
    unfold valN at h0 ⊢
    rw [List.find?_append]
    cases hf : kvs.find? fun e => decide (e.1 = keyAt rs ms i) with
    | none => simp
    | some e => rw [hf] at h0; cases h0
theorem keys_few (rs : List LRow) (ms : List Int) (i : Nat) : (once (keysTo rs ms i)).length ≤ i := by
  have := once_len (keysTo rs ms i)
  unfold keysTo at this
  rw [List.length_map, List.length_range] at this
  exact this
theorem markTo_len (rs : List LRow) (ms : List Int) (i : Nat) : (markTo rs ms i).length = i := by simp [markTo, keysTo]
theorem once_map_idx {rs : List LRow} {ms : List Int} : (once (markTo rs ms rs.length)).length = (once (keysTo rs ms rs.length)).length := by
  have e1 : markTo rs ms rs.length = (List.range rs.length).map fun p => (((once (keysTo rs ms rs.length)).idxOf (keyAt rs ms p) : Nat) : Int) := by
    unfold markTo keysTo
    rw [List.map_map]
    rfl
  have h1 := (finer (N := rs.length) (f := fun p => (((once (keysTo rs ms rs.length)).idxOf (keyAt rs ms p) : Nat) : Int)) (g := keyAt rs ms) fun p q _ _ e => by rw [e]).1
  have h2 := (finer (N := rs.length) (g := fun p => (((once (keysTo rs ms rs.length)).idxOf (keyAt rs ms p) : Nat) : Int)) (f := keyAt rs ms) fun p q hp hq e => idx_inj (key_mem hp) (key_mem hq) (by omega)).1
  rw [← e1] at h1 h2
  exact Nat.le_antisymm h1 h2
end Sg

namespace Sg
open PySem PySem.Spec PyProof.Rows L2
/-! the least looker by what is taken from each state -/
noncomputable def clo (n : Nat) : Nat → Nat → Met Lang → Met Lang
  | 0, _, acc => acc
  | f + 1, i, acc => match acc[i]? with
    | none => acc
    | some (a, p) => clo n f (i + 1) (expandTo der acc a p n)
noncomputable def rowIn (n : Nat) (acc : Met Lang) (e : Lang × List Nat) : LRow := (e.1 [], (List.range n).map fun x => (((acc.map Prod.fst).idxOf (der e.1 x) : Nat) : Int))
noncomputable def canon (n : Nat) (L : Lang) (f : Nat) : List LRow := (clo n f 0 [(L, [])]).map (rowIn n (clo n f 0 [(L, [])]))
theorem clo_end {n f i : Nat} {acc : Met Lang} (h : acc.length ≤ i) : clo n f i acc = acc := by
  cases f with
  | zero => rfl
  | succ f =>
    unfold clo
    rw [List.getElem?_eq_none h]
theorem clo_go {n f i : Nat} {acc : Met Lang} {a : Lang} {p : List Nat} (h : acc[i]? = some (a, p)) : clo n (f + 1) i acc = clo n f (i + 1) (expandTo der acc a p n) := by
  show (match acc[i]? with | none => acc | some (a, p) => clo n f (i + 1) (expandTo der acc a p n)) = _
  rw [h]
theorem clo_more {n : Nat} {L : Lang} {u : List Lang} (hs : L ∈ u) (hc : ∀ a ∈ u, ∀ x, x < n → der a x ∈ u) : ∀ {f g i : Nat} {acc : Met Lang}, MetOk n der L acc → u.length < f + i → u.length < g + i → clo n f i acc = clo n g i acc
  | 0, g, i, acc, h, hf, _ => by
    have := met_few h hs hc
    rw [clo_end (by omega), clo_end (by omega)]
  | f + 1, 0, i, acc, h, _, hg => by
    have := met_few h hs hc
    rw [clo_end (by omega), clo_end (by omega)]
  | f + 1, g + 1, i, acc, h, hf, hg => by
    by_cases hi : i < acc.length
    · obtain ⟨⟨a, q⟩, hap⟩ : ∃ ap, acc[i]? = some ap := ⟨_, List.getElem?_eq_getElem hi⟩
      rw [clo_go hap, clo_go hap]
      exact clo_more hs hc (met_expand h (List.mem_of_getElem? hap)) (by omega) (by omega)
    · rw [clo_end (by omega), clo_end (by omega)]
/-- the languages of a looker -/
def langs (rs : List LRow) : List Lang := (stR rs.length).map (lang rs)
theorem langs_len (rs : List LRow) : (langs rs).length = rs.length := by unfold langs; rw [List.length_map, stR_len]
theorem langs_mem {rs : List LRow} {p : Int} (h : InSt rs p) : lang rs p ∈ langs rs := List.mem_map.mpr ⟨p, mem_stR.mpr h, rfl⟩
theorem langs_step {n : Nat} {rs : List LRow} (ok : RowsOk n rs) : ∀ a ∈ langs rs, ∀ x, x < n → der a x ∈ langs rs := by
  intro a ha x hx
  obtain ⟨p, hp, rfl⟩ := List.mem_map.mp ha
  exact List.mem_map.mpr ⟨nxt rs p x, mem_stR.mpr (nxt_in ok (mem_stR.mp hp) hx), rfl⟩
theorem met_langs {n : Nat} {rs : List LRow} (ok : RowsOk n rs) {acc : Met Lang} (h : MetOk n der (lang rs 0) acc) : acc.length ≤ rs.length := by
  have := met_few h (langs_mem (in_zero ok)) (langs_step ok)
  rwa [langs_len] at this
theorem clo_met {n : Nat} {L : Lang} : ∀ {f i : Nat} {acc : Met Lang}, MetOk n der L acc → MetOk n der L (clo n f i acc)
  | 0, _, _, h => h
  | f + 1, i, acc, h => by
    by_cases hi : i < acc.length
    · obtain ⟨⟨a, q⟩, hap⟩ : ∃ ap, acc[i]? = some ap := ⟨_, List.getElem?_eq_getElem hi⟩
      rw [clo_go hap]
      exact clo_met (met_expand h (List.mem_of_getElem? hap))
    · rw [clo_end (by omega)]
      exact h
theorem clo_sub {n : Nat} : ∀ {f i : Nat} {acc : Met Lang}, ∃ more, clo n f i acc = acc ++ more
  | 0, _, acc => ⟨[], by rw [List.append_nil]; rfl⟩
  | f + 1, i, acc => by
    by_cases hi : i < acc.length
    · obtain ⟨⟨a, q⟩, hap⟩ : ∃ ap, acc[i]? = some ap := ⟨_, List.getElem?_eq_getElem hi⟩
      rw [clo_go hap]
      obtain ⟨m1, e1⟩ := expandTo_sub (stp := der) (acc := acc) (a := a) (p := q) n
      obtain ⟨m2, e2⟩ := clo_sub (n := n) (f := f) (i := i + 1) (acc := expandTo der acc a q n)
      exact ⟨m1 ++ m2, by rw [e2, e1, List.append_assoc]⟩
    · rw [clo_end (by omega)]
      exact ⟨[], by rw [List.append_nil]⟩
theorem expandTo_in {acc : Met Lang} {a : Lang} {p : List Nat} : ∀ k x, x < k → der a x ∈ (expandTo der acc a p k).map Prod.fst
  | k + 1, x, hx => by
    rw [expandTo_succ]
    by_cases c : x < k
    · obtain ⟨m, e⟩ := addStep_sub (stp := der) (a := a) (p := p) (acc := expandTo der acc a p k) (x := k)
      rw [e, List.map_append]
      exact List.mem_append_left _ (expandTo_in k x c)
    · have : x = k := by omega
      subst this
      unfold addStep
      by_cases c2 : der a x ∈ (expandTo der acc a p x).map Prod.fst
      · rw [if_pos c2]; exact c2
      · rw [if_neg c2, List.map_append]
        exact List.mem_append_right _ (by simp)
/-- all that is met leads to what is met -/
theorem clo_closed {n : Nat} {L : Lang} {u : List Lang} (hs : L ∈ u) (hc : ∀ a ∈ u, ∀ x, x < n → der a x ∈ u) : ∀ {f i : Nat} {acc : Met Lang}, MetOk n der L acc → u.length < f + i → (∀ e ∈ acc.take i, ∀ x, x < n → der e.1 x ∈ acc.map Prod.fst) →
    ∀ e ∈ clo n f i acc, ∀ x, x < n → der e.1 x ∈ (clo n f i acc).map Prod.fst
  | 0, i, acc, h, hf, hcl => by
    have := met_few h hs hc
    rw [clo_end (by omega)]
    rw [List.take_of_length_le (by omega)] at hcl
    exact hcl
  | f + 1, i, acc, h, hf, hcl => by
    by_cases hi : i < acc.length
    · obtain ⟨⟨a, q⟩, hap⟩ : ∃ ap, acc[i]? = some ap := ⟨_, List.getElem?_eq_getElem hi⟩
      rw [clo_go hap]
      refine clo_closed hs hc (met_expand h (List.mem_of_getElem? hap)) (by omega) fun e he x hx => ?_
      obtain ⟨m1, e1⟩ := expandTo_sub (stp := der) (acc := acc) (a := a) (p := q) n
      have ht : (expandTo der acc a q n).take (i + 1) = acc.take i ++ [(a, q)] := by
        rw [e1, List.take_append_of_le_length (by omega), List.take_add_one, hap]
        rfl
      rw [ht] at he
      rcases List.mem_append.mp he with he | he
      · rw [e1, List.map_append]
        exact List.mem_append_left _ (hcl e he x hx)
      · obtain rfl := List.mem_singleton.mp he
        exact expandTo_in n x hx
    · rw [clo_end (by omega)]
      rw [List.take_of_length_le (by omega)] at hcl
      exact hcl
theorem canon_same {n : Nat} {r1 r2 : List LRow} (o1 : RowsOk n r1) (o2 : RowsOk n r2) (h : lang r1 0 = lang r2 0) : canon n (lang r1 0) (r1.length + 1) = canon n (lang r2 0) (r2.length + 1) := by
  have e1 : clo n (r1.length + 1) 0 [(lang r1 0, [])] = clo n (r1.length + r2.length + 2) 0 [(lang r1 0, [])] :=
    clo_more (langs_mem (in_zero o1)) (langs_step o1) (met_start _ _ _) (by rw [langs_len]; omega) (by rw [langs_len]; omega)
  have e2 : clo n (r2.length + 1) 0 [(lang r2 0, [])] = clo n (r1.length + r2.length + 2) 0 [(lang r2 0, [])] :=
    clo_more (langs_mem (in_zero o2)) (langs_step o2) (met_start _ _ _) (by rw [langs_len]; omega) (by rw [langs_len]; omega)
  unfold canon
  rw [e1, e2, h]
/-- the least looker is one, and takes the same -/
theorem canon_ok {n : Nat} {rs : List LRow} (ok : RowsOk n rs) : RowsOk n (canon n (lang rs 0) (rs.length + 1)) ∧ lang (canon n (lang rs 0) (rs.length + 1)) 0 = lang rs 0 := by
  have hm : MetOk n der (lang rs 0) (clo n (rs.length + 1) 0 [(lang rs 0, [])]) := clo_met (met_start _ _ _)
  have hcl : ∀ e ∈ clo n (rs.length + 1) 0 [(lang rs 0, [])], ∀ x, x < n → der e.1 x ∈ (clo n (rs.length + 1) 0 [(lang rs 0, [])]).map Prod.fst :=
    clo_closed (langs_mem (in_zero ok)) (langs_step ok) (met_start _ _ _) (by rw [langs_len]; omega) (fun e he => by simp at he)
  have hsub : ∃ more, clo n (rs.length + 1) 0 [(lang rs 0, [])] = [(lang rs 0, [])] ++ more := clo_sub
  have hfew := met_langs ok hm
  have hst := met_closed hm (fun a => a ∈ langs rs) (langs_mem (in_zero ok)) (fun a x ha hx => langs_step ok a ha x hx)
  unfold canon
  generalize clo n (rs.length + 1) 0 [(lang rs 0, [])] = F at hm hcl hsub hfew hst
  obtain ⟨more, hF⟩ := hsub
  have hpos : 1 ≤ F.length := by rw [hF]; simp
  have h600 := ok.top
  have hidx : ∀ e ∈ F, ∀ x, x < n → (F.map Prod.fst).idxOf (der e.1 x) < F.length := fun e he x hx => by
    have := List.idxOf_lt_length_of_mem (hcl e he x hx)
    rwa [List.length_map] at this
  have rok : RowsOk n (F.map (rowIn n F)) := by
    refine ⟨by rw [List.length_map]; exact hpos, by rw [List.length_map]; omega, fun r hr => ?_, fun r hr => ?_, fun r hr q hq => ?_⟩
    · obtain ⟨e, he, rfl⟩ := List.mem_map.mp hr
      obtain ⟨p, hp, hpe⟩ := List.mem_map.mp (hst e he)
      show e.1 [] = 0 ∨ e.1 [] = 1
      rw [← hpe]
      exact endAt_bit ok (mem_stR.mp hp)
    · obtain ⟨e, he, rfl⟩ := List.mem_map.mp hr
      unfold rowIn
      simp
    · obtain ⟨e, he, rfl⟩ := List.mem_map.mp hr
      obtain ⟨x, hx, rfl⟩ := List.mem_map.mp hq
      have := hidx e he x (List.mem_range.mp hx)
      rw [List.length_map]
      omega
  refine ⟨rok, ?_⟩
  have la : ∀ (w : List Nat) (i : Nat) (e : Lang × List Nat), F[i]? = some e → lang (F.map (rowIn n F)) (i : Int) w = e.1 w := by
    intro w
    induction w with
    | nil =>
      intro i e he
      show endAt (F.map (rowIn n F)) (i : Int) = e.1 []
      unfold endAt rowOf
      rw [Int.toNat_natCast, List.getD_eq_getElem?_getD, List.getElem?_map, he]
      rfl
    | cons x w ih =>
      intro i e he
      have hem := List.mem_of_getElem? he
      have hi : i < F.length := (List.getElem?_eq_some_iff.mp he).1
      have hin : InSt (F.map (rowIn n F)) (i : Int) := ⟨by omega, by rw [List.length_map]; omega⟩
      show lang (F.map (rowIn n F)) (nxt (F.map (rowIn n F)) (i : Int) x) w = e.1 (x :: w)
      by_cases hx : x < n
      · have hn : nxt (F.map (rowIn n F)) (i : Int) x = (((F.map Prod.fst).idxOf (der e.1 x) : Nat) : Int) := by
          unfold nxt rowOf
          rw [Int.toNat_natCast, List.getD_eq_getElem?_getD, List.getD_eq_getElem?_getD, List.getElem?_map, he]
          show ((rowIn n F e).2[x]?).getD 0 = _
          unfold rowIn
          rw [List.getElem?_map, List.getElem?_range hx]
          rfl
        rw [hn]
        have hmem := hcl e hem x hx
        have h1 := List.getElem_idxOf (List.idxOf_lt_length_of_mem hmem)
        have h2 := hidx e hem x hx
        rw [ih _ _ (List.getElem?_eq_getElem h2)]
        rw [List.getElem_map] at h1
        exact congrFun h1 w
      · rw [nxt_far rok hin hx]
        have h0 : F[0]? = some (lang rs 0, []) := by rw [hF]; rfl
        have := ih 0 _ h0
        rw [show ((0 : Nat) : Int) = 0 from rfl] at this
        rw [this]
        obtain ⟨p, hp, hpe⟩ := List.mem_map.mp (hst e hem)
        rw [← hpe]
        show lang rs 0 w = lang rs (nxt rs p x) w
        rw [nxt_far ok (mem_stR.mp hp) hx]
  have h0 : F[0]? = some (lang rs 0, []) := by rw [hF]; rfl
  exact funext fun w => la w 0 _ h0
theorem idx_more {κ : Type} [BEq κ] [LawfulBEq κ] {l m : List κ} {a : κ} (h : a ∈ l) : (l ++ m).idxOf a = l.idxOf a := by
  rw [List.idxOf_append, if_pos h]
theorem rowIn_more {n : Nat} {acc more : Met Lang} {e : Lang × List Nat} (h : ∀ x, x < n → der e.1 x ∈ acc.map Prod.fst) : rowIn n (acc ++ more) e = rowIn n acc e := by
  unfold rowIn
  congr 1
  refine List.map_congr_left fun x hx => ?_
  rw [List.map_append, idx_more (h x (List.mem_range.mp hx))]
end Sg

namespace Sg
open PySem PySem.Spec PyProof.Rows L2
theorem tk_put {H : Hp} {D : Addr} {o : HO} (nt : ∀ ys, H D ≠ some (.tup ys)) (nf : ∀ q v, H D ≠ some (.frz q v)) : TK H (upd H D o) :=
  ⟨fun b xs h => by rw [upd_ne (fun z => nt xs (by rw [← z]; exact h))]; exact h, fun b q v h => by rw [upd_ne (fun z => nf q v (by rw [← z]; exact h))]; exact h⟩
/-- what the dict of numbers tells: the place at which a language was met -/
def NumOk (rs : List LRow) (ms : List Int) (acc : Met Lang) (nb : List (Key × V)) : Prop :=
  (∀ p, InSt rs p → lang rs p ∈ acc.map Prod.fst → valV nb (.inl (mk ms p)) = some (.int (((acc.map Prod.fst).idxOf (lang rs p) : Nat) : Int))) ∧ (∀ p, InSt rs p → lang rs p ∉ acc.map Prod.fst → valV nb (.inl (mk ms p)) = none) ∧ nb.length ≤ acc.length
structure LsH (K : PySem.W.Frag) (H : Hp) (l nd ch rr : Addr) (rs : List LRow) (ms : List Int) (acc : Met Lang) (H2 : Hp) (cs : List Int) (nb : List (Key × V)) (vs : List V) (rws : List LRow) : Prop where
  same : Same H H2
  n1 : H l = none
  n2 : H nd = none
  n3 : H ch = none
  n4 : H rr = none
  e1 : ch ≠ l
  e2 : ch ≠ rr
  e3 : l ≠ rr
  lm : H2 l = some (.lst (ms.map V.int))
  dict : H2 nd = some (.dK nb)
  num : NumOk rs ms acc nb
  chl : H2 ch = some (.lst (cs.map V.int))
  csl : cs.map (lang rs) = acc.map Prod.fst
  csi : ∀ c ∈ cs, InSt rs c
  rows : H2 rr = some (.lst vs)
  pr : Paired (RSt K H2) vs rws
section
variable {K : PySem.W.Frag} {H H2 : Hp} {l nd ch rr D : Addr} {rs : List LRow} {ms : List Int} {acc : Met Lang} {cs : List Int} {nb : List (Key × V)} {vs : List V} {rws : List LRow} {o : HO}
theorem LsH.put (h : LsH K H l nd ch rr rs ms acc H2 cs nb vs rws) (h0 : H D = none) (d1 : l ≠ D) (d2 : nd ≠ D) (d3 : ch ≠ D) (d4 : rr ≠ D) (nt : ∀ ys, H2 D ≠ some (.tup ys)) (nf : ∀ q v, H2 D ≠ some (.frz q v)) : LsH K H l nd ch rr rs ms acc (upd H2 D o) cs nb vs rws :=
  { h with
    same := fun b x hb => by rw [upd_ne (ne_of_none hb h0)]; exact h.same b x hb
    lm := by rw [upd_ne d1]; exact h.lm
    dict := by rw [upd_ne d2]; exact h.dict
    chl := by rw [upd_ne d3]; exact h.chl
    rows := by rw [upd_ne d4]; exact h.rows
    pr := pr_mono h.pr fun _ _ r => r.mono (tk_put nt nf) }
theorem LsH.free (h : LsH K H l nd ch rr rs ms acc H2 cs nb vs rws) (h0 : H2 D = none) : H D = none ∧ l ≠ D ∧ nd ≠ D ∧ ch ≠ D ∧ rr ≠ D :=
  ⟨Same.free h.same h0, ne_of_none h.lm h0, ne_of_none h.dict h0, ne_of_none h.chl h0, ne_of_none h.rows h0⟩
theorem LsH.other (h : LsH K H l nd ch rr rs ms acc H2 cs nb vs rws) (h0 : H2 D = none) : LsH K H l nd ch rr rs ms acc (upd H2 D o) cs nb vs rws := by
  obtain ⟨a, b, c, d, e⟩ := h.free h0
  exact h.put a b c d e (fun _ => by rw [h0]; nofun) (fun _ _ => by rw [h0]; nofun)
theorem LsH.cnt (h : LsH K H l nd ch rr rs ms acc H2 cs nb vs rws) : cs.length = acc.length := by
  have := congrArg List.length h.csl
  rwa [List.length_map, List.length_map] at this
/-- a language that was not met -/
theorem NumOk.add {rs : List LRow} {ms : List Int} {acc : Met Lang} {nb : List (Key × V)} (h : NumOk rs ms acc nb) (kn : Kern rs ms) {c : Int} (hc : InSt rs c) (hn : lang rs c ∉ acc.map Prod.fst) (q : List Nat) : NumOk rs ms (acc ++ [(lang rs c, q)]) (putK nb (.inl (mk ms c)) (.int (acc.length : Int))) := by
  obtain ⟨h1, h2, h3⟩ := h
  have key : ∀ p, InSt rs p → ((Sum.inl (mk ms p) : Key) = Sum.inl (mk ms c) ↔ lang rs p = lang rs c) := fun p hp => ⟨fun e => (kn p c hp hc).mp (Sum.inl.inj e), fun e => by rw [(kn p c hp hc).mpr e]⟩
  refine ⟨fun p hp hm => ?_, fun p hp hm => ?_, ?_⟩
  · rw [valV_put]
    by_cases e : lang rs p = lang rs c
    · rw [if_pos ((key p hp).mpr e), e, List.map_append, List.idxOf_append, if_neg hn]
      simp
    · rw [if_neg (fun z => e ((key p hp).mp z))]
      rw [List.map_append] at hm ⊢
      have hm2 : lang rs p ∈ acc.map Prod.fst := (List.mem_append.mp hm).elim id fun h => absurd (by simpa using h) e
      rw [idx_more hm2]
      exact h1 p hp hm2
  · rw [valV_put]
    rw [List.map_append] at hm
    have e : lang rs p ≠ lang rs c := fun e => hm (List.mem_append_right _ (by simp [e]))
    rw [if_neg (fun z => e ((key p hp).mp z))]
    exact h2 p hp fun h => hm (List.mem_append_left _ h)
  · have := length_putK nb (.inl (mk ms c)) (.int (acc.length : Int))
    rw [List.length_append]
    simp
    omega
theorem LsH.met (h : LsH K H l nd ch rr rs ms acc H2 cs nb vs rws) (kn : Kern rs ms) {c : Int} (hc : InSt rs c) (hn : lang rs c ∉ acc.map Prod.fst) (q : List Nat) :
    LsH K H l nd ch rr rs ms (acc ++ [(lang rs c, q)]) (upd (upd H2 nd (.dK (putK nb (.inl (Sg.mk ms c)) (.int (acc.length : Int))))) ch (.lst (cs.map V.int ++ [.int c]))) (cs ++ [c]) (putK nb (.inl (Sg.mk ms c)) (.int (acc.length : Int))) vs rws := by
  have a1 : l ≠ nd := ne_of h.lm h.dict (fun z => nomatch z)
  have a2 : ch ≠ nd := ne_of h.chl h.dict (fun z => nomatch z)
  have a3 : rr ≠ nd := ne_of h.rows h.dict (fun z => nomatch z)
  have hch : (upd H2 nd (.dK (putK nb (.inl (Sg.mk ms c)) (.int (acc.length : Int))))) ch = some (.lst (cs.map V.int)) := by rw [upd_ne a2]; exact h.chl
  refine ⟨fun b x hb => ?_, h.n1, h.n2, h.n3, h.n4, h.e1, h.e2, h.e3, ?_, ?_, h.num.add kn hc hn q, by rw [upd_same, List.map_append]; rfl, ?_, fun d hd => ?_, ?_, pr_mono h.pr fun _ _ r => r.mono ?_⟩
  · rw [upd_ne (ne_of_none hb h.n3), upd_ne (ne_of_none hb h.n2)]
    exact h.same b x hb
  · rw [upd_ne (Ne.symm h.e1), upd_ne a1]; exact h.lm
  · rw [upd_ne (Ne.symm a2), upd_same]
  · rw [List.map_append, List.map_append, h.csl]; rfl
  · rcases List.mem_append.mp hd with hd | hd
    · exact h.csi d hd
    · rw [List.mem_singleton.mp hd]; exact hc
  · rw [upd_ne (Ne.symm h.e2), upd_ne a3]; exact h.rows
  · exact (tk_put (fun _ => by rw [h.dict]; nofun) (fun _ _ => by rw [h.dict]; nofun)).trans (tk_put (fun _ => by rw [hch]; nofun) (fun _ _ => by rw [hch]; nofun))
/-- a row is told -/
theorem LsH.row (h : LsH K H l nd ch rr rs ms acc H2 cs nb vs rws) {T T1 : Addr} {r : LRow} (hT : H2 T = some (.tup [.int r.1, .ref T1])) (hT1 : H2 T1 = some (.tup (r.2.map V.int))) :
    LsH K H l nd ch rr rs ms acc (upd H2 rr (.lst (vs ++ [.ref T]))) cs nb (vs ++ [.ref T]) (rws ++ [r]) := by
  have a3 : nd ≠ rr := ne_of h.dict h.rows (fun z => nomatch z)
  have k : TK H2 (upd H2 rr (.lst (vs ++ [.ref T]))) := tk_put (fun _ => by rw [h.rows]; nofun) (fun _ _ => by rw [h.rows]; nofun)
  exact { h with
    same := fun b x hb => by rw [upd_ne (ne_of_none hb h.n4)]; exact h.same b x hb
    lm := by rw [upd_ne h.e3]; exact h.lm
    dict := by rw [upd_ne a3]; exact h.dict
    chl := by rw [upd_ne h.e2]; exact h.chl
    rows := upd_same
    pr := pr_snoc (pr_mono h.pr fun _ _ r => r.mono k) ⟨T, T1, rfl, k.sqT (.inl (.inl hT)), k.sqT (.inl (.inl hT1))⟩ }
end
end Sg
namespace Sg
open PySem PySem.Spec PyProof.Rows L2
theorem LsH.start {K : PySem.W.Frag} {H H1 H2 : Hp} {l nd ch rr : Addr} {n : Nat} {rs : List LRow} {ms : List Int} (ok : RowsOk n rs) (s1 : Same H H1) (kn : Kern rs ms) (hl0 : H l = none) (hl : H1 l = some (.lst (ms.map V.int))) (hnd : H1 nd = none)
    (e2 : H2 = upd (upd H1 nd (.dK [])) nd (.dK [(.inl (Sg.mk ms 0), .int 0)])) (hch : H2 ch = none) (hrr : (upd H2 ch (.lst [.int 0])) rr = none) :
    LsH K H l nd ch rr rs ms [(lang rs 0, [])] (upd (upd H2 ch (.lst [.int 0])) rr (.lst [])) [0] [(.inl (Sg.mk ms 0), .int 0)] [] [] := by
  have s2 : Same H1 H2 := fun b x hb => by rw [e2, upd_ne (ne_of_none hb hnd), upd_ne (ne_of_none hb hnd)]; exact hb
  have s3 : Same H2 (upd H2 ch (.lst [.int 0])) := same_upd hch
  have s4 : Same (upd H2 ch (.lst [.int 0])) (upd (upd H2 ch (.lst [.int 0])) rr (.lst [])) := same_upd hrr
  have k1 : H2 nd = some (.dK [(.inl (Sg.mk ms 0), .int 0)]) := by rw [e2, upd_same]
  have l2 := s2 _ _ hl
  have c1 : (upd H2 ch (.lst [.int 0])) ch = some (.lst [.int 0]) := upd_same
  refine ⟨Same.trans s1 (Same.trans s2 (Same.trans s3 s4)), hl0, Same.free s1 hnd, Same.free (Same.trans s1 s2) hch, Same.free (Same.trans s1 (Same.trans s2 s3)) hrr, Ne.symm (ne_of_none l2 hch), ne_of_none c1 hrr, ne_of_none (s3 _ _ l2) hrr, s4 _ _ (s3 _ _ l2), s4 _ _ (s3 _ _ k1), ⟨fun p hp hm => ?_, fun p hp hm => ?_, Nat.le_refl _⟩, s4 _ _ c1, rfl, fun c hc => ?_, upd_same, .nil⟩
  · have e : lang rs p = lang rs 0 := by simpa using hm
    have e3 := (kn p 0 hp (in_zero ok)).mpr e
    rw [e3, e]
    simp [valV]
  · have e : lang rs p ≠ lang rs 0 := fun e => hm (by simp [e])
    have e3 : Sg.mk ms 0 ≠ Sg.mk ms p := fun z => e ((kn p 0 hp (in_zero ok)).mp z.symm)
    simp [valV, e3]
  · rw [List.mem_singleton.mp hc]
    exact in_zero ok
end Sg
namespace Sg
open PySem PySem.Spec PyProof.Rows L2
theorem leads_succ (acc : Met Lang) (L : Lang) (p : List Nat) (x : Nat) :
    (List.range (x + 1)).map (fun y => ((((expandTo der acc L p (x + 1)).map Prod.fst).idxOf (der L y) : Nat) : Int)) =
      (List.range x).map (fun y => ((((expandTo der acc L p x).map Prod.fst).idxOf (der L y) : Nat) : Int)) ++ [((((expandTo der acc L p (x + 1)).map Prod.fst).idxOf (der L x) : Nat) : Int)] := by
  rw [List.range_succ, List.map_append, List.map_singleton]
  congr 1
  refine List.map_congr_left fun y hy => ?_
  rw [expandTo_succ]
  obtain ⟨m, e⟩ := addStep_sub (stp := der) (a := L) (p := p) (acc := expandTo der acc L p x) (x := x)
  rw [e, List.map_append, idx_more (expandTo_in x y (List.mem_range.mp hy))]
theorem step_old {acc : Met Lang} {L : Lang} {p : List Nat} {x : Nat} (h : der L x ∈ (expandTo der acc L p x).map Prod.fst) : expandTo der acc L p (x + 1) = expandTo der acc L p x := by
  rw [expandTo_succ]
  unfold addStep
  rw [if_pos h]
theorem step_new {acc : Met Lang} {L : Lang} {p : List Nat} {x : Nat} (h : der L x ∉ (expandTo der acc L p x).map Prod.fst) : expandTo der acc L p (x + 1) = expandTo der acc L p x ++ [(der L x, p ++ [x])] := by
  rw [expandTo_succ]
  unfold addStep
  rw [if_neg h]
theorem idx_last {l : List Lang} {a : Lang} (h : a ∉ l) : (l ++ [a]).idxOf a = l.length := by
  rw [List.idxOf_append, if_neg h]
  simp
end Sg

/-! defs whose promise holds where no repr is under way; repr of data -/
namespace Sg
open PySem PySem.Spec PyProof.Rows L2
def Quiet (A : Around) : Prop := A.guards = some []
/-- repr of data of any depth -/
def rReprD (K : PySem.W.Frag) : List V → Hp → VK → Prop := fun xs H Q => ∃ (x : V) (d : PyData), xs = [x] ∧ Dp K H x d ∧ d.showable = true ∧ d.hasDict = false ∧ d.depth ≤ 50 ∧ d.shown.length ≤ sizeLine ∧ Q (.str d.shown) H
theorem call_reprD {X : Cx} (hq : Quiet X.A) (hu : X.A.units + 64 < cLine) : CallR X (.builtin "repr") (rReprD X.K) := by
  intro pins s σ H xs us Q I r h
  obtain ⟨x, d, rfl, hd, hs, hn, hdp, hsz, q⟩ := h
  obtain ⟨u, rfl, rx⟩ := vals1 r
  have deep : ∀ a, u = .ref a → wpAny (model X.prog X.w) X.A (call (.builtin "repr") [u]) (EP X pins σ Q) X.xe s := by
    intro a e
    subst e
    obtain ⟨as, rd⟩ := Dp.reads I d x _ hd rx
    exact repr_of_reads' rd hs (fun z => by rw [hn] at z; cases z) hq (by omega) (fun _ _ z => z) (fun h' t tk hk => ⟨.str d.shown, H, I.kept hk, ⟨t, rfl⟩, q⟩) hsz
  cases hd with
  | non =>
    cases (show u = Value.none from rx)
    exact PySem.P.repr_of_none ⟨.str _, H, I.tok _, ⟨_, rfl⟩, by simpa [PyData.shown] using q⟩
  | bl b =>
    cases (show u = Value.bool b from rx)
    exact PySem.P.repr_of_bool ⟨.str _, H, I.tok _, ⟨_, rfl⟩, by simpa [PyData.shown] using q⟩
  | int i =>
    obtain ⟨t, rfl⟩ := (show ∃ t, u = Value.int i t from rx)
    exact PySem.P.repr_of_int (by simpa [PyData.showable] using hs) ⟨.str _, H, I.tok _, ⟨_, rfl⟩, by simpa [PyData.shown] using q⟩
  | str z =>
    obtain ⟨t, rfl⟩ := (show ∃ t, u = Value.str z t from rx)
    exact PySem.P.repr_of_str ⟨.str _, H, I.tok _, ⟨_, rfl⟩, by simpa [PyData.shown] using q⟩ (by simpa [PyData.shown] using hsz)
  | lst h1 h2 => exact deep _ rx
  | tup h1 h2 => exact deep _ rx
/-! ### defs under a quiet stack -/
structure FnQ (P : Program) (w : World) (K : PySem.W.Frag) (mg : Str → Option Value) (base : Heap) (C : CXT) (k : Nat) (f : Addr) (fd : FuncData) (ps : List Str) (sp : Sp) : Prop where
  len : ∀ vs H Q E, sp vs H Q E → vs.length = ps.length
  run : ∀ (A : Around) (outer : List Env) (s : Shared) (H : Hp) (args : Args) (us : List Value) (vs : List V) (Q : VK) (E : XK), Quiet A → Room k A → Env0 P w K mg base A outer s H → BindsTo s fd args (ps.zip us) → Vals vs us → sp vs H Q E →
    codeAny (model P w) A (.call (.ref f) args) (CR C outer P w H s Q E) s
structure DkQ (P : Program) (w : World) (K : PySem.W.Frag) (mg : Str → Option Value) (base : Heap) (k : Nat) (x : Str) (ps : List Str) (sp : Sp) : Prop where
  ok : ∃ fd, FnQ P w K mg base (L2.CX P w) k (He.ga K x) fd ps sp ∧ Binds K fd ps []
  kp : PySem.W.keepIn K (.ref (He.ga K x)) = true
  gm : mg x = some (.ref (He.ga K x))
theorem run_quiet {X : Cx} {C : CXT} {k : Nat} {f : Addr} {fd : FuncData} {ps : List Str} {sp : Sp} {W : L2.St → XK} {pins : List (Addr × Obj)} {σ : L2.St} {H : Hp} {s : Shared} {Q : VK} {us : List Value} {vs : List V} (F : FnQ X.prog X.w X.K X.mg X.base C k f fd ps sp) (hq : Quiet X.A) (room : Room k X.A) (hb : Binds X.K fd ps []) (out : PassesAt C X σ (W σ))
    (I : Inv X pins σ H s) (r : Vals vs us) (h : sp vs H Q (W σ)) : wpAny (model X.prog X.w) X.A (call (.ref f) us) (EP X pins σ Q) X.xe s := by
  have same : us.length = ps.length := r.length ▸ F.len _ _ _ _ h
  have bound := hb s us I.kIn (by rw [List.append_nil]; exact same)
  rw [List.append_nil] at bound
  refine wpAny_call (codeAny_mono (F.run X.A X.stack s H ⟨us, []⟩ us vs Q (W σ) hq room I.env0 bound r h) fun res s' ended => ?_)
  match res, ended with
  | .error e, he => exact out pins H s e s' I he
  | .ok (.ret u), he => exact I.after he
  | .ok .next, he => exact False.elim he
  | .ok .brk, he => exact False.elim he
  | .ok .cont, he => exact False.elim he
theorem pe_callQ {X : Cx} {k : Nat} {x : Str} {ps : List Str} {sp : Sp} {W : WX} {e : Expr} {es : List Expr} {t : TA} {p pos : Pos} (D : DkQ X.prog X.w X.K X.mg X.base k x ps sp) (hq : Quiet X.A) (room : Room k X.A) (tk : Takes X W) (ha : PA X (e :: es) t) (hg : Gl X x := by rfl)
    (dbg : (x == ("__debug__" : Str)) = false := by decide) (he : starEach (e :: es) X.env = (false, eval e X.env) :: starEach es X.env := by rfl) (plain : (backTo pos (starEach es X.env)).any (·.1) = false := by rfl) :
    PE X (.Call (.Name x p) (e :: es) [] pos) (tCallR sp W t) := by
  obtain ⟨fd, F, B⟩ := D.ok
  refine ⟨fun pins s σ H Q I goal => wpAny_Call_Name_kw (ld_glob I hg D.gm ?_ dbg)⟩
  refine PySem.W.callWith_K (h₀ := X.base) I.ok.mod.kin D.kp (thn (ha.run pos pins s σ H _ I goal) fun us s1 ⟨vs, H1, I1, r, q⟩ => ⟨I1.kIn, ?_⟩) he plain
  exact run_quiet (W := fun σ cls d H' => W cls d σ H') F hq room B (passAt tk σ) I1 r q
theorem fnQ_of {C : CXT} {P : Program} {w : World} {K : PySem.W.Frag} {mg : Str → Option Value} {base : Heap} {k : Nat} {f : Addr} {x : Str} {st : Stmt} {fd : FuncData} {N ps : List Str} {sp : Sp} (F : FnP K x st f fd) (S : FnScope N ps (defScope st)) (len : ∀ vs H Q E, sp vs H Q E → vs.length = ps.length)
    (body : ∀ (cdv : Value) (A : Around) (outer : List Env) (s : Shared) (H : Hp) (vs : List V) (Q : VK) (E : XK), Quiet A → Room k (A.deeper (envOfC x (defScope st) s.heap.objs.size f cdv)) → sp vs H Q E →
      ∃ t, PSs (cxOf C P w K mg base N x (defScope st) f cdv A outer s H E) (defBody st) t ∧ t { nx := fun _ H' => Q .non H', rt := Q } (L2.start N vs) H) : FnQ P w K mg base C (k + 1) f fd ps sp := by
  obtain ⟨oc, od, dV, kV, doc, pm, an, cdv, ct, osl, rfl, lk, hcd, _, _⟩ := F.ex
  refine ⟨len, fun A outer s H args us vs Q E hq room e0 bnd r hsp => ?_⟩
  have KX : K.In s.heap := e0.mod.kin.keeps fun b o e => (e0.bs b o e).1
  have nolim : s.heap.NoLimit := e0.mod.nolimit.keeps fun b o e => (e0.bs b o e).1
  refine codeAny_call_function room.depth (KX _ _ lk) rfl S.co S.gen rfl (PySem.W.codeRec_of KX hcd) (bnd _ _ _ _ ?_)
  refine wpAny_newFunctionEnv_cells S.kind (fun ⟨n, v⟩ hy => (S.par n (List.of_mem_zip hy).1).elim .inl fun q => .inr ⟨q, PySem.W.cellsFrom_some _ _ _ (.inl q)⟩) fun env he s1 new => ?_
  subst he
  refine ⟨nolim.keeps new.toInCall.keep, codeAny_func ?_⟩
  obtain ⟨t, walk, hgo⟩ := body cdv A outer s H vs Q E hq (room.deeper _) hsp
  have I : Inv (cxOf C P w K mg base N x (defScope st) f cdv A outer s H E) [] (L2.start N vs) H s1 := inv_start S room.hd e0 (len _ _ _ _ hsp) r new
  have fin : ∀ {σ' : L2.St} {H' : Hp} {v : V} {u : Value} {s' : Shared}, Inv (cxOf C P w K mg base N x (defScope st) f cdv A outer s H E) [] σ' H' s' → RelV v u → Q v H' → CE outer P w H s Q u s' :=
    fun {σ' H' v u s'} J rv q => ⟨v, H', J.os, J.bare, J.base, J.hok, rv, q⟩
  refine wpAny_mono (walk.run [] s1 (L2.start N vs) H _ I hgo) (fun fl s' ended => ?_) fun _ _ z => z
  match fl, ended with
  | .ret u, ⟨v, σ', H', J, rv, q⟩ => exact fin J rv q
  | .next, ⟨σ', H', J, q⟩ => exact fin (v := V.non) (u := Value.none) J rfl q
  | .brk, ⟨_, _, _, q⟩ => exact False.elim q
  | .cont, ⟨_, _, _, q⟩ => exact False.elim q
end Sg

/-! a law whose def holds its promise under a quiet stack -/
namespace Sg
open PySem PySem.Spec PyProof.Rows L2
section
variable {P : Program} {w : World} {K : PySem.W.Frag} {mg mb : Str → Option Value} {C : CXT} {k : Nat} {fa a : Addr} {fd : FuncData} {x : Str} {sp : Sp} {s₁ : Shared} {vs : List Value} {ns : List Int}
theorem law_from (KX : K.In s₁.heap) (nsM : s₁.heap.Ns mainGlobals mg) (nsB : s₁.heap.Ns builtinsNs mb) (boot : ∀ y : Str, y ≠ "__name__" → mb y = bootBuiltins y) (lim : s₁.heap.NoLimit) (noGen : s₁.gens = #[]) (script : s₁.heap.get? a = some { cls := .type "list", data := .seq vs.toArray })
    (room : Room k callerA) (F : ∀ base : Heap, K.In base → base.Ns mainGlobals mg → FnQ P w K mg base C k fa fd [x] sp) (bound : ∀ (s : Shared) (u : Value), BindsTo s fd ⟨[u], []⟩ [(x, u)]) (says : ∀ H : Hp, Only H → SqL K H a (ns.map V.int) → sp [.ref a] H (fun v _ => v = .bl true) fun _ _ _ => False)
    (none_out : ∀ H e s', C [] H s₁ (fun _ _ _ => False) e s' → False) (H : Hp) (only : Only H) (isS : SqL K H a (ns.map V.int)) (okH : HOk P w H s₁.heap) (sole : ∀ b, H b ≠ none → b = a) (own : H a ≠ none → K.lookup a = none) :
    codeAny (model P w) callerA (.call (.ref fa) ⟨[.ref a], []⟩) (fun r s' => r = .ok (.ret (.bool true)) ∧ OldK s₁.heap s'.heap ∧ s'.os = s₁.os ∧ AllBare s'.gens) s₁ := by
  have kept : ∀ {b : Addr} {o : Obj}, s₁.heap.get? b = some o → H b = none → (hidT s₁.heap H).get? b = some o := fun there free => hidT_get there free
  have free_of : ∀ {b : Addr}, b ≠ a → H b = none := fun {b} ne => Classical.byContradiction fun z => ne (sole b z)
  have dict_free : ∀ {b : Addr} {o : Obj} {es : Array DictEntry} {ep : Nat}, s₁.heap.get? b = some o → o.data = .dict es ep → H b = none := fun {b o es ep} there isD => free_of fun z => by
    rw [z, script] at there
    obtain rfl := Option.some.inj there
    exact nomatch (show Data.seq vs.toArray _ = Data.dict es ep from isD)
  have ns_kept : ∀ {b : Addr} {m : Str → Option Value}, s₁.heap.Ns b m → (hidT s₁.heap H).Ns b m := fun {b m} ⟨o, es, ep, there, isD, r⟩ => ⟨o, es, ep, kept there (dict_free there isD), isD, r⟩
  have K_kept : K.In (hidT s₁.heap H) := fun b o there => kept (KX b o there) (Classical.byContradiction fun z => by
    have eb := sole b z
    rw [eb] at z there
    rw [own z] at there
    cases there)
  have module : Mod K mg (hidT s₁.heap H) := ⟨K_kept, ns_kept nsM, ⟨mb, ns_kept nsB, boot⟩, let ⟨mc, l1, l2⟩ := lim; ⟨mc, ns_kept l1, l2⟩⟩
  have env : Env0 P w K mg (hidT s₁.heap H) callerA [] s₁ H := ⟨rfl, module, fun b o there => of_hidT there, Nat.le_of_eq (hidT_size _ _), trivial, fun b hb => absurd (show b ∈ ([] : List Addr) from hb) (by simp), okH, .of_eq noGen⟩
  refine codeAny_mono ((F _ K_kept (ns_kept nsM)).run callerA [] s₁ H ⟨[.ref a], []⟩ [.ref a] [.ref a] _ _ rfl room env (bound s₁ (.ref a)) (.cons rfl .nil) (says H only isS)) fun res s' ended => ?_
  match res, ended with
  | .error e, he => exact (none_out H e s' he).elim
  | .ok .next, he => exact False.elim he
  | .ok .brk, he => exact False.elim he
  | .ok .cont, he => exact False.elim he
  | .ok (.ret u), ⟨v, H', same, bare, un, ok', ru, hv⟩ =>
    obtain rfl : v = .bl true := hv
    obtain rfl : u = Value.bool true := ru
    refine ⟨rfl, OldK.of_keep fun b o there => ?_, same, bare⟩
    rcases only b with free | ⟨ob, xs, fz⟩
    · exact un.keep b o there free (fun z => absurd (show b ∈ ([] : List Addr) from z) (by simp)) (by simp)
    · have g1 := (okH b _ fz).1
      have g2 := (ok' b _ (un.frzs b ob _ fz)).1
      rw [there] at g1
      rw [Option.some.inj g1]
      exact g2
theorem law_quiet (KX : K.In s₁.heap) (nsM : s₁.heap.Ns mainGlobals mg) (nsB : s₁.heap.Ns builtinsNs mb) (boot : ∀ y : Str, y ≠ "__name__" → mb y = bootBuiltins y) (lim : s₁.heap.NoLimit) (noGen : s₁.gens = #[]) (script : s₁.heap.get? a = some { cls := .type "list", data := .seq vs.toArray })
    (whole : IntsAre vs ns) (few : ns.length ≤ sizeLine) (room : Room k callerA) (F : ∀ base : Heap, K.In base → base.Ns mainGlobals mg → FnQ P w K mg base C k fa fd [x] sp) (bound : ∀ (s : Shared) (u : Value), BindsTo s fd ⟨[u], []⟩ [(x, u)]) (says : ∀ H : Hp, Only H → SqL K H a (ns.map V.int) → sp [.ref a] H (fun v _ => v = .bl true) fun _ _ _ => False)
    (none_out : ∀ H e s', C [] H s₁ (fun _ _ _ => False) e s' → False) : codeAny (model P w) callerA (.call (.ref fa) ⟨[.ref a], []⟩) (fun r s' => r = .ok (.ret (.bool true)) ∧ OldK s₁.heap s'.heap ∧ s'.os = s₁.os ∧ AllBare s'.gens) s₁ := by
  have vals := vals_ints whole
  have size := whole.length
  have go := law_from KX nsM nsB boot lim noGen script room F bound says none_out
  cases look : K.lookup a with
  | some o =>
    have there := KX a o look
    rw [script] at there
    obtain rfl := Option.some.inj there
    exact go (fun _ => none) (fun _ => .inl rfl) (.inr ⟨_, vs.toArray, _, look, rfl, rfl, rfl, by rw [List.size_toArray, size]; exact few, by simpa using vals⟩) (fun b u z => nomatch (show (none : Option HO) = some u from z)) (fun b z => absurd rfl z) fun z => absurd rfl z
  | none =>
    let H : Hp := upd (fun _ => none) a (.frz { cls := .type "list", data := .seq vs.toArray } (.lst (ns.map V.int)))
    have at_a : H a = some (.frz { cls := .type "list", data := .seq vs.toArray } (.lst (ns.map V.int))) := upd_same
    have off : ∀ b, b ≠ a → H b = none := fun b ne => upd_ne ne
    refine go H (fun b => ?_) (.inl (.inr ⟨_, at_a⟩)) (fun b u z => ?_) (fun b z => Classical.byContradiction fun ne => z (off b ne)) fun _ => look
    · by_cases e : b = a
      · exact .inr ⟨_, _, by rw [e]; exact at_a⟩
      · exact .inl (off b e)
    · by_cases e : b = a
      · rw [e, at_a] at z
        obtain rfl := Option.some.inj z
        rw [e]
        exact ⟨script, by rw [List.length_map]; exact few, vs, _, vals, script⟩
      · rw [off b e] at z
        cases z
end
theorem walk_quiet {l : PySem.W.OpenLaw} {n k : Nat} {q : Program} {loose : List Str} {XP : (Str → Option Value) → Heap → Prop} {YP : World → Heap → Prop} {d : DefRec} {C : CXT} {x : Str} (most : l.most = some n) (fits : n ≤ sizeLine) (plain : d.params.defaults = []) (room : Room k callerA)
    (F : ∀ (w : World) (mg : Str → Option Value) (fa : Addr) (h : Heap), YP w h → h.Ns mainGlobals mg → mg d.name = some (.ref fa) →
      ∃ (K : PySem.W.Frag) (fd : FuncData) (sp : Sp), K.In h ∧ (∀ (s : Shared) (u : Value), BindsTo s fd ⟨[u], []⟩ [(x, u)]) ∧ (∀ (H : Hp) (a : Addr) (ns : List Int), ns.length ≤ n → Only H → SqL K H a (ns.map V.int) → sp [.ref a] H (fun v _ => v = .bl true) fun _ _ _ => False) ∧
        ∀ base : Heap, K.In base → base.Ns mainGlobals mg → FnQ l.prog w K mg base C k fa fd [x] sp)
    (none_out : ∀ (H : Hp) (s : Shared) (e : Value) (s' : Shared), C [] H s (fun _ _ _ => False) e s' → False) : PySem.W.WalkO q loose XP YP l.row.toRowW d [] (fun f vs => PySem.call f vs) := by
  refine Att.attach_call most plain fun w s₀ s₁ mg mb fa o pm cd doc a vs ns G Y ho hd hcd hmg hobj whole hlen noGen => ?_
  obtain ⟨K, fd, sp, KX, bound, says, keeps⟩ := F w mg fa _ Y G.T.g hmg
  exact law_quiet KX G.T.g G.T.b G.T.builtins G.T.nolimit noGen hobj whole (Nat.le_trans hlen fits) room keeps bound (fun H only isS => says H a ns hlen only isS) fun H e s' => none_out H s₁ e s'
end Sg

/-! lookers as data for == and repr -/
namespace Sg
open PySem PySem.Spec PyProof.Rows L2
structure GoodD (d : PyData) : Prop where
  lay : d.canLay0 = true
  show_ : d.showable = true
  deep : d.depth ≤ 50
  size : d.shown.length ≤ sizeLine
theorem GoodD.shaped {d : PyData} (h : GoodD d) : SeqAt.shaped d = true := by
  unfold SeqAt.shaped
  rw [h.lay, decide_eq_true (Nat.le_trans h.deep (by decide))]
  rfl
theorem GoodD.noDict {d : PyData} (h : GoodD d) : d.hasDict = false := PyData.hasDict_of_canLay d h.lay
theorem GoodD.refl {d : PyData} (h : GoodD d) : PyData.eqv d d = true := SeqAt.eqv_refl d h.lay
def rowD (r : LRow) : PyData := .tuple [.int r.1, .tuple (r.2.map PyData.int)]
def lkD (z : Str) (rs : List LRow) : PyData := .tuple [.str z, .tuple (rs.map rowD)]
theorem ints_dp {K : PySem.W.Frag} {H : Hp} : ∀ l : List Int, DpAll K H (l.map V.int) (l.map PyData.int)
  | [] => .nil
  | i :: l => .cons (.int i) (ints_dp l)
theorem rows_dp {K : PySem.W.Frag} {H : Hp} {vs : List V} {rs : List LRow} (h : Paired (RSt K H) vs rs) : DpAll K H vs (rs.map rowD) := by
  induction h with
  | nil => exact .nil
  | cons r _ ih =>
    obtain ⟨a, b, rfl, h1, h2⟩ := r
    exact .cons (.tup h1 (.cons (.int _) (.cons (.tup h2 (ints_dp _)) .nil))) ih
theorem RLk.dp {K : PySem.W.Frag} {H : Hp} {v : V} {z : Str} {rs : List LRow} (h : RLk K H v z rs) : Dp K H v (lkD z rs) := by
  obtain ⟨a, b, rfl, h1, vs, h2, h3⟩ := h
  exact .tup h1 (.cons (.str z) (.cons (.tup h2 (rows_dp h3)) .nil))
/-! how great -/
theorem int_short : ∀ n : Fin 600, (PyData.shown (.int (n.val : Int))).length ≤ 8 ∧ PyData.weight (.int (n.val : Int)) ≤ 10 ∧ PyData.showable (.int (n.val : Int)) = true := by decide +kernel
theorem int_ok {i : Int} (h0 : 0 ≤ i) (h1 : i < 600) : (PyData.shown (.int i)).length ≤ 8 ∧ PyData.weight (.int i) ≤ 10 ∧ PyData.showable (.int i) = true := by
  have := int_short ⟨i.toNat, by omega⟩
  have e : ((i.toNat : Nat) : Int) = i := by omega
  rwa [show ((⟨i.toNat, by omega⟩ : Fin 600).val : Int) = i from e] at this
structure ListOk (ds : List PyData) (w dp : Nat) : Prop where
  lay : PyData.canLayAll0 ds = true
  show_ : PyData.showableAll ds = true
  short : PyData.leavesShortAll 8 ds = true
  deep : PyData.depthAll ds ≤ dp
  wt : PyData.weightAll ds ≤ ds.length * w
theorem listOk_map {α : Type} {f : α → PyData} {w dp : Nat} : ∀ {l : List α}, (∀ a ∈ l, (f a).canLay0 = true ∧ (f a).showable = true ∧ (f a).leavesShort 8 = true ∧ (f a).depth ≤ dp ∧ (f a).weight + 1 ≤ w) → ListOk (l.map f) w dp
  | [], _ => ⟨rfl, rfl, rfl, Nat.zero_le _, Nat.zero_le _⟩
  | a :: l, h => by
    obtain ⟨h1, h2, h3, h4, h5⟩ := h a List.mem_cons_self
    have ih := listOk_map (w := w) (dp := dp) (l := l) fun b hb => h b (List.mem_cons_of_mem _ hb)
    refine ⟨?_, ?_, ?_, ?_, ?_⟩
    · show ((f a).canLay0 && PyData.canLayAll0 (l.map f)) = true
      rw [h1, ih.lay]; rfl
    · show ((f a).showable && PyData.showableAll (l.map f)) = true
      rw [h2, ih.show_]; rfl
    · show ((f a).leavesShort 8 && PyData.leavesShortAll 8 (l.map f)) = true
      rw [h3, ih.short]; rfl
    · show max (f a).depth (PyData.depthAll (l.map f)) ≤ dp
      have := ih.deep
      omega
    · show (f a).weight + 1 + PyData.weightAll (l.map f) ≤ (l.map f).length.succ * w
      have := ih.wt
      rw [Nat.succ_mul]
      omega
theorem row_good {n : Nat} {rs : List LRow} (ok : RowsOk n rs) (hn : n ≤ 5) : ∀ r ∈ rs, (rowD r).canLay0 = true ∧ (rowD r).showable = true ∧ (rowD r).leavesShort 8 = true ∧ (rowD r).depth ≤ 2 ∧ (rowD r).weight + 1 ≤ 80 := by
  intro r hr
  have h600 := ok.top
  have hb := ok.bit r hr
  obtain ⟨b1, b2, b3⟩ := int_ok (i := r.1) (by omega) (by omega)
  have hw := ok.wid r hr
  have L := listOk_map (f := PyData.int) (w := 11) (dp := 0) (l := r.2) fun q hq => by
    have ht := ok.to r hr q hq
    obtain ⟨c1, c2, c3⟩ := int_ok (i := q) ht.1 (by omega)
    exact ⟨rfl, c3, decide_eq_true c1, Nat.le_refl _, by omega⟩
  have hlen : (r.2.map PyData.int).length ≤ 5 := by rw [List.length_map]; omega
  have hwt : PyData.weightAll (r.2.map PyData.int) ≤ 55 := Nat.le_trans L.wt (by omega)
  refine ⟨?_, ?_, ?_, ?_, ?_⟩
  · show (true && (PyData.canLayAll0 (r.2.map PyData.int) && true)) = true
    rw [L.lay]; rfl
  · show (PyData.showable (.int r.1) && (PyData.showableAll (r.2.map PyData.int) && true)) = true
    rw [b3, L.show_]; rfl
  · show (decide ((PyData.shown (.int r.1)).length ≤ 8) && (PyData.leavesShortAll 8 (r.2.map PyData.int) && true)) = true
    rw [decide_eq_true b1, L.short]; rfl
  · show max 0 (max (PyData.depthAll (r.2.map PyData.int) + 1) 0) + 1 ≤ 2
    have := L.deep
    omega
  · show (PyData.weight (.int r.1) + 1 + (PyData.weightAll (r.2.map PyData.int) + 1 + 0)) + 1 ≤ 80
    omega
theorem lk_good {z : Str} {rs : List LRow} (hz : SignsOk z) (ok : RowsOk z.length rs) : GoodD (lkD z rs) := by
  have h600 := ok.top
  have hz5 := hz.top
  have L := listOk_map (f := rowD) (w := 80) (dp := 2) (l := rs) (row_good ok hz5)
  have hz1 : PyData.strOk z = true := by
    unfold PyData.strOk
    rw [Array.all_eq_true_iff_forall_mem]
    intro c hc
    have := hz.low c (Array.mem_toList_iff.mpr hc)
    exact decide_eq_true (Nat.lt_of_lt_of_le this (by decide))
  have hsh : (lkD z rs).leavesShort 8 = true := by
    show ((z.cps.toList.all fun c => decide (c < 16 ^ 8)) && (PyData.leavesShortAll 8 (rs.map rowD) && true)) = true
    rw [L.short, List.all_eq_true.mpr fun c hc => decide_eq_true (Nat.lt_of_lt_of_le (hz.low c hc) (by decide))]
    rfl
  have hwt : PyData.weightAll (rs.map rowD) ≤ 48000 := Nat.le_trans L.wt (by rw [List.length_map]; omega)
  refine ⟨?_, ?_, ?_, ?_⟩
  · show (PyData.strOk z && (PyData.canLayAll0 (rs.map rowD) && true)) = true
    rw [hz1, L.lay]; rfl
  · show (true && (PyData.showableAll (rs.map rowD) && true)) = true
    rw [L.show_]; rfl
  · show max 0 (max (PyData.depthAll (rs.map rowD) + 1) 0) + 1 ≤ 50
    have := L.deep
    omega
  · refine PyData.shown_fits (B := 8) (Nat.le_refl _) (by omega) hsh ?_
    show z.cps.size + 1 + (PyData.weightAll (rs.map rowD) + 1 + 0) ≤ 2 ^ 20
    have : z.cps.size = z.length := rfl
    have e : (2 : Nat) ^ 20 = 1048576 := by decide
    omega
/-! is, is not of two truth values -/
def rNotT : R2 := fun x y H Q => match x, y with
  | .bl c, .bl d => Q (.bl (c != d)) H
  | _, _ => False
theorem op_isnotB {X : Cx} : OpR X (compareOp .IsNot) rNotT := by
  intro pins s σ H x y v u Q I rx ry h
  match x, y, h with
  | .bl c, .bl d, q =>
    cases (show v = Value.bool c from rx)
    cases (show u = Value.bool d from ry)
    exact isnot_bool ⟨.bl (c != d), H, I, rfl, q⟩
end Sg

/-! raise of an own error with any one argument; lists told with things laid on the way; counts -/
namespace Sg
open PySem PySem.Spec PyProof.Rows L2
theorem pmk_ownE {X : Cx} {C : Addr} {bmB : List Value} {B newId initId : String} {x : Str} {e : Expr} {te : TE} {p pos : Pos} (F : ExcBaseFacts B newId initId bmB) (q : PySem.W.excIn X.K C bmB newId = true) (gC : X.mg x = some (.ref C)) (kC : PySem.W.keepIn X.K (.ref C) = true) (raises : Raises X (.ref C)) (he : PE X e te) (hg : Gl X x)
    (dbg : (x == ("__debug__" : Str)) = false := by decide) (st : starEach [e] X.env = (false, eval e X.env) :: starEach [] X.env := by rfl) (plain : (backTo pos (starEach [] X.env)).any (·.1) = false := by rfl) : PMk X (.Call (.Name x p) [e] [] pos) (fun σ H Q => te σ H fun _ H1 => Q (.ref C) none H1) := by
  intro pins s σ H Q I goal
  refine wpAny_Call_Name_kw (ld_glob I hg gC ?_ dbg)
  have ha : PA X [e] (tCons te tNil) := pa_cons he pa_nil (hs := st)
  refine PySem.W.callWith_K (h₀ := X.base) I.ok.mod.kin kC (thn (ha.run pos pins s σ H (fun vs H1 => match vs with | [_] => Q (.ref C) none H1 | _ => False) I goal) fun us s1 ⟨vs, H1, I1, r1, q1⟩ => ?_) st plain
  refine ⟨I1.kIn, ?_⟩
  match vs, q1, r1 with
  | [v], q1, r1 =>
  obtain ⟨u, rfl, _⟩ := vals1 r1
  obtain ⟨bm, N, nm, qn, bs, hdct, sn, sub, ab, col, dd, k0, k1, k2, k3, k5, mN, hC, hN, hni, T⟩ := exc_obj I1.kIn q
  refine wpAny_call_exc_subT F T hC hN hni (fun h' e hm => ?_) (by show 1 ≤ sizeLine; rw [sizeLine_eq]; omega)
  exact mk_of I1 hm raises q1 (I1.hok.gone hm.new)
end Sg

/-! how many texts of a length are taken, in plain Lean -/
namespace Sg
open PySem PySem.Spec PyProof.Rows L2
def cntL (n : Nat) : Nat → Lang → Int
  | 0, L => L []
  | k + 1, L => ((List.range n).map fun x => cntL n k (der L x)).sum
def cntAt (n : Nat) (rs : List LRow) (k : Nat) (p : Int) : Int := cntL n k (lang rs p)
theorem cnt_succ {n : Nat} {rs : List LRow} (ok : RowsOk n rs) {p : Int} (hp : InSt rs p) (k : Nat) : cntAt n rs (k + 1) p = ((rowOf rs p).2.map (cntAt n rs k)).sum := by
  have e : (rowOf rs p).2 = (List.range n).map (nxt rs p) := by
    apply List.ext_getElem?
    intro x
    rw [List.getElem?_map]
    by_cases hx : x < n
    · rw [nxt_get ok hp hx, List.getElem?_range hx]
      rfl
    · have := ok.wid _ (rowOf_mem hp)
      rw [List.getElem?_eq_none (by omega), List.getElem?_eq_none (by simpa using hx)]
      rfl
  rw [e, List.map_map]
  rfl
/-- the ends exchanged -/
def flip (rs : List LRow) : List LRow := rs.map fun r => (1 - r.1, r.2)
theorem flip_row {rs : List LRow} {p : Int} (hp : InSt rs p) : rowOf (flip rs) p = (1 - (rowOf rs p).1, (rowOf rs p).2) := by
  have h1 := rowOf_get hp
  have hf : InSt (flip rs) p := ⟨hp.1, by unfold flip; rw [List.length_map]; exact hp.2⟩
  have h2 := rowOf_get hf
  unfold flip at h2
  rw [List.getElem?_map, h1] at h2
  exact (Option.some.inj h2).symm
theorem flip_ok {n : Nat} {rs : List LRow} (ok : RowsOk n rs) : RowsOk n (flip rs) := by
  have hl : (flip rs).length = rs.length := by unfold flip; rw [List.length_map]
  refine ⟨by rw [hl]; exact ok.pos, by rw [hl]; exact ok.top, fun r hr => ?_, fun r hr => ?_, fun r hr => ?_⟩
  · obtain ⟨r0, h0, rfl⟩ := List.mem_map.mp hr
    have := ok.bit r0 h0
    show 1 - r0.1 = 0 ∨ 1 - r0.1 = 1
    omega
  · obtain ⟨r0, h0, rfl⟩ := List.mem_map.mp hr
    exact ok.wid r0 h0
  · obtain ⟨r0, h0, rfl⟩ := List.mem_map.mp hr
    rw [hl]
    exact ok.to r0 h0
theorem sum_sub (a : Int) : ∀ (l : List Int) (f g : Int → Int), (∀ x ∈ l, g x = a - f x) → (l.map g).sum = (l.length : Int) * a - (l.map f).sum
  | [], f, g, _ => by simp
  | x :: l, f, g, h => by
    have ih := sum_sub a l f g fun y hy => h y (List.mem_cons_of_mem _ hy)
    rw [List.map_cons, List.map_cons, List.sum_cons, List.sum_cons, ih, h x List.mem_cons_self, List.length_cons]
    have : ((l.length + 1 : Nat) : Int) * a = (l.length : Int) * a + a := by
      rw [show ((l.length + 1 : Nat) : Int) = (l.length : Int) + 1 by omega, Int.add_mul, Int.one_mul]
    rw [this]
    omega
theorem cnt_flip {n : Nat} {rs : List LRow} (ok : RowsOk n rs) : ∀ (k : Nat) (p : Int), InSt rs p → cntAt n (flip rs) k p = (n : Int) ^ k - cntAt n rs k p
  | 0, p, hp => by
    show endAt (flip rs) p = 1 - endAt rs p
    unfold endAt
    rw [flip_row hp]
  | k + 1, p, hp => by
    have hf : InSt (flip rs) p := ⟨hp.1, by unfold flip; rw [List.length_map]; exact hp.2⟩
    rw [cnt_succ (flip_ok ok) hf, cnt_succ ok hp, flip_row hp, sum_sub ((n : Int) ^ k) _ (cntAt n rs k) (cntAt n (flip rs) k) fun q hq => cnt_flip ok k q (by
      have := ok.to _ (rowOf_mem hp) q hq
      exact this), ok.wid _ (rowOf_mem hp), Int.pow_succ, Int.mul_comm]
theorem cnt_least {n : Nat} {r1 r2 : List LRow} (h : lang r1 0 = lang r2 0) (k : Nat) : cntAt n r1 k 0 = cntAt n r2 k 0 := by
  unfold cntAt
  rw [h]
end Sg
namespace Sg
open PySem PySem.Spec PyProof.Rows L2
/-- a list told over a tuple, things being laid on the way -/
theorem lc_grow {K : PySem.W.Frag} {a D : Addr} {xs ys : List V} {j : Nat} {te : TE} {vs : List Nat} {σ : L2.St} {H1 : Hp} {Qd : Hp → Prop} (hD : H1 D = none) (hA : SqT K H1 a xs) (hl : ys.length = xs.length) (hz : xs.length ≤ 100000)
    (hw : ∀ x, wipe ((wipe σ vs).set j (some x)) vs = wipe σ vs)
    (hs : ∀ (i : Nat) (x y : V), xs[i]? = some x → ys[i]? = some y → ∀ H', Same H1 H' → ∀ R : V → Hp → Prop, (∀ H'', Same H' H'' → R y H'') → te ((wipe σ vs).set j (some x)) H' R)
    (hd : ∀ H', Same H1 H' → H' D = some (.lst ys) → Qd H') :
    ∃ W : Nat → Nat → Hp → Prop, (∃ m, W 0 m (upd H1 D (.lst []))) ∧ ∀ i m H, W i m H →
      ((Itt K a).stop i H ∧ Qd H) ∨ ((Itt K a).go i H ∧ ∃ Nx : Hp → Prop, (∀ H', Nx H' → ∃ m', m' < m ∧ W (i + 1) m' H') ∧ ∀ x H', (Itt K a).yld i H x H' → gName j x (wipe σ vs) H' fun σ2 H2 => wipe σ2 vs = wipe σ vs ∧ tYes σ2 H2 fun b H3 =>
        if b = true then te σ2 H3 fun y H4 => ∃ acc, H4 D = some (.lst acc) ∧ acc.length < sizeLine ∧ Nx (upd H4 D (.lst (acc ++ [y]))) else Nx H3) := by
  refine lc_gen (n := xs.length) (fun i H => Same H1 H ∧ H D = some (.lst (ys.take i))) ⟨same_upd hD, upd_same⟩ (fun i H hi e => ?_) (fun H e => ?_) (fun i x H H' hi e y => ?_) (fun H e => ?_)
  · obtain ⟨x, hx⟩ : ∃ x, xs[i]? = some x := ⟨_, List.getElem?_eq_getElem hi⟩
    exact ⟨xs, x, Same.sqT e.1 hA, hx⟩
  · exact ⟨xs, Same.sqT e.1 hA, Nat.le_refl _⟩
  · obtain ⟨rfl, hx⟩ := y
    have hx2 := hx xs (Same.sqT e.1 hA)
    obtain ⟨v, hv⟩ : ∃ v, ys[i]? = some v := ⟨_, List.getElem?_eq_getElem (by omega)⟩
    refine ⟨hw x, ?_⟩
    refine hs i x v hx2 hv H' e.1 _ fun H'' s => ⟨_, s _ _ e.2, ?_, fun b o hb => ?_, ?_⟩
    · rw [List.length_take]
      exact szlt (m := 100000) (by omega)
    · rw [upd_ne (ne_of_none hb hD)]
      exact s _ _ (e.1 b o hb)
    · rw [upd_same, List.take_add_one, hv]
      rfl
  · refine hd H e.1 ?_
    have h2 := e.2
    rwa [← hl, List.take_length] at h2
theorem stR_get {n i : Nat} (h : i < n) : (stR n)[i]? = some (i : Int) := by
  unfold stR
  rw [List.getElem?_map, List.getElem?_range h]
  rfl
theorem mk_stR {n : Nat} {f : Int → Int} {q : Int} (h0 : 0 ≤ q) (h1 : q < (n : Int)) : mk ((stR n).map f) q = f q := by
  have e : ((q.toNat : Nat) : Int) = q := by omega
  unfold mk
  rw [List.getD_eq_getElem?_getD, List.getElem?_map, stR_get (by omega), e]
  rfl
end Sg

/-! counting forwards: a list of counts, and its sum with weights -/
namespace Sg
open PySem PySem.Spec PyProof.Rows L2
def dot (f : Int → Int) : Nat → List Int → Int
  | _, [] => 0
  | i, a :: l => a * f (i : Int) + dot f (i + 1) l
theorem dot_snoc (f : Int → Int) : ∀ (l : List Int) (i : Nat) (a : Int), dot f i (l ++ [a]) = dot f i l + a * f ((i + l.length : Nat) : Int)
  | [], i, a => by
    show a * f (i : Int) + 0 = 0 + a * f ((i + 0 : Nat) : Int)
    rw [Nat.add_zero]
    omega
  | b :: l, i, a => by
    show b * f (i : Int) + dot f (i + 1) (l ++ [a]) = b * f (i : Int) + dot f (i + 1) l + _
    rw [dot_snoc f l (i + 1) a, List.length_cons, show i + 1 + l.length = i + (l.length + 1) by omega, Int.add_assoc]
theorem dot_set (f : Int → Int) : ∀ (l : List Int) (i j : Nat) (a b : Int), l[j]? = some a → dot f i (l.set j b) = dot f i l + (b - a) * f ((i + j : Nat) : Int)
  | [], _, _, _, _, h => by simp at h
  | c :: l, i, 0, a, b, h => by
    obtain rfl := Option.some.inj h
    show b * f (i : Int) + dot f (i + 1) l = c * f (i : Int) + dot f (i + 1) l + (b - c) * f ((i + 0 : Nat) : Int)
    rw [Nat.add_zero, Int.sub_mul]
    generalize b * f (i : Int) = u
    generalize c * f (i : Int) = v
    omega
  | c :: l, i, j + 1, a, b, h => by
    show c * f (i : Int) + dot f (i + 1) (l.set j b) = c * f (i : Int) + dot f (i + 1) l + _
    rw [dot_set f l (i + 1) j a b h, show i + 1 + j = i + (j + 1) by omega, Int.add_assoc]
theorem dot_zero (f : Int → Int) : ∀ (n i : Nat), dot f i (List.replicate n 0) = 0
  | 0, _ => rfl
  | n + 1, i => by
    show 0 * f (i : Int) + dot f (i + 1) (List.replicate n 0) = 0
    rw [dot_zero f n (i + 1), Int.zero_mul]
    rfl
theorem dot_congr {f g : Int → Int} : ∀ (l : List Int) (i : Nat), (∀ j, j < l.length → f ((i + j : Nat) : Int) = g ((i + j : Nat) : Int)) → dot f i l = dot g i l
  | [], _, _ => rfl
  | a :: l, i, h => by
    show a * f (i : Int) + dot f (i + 1) l = a * g (i : Int) + dot g (i + 1) l
    have h0 := h 0 (Nat.zero_lt_succ _)
    rw [Nat.add_zero] at h0
    have h1 : dot f (i + 1) l = dot g (i + 1) l := dot_congr l (i + 1) fun j hj => by
      have := h (j + 1) (Nat.succ_lt_succ hj)
      rwa [show i + (j + 1) = i + 1 + j by omega] at this
    rw [h0, h1]
theorem dot_take (f : Int → Int) (l : List Int) (p : Nat) (a : Int) (h : l[p]? = some a) : dot f 0 (l.take (p + 1)) = dot f 0 (l.take p) + a * f (p : Int) := by
  have hp : p < l.length := (List.getElem?_eq_some_iff.mp h).1
  rw [List.take_add_one, h]
  show dot f 0 (l.take p ++ [a]) = _
  rw [dot_snoc, List.length_take, Nat.min_eq_left (by omega), Nat.zero_add]
def one0 (N : Nat) : List Int := (List.range N).map fun p => if p = 0 then 1 else 0
theorem dot_one0 (f : Int → Int) : ∀ N, dot f 0 (one0 N) = if N = 0 then 0 else f 0
  | 0 => rfl
  | N + 1 => by
    unfold one0
    rw [List.range_succ, List.map_append]
    show dot f 0 (one0 N ++ [if N = 0 then 1 else 0]) = _
    rw [dot_snoc, dot_one0 f N]
    have e : (one0 N).length = N := by unfold one0; rw [List.length_map, List.length_range]
    rw [e]
    by_cases h : N = 0
    · subst h
      show 0 + 1 * f ((0 + 0 : Nat) : Int) = f 0
      rw [Int.one_mul, Int.zero_add]
      rfl
    · rw [if_neg h, if_neg h, if_neg (Nat.succ_ne_zero N), Int.zero_mul, Int.add_zero]
def pick (f : Int → Int) (T : List Int) : Nat → List Int
  | 0 => []
  | i + 1 => pick f T i ++ if f (i : Int) = 1 then [mk T i] else []
theorem pick_len (f : Int → Int) (T : List Int) : ∀ i, (pick f T i).length ≤ i
  | 0 => Nat.le_refl _
  | i + 1 => by
    have := pick_len f T i
    unfold pick
    rw [List.length_append]
    split
    · exact Nat.succ_le_succ this
    · simp; omega
theorem pick_sum {f : Int → Int} {T : List Int} : ∀ i, i ≤ T.length → (∀ j : Nat, j < i → f (j : Int) = 0 ∨ f (j : Int) = 1) → (pick f T i).sum = dot f 0 (T.take i)
  | 0, _, _ => rfl
  | i + 1, hi, h => by
    have hg : T[i]? = some (mk T (i : Int)) := by
      unfold mk
      rw [Int.toNat_natCast, List.getD_eq_getElem?_getD, List.getElem?_eq_getElem hi]
      rfl
    rw [dot_take f T i _ hg, ← pick_sum i (by omega) fun j hj => h j (by omega)]
    show (pick f T i ++ if f (i : Int) = 1 then [mk T i] else []).sum = _
    rcases h i (by omega) with e | e
    · rw [e, if_neg (by decide), List.append_nil, Int.mul_zero, Int.add_zero]
    · rw [e, if_pos rfl, List.sum_append_int, Int.mul_one]
      simp
end Sg
namespace Sg
open PySem PySem.Spec PyProof.Rows L2
theorem sum_box (a : Int) : ∀ (l : List Int) (f : Int → Int), (∀ x ∈ l, 0 ≤ f x ∧ f x ≤ a) → 0 ≤ (l.map f).sum ∧ (l.map f).sum ≤ (l.length : Int) * a
  | [], f, _ => by simp
  | x :: l, f, h => by
    have ih := sum_box a l f fun y hy => h y (List.mem_cons_of_mem _ hy)
    have hx := h x List.mem_cons_self
    rw [List.map_cons, List.sum_cons, List.length_cons]
    have : ((l.length + 1 : Nat) : Int) * a = (l.length : Int) * a + a := by
      rw [show ((l.length + 1 : Nat) : Int) = (l.length : Int) + 1 by omega, Int.add_mul, Int.one_mul]
    rw [this]
    omega
/-- a count lies between none and all -/
theorem cnt_box {n : Nat} {rs : List LRow} (ok : RowsOk n rs) : ∀ (k : Nat) (p : Int), InSt rs p → 0 ≤ cntAt n rs k p ∧ cntAt n rs k p ≤ (n : Int) ^ k
  | 0, p, hp => by
    have : endAt rs p = 0 ∨ endAt rs p = 1 := ok.bit _ (rowOf_mem hp)
    show 0 ≤ endAt rs p ∧ endAt rs p ≤ 1
    omega
  | k + 1, p, hp => by
    rw [cnt_succ ok hp]
    have h := sum_box ((n : Int) ^ k) (rowOf rs p).2 (cntAt n rs k) fun q hq => cnt_box ok k q (ok.to _ (rowOf_mem hp) q hq)
    rw [ok.wid _ (rowOf_mem hp)] at h
    rw [Int.pow_succ, Int.mul_comm]
    exact h
/-- so it can be shown -/
theorem box_show {n k : Nat} {c : Int} (hn : n ≤ 5) (hk : k ≤ 200) (h0 : 0 ≤ c) (h1 : c ≤ (n : Int) ^ k) : c.natAbs.log2 < 1920 := by
  have h2 : c.natAbs ≤ n ^ k := by
    have : ((n ^ k : Nat) : Int) = (n : Int) ^ k := Int.natCast_pow n k
    omega
  have h3 : n ^ k ≤ 2 ^ 600 := by
    refine Nat.le_trans (Nat.pow_le_pow_left (Nat.le_trans hn (by decide : 5 ≤ 2 ^ 3)) k) ?_
    rw [← Nat.pow_mul]
    exact Nat.pow_le_pow_right (by decide) (by omega)
  by_cases hc : c.natAbs = 0
  · rw [hc]
    decide
  · have := (Nat.log2_lt hc (k := 1920)).mpr (Nat.lt_of_le_of_lt (Nat.le_trans h2 h3) (Nat.pow_lt_pow_right (by decide) (by decide)))
    exact this
end Sg

/-! a def called with keywords alone -/
namespace Sg
open PySem PySem.Spec PyProof.Rows L2
structure DkK (P : Program) (w : World) (K : PySem.W.Frag) (mg : Str → Option Value) (base : Heap) (k : Nat) (x : Str) (ps ks : List Str) (g : List Value → List Value → List Value) (gV : List V → List V → List V) (sp : Sp) : Prop where
  ok : ∃ fd, FnOk P w K mg base (L2.CX P w) k (He.ga K x) fd ps sp ∧ KBinds K fd ps ks g gV
  kp : PySem.W.keepIn K (.ref (He.ga K x)) = true
  gm : mg x = some (.ref (He.ga K x))
def tCallRK (sp : Sp) (gV : List V → List V → List V) (W : WX) (t : TA) : TE := fun σ H Q => t σ H fun zs H1 => sp (gV [] zs) H1 Q fun cls d H' => W cls d σ H'
theorem pe_callRK0 {X : Cx} {k : Nat} {x : Str} {ps ks : List Str} {g : List Value → List Value → List Value} {gV : List V → List V → List V} {sp : Sp} {W : WX} {kws : List Keyword} {t : TA} {p pos : Pos} (D : DkK X.prog X.w X.K X.mg X.base k x ps ks g gV sp) (hr : Room k X.A) (tk : Takes X W) (hkw : PK X kws t) (hg : Gl X x := by rfl)
    (hall : (backToKw pos (keywordEach kws X.env)).all (·.1.isSome) = true := by rfl) (hks : (backToKw pos (keywordEach kws X.env)).filterMap (·.1) = ks := by rfl)
    (hdb : (x == ("__debug__" : Str)) = false := by decide) (hpl : ((backTo pos (starEach [] X.env)).any (·.1) || (backToKw pos (keywordEach kws X.env)).any (·.1.isNone)) = false := by rfl) :
    PE X (.Call (.Name x p) [] kws pos) (tCallRK sp gV W t) := by
  obtain ⟨fd, F, B⟩ := D.ok
  refine ⟨fun pins s σ H Q I goal => wpAny_Call_Name_kw (ld_glob I hg D.gm ?_ hdb)⟩
  refine PySem.W.callWith_KW0 (h₀ := X.base) I.ok.mod.kin D.kp hall (thn (hkw.run pos pins s σ H _ I goal) fun ws s1 ⟨zs, H1, I1, rz, q⟩ => ⟨I1.kIn, ?_⟩) hpl
  rw [hks]
  have r2 := B.rel (vs := []) (us := []) .nil rz
  have hl : (g [] ws).length = ps.length := by rw [← r2.length]; exact F.len _ _ _ _ q
  refine wpAny_call (codeAny_mono (F.run X.A X.stack s1 H1 ⟨[], ks.zip ws⟩ (g [] ws) (gV [] zs) Q (fun cls d H' => W cls d σ H') hr I1.env0 (B.to s1 [] ws I1.kIn hl) r2 q) fun r s' hq => ?_)
  match r, hq with
  | .error e, he => exact passAt tk σ pins H1 s1 e s' I1 he
  | .ok (.ret u), he => exact I1.after he
  | .ok .next, he => exact False.elim he
  | .ok .brk, he => exact False.elim he
  | .ok .cont, he => exact False.elim he
/-- two keywords, the second parameter first -/
def swG (us ws : List Value) : List Value := match us, ws with
  | [], [b, a] => [a, b]
  | _, _ => []
def swV (vs zs : List V) : List V := match vs, zs with
  | [], [b, a] => [a, b]
  | _, _ => []
theorem sw_binds {K : PySem.W.Frag} {x qual : Str} {params : Arguments} {body : List Stmt} {scope : Scope} {kws : List (Str × V)} {f : Addr} {fd : FuncData} {p1 p2 : Str} (F : FunD K x qual params body scope [] kws f fd)
    (h : ∀ (kV doc pm : Value) (an : Option Addr) (cdv ct : Value) (a b : Value), bindArgs (PySem.W.fnOf x qual params body scope .none kV doc pm an cdv ct) ⟨[], [(p2, b), (p1, a)]⟩ = pure [(p1, a), (p2, b)]) : KBinds K fd [p1, p2] [p2, p1] swG swV := by
  obtain ⟨oc, od, dV, kV, doc, pm, an, cdv, ct, osl, rfl, lk, hcd, hD, hK⟩ := F.ex
  rcases hD with ⟨_, rfl⟩ | ⟨e, _⟩
  · refine ⟨fun s us ws _ hl => ?_, fun {vs us zs ws} r rz => ?_⟩
    · match us, ws, hl with
      | [], [b, a], _ => exact .of_eq (h kV doc pm an cdv ct a b)
    · cases r with
      | nil =>
        cases rz with
        | nil => exact .nil
        | cons r1 rz1 =>
          cases rz1 with
          | nil => exact .nil
          | cons r2 rz2 =>
            cases rz2 with
            | nil => exact .cons r2 (.cons r1 .nil)
            | cons _ _ => exact .nil
      | cons _ _ => exact .nil
  · exact absurd rfl e
end Sg

/-! text * int, text[::-1] -/
namespace Sg
open PySem PySem.Spec PyProof.Rows L2
def mulT (x : Str) (n : Nat) : Str := ⟨(List.replicate n x.cps).foldl (· ++ ·) #[]⟩
def rMulS : R2 := fun x y H Q => ∃ z, ∃ n : Nat, x = .str z ∧ y = .int (n : Int) ∧ 2 ≤ n ∧ n ≤ 1000 ∧ 1 ≤ z.length ∧ z.length ≤ 1000 ∧ Q (.str (mulT z n)) H
theorem foldl_cps (x : Array Nat) : ∀ (n : Nat) (acc : Array Nat), ((List.replicate n x).foldl (· ++ ·) acc).toList = acc.toList ++ (List.replicate n x.toList).flatten
  | 0, acc => by simp
  | n + 1, acc => by
    rw [List.replicate_succ, List.foldl_cons, foldl_cps x n, Array.toList_append, List.replicate_succ, List.flatten_cons, List.append_assoc]
theorem mulT_cps (x : Str) (n : Nat) : (mulT x n).cps.toList = (List.replicate n x.cps.toList).flatten := by
  show ((List.replicate n x.cps).foldl (· ++ ·) #[]).toList = _
  rw [foldl_cps]
  rfl
theorem mulT_len (x : Str) (n : Nat) : (mulT x n).length = n * x.length := by
  have h : (mulT x n).cps.toList.length = n * x.length := by
    rw [mulT_cps, List.length_flatten, List.map_replicate, List.sum_replicate_nat]
    rfl
  exact h
theorem op_mulS {X : Cx} : OpR X (binaryOp .Mult) rMulS := by
  intro pins s σ H x y v u Q I rx ry h
  obtain ⟨z, n, rfl, rfl, h2, h3, h4, h5, q⟩ := h
  obtain ⟨t, rfl⟩ := rx
  obtain ⟨t', rfl⟩ := ry
  have hz : (mulT z n).length ≤ 1000000 := by
    rw [mulT_len]
    exact Nat.mul_le_mul h3 h5
  have e1 : ¬ ((n : Int) < 1) := by omega
  have e2 : ((n : Int) == 1 || z.length == 0) = false := by
    have a : ((n : Int) == 1) = false := by simp; omega
    have b : (z.length == 0) = false := by simp; omega
    rw [a, b]
    rfl
  have hm : z.length * n ≤ 1000000 := by
    rw [Nat.mul_comm]
    exact Nat.mul_le_mul h3 h5
  have hm2 : (z.length : Int) * (n : Int) ≤ 1000000 := by
    rw [← Int.natCast_mul]
    omega
  refine PySem.P.mul_str (by rw [decide_eq_false (by omega), decide_eq_false (by omega)]; rfl) (fun _ _ => ?_) (fun _ _ => ?_) ?_
  · exact Int.not_lt.mpr ((Int.le_ediv_iff_mul_le (by omega)).mpr (by omega))
  · rw [Int.toNat_natCast]
    exact decide_eq_false (Nat.not_lt.mpr (szle hm))
  · rw [if_neg e1, if_neg (by rw [e2]; decide), Int.toNat_natCast]
    exact ⟨szle hz, .str _, H, I.tok _, ⟨_, rfl⟩, q⟩
def tRevS (te : TE) : TE := fun σ H Q => te σ H fun x H1 => ∃ z, x = .str z ∧ z.length ≤ 1000 ∧ ∀ y : Str, (∀ c ∈ y.cps.toList, c ∈ z.cps.toList) → y.length ≤ 1000 → Q (.str y) H1
theorem pe_revS {X : Cx} {e : Expr} {te : TE} {k : Nat} {p1 p2 p3 pos : Pos} (he : PE X e te) : PE X (.Subscript e (.Slice none none (some (.UnaryOp .USub (.Constant (.int 1) k p1) p2)) p3) pos) (tRevS te) := by
  refine ⟨fun pins s σ H Q I h => ?_⟩
  refine Subscript_ (thn (he.run pins s σ H _ I h) fun v s1 ⟨x, H1, I1, r1, q1⟩ => ?_)
  obtain ⟨z, ex, hz, q⟩ := q1
  subst ex
  obtain ⟨t, rfl⟩ := r1
  have hst : PO X (some (.UnaryOp .USub (.Constant (.int 1) k p1) p2)) (tPart (tUn (rU fun i => .int (-i)) (tC (.int 1)))) := po_some (pe_un un_neg pe_int)
  refine wpAny_Slice (thn (po_none.run pins s1 σ H1 (fun o H2 => o = none ∧ H2 = H1) I1 ⟨rfl, rfl⟩) fun vl s2 ⟨l, H2, I2, pl, el, e2⟩ => ?_)
  subst el e2
  refine thn (po_none.run pins s2 σ H2 (fun o H3 => o = none ∧ H3 = H2) I2 ⟨rfl, rfl⟩) fun vu s3 ⟨u, H3, I3, pu, eu, e3⟩ => ?_
  subst eu e3
  refine thn (hst.run pins s3 σ H3 (fun o H4 => o = some (-1) ∧ H4 = H3) I3 ⟨1, rfl, -1, rfl, rfl, rfl⟩) fun vs s4 ⟨o, H4, I4, ps, eo, e4⟩ => ?_
  subst eo e4
  have I5 : Inv X pins σ H4 { s4 with heap := s4.heap.push { cls := .type "slice", data := .fields #[vl, vu, vs] } } := I4.kept (t' := s4.toks) fun b ob q => Heap.get?_push_of_some _ q
  cases pl
  cases pu
  cases ps with
  | int _ tk =>
  refine tail_any (ops := [.str z t, .ref s4.heap.objs.size]) (typeIs_str _ z t) (PySem.F.slot_str_getitem.lookup) ?_ (by with_unfolding_all rfl)
  refine wpAny_getItem_str_slice (l := none) (u := none) (st := some (-1, tk)) ⟨_, Heap.get?_push_size _ rfl, rfl, rfl⟩ rfl ?_
  show Made.post (if ((-1 : Int) == 1 && (PySem.Builtin.Str.strSliceIndices none none (-1) z.length).length == z.length) = true then Made.val (.str z t)
    else Made.str ⟨((PySem.Builtin.Str.strSliceIndices none none (-1) z.length).filterMap (z.cps[·]?)).toArray⟩) (EP X pins σ Q) _
  rw [if_neg (by simp)]
  have len : (⟨((PySem.Builtin.Str.strSliceIndices none none (-1) z.length).filterMap (z.cps[·]?)).toArray⟩ : Str).length ≤ 1000 := by
    have h1 : ((PySem.Builtin.Str.strSliceIndices none none (-1) z.length).filterMap (z.cps[·]?)).length ≤ z.length := by
      refine Nat.le_trans (List.length_filterMap_le _ _) ?_
      show (sliceRange ((z.length : Int) - 1) (-1) (-1)).length ≤ _
      unfold sliceRange
      rw [List.length_map, List.length_range, if_neg (by decide)]
      split
      · rw [show (-(-1 : Int)) = 1 by rfl, Int.ediv_one]
        omega
      · exact Nat.zero_le _
    show (List.toArray _).size ≤ 1000
    rw [List.size_toArray]
    exact Nat.le_trans h1 hz
  refine ⟨szle (m := 1000) len, .str _, H4, I5.tok _, ⟨_, rfl⟩, q _ (fun c hc => ?_) len⟩
  obtain ⟨i, _, hi⟩ := List.mem_filterMap.mp (by simpa using hc)
  exact Array.mem_toList_iff.mpr (Array.mem_of_getElem? hi)
end Sg

/-! methods and instances; what is never run -/
namespace Sg
open PySem PySem.Spec PyProof.Rows L2
abbrev FnM (K : PySem.W.Frag) (C m q : Str) (st : Stmt) (dvs : List V) (fd : FuncData) : Prop := FunD K m q (defArgs st) (defBody st) (defScope st) dvs [] (He.ma K (He.ga K C) m) fd
def clsAt (st : Stmt) (j : Nat) : Stmt := match st with
  | .ClassDef (body := b) .. => b.getD j (.Pass ⟨0, 0, 0, 0⟩)
  | _ => .Pass ⟨0, 0, 0, 0⟩
structure DkM (P : Program) (w : World) (K : PySem.W.Frag) (mg : Str → Option Value) (base : Heap) (k : Nat) (C m : Str) (ps : List Str) (dvs : List V) (sp : Sp) : Prop where
  ok : ∃ fd ds, FnOk P w K mg base (L2.CX P w) k (He.ma K (He.ga K C) m) fd ps sp ∧ Binds K fd ps ds ∧ Vals dvs ds
def spNo : Sp := fun _ _ _ _ => False
theorem dk_no {P : Program} {w : World} {K : PySem.W.Frag} {mg : Str → Option Value} {base : Heap} {x : Str} {st : Stmt} {ps : List Str} {fd : FuncData} (F : FnP K x st (He.ga K x) fd) (B : Binds K fd ps []) (g : mg x = some (.ref (He.ga K x))) (k : Nat) : Dk P w K mg base k x ps spNo :=
  ⟨⟨fd, ⟨fun _ _ _ _ h => h.elim, fun _ _ _ _ _ _ _ _ _ _ _ _ _ h => h.elim⟩, B⟩, F.kp, g⟩
theorem dkM_no {P : Program} {w : World} {K : PySem.W.Frag} {mg : Str → Option Value} {base : Heap} {C m : Str} {ps : List Str} {fd : FuncData} (B : Binds K fd ps []) (k : Nat) : DkM P w K mg base k C m ps [] spNo :=
  ⟨fd, [], ⟨fun _ _ _ _ h => h.elim, fun _ _ _ _ _ _ _ _ _ _ _ _ _ h => h.elim⟩, B, .nil⟩
def EF : XK := fun _ _ _ => False
theorem passF {X : Cx} : Passes (L2.CX X.prog X.w) X EF := fun pins σ H s e s' I c => passAt (W := fun _ _ _ _ => False) takes0 σ pins H s e s' I c
def tMethR (K : PySem.W.Frag) (C m : Str) (sp : Sp) (dvs : List V) (ta : TE) (t : TA) : TE := tMeth (He.ga K C) m sp dvs EF ta t
def tMakeR (K : PySem.W.Frag) (C : Str) (sp : Sp) (dvs : List V) (t : TA) : TE := tMake (He.ga K C) sp dvs EF t
section
variable {X : Cx} {k : Nat} {C m : Str} {ps : List Str} {dvs : List V} {sp : Sp} {o e : Expr} {es : List Expr} {ta : TE} {t : TA} {pos apos p : Pos}
theorem pe_methR {pl : Sem Bool} (he : PE X o ta) (c : Cls X.K (He.ga X.K C)) (hm : Meth X.K (He.ga X.K C) m (He.ma X.K (He.ga X.K C) m)) (D : DkM X.prog X.w X.K X.mg X.base k C m ps dvs sp) (hr : Room k X.A) (ha : PA X (e :: es) t)
    (hst : starEach (e :: es) X.env = (false, eval e X.env) :: starEach es X.env := by rfl) (hpl : (backTo pos (starEach es X.env)).any (·.1) = false := by rfl)
    (ht : eval (.Call (.Attribute o m apos) (e :: es) [] pos) X.env = (do
      let ov ← eval o X.env
      standAt apos.atName
      let (f, first) ← holding [ov] (getMethod ov m pl)
      callWith pos f first (backTo pos (starEach (e :: es) X.env)) (backToKw pos (keywordEach [] X.env))) := by rfl) :
    PE X (.Call (.Attribute o m apos) (e :: es) [] pos) (tMethR X.K C m sp dvs ta t) := by
  obtain ⟨fd, ds, F, B, hd⟩ := D.ok
  exact pe_meth he c hm F hr B hd passF ha hst hpl ht
theorem pe_methR0 {pl : Sem Bool} (he : PE X o ta) (c : Cls X.K (He.ga X.K C)) (hm : Meth X.K (He.ga X.K C) m (He.ma X.K (He.ga X.K C) m)) (D : DkM X.prog X.w X.K X.mg X.base k C m ps dvs sp) (hr : Room k X.A)
    (ht : eval (.Call (.Attribute o m apos) [] [] pos) X.env = (do
      let ov ← eval o X.env
      standAt apos.atName
      let (f, first) ← holding [ov] (getMethod ov m pl)
      callWith pos f first (backTo pos (starEach [] X.env)) (backToKw pos (keywordEach [] X.env))) := by rfl) :
    PE X (.Call (.Attribute o m apos) [] [] pos) (tMethR X.K C m sp dvs ta tNil) := by
  obtain ⟨fd, ds, F, B, hd⟩ := D.ok
  exact pe_meth0 he c hm F hr B hd passF ht
theorem pe_makeR (M : Mk X.K (He.ga X.K C) (He.ma X.K (He.ga X.K C) "__init__")) (hm : X.mg C = some (.ref (He.ga X.K C))) (D : DkM X.prog X.w X.K X.mg X.base k C "__init__" ps dvs sp) (hr : Room (k + 1) X.A)
    (ha : PA X (e :: es) t) (hg : Gl X C := by rfl) (hdb : (C == ("__debug__" : Str)) = false := by decide) (he : starEach (e :: es) X.env = (false, eval e X.env) :: starEach es X.env := by rfl) (hpl : (backTo pos (starEach es X.env)).any (·.1) = false := by rfl) :
    PE X (.Call (.Name C p) (e :: es) [] pos) (tMakeR X.K C sp dvs t) := by
  obtain ⟨fd, ds, F, B, hd⟩ := D.ok
  exact pe_make M F hr hg hm B hd passF ha hdb he hpl
end
/-! what is never run -/
theorem pe_dead {X : Cx} {e : Expr} : PE X e (fun _ _ _ => False) := ⟨fun _ _ _ _ _ _ h => h.elim⟩
theorem pt_dead {X : Cx} {e : Expr} : PT X e (fun _ _ _ => False) := ⟨fun _ _ _ _ _ _ h => h.elim⟩
theorem ps_dead {X : Cx} {s : Stmt} : PS X s (fun _ _ _ => False) := ⟨fun _ _ _ _ _ _ h => h.elim⟩
theorem pss_dead {X : Cx} {s : List Stmt} : PSs X s (fun _ _ _ => False) := ⟨fun _ _ _ _ _ _ h => h.elim⟩
end Sg

/-! tuple * int, from once on; tuple(text) -/
namespace Sg
open PySem PySem.Spec PyProof.Rows L2
theorem tuple_mul1 (l : Addr) (items : Array Value) (n : Nat) (dd : Option Addr) (sl : Array (Option Value)) (u : Tok) :
    Meets (Builtin.«tuple.__mul__» ⟨[.ref l, .int 1 u], []⟩) (fun _ R s => s.heap.get? l = some { cls := .type "tuple", dict := dd, data := .seq items n, slots := sl } ∧ R (.ok (.ret (Value.ref l))) s) :=
  .of_wp fun prog w A R s h => by
    obtain ⟨hp, g, d, tk, os⟩ := s
    obtain ⟨hl, h⟩ := h
    have f1 := AutoSeq1.idx_int
    have c0 : (decide ((1 : Int) < -(2 ^ 63)) || decide ((1 : Int) ≥ 2 ^ 63)) = false := by decide
    have c1 : (items.isEmpty || (1 : Int) == 1) = true := by rw [show ((1 : Int) == 1) = true by decide, Bool.or_true]
    wp_walk using wpAny_loadPart' hl
    repeat (first
      | (refine wpAny_ite_false (decide_eq_false (by rw [c0]; exact Bool.false_ne_true)) ?_; wp_walk using wpAny_loadPart' hl)
      | (refine wpAny_ite_true (decide_eq_true c1) ?_; wp_walk using wpAny_loadPart' hl))
    exact ⟨_, rfl, h⟩
def rRepT1 (K : PySem.W.Frag) : R2 := fun x y H Q => ∃ l k xs, x = .ref l ∧ y = .int k ∧ SqT K H l xs ∧ xs ≠ [] ∧ 1 ≤ k ∧ k ≤ 1000 ∧ xs.length ≤ 1000 ∧ ∀ p H', Same H H' → H' p = some (.tup (List.replicate k.toNat xs).flatten) ∨ (H' = H ∧ p = l ∧ k = 1) → Q (.ref p) H'
theorem op_repT1 {X : Cx} : OpR X (binaryOp .Mult) (rRepT1 X.K) := by
  intro pins s σ H x y v u Q I rx ry h
  obtain ⟨l, k, xs, rfl, rfl, hT, hne, h1, h2, hz, q⟩ := h
  by_cases hk : k = 1
  · subst hk
    cases rx
    obtain ⟨t, rfl⟩ := ry
    obtain ⟨its, r, ⟨⟨cls, dd, data, sl⟩, ho, hc, n, hd⟩, hs⟩ := I.tuple hT
    simp only at hc hd
    subst hc hd
    refine wpAny_binaryOp_repeat_ref (T := "tuple") (U := "int") (by decide) ⟨_, ho, rfl⟩ (fun s' => typeIs_int s' 1 t) noFill_tuple_mul F.fills_int_mul F.slot_int_rmul repeat_tuple F.slot_int_index.lookup
      (call_meets F.slot_int_rmul (typeIs_int s 1 t) F.entry_int_rmul (F.args_int_rmul_2 _ _) (int_rmul_tuple 1 t l its.toArray n dd sl)
        ⟨ho, rfl, ⟨_, ho, rfl⟩, call_meets F.slot_tuple_mul ⟨_, ho, rfl⟩ F.entry_tuple_mul (F.args_tuple_mul_2 _ _) (tuple_mul1 l its.toArray n dd sl t) ⟨ho, ?_⟩⟩)
    exact ⟨.ref l, H, I, rfl, q l H (fun _ _ h => h) (.inr ⟨rfl, rfl, rfl⟩)⟩
  · exact op_repT pins s σ H _ _ v u Q I rx ry ⟨l, k, xs, rfl, rfl, hT, hne, by omega, h2, hz, fun p hp => q p _ (same_upd hp) (.inl upd_same)⟩
def rTupS : List V → Hp → VK → Prop := fun xs H Q => match xs with
  | [.str z] => z.cps.size ≤ sizeLine ∧ ∀ p, H p = none → Q (.ref p) (upd H p (.tup ((signsOf z).map V.str)))
  | _ => False
theorem call_tupS {X : Cx} (hc : X.calm = true) : CallR X (.type "tuple") rTupS := by
  intro pins s σ H xs us Q I r h
  match xs, h with
  | [.str z], ⟨hz, q⟩ =>
    obtain ⟨u, rfl, t, rfl⟩ := vals1 r
    refine call_tuple_str (I.ok.hd hc) z t (fun h' tk acc' kp hit => ?_) hz
    have hv := vals_signs hit
    have hlen : ((signsOf z).map V.str).length ≤ sizeLine := by
      rw [List.length_map]; unfold signsOf; rw [List.length_map, Array.length_toList]; exact hz
    have I2 := I.kept (t' := tk) kp
    refine ⟨.ref h'.objs.size, _, I2.laid (a := h'.objs.size) (o := .tup ((signsOf z).map V.str)) (t' := tk) (fun b ob q => Heap.get?_push_of_some _ q) (Nat.le_refl _) ?_, rfl, q _ (I2.hok.fresh (Nat.le_refl _))⟩
    exact ⟨hlen, acc'.toList, by simpa using hv, by simpa using IsTup.new _ _⟩
end Sg

/-! what is a looker, of data of any shape -/
namespace Sg
open PySem PySem.Spec PyProof.Rows L2
mutual
def noL : PyData → Bool
  | .list _ => false
  | .dict _ => false
  | .tuple ds => noLs ds
  | _ => true
def noLs : List PyData → Bool
  | [] => true
  | d :: ds => noL d && noLs ds
end
theorem noLs_mem : ∀ {ds : List PyData} {d : PyData}, noLs ds = true → d ∈ ds → noL d = true
  | e :: ds, d, h, hd => by
    have h2 : (noL e && noLs ds) = true := by simpa [noLs] using h
    rw [Bool.and_eq_true] at h2
    rcases List.mem_cons.mp hd with rfl | hd
    · exact h2.1
    · exact noLs_mem h2.2 hd
theorem noLs_all : ∀ {ds : List PyData}, (∀ d ∈ ds, noL d = true) → noLs ds = true
  | [], _ => by simp [noLs]
  | e :: ds, h => by
    have : (noL e && noLs ds) = true := by rw [h e List.mem_cons_self, noLs_all fun d hd => h d (List.mem_cons_of_mem _ hd)]; rfl
    simpa [noLs] using this
theorem noL_tup {ds : List PyData} : noL (.tuple ds) = noLs ds := by simp [noL]
theorem len2 {α : Type} {l : List α} (h : l.length = 2) : ∃ a b, l = [a, b] := by
  cases l with
  | nil => cases h
  | cons a l =>
    cases l with
    | nil => cases h
    | cons b l =>
      cases l with
      | nil => exact ⟨a, b, rfl⟩
      | cons c l => simp at h
def btD : PyData → Bool
  | .int i => decide (0 ≤ i) && decide (i ≤ 1)
  | _ => false
def stD (n : Int) : PyData → Bool
  | .int i => decide (0 ≤ i) && decide (i < n)
  | _ => false
def sgD : PyData → Bool
  | .str z => sgB z
  | _ => false
def sgV : V → Bool
  | .str z => sgB z
  | _ => false
def rowN (n : Int) : PyData → Bool
  | .tuple ds => decide ((ds.length : Int) = n)
  | _ => false
def rowLk (n w : Nat) : PyData → Bool
  | .tuple [e, .tuple ts] => btD e && (decide (ts.length = w) && ts.all (stD n))
  | _ => false
def lkB : PyData → Bool
  | .tuple [.str z, .tuple ss] => sgB z && (decide (1 ≤ ss.length) && (decide (ss.length ≤ 600) && ss.all (rowLk ss.length z.length)))
  | _ => false
section
variable {K : PySem.W.Frag} {H H' : Hp} {v : V} {d : PyData}
theorem Dp.kd (h : Dp K H v d) (n : noL d = true) : Kd K H v := by
  cases h with
  | non => exact .non
  | bl b => exact .bl b
  | int i => exact .int i
  | str x => exact .str x
  | lst h1 h2 => simp [noL] at n
  | tup h1 h2 => exact .tup h1
theorem Dp.bt (h : Dp K H v d) : isBt v = btD d := by cases h <;> rfl
theorem Dp.st (h : Dp K H v d) (n : Int) : isSt n v = stD n d := by cases h <;> rfl
theorem Dp.sg (h : Dp K H v d) : sgV v = sgD d := by cases h <;> rfl
theorem dpAll_len : ∀ {vs : List V} {ds : List PyData}, DpAll K H vs ds → vs.length = ds.length
  | _, _, .nil => rfl
  | _, _, .cons _ h => congrArg Nat.succ (dpAll_len h)
theorem dpAll_get : ∀ {vs : List V} {ds : List PyData} {i : Nat} {x : V}, DpAll K H vs ds → vs[i]? = some x → ∃ e, ds[i]? = some e ∧ Dp K H x e
  | _, _, _, _, .nil, h => by simp at h
  | _, _, 0, _, .cons h1 _, h => by
    obtain rfl := Option.some.inj h
    exact ⟨_, rfl, h1⟩
  | _, _, i + 1, _, .cons _ h2, h => dpAll_get (i := i) h2 h
theorem dpAll_of : ∀ {vs : List V} {ds : List PyData}, vs.length = ds.length → (∀ (i : Nat) (x : V) (e : PyData), vs[i]? = some x → ds[i]? = some e → Dp K H x e) → DpAll K H vs ds
  | [], [], _, _ => .nil
  | x :: vs, e :: ds, hl, h => .cons (h 0 x e rfl rfl) (dpAll_of (Nat.succ.inj hl) fun i y f hy hf => h (i + 1) y f hy hf)
theorem dpAll_app : ∀ {vs us : List V} {ds es : List PyData}, DpAll K H vs ds → DpAll K H us es → DpAll K H (vs ++ us) (ds ++ es)
  | _, _, _, _, .nil, h => h
  | _, _, _, _, .cons h1 h2, h => .cons h1 (dpAll_app h2 h)
theorem dpAll_take : ∀ {vs : List V} {ds : List PyData} (n : Nat), DpAll K H vs ds → DpAll K H (vs.take n) (ds.take n)
  | _, _, 0, _ => .nil
  | _, _, _ + 1, .nil => .nil
  | _, _, n + 1, .cons h1 h2 => .cons h1 (dpAll_take n h2)
theorem dpAll_drop : ∀ {vs : List V} {ds : List PyData} (n : Nat), DpAll K H vs ds → DpAll K H (vs.drop n) (ds.drop n)
  | _, _, 0, h => h
  | _, _, _ + 1, .nil => .nil
  | _, _, n + 1, .cons _ h2 => dpAll_drop n h2
theorem dpAll_rep {x : V} {e : PyData} (h : Dp K H x e) : ∀ n, DpAll K H (List.replicate n x) (List.replicate n e)
  | 0 => .nil
  | n + 1 => .cons h (dpAll_rep h n)
mutual
theorem dp_mono (k : TK H H') : ∀ (d : PyData) (v : V), Dp K H v d → noL d = true → Dp K H' v d
  | .none, v, h, _ => by cases h; exact .non
  | .bool b, v, h, _ => by cases h; exact .bl b
  | .int i, v, h, _ => by cases h; exact .int i
  | .str x, v, h, _ => by cases h; exact .str x
  | .list ds, v, h, n => by simp [noL] at n
  | .dict ds, v, h, n => by simp [noL] at n
  | .tuple ds, v, h, n => by
    cases h with
    | tup h1 h2 => exact .tup (k.sqT h1) (dpAll_mono k ds _ h2 (by simpa [noL] using n))
theorem dpAll_mono (k : TK H H') : ∀ (ds : List PyData) (vs : List V), DpAll K H vs ds → noLs ds = true → DpAll K H' vs ds
  | [], vs, h, _ => by cases h; exact .nil
  | e :: ds, vs, h, n => by
    have n2 : (noL e && noLs ds) = true := by simpa [noLs] using n
    rw [Bool.and_eq_true] at n2
    cases h with
    | cons h1 h2 => exact .cons (dp_mono k e _ h1 n2.1) (dpAll_mono k ds _ h2 n2.2)
end
theorem Dp.rowB (h : Dp K H v d) (n : noL d = true) (m : Int) : RowB K H v m (rowN m d) := by
  cases h with
  | non => exact .inr ⟨.non, rfl, rfl⟩
  | bl b => exact .inr ⟨.bl b, rfl, rfl⟩
  | int i => exact .inr ⟨.int i, rfl, rfl⟩
  | str x => exact .inr ⟨.str x, rfl, rfl⟩
  | lst h1 h2 => simp [noL] at n
  | tup h1 h2 => exact .inl ⟨_, _, rfl, h1, by rw [dpAll_len h2]; rfl⟩
theorem Dp.isTup (h : Dp K H v d) (n : noL d = true) (t : isaB "tuple" v = true) : ∃ a xs ds, v = .ref a ∧ d = .tuple ds ∧ SqT K H a xs ∧ DpAll K H xs ds ∧ noLs ds = true := by
  cases h with
  | non => cases t
  | bl b => simp [isaB] at t
  | int i => simp [isaB] at t
  | str x => simp [isaB] at t
  | lst h1 h2 => simp [noL] at n
  | tup h1 h2 => exact ⟨_, _, _, rfl, rfl, h1, h2, by simpa [noL] using n⟩
theorem Dp.row2 (h : Dp K H v d) (n : noL d = true) (t : rowN 2 d = true) : ∃ a x y e f, v = .ref a ∧ d = .tuple [e, f] ∧ SqT K H a [x, y] ∧ Dp K H x e ∧ Dp K H y f ∧ noL e = true ∧ noL f = true := by
  cases h with
  | non => cases t
  | bl b => cases t
  | int i => cases t
  | str x => cases t
  | lst h1 h2 => cases t
  | tup h1 h2 =>
    rename_i a xs ds
    have hl : ds.length = 2 := by have := of_decide_eq_true t; omega
    have n2 : noLs ds = true := by simpa [noL] using n
    obtain ⟨e, f, rfl⟩ := len2 hl
    cases h2 with
    | cons k1 k2 =>
      cases k2 with
      | cons k2 k3 =>
        cases k3
        exact ⟨_, _, _, e, f, rfl, rfl, h1, k1, k2, noLs_mem n2 (by simp), noLs_mem n2 (by simp)⟩
end
theorem lkB_inv {d : PyData} (h : lkB d = true) : ∃ z ss, d = .tuple [.str z, .tuple ss] ∧ sgB z = true ∧ 1 ≤ ss.length ∧ ss.length ≤ 600 ∧ ∀ s ∈ ss, rowLk ss.length z.length s = true := by
  unfold lkB at h
  split at h
  · rename_i z ss
    simp only [Bool.and_eq_true, decide_eq_true_eq, List.all_eq_true] at h
    exact ⟨z, ss, rfl, h.1, h.2.1, h.2.2.1, h.2.2.2⟩
  · cases h
theorem lkB_of {z : Str} {ss : List PyData} (h1 : sgB z = true) (h2 : 1 ≤ ss.length) (h3 : ss.length ≤ 600) (h4 : ∀ s ∈ ss, rowLk ss.length z.length s = true) : lkB (.tuple [.str z, .tuple ss]) = true := by
  unfold lkB
  simp only [Bool.and_eq_true, decide_eq_true_eq, List.all_eq_true]
  exact ⟨h1, h2, h3, h4⟩
theorem rowLk_inv {n w : Nat} {d : PyData} (h : rowLk n w d = true) : ∃ e ts, d = .tuple [e, .tuple ts] ∧ btD e = true ∧ ts.length = w ∧ ∀ t ∈ ts, stD n t = true := by
  unfold rowLk at h
  split at h
  · rename_i e ts
    simp only [Bool.and_eq_true, decide_eq_true_eq, List.all_eq_true] at h
    exact ⟨e, ts, rfl, h.1, h.2.1, h.2.2⟩
  · cases h
theorem rowLk_of {n w : Nat} {e : PyData} {ts : List PyData} (h1 : btD e = true) (h2 : ts.length = w) (h3 : ∀ t ∈ ts, stD n t = true) : rowLk n w (.tuple [e, .tuple ts]) = true := by
  unfold rowLk
  simp only [Bool.and_eq_true, decide_eq_true_eq, List.all_eq_true]
  exact ⟨h1, h2, h3⟩
theorem no_of {b : Bool} (h : b = true → False) : b = false := by
  cases b with
  | false => rfl
  | true => exact (h rfl).elim
/-- a looker that is one -/
theorem rowD_noL (r : LRow) : noL (rowD r) = true := by
  unfold rowD
  rw [noL_tup]
  refine noLs_all fun d hd => ?_
  simp only [List.mem_cons, List.not_mem_nil, or_false] at hd
  rcases hd with rfl | rfl
  · simp [noL]
  · rw [noL_tup]
    refine noLs_all fun d hd => ?_
    obtain ⟨i, _, rfl⟩ := List.mem_map.mp hd
    simp [noL]
theorem lkD_noL (z : Str) (rs : List LRow) : noL (lkD z rs) = true := by
  unfold lkD
  rw [noL_tup]
  refine noLs_all fun d hd => ?_
  simp only [List.mem_cons, List.not_mem_nil, or_false] at hd
  rcases hd with rfl | rfl
  · simp [noL]
  · rw [noL_tup]
    refine noLs_all fun d hd => ?_
    obtain ⟨r, _, rfl⟩ := List.mem_map.mp hd
    exact rowD_noL r
theorem rowD_lk {n : Nat} {rs : List LRow} (ok : RowsOk n rs) {r : LRow} (hr : r ∈ rs) : rowLk rs.length n (rowD r) = true := by
  refine rowLk_of ?_ (by rw [List.length_map]; exact ok.wid r hr) fun t ht => ?_
  · rcases ok.bit r hr with e | e <;> rw [e] <;> rfl
  · obtain ⟨q, hq, rfl⟩ := List.mem_map.mp ht
    have := ok.to r hr q hq
    show (decide (0 ≤ q) && decide (q < (rs.length : Int))) = true
    rw [decide_eq_true this.1, decide_eq_true this.2]
    rfl
theorem lkD_lk {z : Str} {rs : List LRow} (hz : SignsOk z) (ok : RowsOk z.length rs) : lkB (lkD z rs) = true := by
  refine lkB_of hz.sgB (by rw [List.length_map]; exact ok.pos) (by rw [List.length_map]; exact ok.top) fun s hs => ?_
  obtain ⟨r, hr, rfl⟩ := List.mem_map.mp hs
  rw [List.length_map]
  exact rowD_lk ok hr
end Sg

namespace K34
open PySem PySem.Spec PyProof.Rows L2 Sg
def topS (i : Nat) : Stmt := PySem.Challenge.pw_signwright_k34_lookers_judged_and_refuse.main.body.getD i (.Pass ⟨0, 0, 0, 0⟩)
def dd (i : Nat) (x : Str) : He.DefD := ⟨(x, none), x, x, defArgs (topS i), defBody (topS i), defScope (topS i), [], []⟩
def fns0 : List He.DefD := [dd 0 "_wall", dd 9 "is_text_of", dd 10 "check_text", dd 11 "check_number", dd 16 "is_whole", dd 17 "is_bit", dd 18 "is_row", dd 19 "is_signs", dd 20 "is_text", dd 21 "is_state", dd 22 "is_written", dd 23 "is_rising", dd 24 "is_pairs", dd 25 "is_texts", dd 26 "is_looker_value", dd 27 "is_writer_value", dd 29 "check_looker", dd 30 "check_writer", dd 31 "check_same_signs", dd 34 "ascending", dd 36 "state_behind", dd 37 "classes_of", dd 38 "least_states", dd 39 "reverse_leads", dd 40 "live_states", dd 41 "path_of", dd 42 "first_text", dd 43 "first_unlike", dd 44 "counts_behind", dd 47 "is_looker"]
def fns1 : List He.DefD := [dd 48 "takes", dd 49 "least", dd 50 "first_taken", dd 51 "alike", dd 52 "count_taken", dd 54 "spread", dd 55 "leads_of", dd 56 "sources_of", dd 57 "on_walks", dd 58 "kept_pairs", dd 59 "trimmed", dd 62 "kept_on", dd 64 "only_on", dd 66 "_law_draw", dd 67 "_law_pool", dd 68 "_law_signs", dd 69 "_law_same", dd 70 "_law_drawn_looker", dd 71 "_law_whole_wrong", dd 72 "_law_wrong", dd 73 "_law_refused", dd 74 "law", ⟨("Numbering", some "__init__"), "__init__", "Numbering.__init__", defArgs (clsAt (topS 33) 0), defBody (clsAt (topS 33) 0), defScope (clsAt (topS 33) 0), [.str "states"], []⟩, ⟨("Numbering", some "number"), "number", "Numbering.number", defArgs (clsAt (topS 33) 1), defBody (clsAt (topS 33) 1), defScope (clsAt (topS 33) 1), [], []⟩, ⟨("Numbering", some "met"), "met", "Numbering.met", defArgs (clsAt (topS 33) 2), defBody (clsAt (topS 33) 2), defScope (clsAt (topS 33) 2), [], []⟩, ⟨("Numbering", some "key_at"), "key_at", "Numbering.key_at", defArgs (clsAt (topS 33) 3), defBody (clsAt (topS 33) 3), defScope (clsAt (topS 33) 3), [], []⟩, ⟨("Numbering", some "is_known"), "is_known", "Numbering.is_known", defArgs (clsAt (topS 33) 4), defBody (clsAt (topS 33) 4), defScope (clsAt (topS 33) 4), [], []⟩, ⟨("Keeping", some "__init__"), "__init__", "Keeping.__init__", defArgs (clsAt (topS 61) 0), defBody (clsAt (topS 61) 0), defScope (clsAt (topS 61) 0), [], []⟩, ⟨("Keeping", some "placed"), "placed", "Keeping.placed", defArgs (clsAt (topS 61) 1), defBody (clsAt (topS 61) 1), defScope (clsAt (topS 61) 1), [], []⟩, ⟨("Keeping", some "writer"), "writer", "Keeping.writer", defArgs (clsAt (topS 61) 2), defBody (clsAt (topS 61) 2), defScope (clsAt (topS 61) 2), [], []⟩]
def fns : List He.DefD := fns0 ++ (fns1)
def fas0 : List He.Fa := [.glo "_wall", .glo "is_text_of", .glo "check_text", .glo "check_number", .glo "is_whole", .glo "is_bit", .glo "is_row", .glo "is_signs", .glo "is_text", .glo "is_state", .glo "is_written", .glo "is_rising", .glo "is_pairs", .glo "is_texts", .glo "is_looker_value", .glo "is_writer_value", .glo "check_looker", .glo "check_writer", .glo "check_same_signs", .glo "ascending", .glo "state_behind", .glo "classes_of", .glo "least_states", .glo "reverse_leads", .glo "live_states", .glo "path_of", .glo "first_text", .glo "first_unlike", .glo "counts_behind", .glo "is_looker"]
def fas1 : List He.Fa := [.glo "takes", .glo "least", .glo "first_taken", .glo "alike", .glo "count_taken", .glo "spread", .glo "leads_of", .glo "sources_of", .glo "on_walks", .glo "kept_pairs", .glo "trimmed", .glo "kept_on", .glo "only_on", .glo "_law_draw", .glo "_law_pool", .glo "_law_signs", .glo "_law_same", .glo "_law_drawn_looker", .glo "_law_whole_wrong", .glo "_law_wrong", .glo "_law_refused", .glo "law", .free "all", .free "isinstance", .free "str", .free "bool", .free "int", .free "tuple", .free "len", .free "set"]
def fas2 : List He.Fa := [.free "range", .free "sorted", .free "enumerate", .free "sum", .free "zip", .free "min", .free "list", .free "repr", .free "ValueError", .glo "SignError", .glo "BadSigns", .glo "BadNumber", .glo "BadLooker", .glo "BadWriter", .glo "TooMany", .glo "Numbering", .glo "Keeping", .exc "SignError", .exc "BadSigns", .exc "BadNumber", .exc "BadLooker", .exc "BadWriter", .int "MOST_SIGNS" 5, .int "MOST_LOOKER" 600, .int "MOST_WRITER" 2000, .int "MOST_LENGTH" 200, .cls "Numbering", .mkr "Numbering", .noat "Numbering" "most", .noat "Numbering" "what"]
def fas3 : List He.Fa := [.noat "Numbering" "order", .noat "Numbering" "places", .meth "Numbering" "number", .meth "Numbering" "met", .meth "Numbering" "key_at", .meth "Numbering" "is_known", .cls "Keeping", .mkr "Keeping", .noat "Keeping" "one", .noat "Keeping" "states", .noat "Keeping" "live", .noat "Keeping" "numbering", .meth "Keeping" "placed", .meth "Keeping" "writer", .exm "BadLooker" "BadLooker" true]
def fas : List He.Fa := fas0 ++ (fas1 ++ (fas2 ++ (fas3)))
def loose0 : List PySem.Str := ["SignError", "BadSigns", "BadNumber", "BadLooker", "BadWriter", "TooMany", "Numbering", "Keeping", "MOST_SIGNS", "MOST_LOOKER", "MOST_WRITER", "MOST_LENGTH", "_wall", "is_text_of", "check_text", "check_number", "is_whole", "is_bit", "is_row", "is_signs", "is_text", "is_state", "is_written", "is_rising", "is_pairs", "is_texts", "is_looker_value", "is_writer_value", "check_looker", "check_writer"]
def loose1 : List PySem.Str := ["check_same_signs", "ascending", "state_behind", "classes_of", "least_states", "reverse_leads", "live_states", "path_of", "first_text", "first_unlike", "counts_behind", "is_looker", "takes", "least", "first_taken", "alike", "count_taken", "spread", "leads_of", "sources_of", "on_walks", "kept_pairs", "trimmed", "kept_on", "only_on", "_law_draw", "_law_pool", "_law_signs", "_law_same", "_law_drawn_looker"]
def loose2 : List PySem.Str := ["_law_whole_wrong", "_law_wrong", "_law_refused"]
def loose : List PySem.Str := loose0 ++ (loose1 ++ (loose2))
abbrev R : PySem.W.OpenRow := PySem.W.OpenLaw.row PySem.Challenge.rw_signwright_k34_lookers_judged_and_refuse
def exL (K : PySem.W.Frag) : List Bool := [excCB K (He.ga K "BadLooker"), decide (PySem.W.kitOne K (.ref (He.ga K "BadLooker")) (.ref (He.ga K "SignError")) = some true), decide (PySem.W.kitOne K (.ref (He.ga K "BadLooker")) (.type "ValueError") = some true), decide (PySem.W.kitOne K (.ref (He.ga K "BadLooker")) (.ref (He.ga K "BadSigns")) = some false), decide (PySem.W.kitOne K (.ref (He.ga K "BadLooker")) (.ref (He.ga K "BadNumber")) = some false), decide (PySem.W.kitOne K (.ref (He.ga K "BadLooker")) (.ref (He.ga K "BadWriter")) = some false)]
def exB (K : PySem.W.Frag) : Bool := (exL K).all id
abbrev hk : PySem.W.Hook := hookX 6 exB fas fns
def ob (s : PySem.W.SharedT) : Bool × He.AlD := obsXG 6 exB fas fns (HandSHeadRun.getT s)
theorem ob_eq (s : PySem.W.SharedT) : ob s = hk.obs s.abs := obsXG_eq (HandSHeadRun.getT_eq s)
theorem run (w : World) : HandSHeadRun.RunEq R (PySem.W.view R.prog [74]) hk ob 4000 loose w := by
  intro os
  kernel_rfl
structure Tx (K : PySem.W.Frag) (mg : Str → Option Value) : Prop where
  g__wall : mg "_wall" = some (.ref (He.ga K "_wall"))
  g_is_text_of : mg "is_text_of" = some (.ref (He.ga K "is_text_of"))
  g_check_text : mg "check_text" = some (.ref (He.ga K "check_text"))
  g_check_number : mg "check_number" = some (.ref (He.ga K "check_number"))
  g_is_whole : mg "is_whole" = some (.ref (He.ga K "is_whole"))
  g_is_bit : mg "is_bit" = some (.ref (He.ga K "is_bit"))
  g_is_row : mg "is_row" = some (.ref (He.ga K "is_row"))
  g_is_signs : mg "is_signs" = some (.ref (He.ga K "is_signs"))
  g_is_text : mg "is_text" = some (.ref (He.ga K "is_text"))
  g_is_state : mg "is_state" = some (.ref (He.ga K "is_state"))
  g_is_written : mg "is_written" = some (.ref (He.ga K "is_written"))
  g_is_rising : mg "is_rising" = some (.ref (He.ga K "is_rising"))
  g_is_pairs : mg "is_pairs" = some (.ref (He.ga K "is_pairs"))
  g_is_texts : mg "is_texts" = some (.ref (He.ga K "is_texts"))
  g_is_looker_value : mg "is_looker_value" = some (.ref (He.ga K "is_looker_value"))
  g_is_writer_value : mg "is_writer_value" = some (.ref (He.ga K "is_writer_value"))
  g_check_looker : mg "check_looker" = some (.ref (He.ga K "check_looker"))
  g_check_writer : mg "check_writer" = some (.ref (He.ga K "check_writer"))
  g_check_same_signs : mg "check_same_signs" = some (.ref (He.ga K "check_same_signs"))
  g_ascending : mg "ascending" = some (.ref (He.ga K "ascending"))
  g_state_behind : mg "state_behind" = some (.ref (He.ga K "state_behind"))
  g_classes_of : mg "classes_of" = some (.ref (He.ga K "classes_of"))
  g_least_states : mg "least_states" = some (.ref (He.ga K "least_states"))
  g_reverse_leads : mg "reverse_leads" = some (.ref (He.ga K "reverse_leads"))
  g_live_states : mg "live_states" = some (.ref (He.ga K "live_states"))
  g_path_of : mg "path_of" = some (.ref (He.ga K "path_of"))
  g_first_text : mg "first_text" = some (.ref (He.ga K "first_text"))
  g_first_unlike : mg "first_unlike" = some (.ref (He.ga K "first_unlike"))
  g_counts_behind : mg "counts_behind" = some (.ref (He.ga K "counts_behind"))
  g_is_looker : mg "is_looker" = some (.ref (He.ga K "is_looker"))
  g_takes : mg "takes" = some (.ref (He.ga K "takes"))
  g_least : mg "least" = some (.ref (He.ga K "least"))
  g_first_taken : mg "first_taken" = some (.ref (He.ga K "first_taken"))
  g_alike : mg "alike" = some (.ref (He.ga K "alike"))
  g_count_taken : mg "count_taken" = some (.ref (He.ga K "count_taken"))
  g_spread : mg "spread" = some (.ref (He.ga K "spread"))
  g_leads_of : mg "leads_of" = some (.ref (He.ga K "leads_of"))
  g_sources_of : mg "sources_of" = some (.ref (He.ga K "sources_of"))
  g_on_walks : mg "on_walks" = some (.ref (He.ga K "on_walks"))
  g_kept_pairs : mg "kept_pairs" = some (.ref (He.ga K "kept_pairs"))
  g_trimmed : mg "trimmed" = some (.ref (He.ga K "trimmed"))
  g_kept_on : mg "kept_on" = some (.ref (He.ga K "kept_on"))
  g_only_on : mg "only_on" = some (.ref (He.ga K "only_on"))
  g__law_draw : mg "_law_draw" = some (.ref (He.ga K "_law_draw"))
  g__law_pool : mg "_law_pool" = some (.ref (He.ga K "_law_pool"))
  g__law_signs : mg "_law_signs" = some (.ref (He.ga K "_law_signs"))
  g__law_same : mg "_law_same" = some (.ref (He.ga K "_law_same"))
  g__law_drawn_looker : mg "_law_drawn_looker" = some (.ref (He.ga K "_law_drawn_looker"))
  g__law_whole_wrong : mg "_law_whole_wrong" = some (.ref (He.ga K "_law_whole_wrong"))
  g__law_wrong : mg "_law_wrong" = some (.ref (He.ga K "_law_wrong"))
  g__law_refused : mg "_law_refused" = some (.ref (He.ga K "_law_refused"))
  g_law : mg "law" = some (.ref (He.ga K "law"))
  f_all : mg "all" = none
  f_isinstance : mg "isinstance" = none
  f_str : mg "str" = none
  f_bool : mg "bool" = none
  f_int : mg "int" = none
  f_tuple : mg "tuple" = none
  f_len : mg "len" = none
  f_set : mg "set" = none
  f_range : mg "range" = none
  f_sorted : mg "sorted" = none
  f_enumerate : mg "enumerate" = none
  f_sum : mg "sum" = none
  f_zip : mg "zip" = none
  f_min : mg "min" = none
  f_list : mg "list" = none
  f_repr : mg "repr" = none
  f_ValueError : mg "ValueError" = none
  g_Numbering : mg "Numbering" = some (.ref (He.ga K "Numbering"))
  g_Keeping : mg "Keeping" = some (.ref (He.ga K "Keeping"))
  e_SignError : ExcF K mg "SignError"
  e_BadSigns : ExcF K mg "BadSigns"
  e_BadNumber : ExcF K mg "BadNumber"
  e_BadLooker : ExcF K mg "BadLooker"
  e_BadWriter : ExcF K mg "BadWriter"
  c_MOST_SIGNS : ∃ t, mg "MOST_SIGNS" = some (.int 5 t)
  c_MOST_LOOKER : ∃ t, mg "MOST_LOOKER" = some (.int 600 t)
  c_MOST_WRITER : ∃ t, mg "MOST_WRITER" = some (.int 2000 t)
  c_MOST_LENGTH : ∃ t, mg "MOST_LENGTH" = some (.int 200 t)
  cl_Numbering : Cls K (He.ga K "Numbering")
  mk_Numbering : Mk K (He.ga K "Numbering") (He.ma K (He.ga K "Numbering") "__init__")
  na_Numbering_most : NoAttr K (He.ga K "Numbering") "most"
  na_Numbering_what : NoAttr K (He.ga K "Numbering") "what"
  na_Numbering_order : NoAttr K (He.ga K "Numbering") "order"
  na_Numbering_places : NoAttr K (He.ga K "Numbering") "places"
  m_Numbering_number : Meth K (He.ga K "Numbering") "number" (He.ma K (He.ga K "Numbering") "number")
  m_Numbering_met : Meth K (He.ga K "Numbering") "met" (He.ma K (He.ga K "Numbering") "met")
  m_Numbering_key_at : Meth K (He.ga K "Numbering") "key_at" (He.ma K (He.ga K "Numbering") "key_at")
  m_Numbering_is_known : Meth K (He.ga K "Numbering") "is_known" (He.ma K (He.ga K "Numbering") "is_known")
  cl_Keeping : Cls K (He.ga K "Keeping")
  mk_Keeping : Mk K (He.ga K "Keeping") (He.ma K (He.ga K "Keeping") "__init__")
  na_Keeping_one : NoAttr K (He.ga K "Keeping") "one"
  na_Keeping_states : NoAttr K (He.ga K "Keeping") "states"
  na_Keeping_live : NoAttr K (He.ga K "Keeping") "live"
  na_Keeping_numbering : NoAttr K (He.ga K "Keeping") "numbering"
  m_Keeping_placed : Meth K (He.ga K "Keeping") "placed" (He.ma K (He.ga K "Keeping") "placed")
  m_Keeping_writer : Meth K (He.ga K "Keeping") "writer" (He.ma K (He.ga K "Keeping") "writer")
  x_BadLooker_BadLooker : PySem.W.exmOne K (.ref (He.ga K "BadLooker")) (.ref (He.ga K "BadLooker")) = some true
  d__wall : ∃ fd, FnP K "_wall" (topS 0) (He.ga K "_wall") fd
  d_is_text_of : ∃ fd, FnP K "is_text_of" (topS 9) (He.ga K "is_text_of") fd
  d_check_text : ∃ fd, FnP K "check_text" (topS 10) (He.ga K "check_text") fd
  d_check_number : ∃ fd, FnP K "check_number" (topS 11) (He.ga K "check_number") fd
  d_is_whole : ∃ fd, FnP K "is_whole" (topS 16) (He.ga K "is_whole") fd
  d_is_bit : ∃ fd, FnP K "is_bit" (topS 17) (He.ga K "is_bit") fd
  d_is_row : ∃ fd, FnP K "is_row" (topS 18) (He.ga K "is_row") fd
  d_is_signs : ∃ fd, FnP K "is_signs" (topS 19) (He.ga K "is_signs") fd
  d_is_text : ∃ fd, FnP K "is_text" (topS 20) (He.ga K "is_text") fd
  d_is_state : ∃ fd, FnP K "is_state" (topS 21) (He.ga K "is_state") fd
  d_is_written : ∃ fd, FnP K "is_written" (topS 22) (He.ga K "is_written") fd
  d_is_rising : ∃ fd, FnP K "is_rising" (topS 23) (He.ga K "is_rising") fd
  d_is_pairs : ∃ fd, FnP K "is_pairs" (topS 24) (He.ga K "is_pairs") fd
  d_is_texts : ∃ fd, FnP K "is_texts" (topS 25) (He.ga K "is_texts") fd
  d_is_looker_value : ∃ fd, FnP K "is_looker_value" (topS 26) (He.ga K "is_looker_value") fd
  d_is_writer_value : ∃ fd, FnP K "is_writer_value" (topS 27) (He.ga K "is_writer_value") fd
  d_check_looker : ∃ fd, FnP K "check_looker" (topS 29) (He.ga K "check_looker") fd
  d_check_writer : ∃ fd, FnP K "check_writer" (topS 30) (He.ga K "check_writer") fd
  d_check_same_signs : ∃ fd, FnP K "check_same_signs" (topS 31) (He.ga K "check_same_signs") fd
  d_ascending : ∃ fd, FnP K "ascending" (topS 34) (He.ga K "ascending") fd
  d_state_behind : ∃ fd, FnP K "state_behind" (topS 36) (He.ga K "state_behind") fd
  d_classes_of : ∃ fd, FnP K "classes_of" (topS 37) (He.ga K "classes_of") fd
  d_least_states : ∃ fd, FnP K "least_states" (topS 38) (He.ga K "least_states") fd
  d_reverse_leads : ∃ fd, FnP K "reverse_leads" (topS 39) (He.ga K "reverse_leads") fd
  d_live_states : ∃ fd, FnP K "live_states" (topS 40) (He.ga K "live_states") fd
  d_path_of : ∃ fd, FnP K "path_of" (topS 41) (He.ga K "path_of") fd
  d_first_text : ∃ fd, FnP K "first_text" (topS 42) (He.ga K "first_text") fd
  d_first_unlike : ∃ fd, FnP K "first_unlike" (topS 43) (He.ga K "first_unlike") fd
  d_counts_behind : ∃ fd, FnP K "counts_behind" (topS 44) (He.ga K "counts_behind") fd
  d_is_looker : ∃ fd, FnP K "is_looker" (topS 47) (He.ga K "is_looker") fd
  d_takes : ∃ fd, FnP K "takes" (topS 48) (He.ga K "takes") fd
  d_least : ∃ fd, FnP K "least" (topS 49) (He.ga K "least") fd
  d_first_taken : ∃ fd, FnP K "first_taken" (topS 50) (He.ga K "first_taken") fd
  d_alike : ∃ fd, FnP K "alike" (topS 51) (He.ga K "alike") fd
  d_count_taken : ∃ fd, FnP K "count_taken" (topS 52) (He.ga K "count_taken") fd
  d_spread : ∃ fd, FnP K "spread" (topS 54) (He.ga K "spread") fd
  d_leads_of : ∃ fd, FnP K "leads_of" (topS 55) (He.ga K "leads_of") fd
  d_sources_of : ∃ fd, FnP K "sources_of" (topS 56) (He.ga K "sources_of") fd
  d_on_walks : ∃ fd, FnP K "on_walks" (topS 57) (He.ga K "on_walks") fd
  d_kept_pairs : ∃ fd, FnP K "kept_pairs" (topS 58) (He.ga K "kept_pairs") fd
  d_trimmed : ∃ fd, FnP K "trimmed" (topS 59) (He.ga K "trimmed") fd
  d_kept_on : ∃ fd, FnP K "kept_on" (topS 62) (He.ga K "kept_on") fd
  d_only_on : ∃ fd, FnP K "only_on" (topS 64) (He.ga K "only_on") fd
  d__law_draw : ∃ fd, FnP K "_law_draw" (topS 66) (He.ga K "_law_draw") fd
  d__law_pool : ∃ fd, FnP K "_law_pool" (topS 67) (He.ga K "_law_pool") fd
  d__law_signs : ∃ fd, FnP K "_law_signs" (topS 68) (He.ga K "_law_signs") fd
  d__law_same : ∃ fd, FnP K "_law_same" (topS 69) (He.ga K "_law_same") fd
  d__law_drawn_looker : ∃ fd, FnP K "_law_drawn_looker" (topS 70) (He.ga K "_law_drawn_looker") fd
  d__law_whole_wrong : ∃ fd, FnP K "_law_whole_wrong" (topS 71) (He.ga K "_law_whole_wrong") fd
  d__law_wrong : ∃ fd, FnP K "_law_wrong" (topS 72) (He.ga K "_law_wrong") fd
  d__law_refused : ∃ fd, FnP K "_law_refused" (topS 73) (He.ga K "_law_refused") fd
  d_law : ∃ fd, FnP K "law" (topS 74) (He.ga K "law") fd
  d_Numbering_m___init__ : ∃ fd, FnM K "Numbering" "__init__" "Numbering.__init__" (clsAt (topS 33) 0) [.str "states"] fd
  d_Numbering_m_number : ∃ fd, FnM K "Numbering" "number" "Numbering.number" (clsAt (topS 33) 1) [] fd
  d_Numbering_m_met : ∃ fd, FnM K "Numbering" "met" "Numbering.met" (clsAt (topS 33) 2) [] fd
  d_Numbering_m_key_at : ∃ fd, FnM K "Numbering" "key_at" "Numbering.key_at" (clsAt (topS 33) 3) [] fd
  d_Numbering_m_is_known : ∃ fd, FnM K "Numbering" "is_known" "Numbering.is_known" (clsAt (topS 33) 4) [] fd
  d_Keeping_m___init__ : ∃ fd, FnM K "Keeping" "__init__" "Keeping.__init__" (clsAt (topS 61) 0) [] fd
  d_Keeping_m_placed : ∃ fd, FnM K "Keeping" "placed" "Keeping.placed" (clsAt (topS 61) 1) [] fd
  d_Keeping_m_writer : ∃ fd, FnM K "Keeping" "writer" "Keeping.writer" (clsAt (topS 61) 2) [] fd
  q_BadLooker : ExcC K (He.ga K "BadLooker")
  k_BadLooker_SignError : PySem.W.kitOne K (.ref (He.ga K "BadLooker")) (.ref (He.ga K "SignError")) = some true
  k_BadLooker_ValueError : PySem.W.kitOne K (.ref (He.ga K "BadLooker")) (.type "ValueError") = some true
  k_BadLooker_BadSigns : PySem.W.kitOne K (.ref (He.ga K "BadLooker")) (.ref (He.ga K "BadSigns")) = some false
  k_BadLooker_BadNumber : PySem.W.kitOne K (.ref (He.ga K "BadLooker")) (.ref (He.ga K "BadNumber")) = some false
  k_BadLooker_BadWriter : PySem.W.kitOne K (.ref (He.ga K "BadLooker")) (.ref (He.ga K "BadWriter")) = some false
theorem tx_mk {K : PySem.W.Frag} {h : Heap} {mg : Str → Option Value} (X : K.In h) (G : h.Ns mainGlobals mg) (c : He.SaysD fas fns K) (cx : exB K = true) : Tx K mg where
  g__wall := He.glo_ok X G (c.fact 0 (f := .glo "_wall") rfl)
  g_is_text_of := He.glo_ok X G (c.fact 1 (f := .glo "is_text_of") rfl)
  g_check_text := He.glo_ok X G (c.fact 2 (f := .glo "check_text") rfl)
  g_check_number := He.glo_ok X G (c.fact 3 (f := .glo "check_number") rfl)
  g_is_whole := He.glo_ok X G (c.fact 4 (f := .glo "is_whole") rfl)
  g_is_bit := He.glo_ok X G (c.fact 5 (f := .glo "is_bit") rfl)
  g_is_row := He.glo_ok X G (c.fact 6 (f := .glo "is_row") rfl)
  g_is_signs := He.glo_ok X G (c.fact 7 (f := .glo "is_signs") rfl)
  g_is_text := He.glo_ok X G (c.fact 8 (f := .glo "is_text") rfl)
  g_is_state := He.glo_ok X G (c.fact 9 (f := .glo "is_state") rfl)
  g_is_written := He.glo_ok X G (c.fact 10 (f := .glo "is_written") rfl)
  g_is_rising := He.glo_ok X G (c.fact 11 (f := .glo "is_rising") rfl)
  g_is_pairs := He.glo_ok X G (c.fact 12 (f := .glo "is_pairs") rfl)
  g_is_texts := He.glo_ok X G (c.fact 13 (f := .glo "is_texts") rfl)
  g_is_looker_value := He.glo_ok X G (c.fact 14 (f := .glo "is_looker_value") rfl)
  g_is_writer_value := He.glo_ok X G (c.fact 15 (f := .glo "is_writer_value") rfl)
  g_check_looker := He.glo_ok X G (c.fact 16 (f := .glo "check_looker") rfl)
  g_check_writer := He.glo_ok X G (c.fact 17 (f := .glo "check_writer") rfl)
  g_check_same_signs := He.glo_ok X G (c.fact 18 (f := .glo "check_same_signs") rfl)
  g_ascending := He.glo_ok X G (c.fact 19 (f := .glo "ascending") rfl)
  g_state_behind := He.glo_ok X G (c.fact 20 (f := .glo "state_behind") rfl)
  g_classes_of := He.glo_ok X G (c.fact 21 (f := .glo "classes_of") rfl)
  g_least_states := He.glo_ok X G (c.fact 22 (f := .glo "least_states") rfl)
  g_reverse_leads := He.glo_ok X G (c.fact 23 (f := .glo "reverse_leads") rfl)
  g_live_states := He.glo_ok X G (c.fact 24 (f := .glo "live_states") rfl)
  g_path_of := He.glo_ok X G (c.fact 25 (f := .glo "path_of") rfl)
  g_first_text := He.glo_ok X G (c.fact 26 (f := .glo "first_text") rfl)
  g_first_unlike := He.glo_ok X G (c.fact 27 (f := .glo "first_unlike") rfl)
  g_counts_behind := He.glo_ok X G (c.fact 28 (f := .glo "counts_behind") rfl)
  g_is_looker := He.glo_ok X G (c.fact 29 (f := .glo "is_looker") rfl)
  g_takes := He.glo_ok X G (c.fact 30 (f := .glo "takes") rfl)
  g_least := He.glo_ok X G (c.fact 31 (f := .glo "least") rfl)
  g_first_taken := He.glo_ok X G (c.fact 32 (f := .glo "first_taken") rfl)
  g_alike := He.glo_ok X G (c.fact 33 (f := .glo "alike") rfl)
  g_count_taken := He.glo_ok X G (c.fact 34 (f := .glo "count_taken") rfl)
  g_spread := He.glo_ok X G (c.fact 35 (f := .glo "spread") rfl)
  g_leads_of := He.glo_ok X G (c.fact 36 (f := .glo "leads_of") rfl)
  g_sources_of := He.glo_ok X G (c.fact 37 (f := .glo "sources_of") rfl)
  g_on_walks := He.glo_ok X G (c.fact 38 (f := .glo "on_walks") rfl)
  g_kept_pairs := He.glo_ok X G (c.fact 39 (f := .glo "kept_pairs") rfl)
  g_trimmed := He.glo_ok X G (c.fact 40 (f := .glo "trimmed") rfl)
  g_kept_on := He.glo_ok X G (c.fact 41 (f := .glo "kept_on") rfl)
  g_only_on := He.glo_ok X G (c.fact 42 (f := .glo "only_on") rfl)
  g__law_draw := He.glo_ok X G (c.fact 43 (f := .glo "_law_draw") rfl)
  g__law_pool := He.glo_ok X G (c.fact 44 (f := .glo "_law_pool") rfl)
  g__law_signs := He.glo_ok X G (c.fact 45 (f := .glo "_law_signs") rfl)
  g__law_same := He.glo_ok X G (c.fact 46 (f := .glo "_law_same") rfl)
  g__law_drawn_looker := He.glo_ok X G (c.fact 47 (f := .glo "_law_drawn_looker") rfl)
  g__law_whole_wrong := He.glo_ok X G (c.fact 48 (f := .glo "_law_whole_wrong") rfl)
  g__law_wrong := He.glo_ok X G (c.fact 49 (f := .glo "_law_wrong") rfl)
  g__law_refused := He.glo_ok X G (c.fact 50 (f := .glo "_law_refused") rfl)
  g_law := He.glo_ok X G (c.fact 51 (f := .glo "law") rfl)
  f_all := He.free_ok X G (c.fact 52 (f := .free "all") rfl)
  f_isinstance := He.free_ok X G (c.fact 53 (f := .free "isinstance") rfl)
  f_str := He.free_ok X G (c.fact 54 (f := .free "str") rfl)
  f_bool := He.free_ok X G (c.fact 55 (f := .free "bool") rfl)
  f_int := He.free_ok X G (c.fact 56 (f := .free "int") rfl)
  f_tuple := He.free_ok X G (c.fact 57 (f := .free "tuple") rfl)
  f_len := He.free_ok X G (c.fact 58 (f := .free "len") rfl)
  f_set := He.free_ok X G (c.fact 59 (f := .free "set") rfl)
  f_range := He.free_ok X G (c.fact 60 (f := .free "range") rfl)
  f_sorted := He.free_ok X G (c.fact 61 (f := .free "sorted") rfl)
  f_enumerate := He.free_ok X G (c.fact 62 (f := .free "enumerate") rfl)
  f_sum := He.free_ok X G (c.fact 63 (f := .free "sum") rfl)
  f_zip := He.free_ok X G (c.fact 64 (f := .free "zip") rfl)
  f_min := He.free_ok X G (c.fact 65 (f := .free "min") rfl)
  f_list := He.free_ok X G (c.fact 66 (f := .free "list") rfl)
  f_repr := He.free_ok X G (c.fact 67 (f := .free "repr") rfl)
  f_ValueError := He.free_ok X G (c.fact 68 (f := .free "ValueError") rfl)
  g_Numbering := He.glo_ok X G (c.fact 75 (f := .glo "Numbering") rfl)
  g_Keeping := He.glo_ok X G (c.fact 76 (f := .glo "Keeping") rfl)
  e_SignError := excF_mk (He.glo_ok X G (c.fact 69 (f := .glo "SignError") rfl)) (c.fact 77 (f := .exc "SignError") rfl)
  e_BadSigns := excF_mk (He.glo_ok X G (c.fact 70 (f := .glo "BadSigns") rfl)) (c.fact 78 (f := .exc "BadSigns") rfl)
  e_BadNumber := excF_mk (He.glo_ok X G (c.fact 71 (f := .glo "BadNumber") rfl)) (c.fact 79 (f := .exc "BadNumber") rfl)
  e_BadLooker := excF_mk (He.glo_ok X G (c.fact 72 (f := .glo "BadLooker") rfl)) (c.fact 80 (f := .exc "BadLooker") rfl)
  e_BadWriter := excF_mk (He.glo_ok X G (c.fact 73 (f := .glo "BadWriter") rfl)) (c.fact 81 (f := .exc "BadWriter") rfl)
  c_MOST_SIGNS := He.int_ok X G (c.fact 82 (f := .int "MOST_SIGNS" 5) rfl)
  c_MOST_LOOKER := He.int_ok X G (c.fact 83 (f := .int "MOST_LOOKER" 600) rfl)
  c_MOST_WRITER := He.int_ok X G (c.fact 84 (f := .int "MOST_WRITER" 2000) rfl)
  c_MOST_LENGTH := He.int_ok X G (c.fact 85 (f := .int "MOST_LENGTH" 200) rfl)
  cl_Numbering := He.cls_ok (c.fact 86 (f := .cls "Numbering") rfl)
  mk_Numbering := He.mkr_ok (c.fact 87 (f := .mkr "Numbering") rfl)
  na_Numbering_most := He.noat_ok (c.fact 88 (f := .noat "Numbering" "most") rfl)
  na_Numbering_what := He.noat_ok (c.fact 89 (f := .noat "Numbering" "what") rfl)
  na_Numbering_order := He.noat_ok (c.fact 90 (f := .noat "Numbering" "order") rfl)
  na_Numbering_places := He.noat_ok (c.fact 91 (f := .noat "Numbering" "places") rfl)
  m_Numbering_number := He.meth_ok (c.fact 92 (f := .meth "Numbering" "number") rfl)
  m_Numbering_met := He.meth_ok (c.fact 93 (f := .meth "Numbering" "met") rfl)
  m_Numbering_key_at := He.meth_ok (c.fact 94 (f := .meth "Numbering" "key_at") rfl)
  m_Numbering_is_known := He.meth_ok (c.fact 95 (f := .meth "Numbering" "is_known") rfl)
  cl_Keeping := He.cls_ok (c.fact 96 (f := .cls "Keeping") rfl)
  mk_Keeping := He.mkr_ok (c.fact 97 (f := .mkr "Keeping") rfl)
  na_Keeping_one := He.noat_ok (c.fact 98 (f := .noat "Keeping" "one") rfl)
  na_Keeping_states := He.noat_ok (c.fact 99 (f := .noat "Keeping" "states") rfl)
  na_Keeping_live := He.noat_ok (c.fact 100 (f := .noat "Keeping" "live") rfl)
  na_Keeping_numbering := He.noat_ok (c.fact 101 (f := .noat "Keeping" "numbering") rfl)
  m_Keeping_placed := He.meth_ok (c.fact 102 (f := .meth "Keeping" "placed") rfl)
  m_Keeping_writer := He.meth_ok (c.fact 103 (f := .meth "Keeping" "writer") rfl)
  x_BadLooker_BadLooker := He.exm_ok (c.fact 104 (f := .exm "BadLooker" "BadLooker" true) rfl)
  d__wall := c.def_ 0 (d := dd 0 "_wall") rfl
  d_is_text_of := c.def_ 1 (d := dd 9 "is_text_of") rfl
  d_check_text := c.def_ 2 (d := dd 10 "check_text") rfl
  d_check_number := c.def_ 3 (d := dd 11 "check_number") rfl
  d_is_whole := c.def_ 4 (d := dd 16 "is_whole") rfl
  d_is_bit := c.def_ 5 (d := dd 17 "is_bit") rfl
  d_is_row := c.def_ 6 (d := dd 18 "is_row") rfl
  d_is_signs := c.def_ 7 (d := dd 19 "is_signs") rfl
  d_is_text := c.def_ 8 (d := dd 20 "is_text") rfl
  d_is_state := c.def_ 9 (d := dd 21 "is_state") rfl
  d_is_written := c.def_ 10 (d := dd 22 "is_written") rfl
  d_is_rising := c.def_ 11 (d := dd 23 "is_rising") rfl
  d_is_pairs := c.def_ 12 (d := dd 24 "is_pairs") rfl
  d_is_texts := c.def_ 13 (d := dd 25 "is_texts") rfl
  d_is_looker_value := c.def_ 14 (d := dd 26 "is_looker_value") rfl
  d_is_writer_value := c.def_ 15 (d := dd 27 "is_writer_value") rfl
  d_check_looker := c.def_ 16 (d := dd 29 "check_looker") rfl
  d_check_writer := c.def_ 17 (d := dd 30 "check_writer") rfl
  d_check_same_signs := c.def_ 18 (d := dd 31 "check_same_signs") rfl
  d_ascending := c.def_ 19 (d := dd 34 "ascending") rfl
  d_state_behind := c.def_ 20 (d := dd 36 "state_behind") rfl
  d_classes_of := c.def_ 21 (d := dd 37 "classes_of") rfl
  d_least_states := c.def_ 22 (d := dd 38 "least_states") rfl
  d_reverse_leads := c.def_ 23 (d := dd 39 "reverse_leads") rfl
  d_live_states := c.def_ 24 (d := dd 40 "live_states") rfl
  d_path_of := c.def_ 25 (d := dd 41 "path_of") rfl
  d_first_text := c.def_ 26 (d := dd 42 "first_text") rfl
  d_first_unlike := c.def_ 27 (d := dd 43 "first_unlike") rfl
  d_counts_behind := c.def_ 28 (d := dd 44 "counts_behind") rfl
  d_is_looker := c.def_ 29 (d := dd 47 "is_looker") rfl
  d_takes := c.def_ 30 (d := dd 48 "takes") rfl
  d_least := c.def_ 31 (d := dd 49 "least") rfl
  d_first_taken := c.def_ 32 (d := dd 50 "first_taken") rfl
  d_alike := c.def_ 33 (d := dd 51 "alike") rfl
  d_count_taken := c.def_ 34 (d := dd 52 "count_taken") rfl
  d_spread := c.def_ 35 (d := dd 54 "spread") rfl
  d_leads_of := c.def_ 36 (d := dd 55 "leads_of") rfl
  d_sources_of := c.def_ 37 (d := dd 56 "sources_of") rfl
  d_on_walks := c.def_ 38 (d := dd 57 "on_walks") rfl
  d_kept_pairs := c.def_ 39 (d := dd 58 "kept_pairs") rfl
  d_trimmed := c.def_ 40 (d := dd 59 "trimmed") rfl
  d_kept_on := c.def_ 41 (d := dd 62 "kept_on") rfl
  d_only_on := c.def_ 42 (d := dd 64 "only_on") rfl
  d__law_draw := c.def_ 43 (d := dd 66 "_law_draw") rfl
  d__law_pool := c.def_ 44 (d := dd 67 "_law_pool") rfl
  d__law_signs := c.def_ 45 (d := dd 68 "_law_signs") rfl
  d__law_same := c.def_ 46 (d := dd 69 "_law_same") rfl
  d__law_drawn_looker := c.def_ 47 (d := dd 70 "_law_drawn_looker") rfl
  d__law_whole_wrong := c.def_ 48 (d := dd 71 "_law_whole_wrong") rfl
  d__law_wrong := c.def_ 49 (d := dd 72 "_law_wrong") rfl
  d__law_refused := c.def_ 50 (d := dd 73 "_law_refused") rfl
  d_law := c.def_ 51 (d := dd 74 "law") rfl
  d_Numbering_m___init__ := c.def_ 52 (d := ⟨("Numbering", some "__init__"), "__init__", "Numbering.__init__", defArgs (clsAt (topS 33) 0), defBody (clsAt (topS 33) 0), defScope (clsAt (topS 33) 0), [.str "states"], []⟩) rfl
  d_Numbering_m_number := c.def_ 53 (d := ⟨("Numbering", some "number"), "number", "Numbering.number", defArgs (clsAt (topS 33) 1), defBody (clsAt (topS 33) 1), defScope (clsAt (topS 33) 1), [], []⟩) rfl
  d_Numbering_m_met := c.def_ 54 (d := ⟨("Numbering", some "met"), "met", "Numbering.met", defArgs (clsAt (topS 33) 2), defBody (clsAt (topS 33) 2), defScope (clsAt (topS 33) 2), [], []⟩) rfl
  d_Numbering_m_key_at := c.def_ 55 (d := ⟨("Numbering", some "key_at"), "key_at", "Numbering.key_at", defArgs (clsAt (topS 33) 3), defBody (clsAt (topS 33) 3), defScope (clsAt (topS 33) 3), [], []⟩) rfl
  d_Numbering_m_is_known := c.def_ 56 (d := ⟨("Numbering", some "is_known"), "is_known", "Numbering.is_known", defArgs (clsAt (topS 33) 4), defBody (clsAt (topS 33) 4), defScope (clsAt (topS 33) 4), [], []⟩) rfl
  d_Keeping_m___init__ := c.def_ 57 (d := ⟨("Keeping", some "__init__"), "__init__", "Keeping.__init__", defArgs (clsAt (topS 61) 0), defBody (clsAt (topS 61) 0), defScope (clsAt (topS 61) 0), [], []⟩) rfl
  d_Keeping_m_placed := c.def_ 58 (d := ⟨("Keeping", some "placed"), "placed", "Keeping.placed", defArgs (clsAt (topS 61) 1), defBody (clsAt (topS 61) 1), defScope (clsAt (topS 61) 1), [], []⟩) rfl
  d_Keeping_m_writer := c.def_ 59 (d := ⟨("Keeping", some "writer"), "writer", "Keeping.writer", defArgs (clsAt (topS 61) 2), defBody (clsAt (topS 61) 2), defScope (clsAt (topS 61) 2), [], []⟩) rfl
  q_BadLooker := excCB_ok (exAt cx (l := exL K) (i := 0) rfl)
  k_BadLooker_SignError := of_decide_eq_true (exAt cx (l := exL K) (i := 1) rfl)
  k_BadLooker_ValueError := of_decide_eq_true (exAt cx (l := exL K) (i := 2) rfl)
  k_BadLooker_BadSigns := of_decide_eq_true (exAt cx (l := exL K) (i := 3) rfl)
  k_BadLooker_BadNumber := of_decide_eq_true (exAt cx (l := exL K) (i := 4) rfl)
  k_BadLooker_BadWriter := of_decide_eq_true (exAt cx (l := exL K) (i := 5) rfl)
end K34

namespace K34
open PySem PySem.Spec PyProof.Rows L2 Sg
section
variable {P : Program} {w : World} {K : PySem.W.Frag} {mg : Str → Option Value} {base : Heap}
theorem sc_is_whole : FnScope ["value"] ["value"] (defScope (topS 16)) := ⟨rfl, rfl, rfl, by decide +kernel, rfl, by decide +kernel, by decide +kernel⟩
theorem bd_is_whole {K : PySem.W.Frag} {f : Addr} {fd : FuncData} (F : FnP K "is_whole" (topS 16) f fd) : Binds K fd ["value"] [] := F.bindsN fun _ _ _ _ _ _ us hl => match us, hl with | [_], _ => rfl
def spWh (K : PySem.W.Frag) : Sp := fun vs H Q _ => ∃ x, vs = [x] ∧ Kd K H x ∧ Q (.bl (isWh x)) H
theorem ok_is_whole (T : Tx K mg) : Dk P w K mg base 1 "is_whole" ["value"] (spWh K) := by
  obtain ⟨fd, F⟩ := T.d_is_whole
  refine ⟨⟨fd, F.ok sc_is_whole (fun vs H Q E h => ?_) (fun cdv A outer s H vs Q E hr h => ?_), bd_is_whole F⟩, F.kp, T.g_is_whole⟩
  · obtain ⟨x, rfl, _⟩ := h
    rfl
  · obtain ⟨x, rfl, hx, q⟩ := h
    refine ⟨_, PSs.nox (pss_one (ps_ret (pe_and (pe_callB call_isK (by rfl) T.f_isinstance PyProof.Rows.boot_isinstance (pa_cons (pv 0) (pa_cons (pe_bltn (v := .ty "int") (by rfl) T.f_int PyProof.Rows.boot_int rfl) pa_nil))) (pe_and (pe_not (pe_callB call_isK (by rfl) T.f_isinstance PyProof.Rows.boot_isinstance (pa_cons (pv 0) (pa_cons (pe_bltn (v := .ty "bool") (by rfl) T.f_bool PyProof.Rows.boot_bool rfl) pa_nil)))) (pe_one (pe_cmpR op_ge (pv 0) pe_int (nomark _))))))), ?_⟩
    simp only [cxOf, tYes, eq_self, if_true, if_false, wipe, rLenQ, rIxTQ, rIxLQ, rIxSQ, rInt1Q, rTupQ, rAppQ, rPopQ, rPopAtQ, rRevQ, rListS, rReprP, tLenSetT, tChain, tRetN, tRet, tSeq, tAsg, gName, tVar, tC, tCons, tNil, tCB, tOp, rI0, rI, tAndV, tOrV, tNotV, tIf, tTest, tB, tNot, tAnd, tOr, tIfS, tNext, tCallR, rIsK, rEq, rNe, tDrop, L2.start, List.map_cons, List.map_nil, List.length_cons, List.length_nil, Nat.reduceAdd, Nat.reduceSub, Nat.sub_self, List.replicate_zero, List.replicate_succ, List.append_nil, List.cons_append, List.nil_append, List.getElem?_cons_zero, List.getElem?_cons_succ, List.set_cons_zero, List.set_cons_succ, Option.some.injEq, List.cons.injEq, and_true, true_and, exists_eq_left, exists_eq_left', exists_eq_right, V.ty.injEq, V.int.injEq, V.bl.injEq, V.str.injEq, V.ref.injEq, exists_and_left, exists_const, reduceIte, reduceCtorEq, false_and, and_false, exists_false, or_false, false_or, Bool.not_true, Bool.not_false, Bool.false_eq_true, String.reduceEq, true_or, or_true]
    refine ⟨hx, ?_⟩
    cases hx <;> simp only [isaB, isWh] at q ⊢ <;> simp_all [Kd.int, Kd.bl, Kd.non, Kd.str]
theorem sc_is_bit : FnScope ["value"] ["value"] (defScope (topS 17)) := ⟨rfl, rfl, rfl, by decide +kernel, rfl, by decide +kernel, by decide +kernel⟩
theorem bd_is_bit {K : PySem.W.Frag} {f : Addr} {fd : FuncData} (F : FnP K "is_bit" (topS 17) f fd) : Binds K fd ["value"] [] := F.bindsN fun _ _ _ _ _ _ us hl => match us, hl with | [_], _ => rfl
def spBt (K : PySem.W.Frag) : Sp := fun vs H Q _ => ∃ x, vs = [x] ∧ Kd K H x ∧ Q (.bl (isBt x)) H
theorem ok_is_bit (T : Tx K mg) : Dk P w K mg base 2 "is_bit" ["value"] (spBt K) := by
  have D_is_whole := ok_is_whole (P := P) (w := w) (base := base) T
  obtain ⟨fd, F⟩ := T.d_is_bit
  refine ⟨⟨fd, F.ok sc_is_bit (fun vs H Q E h => ?_) (fun cdv A outer s H vs Q E hr h => ?_), bd_is_bit F⟩, F.kp, T.g_is_bit⟩
  · obtain ⟨x, rfl, _⟩ := h
    rfl
  · obtain ⟨x, rfl, hx, q⟩ := h
    refine ⟨_, PSs.nox (pss_one (ps_ret (pe_and (pe_callR D_is_whole (hr.mono (by decide)) takes0 (pa_cons (pv 0) pa_nil)) (pe_one (pe_cmpR op_le (pv 0) pe_int (nomark _)))))), ?_⟩
    simp only [cxOf, tYes, eq_self, if_true, if_false, wipe, rLenQ, rIxTQ, rIxLQ, rIxSQ, rInt1Q, rTupQ, rAppQ, rPopQ, rPopAtQ, rRevQ, rListS, rReprP, tLenSetT, tChain, tRetN, tRet, tSeq, tAsg, gName, tVar, tC, tCons, tNil, tCB, tOp, rI0, rI, tAndV, tOrV, tNotV, tIf, tTest, tB, tNot, tAnd, tOr, tIfS, tNext, tCallR, rIsK, rEq, rNe, tDrop, L2.start, List.map_cons, List.map_nil, List.length_cons, List.length_nil, Nat.reduceAdd, Nat.reduceSub, Nat.sub_self, List.replicate_zero, List.replicate_succ, List.append_nil, List.cons_append, List.nil_append, List.getElem?_cons_zero, List.getElem?_cons_succ, List.set_cons_zero, List.set_cons_succ, Option.some.injEq, List.cons.injEq, and_true, true_and, exists_eq_left, exists_eq_left', exists_eq_right, V.ty.injEq, V.int.injEq, V.bl.injEq, V.str.injEq, V.ref.injEq, exists_and_left, exists_const, reduceIte, reduceCtorEq, false_and, and_false, exists_false, or_false, false_or, Bool.not_true, Bool.not_false, Bool.false_eq_true, String.reduceEq, true_or, or_true]
    refine ⟨x, rfl, hx, _, rfl, ?_⟩
    cases hx <;> simp only [isBt, isWh] at q ⊢ <;> simp_all
    rename_i i
    by_cases h0 : 0 ≤ i <;> simp_all
    exact fun z => absurd z (by omega)
theorem sc_is_row : FnScope ["value", "size"] ["value", "size"] (defScope (topS 18)) := ⟨rfl, rfl, rfl, by decide +kernel, rfl, by decide +kernel, by decide +kernel⟩
theorem bd_is_row {K : PySem.W.Frag} {f : Addr} {fd : FuncData} (F : FnP K "is_row" (topS 18) f fd) : Binds K fd ["value", "size"] [] := F.bindsN fun _ _ _ _ _ _ us hl => match us, hl with | [_, _], _ => rfl
def spRw (K : PySem.W.Frag) : Sp := fun vs H Q _ => ∃ x n b, vs = [x, .int n] ∧ RowB K H x n b ∧ Q (.bl b) H
theorem ok_is_row (T : Tx K mg) : Dk P w K mg base 1 "is_row" ["value", "size"] (spRw K) := by
  obtain ⟨fd, F⟩ := T.d_is_row
  refine ⟨⟨fd, F.ok sc_is_row (fun vs H Q E h => ?_) (fun cdv A outer s H vs Q E hr h => ?_), bd_is_row F⟩, F.kp, T.g_is_row⟩
  · obtain ⟨x, n, b, rfl, _⟩ := h
    rfl
  · obtain ⟨x, n, b, rfl, hx, q⟩ := h
    refine ⟨_, PSs.nox (pss_one (ps_ret (pe_and (pe_callB call_isK (by rfl) T.f_isinstance PyProof.Rows.boot_isinstance (pa_cons (pv 0) (pa_cons (pe_bltn (v := .ty "tuple") (by rfl) T.f_tuple PyProof.Rows.boot_tuple rfl) pa_nil))) (pe_one (pe_cmpR op_eq (pe_callB call_lenQ (by rfl) T.f_len PySem.boot_len (pa_cons (pv 0) pa_nil)) (pv 1) (nomark _)))))), ?_⟩
    simp only [cxOf, tYes, eq_self, if_true, if_false, wipe, rLenQ, rIxTQ, rIxLQ, rIxSQ, rInt1Q, rTupQ, rAppQ, rPopQ, rPopAtQ, rRevQ, rListS, rReprP, tLenSetT, tChain, tRetN, tRet, tSeq, tAsg, gName, tVar, tC, tCons, tNil, tCB, tOp, rI0, rI, tAndV, tOrV, tNotV, tIf, tTest, tB, tNot, tAnd, tOr, tIfS, tNext, tCallR, rIsK, rEq, rNe, tDrop, L2.start, List.map_cons, List.map_nil, List.length_cons, List.length_nil, Nat.reduceAdd, Nat.reduceSub, Nat.sub_self, List.replicate_zero, List.replicate_succ, List.append_nil, List.cons_append, List.nil_append, List.getElem?_cons_zero, List.getElem?_cons_succ, List.set_cons_zero, List.set_cons_succ, Option.some.injEq, List.cons.injEq, and_true, true_and, exists_eq_left, exists_eq_left', exists_eq_right, V.ty.injEq, V.int.injEq, V.bl.injEq, V.str.injEq, V.ref.injEq, exists_and_left, exists_const, reduceIte, reduceCtorEq, false_and, and_false, exists_false, or_false, false_or, Bool.not_true, Bool.not_false, Bool.false_eq_true, String.reduceEq, true_or, or_true]
    rcases hx with ⟨a, xs, rfl, hx, rfl⟩ | ⟨hx, e, rfl⟩
    · refine ⟨.tup hx, ifT rfl ⟨xs, .inr hx, rfl, ?_⟩⟩
      simpa using q
    · exact ⟨hx, ifF e q⟩
theorem sc_is_state : FnScope ["value", "many"] ["value", "many"] (defScope (topS 21)) := ⟨rfl, rfl, rfl, by decide +kernel, rfl, by decide +kernel, by decide +kernel⟩
theorem bd_is_state {K : PySem.W.Frag} {f : Addr} {fd : FuncData} (F : FnP K "is_state" (topS 21) f fd) : Binds K fd ["value", "many"] [] := F.bindsN fun _ _ _ _ _ _ us hl => match us, hl with | [_, _], _ => rfl
def spSt (K : PySem.W.Frag) : Sp := fun vs H Q _ => ∃ x n, vs = [x, .int n] ∧ Kd K H x ∧ Q (.bl (isSt n x)) H
theorem ok_is_state (T : Tx K mg) : Dk P w K mg base 2 "is_state" ["value", "many"] (spSt K) := by
  have D_is_whole := ok_is_whole (P := P) (w := w) (base := base) T
  obtain ⟨fd, F⟩ := T.d_is_state
  refine ⟨⟨fd, F.ok sc_is_state (fun vs H Q E h => ?_) (fun cdv A outer s H vs Q E hr h => ?_), bd_is_state F⟩, F.kp, T.g_is_state⟩
  · obtain ⟨x, n, rfl, _⟩ := h
    rfl
  · obtain ⟨x, n, rfl, hx, q⟩ := h
    refine ⟨_, PSs.nox (pss_one (ps_ret (pe_and (pe_callR D_is_whole (hr.mono (by decide)) takes0 (pa_cons (pv 0) pa_nil)) (pe_one (pe_cmpR op_lt (pv 0) (pv 1) (nomark _)))))), ?_⟩
    simp only [cxOf, tYes, eq_self, if_true, if_false, wipe, rLenQ, rIxTQ, rIxLQ, rIxSQ, rInt1Q, rTupQ, rAppQ, rPopQ, rPopAtQ, rRevQ, rListS, rReprP, tLenSetT, tChain, tRetN, tRet, tSeq, tAsg, gName, tVar, tC, tCons, tNil, tCB, tOp, rI0, rI, tAndV, tOrV, tNotV, tIf, tTest, tB, tNot, tAnd, tOr, tIfS, tNext, tCallR, rIsK, rEq, rNe, tDrop, L2.start, List.map_cons, List.map_nil, List.length_cons, List.length_nil, Nat.reduceAdd, Nat.reduceSub, Nat.sub_self, List.replicate_zero, List.replicate_succ, List.append_nil, List.cons_append, List.nil_append, List.getElem?_cons_zero, List.getElem?_cons_succ, List.set_cons_zero, List.set_cons_succ, Option.some.injEq, List.cons.injEq, and_true, true_and, exists_eq_left, exists_eq_left', exists_eq_right, V.ty.injEq, V.int.injEq, V.bl.injEq, V.str.injEq, V.ref.injEq, exists_and_left, exists_const, reduceIte, reduceCtorEq, false_and, and_false, exists_false, or_false, false_or, Bool.not_true, Bool.not_false, Bool.false_eq_true, String.reduceEq, true_or, or_true]
    refine ⟨x, rfl, hx, _, rfl, ?_⟩
    cases hx <;> simp only [isSt, isWh] at q ⊢ <;> simp_all
    rename_i i
    by_cases h0 : 0 ≤ i <;> simp_all
    exact fun z => absurd z (by omega)
theorem sc_is_text_of : FnScope ["signs", "value", "char"] ["signs", "value"] (defScope (topS 9)) := ⟨rfl, rfl, rfl, by decide +kernel, rfl, by decide +kernel, by decide +kernel⟩
theorem bd_is_text_of {K : PySem.W.Frag} {f : Addr} {fd : FuncData} (F : FnP K "is_text_of" (topS 9) f fd) : Binds K fd ["signs", "value"] [] := F.bindsN fun _ _ _ _ _ _ us hl => match us, hl with | [_, _], _ => rfl
def txB (z t : Str) : Bool := t.cps.toList.all fun c => decide (c ∈ z.cps.toList)
def spTx (K : PySem.W.Frag) : Sp := fun vs H Q _ => ∃ z v, vs = [.str z, v] ∧ ((∃ t, v = .str t ∧ t.length ≤ 100000 ∧ ∀ H', Same H H' → Q (.bl (txB z t)) H') ∨ (Kd K H v ∧ isaB "str" v = false ∧ Q (.bl false) H))
theorem ok_is_text_of (T : Tx K mg) : Dk P w K mg base 1 "is_text_of" ["signs", "value"] (spTx K) := by
  obtain ⟨fd, F⟩ := T.d_is_text_of
  refine ⟨⟨fd, F.ok sc_is_text_of (fun vs H Q E h => ?_) (fun cdv A outer s H vs Q E hr h => ?_), bd_is_text_of F⟩, F.kp, T.g_is_text_of⟩
  · obtain ⟨z, v, rfl, _⟩ := h
    rfl
  · obtain ⟨z, v, rfl, h⟩ := h
    refine ⟨_, PSs.nox (pss_cons (ps_if (pt_not (pt_val (pe_callB call_isK (by rfl) T.f_isinstance PyProof.Rows.boot_isinstance (pa_cons (pv 1) (pa_cons (pe_bltn (v := .ty "str") (by rfl) T.f_str PyProof.Rows.boot_str rfl) pa_nil))))) (pss_one (ps_ret pe_bl)) pss_nil)
      (pss_one (ps_ret (pe_callB (cr_all rfl) (by rfl) T.f_all (by decide +kernel) (pa_cons (pe_lc (own := [("char", 2)]) rfl sc_is_text_of.nd (pi_str (pv 1)) (blkOk_by (own := [("char", 2)]) (N := ["signs", "value", "char"]) (sc := defScope (topS 9)) (by decide +kernel)) (fun _ _ _ _ _ => (pg_name (i := 2) sc_is_text_of.nd rfl (.inl rfl))) (fun _ _ _ _ _ => pts_nil) (fun _ _ _ _ _ => (pe_cmpR op_in_sign (pv 2) (pv 0) rfl))) pa_nil))))), ?_⟩
    simp only [cxOf, tYes, eq_self, if_true, if_false, wipe, rLenQ, rIxTQ, rIxLQ, rIxSQ, rInt1Q, rTupQ, rAppQ, rPopQ, rPopAtQ, rRevQ, rListS, rReprP, tLenSetT, tChain, tRetN, tRet, tSeq, tAsg, gName, tVar, tC, tCons, tNil, tCB, tOp, rI0, rI, tAndV, tOrV, tNotV, tIf, tTest, tB, tNot, tAnd, tOr, tIfS, tNext, tCallR, rIsK, rEq, rNe, tDrop, L2.start, List.map_cons, List.map_nil, List.length_cons, List.length_nil, Nat.reduceAdd, Nat.reduceSub, Nat.sub_self, List.replicate_zero, List.replicate_succ, List.append_nil, List.cons_append, List.nil_append, List.getElem?_cons_zero, List.getElem?_cons_succ, List.set_cons_zero, List.set_cons_succ, Option.some.injEq, List.cons.injEq, and_true, true_and, exists_eq_left, exists_eq_left', exists_eq_right, V.ty.injEq, V.int.injEq, V.bl.injEq, V.str.injEq, V.ref.injEq, exists_and_left, exists_const, reduceIte, reduceCtorEq, false_and, and_false, exists_false, or_false, false_or, Bool.not_true, Bool.not_false, Bool.false_eq_true, String.reduceEq, true_or, or_true]
    rcases h with ⟨t, rfl, ht, q⟩ | ⟨hx, e, q⟩
    · refine ⟨.str t, ifF (by simp [isaB]) ⟨.str t, rfl, t, rfl, fun D hD => ?_⟩⟩
      refine lc_gen (n := t.cps.size) (fun i H' => Same H H' ∧ H' D = some (.lst ((t.cps.toList.take i).map fun c => V.bl (decide (c ∈ z.cps.toList))))) ⟨same_upd hD, upd_same⟩ (fun i H' hi _ => hi) (fun H' _ => Nat.le_refl _) ?_ ?_
      · rintro i x H1 H2 hi ⟨s1, e1⟩ ⟨rfl, c, hc, rfl⟩
        have hc2 : t.cps.toList[i]? = some c := by rw [Array.getElem?_toList]; exact hc
        refine ⟨rfl, ?_⟩
        simp only [cxOf, tYes, eq_self, if_true, if_false, wipe, rLenQ, rIxTQ, rIxLQ, rIxSQ, rInt1Q, rTupQ, rAppQ, rPopQ, rPopAtQ, rRevQ, rListS, rReprP, tLenSetT, tChain, tRetN, tRet, tSeq, tAsg, gName, tVar, tC, tCons, tNil, tCB, tOp, rI0, rI, tAndV, tOrV, tNotV, tIf, tTest, tB, tNot, tAnd, tOr, tIfS, tNext, tCallR, rIsK, rEq, rNe, tDrop, L2.start, List.map_cons, List.map_nil, List.length_cons, List.length_nil, Nat.reduceAdd, Nat.reduceSub, Nat.sub_self, List.replicate_zero, List.replicate_succ, List.append_nil, List.cons_append, List.nil_append, List.getElem?_cons_zero, List.getElem?_cons_succ, List.set_cons_zero, List.set_cons_succ, Option.some.injEq, List.cons.injEq, and_true, true_and, exists_eq_left, exists_eq_left', exists_eq_right, V.ty.injEq, V.int.injEq, V.bl.injEq, V.str.injEq, V.ref.injEq, exists_and_left, exists_const, reduceIte, reduceCtorEq, false_and, and_false, exists_false, or_false, false_or, Bool.not_true, Bool.not_false, Bool.false_eq_true, String.reduceEq, true_or, or_true]
        refine ⟨c, rfl, _, e1, ?_, ?_, ?_⟩
        · rw [List.length_map, List.length_take]
          exact szlt (m := 100000) (by have : t.cps.toList.length = t.length := Array.length_toList; omega)
        · exact fun b o hb => by rw [upd_ne (ne_of_none hb hD)]; exact s1 b o hb
        · rw [upd_same, List.take_add_one, hc2, List.map_append]
          rfl
      · rintro H1 ⟨s1, e1⟩
        have ee : t.cps.toList.take t.cps.size = t.cps.toList := List.take_of_length_le (by simp)
        rw [ee] at e1
        refine ⟨D, t.cps.toList.map fun c => decide (c ∈ z.cps.toList), rfl, .inl (.inl ?_), ?_⟩
        · rw [e1, List.map_map]
          rfl
        · have e2 : (t.cps.toList.map fun c => decide (c ∈ z.cps.toList)).all id = txB z t := by
            unfold txB
            rw [List.all_map]
            rfl
          rw [e2]
          exact q H1 s1
    · exact ⟨hx, ifT (by rw [e]; rfl) q⟩
theorem sc_is_signs : FnScope ["value"] ["value"] (defScope (topS 19)) := ⟨rfl, rfl, rfl, by decide +kernel, rfl, by decide +kernel, by decide +kernel⟩
theorem bd_is_signs {K : PySem.W.Frag} {f : Addr} {fd : FuncData} (F : FnP K "is_signs" (topS 19) f fd) : Binds K fd ["value"] [] := F.bindsN fun _ _ _ _ _ _ us hl => match us, hl with | [_], _ => rfl
def spSg (K : PySem.W.Frag) : Sp := fun vs H Q _ => ∃ x, vs = [x] ∧ Kd K H x ∧ (∀ z, x = .str z → z.length ≤ 1000) ∧ Q (.bl (sgV x)) H
theorem ok_is_signs (T : Tx K mg) : Dk P w K mg base 1 "is_signs" ["value"] (spSg K) := by
  obtain ⟨fd, F⟩ := T.d_is_signs
  refine ⟨⟨fd, F.ok sc_is_signs (fun vs H Q E h => ?_) (fun cdv A outer s H vs Q E hr h => ?_), bd_is_signs F⟩, F.kp, T.g_is_signs⟩
  · obtain ⟨x, rfl, _⟩ := h
    rfl
  · obtain ⟨x, rfl, hx, hz, q⟩ := h
    obtain ⟨_, c_MOST_SIGNS⟩ := T.c_MOST_SIGNS
    refine ⟨_, PSs.nox (pss_cons (ps_if (PW.pt (pw_or (pt_not (pt_val (pe_callB call_isK (by rfl) T.f_isinstance PyProof.Rows.boot_isinstance (pa_cons (pv 0) (pa_cons (pe_bltn (v := .ty "str") (by rfl) T.f_str PyProof.Rows.boot_str rfl) pa_nil))))) (pw_or1 (pt_not (pt_chain op_le op_le pe_int (pe_callB call_lenQ (by rfl) T.f_len PySem.boot_len (pa_cons (pv 0) pa_nil)) (pe_glob (v := .int 5) (by rfl) c_MOST_SIGNS ⟨_, rfl⟩)))))) (pss_one (ps_ret pe_bl)) pss_nil)
      (pss_one (ps_ret (pe_cmpR op_eq (pe_lenSetT (by rfl) T.f_len (by rfl) T.f_set (pv 0) rfl) (pe_callB call_lenQ (by rfl) T.f_len PySem.boot_len (pa_cons (pv 0) pa_nil)) (nomark _))))), ?_⟩
    simp only [cxOf, tYes, eq_self, if_true, if_false, wipe, rLenQ, rIxTQ, rIxLQ, rIxSQ, rInt1Q, rTupQ, rAppQ, rPopQ, rPopAtQ, rRevQ, rListS, rReprP, tLenSetT, tChain, tRetN, tRet, tSeq, tAsg, gName, tVar, tC, tCons, tNil, tCB, tOp, rI0, rI, tAndV, tOrV, tNotV, tIf, tTest, tB, tNot, tAnd, tOr, tIfS, tNext, tCallR, rIsK, rEq, rNe, tDrop, L2.start, List.map_cons, List.map_nil, List.length_cons, List.length_nil, Nat.reduceAdd, Nat.reduceSub, Nat.sub_self, List.replicate_zero, List.replicate_succ, List.append_nil, List.cons_append, List.nil_append, List.getElem?_cons_zero, List.getElem?_cons_succ, List.set_cons_zero, List.set_cons_succ, Option.some.injEq, List.cons.injEq, and_true, true_and, exists_eq_left, exists_eq_left', exists_eq_right, V.ty.injEq, V.int.injEq, V.bl.injEq, V.str.injEq, V.ref.injEq, exists_and_left, exists_const, reduceIte, reduceCtorEq, false_and, and_false, exists_false, or_false, false_or, Bool.not_true, Bool.not_false, Bool.false_eq_true, String.reduceEq, true_or, or_true]
    refine ⟨hx, ?_⟩
    cases hx with
    | str z =>
      have hz := hz z rfl
      refine ifF (by simp [isaB]) ⟨szle hz, ?_⟩
      have q : Q (.bl (sgB z)) H := q
      unfold sgB at q
      by_cases h1 : 1 ≤ z.length
      · refine ifT (decide_eq_true (by omega)) ?_
        by_cases h5 : z.length ≤ 5
        · refine ifF (by rw [decide_eq_true (by omega)]; rfl) ⟨hz, szle hz, rfl, ?_⟩
          rw [decide_eq_true h1, decide_eq_true h5] at q
          have e : decide (((once (signsOf z)).length : Int) = (z.length : Int)) = decide ((once (signsOf z)).length = z.length) := decide_eq_decide.mpr (by omega)
          rw [e]
          exact q
        · refine ifT (by rw [decide_eq_false (by omega)]; rfl) ?_
          simpa [h1, h5] using q
      · refine ifF (decide_eq_false (by omega)) ?_
        simpa [h1] using q
    | _ => exact ifT (by simp [isaB]) q
theorem sc_is_looker_value : FnScope ["value", "signs", "states", "state", "to"] ["value"] (defScope (topS 26)) := ⟨rfl, rfl, rfl, by decide +kernel, rfl, by decide +kernel, by decide +kernel⟩
theorem bd_is_looker_value {K : PySem.W.Frag} {f : Addr} {fd : FuncData} (F : FnP K "is_looker_value" (topS 26) f fd) : Binds K fd ["value"] [] := F.bindsN fun _ _ _ _ _ _ us hl => match us, hl with | [_], _ => rfl
def spLv (K : PySem.W.Frag) : Sp := fun vs H Q _ => ∃ v d, vs = [v] ∧ Dp K H v d ∧ noL d = true ∧ (∀ z r, d = .tuple (.str z :: r) → z.length ≤ 1000) ∧ Q (.bl (lkB d)) H
theorem ok_is_looker_value (T : Tx K mg) : Dk P w K mg base 3 "is_looker_value" ["value"] (spLv K) := by
  have D_is_row := ok_is_row (P := P) (w := w) (base := base) T
  have D_is_signs := ok_is_signs (P := P) (w := w) (base := base) T
  have D_is_bit := ok_is_bit (P := P) (w := w) (base := base) T
  have D_is_state := ok_is_state (P := P) (w := w) (base := base) T
  obtain ⟨fd, F⟩ := T.d_is_looker_value
  refine ⟨⟨fd, F.ok sc_is_looker_value (fun vs H Q E h => ?_) (fun cdv A outer s H vs Q E hr h => ?_), bd_is_looker_value F⟩, F.kp, T.g_is_looker_value⟩
  · obtain ⟨v, d, rfl, _⟩ := h
    rfl
  · obtain ⟨v, d, rfl, hv, hn, hz, q⟩ := h
    obtain ⟨_, c_MOST_LOOKER⟩ := T.c_MOST_LOOKER
    refine ⟨_, PSs.nox (pss_cons (ps_if (PW.pt (pw_or (pt_not (pt_val (pe_callR D_is_row (hr.mono (by decide)) takes0 (pa_cons (pv 0) (pa_cons pe_int pa_nil))))) (pw_or (pt_not (pt_val (pe_callR D_is_signs (hr.mono (by decide)) takes0 (pa_cons (pe_ix ix_tupQ (pv 0) pe_int (fun _ _ => rfl)) pa_nil)))) (pw_or1 (pt_not (pt_val (pe_callB call_isK (by rfl) T.f_isinstance PyProof.Rows.boot_isinstance (pa_cons (pe_ix ix_tupQ (pv 0) pe_int (fun _ _ => rfl)) (pa_cons (pe_bltn (v := .ty "tuple") (by rfl) T.f_tuple PyProof.Rows.boot_tuple rfl) pa_nil))))))))) (pss_one (ps_ret pe_bl)) pss_nil)
      (pss_cons (ps_asg (pv 0) (pg_tup (by rfl) (pgs_cons (pg_name (i := 1) sc_is_looker_value.nd rfl (.inl rfl)) (pgs_cons (pg_name (i := 2) sc_is_looker_value.nd rfl (.inl rfl)) pgs_nil))))
      (pss_cons (ps_if (pt_not (pt_chain op_le op_le pe_int (pe_callB call_lenQ (by rfl) T.f_len PySem.boot_len (pa_cons (pv 2) pa_nil)) (pe_glob (v := .int 600) (by rfl) c_MOST_LOOKER ⟨_, rfl⟩))) (pss_one (ps_ret pe_bl)) pss_nil)
      (pss_cons (ps_for PassesOwn.never rfl (pi_tup (pv 2)) (pg_name (i := 3) sc_is_looker_value.nd rfl (.inl rfl)) (pss_cons (ps_if (PW.pt (pw_or (pt_not (pt_val (pe_callR D_is_row (hr.mono (by decide)) takes0 (pa_cons (pv 3) (pa_cons pe_int pa_nil))))) (pw_or (pt_not (pt_val (pe_callR D_is_bit (hr.mono (by decide)) takes0 (pa_cons (pe_ix ix_tupQ (pv 3) pe_int (fun _ _ => rfl)) pa_nil)))) (pw_or1 (pt_not (pt_val (pe_callR D_is_row (hr.mono (by decide)) takes0 (pa_cons (pe_ix ix_tupQ (pv 3) pe_int (fun _ _ => rfl)) (pa_cons (pe_callB call_lenQ (by rfl) T.f_len PySem.boot_len (pa_cons (pv 1) pa_nil)) pa_nil))))))))) (pss_one (ps_ret pe_bl)) pss_nil)
      (pss_one (ps_for PassesOwn.never rfl (pi_tup (pe_ix ix_tupQ (pv 3) pe_int (fun _ _ => rfl))) (pg_name (i := 4) sc_is_looker_value.nd rfl (.inl rfl)) (pss_one (ps_if (pt_not (pt_val (pe_callR D_is_state (hr.mono (by decide)) takes0 (pa_cons (pv 4) (pa_cons (pe_callB call_lenQ (by rfl) T.f_len PySem.boot_len (pa_cons (pv 2) pa_nil)) pa_nil))))) (pss_one (ps_ret pe_bl)) pss_nil))))))
      (pss_one (ps_ret pe_bl)))))), ?_⟩
    simp only [cxOf, tYes, eq_self, if_true, if_false, wipe, rLenQ, rIxTQ, rIxLQ, rIxSQ, rInt1Q, rTupQ, rAppQ, rPopQ, rPopAtQ, rRevQ, rListS, rReprP, tLenSetT, tChain, tRetN, tRet, tSeq, tAsg, gName, tVar, tC, tCons, tNil, tCB, tOp, rI0, rI, tAndV, tOrV, tNotV, tIf, tTest, tB, tNot, tAnd, tOr, tIfS, tNext, tCallR, rIsK, rEq, rNe, tDrop, L2.start, List.map_cons, List.map_nil, List.length_cons, List.length_nil, Nat.reduceAdd, Nat.reduceSub, Nat.sub_self, List.replicate_zero, List.replicate_succ, List.append_nil, List.cons_append, List.nil_append, List.getElem?_cons_zero, List.getElem?_cons_succ, List.set_cons_zero, List.set_cons_succ, Option.some.injEq, List.cons.injEq, and_true, true_and, exists_eq_left, exists_eq_left', exists_eq_right, V.ty.injEq, V.int.injEq, V.bl.injEq, V.str.injEq, V.ref.injEq, exists_and_left, exists_const, reduceIte, reduceCtorEq, false_and, and_false, exists_false, or_false, false_or, Bool.not_true, Bool.not_false, Bool.false_eq_true, String.reduceEq, true_or, or_true]
    refine ⟨v, 2, _, rfl, Dp.rowB hv hn 2, _, rfl, ?_⟩
    by_cases r2 : rowN 2 d = true
    case neg =>
      refine ifT (by rw [Bool.eq_false_iff.mpr r2]; rfl) ?_
      rw [no_of (b := lkB d) fun h => r2 (by obtain ⟨z, ss, rfl, _⟩ := lkB_inv h; rfl)] at q
      exact q
    obtain ⟨a, x, y, e, f, rfl, rfl, ht, hx, hy, ne, nf⟩ := Dp.row2 hv hn r2
    refine ifF (by rw [r2]; rfl) ⟨_, ht, x, rfl, x, rfl, Dp.kd hx ne, ?_, _, rfl, ?_⟩
    · rintro z rfl
      cases hx
      exact hz z _ rfl
    by_cases sg : sgV x = true
    case neg =>
      refine ifT (by rw [Bool.eq_false_iff.mpr sg]; rfl) ?_
      rw [no_of (b := lkB (.tuple [e, f])) fun h => sg (by
        obtain ⟨z, ss, e1, hsg, _⟩ := lkB_inv h
        rw [Dp.sg hx]
        have e2 := (List.cons.inj (PyData.tuple.inj e1)).1
        rw [e2]
        exact hsg)] at q
      exact q
    refine ifF (by rw [sg]; rfl) ⟨_, ht, y, rfl, Dp.kd hy nf, ?_⟩
    by_cases tp : isaB "tuple" y = true
    case neg =>
      refine ifT (by rw [Bool.eq_false_iff.mpr tp]; rfl) ?_
      rw [no_of (b := lkB (.tuple [e, f])) fun h => tp (by
        obtain ⟨z, ss, e1, _⟩ := lkB_inv h
        have e2 := (List.cons.inj (List.cons.inj (PyData.tuple.inj e1)).2).1
        subst e2
        cases hy
        simp [isaB])] at q
      exact q
    obtain ⟨b, xs, ss, rfl, rfl, hb, hss, nss⟩ := Dp.isTup hy nf tp
    obtain ⟨z, rfl⟩ : ∃ z, x = .str z := by
      cases x <;> first | exact ⟨_, rfl⟩ | cases sg
    cases hx
    have hzs : z.length ≤ 5 := by
      have h : sgB z = true := sg
      unfold sgB at h
      simp only [Bool.and_eq_true, decide_eq_true_eq] at h
      exact h.2.1
    have hlen := dpAll_len hss
    have no : (∃ s ∈ ss, rowLk ss.length z.length s = false) → Q (.bl false) H := by
      rintro ⟨s, hs, hf⟩
      rw [no_of (b := lkB (.tuple [.str z, .tuple ss])) fun h => (by
        obtain ⟨z', ss', e1, _, _, _, h4⟩ := lkB_inv h
        have e2 := List.cons.inj (PyData.tuple.inj e1)
        have e3 := PyData.str.inj e2.1
        have e4 := PyData.tuple.inj (List.cons.inj e2.2).1
        subst e3 e4
        rw [h4 s hs] at hf
        cases hf)] at q
      exact q
    refine ifF (by rw [tp]; rfl) ⟨a, _, rfl, ht, rfl, _, _, rfl, _, _, rfl, rfl, ?_⟩
    simp only [cxOf, tYes, eq_self, if_true, if_false, wipe, rLenQ, rIxTQ, rIxLQ, rIxSQ, rInt1Q, rTupQ, rAppQ, rPopQ, rPopAtQ, rRevQ, rListS, rReprP, tLenSetT, tChain, tRetN, tRet, tSeq, tAsg, gName, tVar, tC, tCons, tNil, tCB, tOp, rI0, rI, tAndV, tOrV, tNotV, tIf, tTest, tB, tNot, tAnd, tOr, tIfS, tNext, tCallR, rIsK, rEq, rNe, tDrop, L2.start, List.map_cons, List.map_nil, List.length_cons, List.length_nil, Nat.reduceAdd, Nat.reduceSub, Nat.sub_self, List.replicate_zero, List.replicate_succ, List.append_nil, List.cons_append, List.nil_append, List.getElem?_cons_zero, List.getElem?_cons_succ, List.set_cons_zero, List.set_cons_succ, Option.some.injEq, List.cons.injEq, and_true, true_and, exists_eq_left, exists_eq_left', exists_eq_right, V.ty.injEq, V.int.injEq, V.bl.injEq, V.str.injEq, V.ref.injEq, exists_and_left, exists_const, reduceIte, reduceCtorEq, false_and, and_false, exists_false, or_false, false_or, Bool.not_true, Bool.not_false, Bool.false_eq_true, String.reduceEq, true_or, or_true]
    refine ⟨xs, .inr hb, ?_⟩
    by_cases l1 : 1 ≤ ss.length
    case neg =>
      refine ifF (decide_eq_false (by omega)) ?_
      rw [no_of (b := lkB (.tuple [.str z, .tuple ss])) fun h => (by
        obtain ⟨z', ss', e1, _, h2, _, _⟩ := lkB_inv h
        have e4 := PyData.tuple.inj (List.cons.inj (List.cons.inj (PyData.tuple.inj e1)).2).1
        subst e4
        exact l1 h2)] at q
      exact q
    refine ifT (decide_eq_true (by omega)) ?_
    by_cases l2 : ss.length ≤ 600
    case neg =>
      refine ifT (by rw [decide_eq_false (by omega)]; rfl) ?_
      rw [no_of (b := lkB (.tuple [.str z, .tuple ss])) fun h => (by
        obtain ⟨z', ss', e1, _, _, h3, _⟩ := lkB_inv h
        have e4 := PyData.tuple.inj (List.cons.inj (List.cons.inj (PyData.tuple.inj e1)).2).1
        subst e4
        exact l2 h3)] at q
      exact q
    refine ifF (by rw [decide_eq_true (by omega)]; rfl) ?_
    refine ⟨.ref b, rfl, b, rfl, ⟨xs, hb⟩, for_tup (K := K) (a := b) (xs := xs) (fun i σ H' => H' = H ∧ (∀ s ∈ ss.take i, rowLk ss.length z.length s = true) ∧ ∃ x3 x4, σ = [some (.ref a), some (.str z), some (.ref b), x3, x4]) ⟨rfl, (fun s hs => absurd hs (by simp)), _, _, rfl⟩ (fun i σ H' _ h => h.1 ▸ hb) (fun i x σ H' hi hP => ?_) (fun σ H' hP => ?_)⟩
    · obtain ⟨rfl, hall, x3, x4, rfl⟩ := hP
      obtain ⟨s, hs, hx⟩ := dpAll_get hss hi
      have hsm := List.mem_of_getElem? hs
      have nos := noLs_mem nss hsm
      simp only [cxOf, tYes, eq_self, if_true, if_false, wipe, rLenQ, rIxTQ, rIxLQ, rIxSQ, rInt1Q, rTupQ, rAppQ, rPopQ, rPopAtQ, rRevQ, rListS, rReprP, tLenSetT, tChain, tRetN, tRet, tSeq, tAsg, gName, tVar, tC, tCons, tNil, tCB, tOp, rI0, rI, tAndV, tOrV, tNotV, tIf, tTest, tB, tNot, tAnd, tOr, tIfS, tNext, tCallR, rIsK, rEq, rNe, tDrop, L2.start, List.map_cons, List.map_nil, List.length_cons, List.length_nil, Nat.reduceAdd, Nat.reduceSub, Nat.sub_self, List.replicate_zero, List.replicate_succ, List.append_nil, List.cons_append, List.nil_append, List.getElem?_cons_zero, List.getElem?_cons_succ, List.set_cons_zero, List.set_cons_succ, Option.some.injEq, List.cons.injEq, and_true, true_and, exists_eq_left, exists_eq_left', exists_eq_right, V.ty.injEq, V.int.injEq, V.bl.injEq, V.str.injEq, V.ref.injEq, exists_and_left, exists_const, reduceIte, reduceCtorEq, false_and, and_false, exists_false, or_false, false_or, Bool.not_true, Bool.not_false, Bool.false_eq_true, String.reduceEq, true_or, or_true]
      refine ⟨x, 2, _, rfl, Dp.rowB hx nos 2, _, rfl, ?_⟩
      by_cases r2 : rowN 2 s = true
      case neg => exact ifT (by rw [Bool.eq_false_iff.mpr r2]; rfl) (no ⟨s, hsm, no_of fun h => r2 (by obtain ⟨_, _, rfl, _⟩ := rowLk_inv h; rfl)⟩)
      obtain ⟨a1, x1, y1, e1, f1, rfl, rfl, ht1, hx1, hy1, ne1, nf1⟩ := Dp.row2 hx nos r2
      refine ifF (by rw [r2]; rfl) ⟨_, ht1, x1, rfl, x1, rfl, Dp.kd hx1 ne1, _, rfl, ?_⟩
      by_cases bt : isBt x1 = true
      case neg => exact ifT (by rw [Bool.eq_false_iff.mpr bt]; rfl) (no ⟨_, hsm, no_of fun h => bt (by
        obtain ⟨_, _, e2, hb2, _⟩ := rowLk_inv h
        rw [Dp.bt hx1, (List.cons.inj (PyData.tuple.inj e2)).1]
        exact hb2)⟩)
      refine ifF (by rw [bt]; rfl) ⟨_, ht1, y1, rfl, szle hzs, y1, _, _, rfl, Dp.rowB hy1 nf1 _, _, rfl, ?_⟩
      by_cases rw1 : rowN (z.length : Int) f1 = true
      case neg => exact ifT (by rw [Bool.eq_false_iff.mpr rw1]; rfl) (no ⟨_, hsm, no_of fun h => rw1 (by
        obtain ⟨_, ts, e2, _, hl2, _⟩ := rowLk_inv h
        rw [(List.cons.inj (List.cons.inj (PyData.tuple.inj e2)).2).1]
        show decide ((ts.length : Int) = z.length) = true
        rw [hl2]
        exact decide_eq_true rfl)⟩)
      refine ifF (by rw [rw1]; rfl) ?_
      obtain ⟨b1, xs1, ts, rfl, rfl, hb1, hts, nts⟩ : ∃ a xs ds, y1 = .ref a ∧ f1 = .tuple ds ∧ SqT K H' a xs ∧ DpAll K H' xs ds ∧ noLs ds = true := by
        cases hy1 with
        | tup k1 k2 => exact ⟨_, _, _, rfl, rfl, k1, k2, by simpa [noL] using nf1⟩
        | _ => cases rw1
      have htl : ts.length = z.length := by have := of_decide_eq_true rw1; omega
      refine ⟨.ref a1, rfl, _, _, ht1, rfl, b1, rfl, ⟨_, hb1⟩, for_tup (K := K) (a := b1) (xs := xs1) (fun j σ H2 => H2 = H' ∧ (∀ t ∈ ts.take j, stD ss.length t = true) ∧ ∃ x4, σ = [some (.ref a), some (.str z), some (.ref b), some (.ref a1), x4]) ⟨rfl, (fun s hs => absurd hs (by simp)), _, rfl⟩ (fun i σ H2 _ h => h.1 ▸ hb1) (fun j x σ H2 hj hP => ?_) (fun σ H2 hP => ?_)⟩
      · obtain ⟨rfl, hal2, x4, rfl⟩ := hP
        obtain ⟨t, ht2, hx2⟩ := dpAll_get hts hj
        have htm := List.mem_of_getElem? ht2
        simp only [cxOf, tYes, eq_self, if_true, if_false, wipe, rLenQ, rIxTQ, rIxLQ, rIxSQ, rInt1Q, rTupQ, rAppQ, rPopQ, rPopAtQ, rRevQ, rListS, rReprP, tLenSetT, tChain, tRetN, tRet, tSeq, tAsg, gName, tVar, tC, tCons, tNil, tCB, tOp, rI0, rI, tAndV, tOrV, tNotV, tIf, tTest, tB, tNot, tAnd, tOr, tIfS, tNext, tCallR, rIsK, rEq, rNe, tDrop, L2.start, List.map_cons, List.map_nil, List.length_cons, List.length_nil, Nat.reduceAdd, Nat.reduceSub, Nat.sub_self, List.replicate_zero, List.replicate_succ, List.append_nil, List.cons_append, List.nil_append, List.getElem?_cons_zero, List.getElem?_cons_succ, List.set_cons_zero, List.set_cons_succ, Option.some.injEq, List.cons.injEq, and_true, true_and, exists_eq_left, exists_eq_left', exists_eq_right, V.ty.injEq, V.int.injEq, V.bl.injEq, V.str.injEq, V.ref.injEq, exists_and_left, exists_const, reduceIte, reduceCtorEq, false_and, and_false, exists_false, or_false, false_or, Bool.not_true, Bool.not_false, Bool.false_eq_true, String.reduceEq, true_or, or_true]
        refine ⟨xs, .inr hb, x, _, rfl, Dp.kd hx2 (noLs_mem nts htm), _, rfl, ?_⟩
        rw [Dp.st hx2, hlen]
        by_cases st : stD ss.length t = true
        case neg => exact ifT (by rw [Bool.eq_false_iff.mpr st]; rfl) (no ⟨_, hsm, no_of fun h => st (by
          obtain ⟨_, ts', e2, _, _, hl3⟩ := rowLk_inv h
          have e4 := PyData.tuple.inj (List.cons.inj (List.cons.inj (PyData.tuple.inj e2)).2).1
          subst e4
          exact hl3 t htm)⟩)
        refine ifF (by rw [st]; rfl) ⟨rfl, fun t' ht' => ?_, _, rfl⟩
        rw [List.take_add_one, ht2] at ht'
        rcases List.mem_append.mp ht' with h | h
        · exact hal2 _ h
        · obtain rfl := List.mem_singleton.mp h
          exact st
      · obtain ⟨rfl, hal2, x4, rfl⟩ := hP
        rw [dpAll_len hts, List.take_length] at hal2
        refine ⟨rfl, fun s' hs' => ?_, _, _, rfl⟩
        rw [List.take_add_one, hs] at hs'
        rcases List.mem_append.mp hs' with h | h
        · exact hall _ h
        · obtain rfl := List.mem_singleton.mp h
          exact rowLk_of (by rw [← Dp.bt hx1]; exact bt) htl hal2
    · obtain ⟨rfl, hall, x3, x4, rfl⟩ := hP
      rw [hlen, List.take_length] at hall
      rw [lkB_of sg l1 l2 hall] at q
      exact q
end
end K34

namespace K34
open PySem PySem.Spec PyProof.Rows L2 Sg
section
variable {P : Program} {w : World} {K : PySem.W.Frag} {mg : Str → Option Value} {base : Heap}
theorem sc__law_draw : FnScope ["pool", "many"] ["pool", "many"] (defScope (topS 66)) := ⟨rfl, rfl, rfl, by decide +kernel, rfl, by decide +kernel, by decide +kernel⟩
theorem bd__law_draw {K : PySem.W.Frag} {f : Addr} {fd : FuncData} (F : FnP K "_law_draw" (topS 66) f fd) : Binds K fd ["pool", "many"] [] := F.bindsN fun _ _ _ _ _ _ us hl => match us, hl with | [_, _], _ => rfl
def PoolL (H : Hp) (l : Addr) : Prop := ∃ js : List Int, H l = some (.lst (js.map V.int))
def spDr : Sp := fun vs H Q _ => ∃ l n, vs = [.ref l, .int n] ∧ PoolL H l ∧ 0 < n ∧ ∀ r H', 0 ≤ r → r < n → But l H H' → PoolL H' l → Q (.int r) H'
theorem ok__law_draw (T : Tx K mg) : Dk P w K mg base 1 "_law_draw" ["pool", "many"] spDr := by
  obtain ⟨fd, F⟩ := T.d__law_draw
  refine ⟨⟨fd, F.ok sc__law_draw (fun vs H Q E h => ?_) (fun cdv A outer s H vs Q E hr h => ?_), bd__law_draw F⟩, F.kp, T.g__law_draw⟩
  · obtain ⟨l, n, rfl, _⟩ := h
    rfl
  · obtain ⟨l, n, rfl, ⟨js, hl⟩, hn, q⟩ := h
    refine ⟨_, PSs.nox (pss_cons (ps_if (pt_cmpR op_gt (pe_callB call_lenQ (by rfl) T.f_len PySem.boot_len (pa_cons (pv 0) pa_nil)) pe_int (nomark _)) (pss_one (ps_ret (pe_op op_mod (pe_callTy call_int1Q (by rfl) T.f_int PyProof.Rows.boot_int (pa_cons (pe_bm0 PySem.F.plainAttrs_list PySem.F.slot_list_pop PySem.F.type_list_pop mt_popQ (pv 0)) pa_nil)) (pv 1)))) pss_nil)
      (pss_one (ps_ret pe_int))), ?_⟩
    simp only [cxOf, tYes, eq_self, if_true, if_false, wipe, rLenQ, rIxTQ, rIxLQ, rIxSQ, rInt1Q, rTupQ, rAppQ, rPopQ, rPopAtQ, rRevQ, rListS, rReprP, tLenSetT, tChain, tRetN, tRet, tSeq, tAsg, gName, tVar, tC, tCons, tNil, tCB, tOp, rI0, rI, tAndV, tOrV, tNotV, tIf, tTest, tB, tNot, tAnd, tOr, tIfS, tNext, tCallR, rIsK, rEq, rNe, tDrop, L2.start, List.map_cons, List.map_nil, List.length_cons, List.length_nil, Nat.reduceAdd, Nat.reduceSub, Nat.sub_self, List.replicate_zero, List.replicate_succ, List.append_nil, List.cons_append, List.nil_append, List.getElem?_cons_zero, List.getElem?_cons_succ, List.set_cons_zero, List.set_cons_succ, Option.some.injEq, List.cons.injEq, and_true, true_and, exists_eq_left, exists_eq_left', exists_eq_right, V.ty.injEq, V.int.injEq, V.bl.injEq, V.str.injEq, V.ref.injEq, exists_and_left, exists_const, reduceIte, reduceCtorEq, false_and, and_false, exists_false, or_false, false_or, Bool.not_true, Bool.not_false, Bool.false_eq_true, String.reduceEq, true_or, or_true, rNotT, tNNew, tNNotIn, tNGet, sNPut, tLenSetN, tPar, tAug, ipI, tDNotIn, sDPut, tDGet, tTup, tLst, tBM, tBM0]
    refine ⟨_, .inl (.inl (.inl hl)), ?_⟩
    rw [List.length_map]
    by_cases h0 : 0 < js.length
    · refine ifT (decide_eq_true (by omega)) ⟨lst_ty hl, js.dropLast.map V.int, .int (js.getLast (List.ne_nil_of_length_pos h0)), ?_, hn, ?_⟩
      · rw [hl, ← List.map_singleton, ← List.map_append, List.dropLast_concat_getLast]
      · refine q _ _ (Int.emod_nonneg _ (by omega)) (Int.emod_lt_of_pos _ hn) But.upd ⟨_, upd_same⟩
    · exact ifF (decide_eq_false (by omega)) (q _ _ (Int.le_refl _) hn (But.refl _ _) ⟨_, hl⟩)

theorem sc__law_pool : FnScope ["script", "pool", "seed", "at", "cell", "rest", "k", "one"] ["script"] (defScope (topS 67)) := ⟨rfl, rfl, rfl, by decide +kernel, rfl, by decide +kernel, by decide +kernel⟩
theorem bd__law_pool {K : PySem.W.Frag} {f : Addr} {fd : FuncData} (F : FnP K "_law_pool" (topS 67) f fd) : Binds K fd ["script"] [] := F.bindsN fun _ _ _ _ _ _ us hl => match us, hl with | [_], _ => rfl
def PlS (H : Hp) (a l : Addr) (n : Nat) (seed y3 y4 y5 y6 y7 : Option V) (σ : L2.St) (H' : Hp) : Prop :=
  (∃ js : List Int, H' l = some (.lst (js.map V.int)) ∧ js.length ≤ n) ∧ Same H H' ∧ σ = [some (.ref a), some (.ref l), seed, y3, y4, y5, y6, y7]
def PlA (H : Hp) (a l : Addr) (c i : Nat) (σ : L2.St) (H' : Hp) : Prop := ∃ (sd : Int) (y3 y4 y5 y6 y7 : Option V), PlS H a l (c + 60 * i) (some (.int sd)) y3 y4 y5 y6 y7 σ H'
def PlB (H : Hp) (a l : Addr) (c : Nat) (sd at' ce : Int) (y7 : Option V) (i : Nat) (σ : L2.St) (H' : Hp) : Prop := ∃ (rs : Int) (y6 : Option V), PlS H a l (c + i) (some (.int sd)) (some (.int at')) (some (.int ce)) (some (.int rs)) y6 y7 σ H'
def PlC (H : Hp) (a l : Addr) (c : Nat) (sd at' ce : Int) (y5 : Option V) (i : Nat) (σ : L2.St) (H' : Hp) : Prop := ∃ (on : Int) (y6 : Option V), PlS H a l (c + i) (some (.int sd)) (some (.int at')) (some (.int ce)) y5 y6 (some (.int on)) σ H'
def PlD (H : Hp) (a l : Addr) (c i : Nat) (σ : L2.St) (H' : Hp) : Prop := ∃ (sd : Int) (y3 y4 y5 y6 y7 : Option V), PlS H a l (c + i) (some (.int sd)) y3 y4 y5 y6 y7 σ H'
theorem pl_put {H H1 : Hp} {l : Addr} {js : List Int} {n : Nat} (hl0 : H l = none) (s : Same H H1) (hl : H1 l = some (.lst (js.map V.int))) (hn : js.length ≤ n) (j : Int) :
    (∃ ks : List Int, (upd H1 l (.lst (js.map V.int ++ [V.int j]))) l = some (.lst (ks.map V.int)) ∧ ks.length ≤ n + 1) ∧ Same H (upd H1 l (.lst (js.map V.int ++ [V.int j]))) := by
  refine ⟨⟨js ++ [j], by rw [upd_same, List.map_append]; rfl, by rw [List.length_append]; exact Nat.succ_le_succ hn⟩, fun b o hb => ?_⟩
  rw [upd_ne (ne_of_none hb hl0)]
  exact s b o hb
theorem cmR {i j : Int} (h : -(2 ^ 64) < j ∧ j < 2 ^ 64 := by decide) : CMul i j := .inr h
theorem cmL {i j : Int} (h : -(2 ^ 64) < i ∧ i < 2 ^ 64 := by decide) : CMul i j := .inl h
def spPl (K : PySem.W.Frag) : Sp := fun vs H Q _ => ∃ (a : Addr) (ns : List Int), vs = [.ref a] ∧ SqL K H a (ns.map V.int) ∧ ∀ l H', H l = none → Same H H' → PoolL H' l → Q (.ref l) H'
theorem ok__law_pool (T : Tx K mg) : Dk P w K mg base 1 "_law_pool" ["script"] (spPl K) := by
  obtain ⟨fd, F⟩ := T.d__law_pool
  refine ⟨⟨fd, F.ok sc__law_pool (fun vs H Q E h => ?_) (fun cdv A outer s H vs Q E hr h => ?_), bd__law_pool F⟩, F.kp, T.g__law_pool⟩
  · obtain ⟨a, ns, rfl, _⟩ := h
    rfl
  · obtain ⟨a, ns, rfl, ha, q⟩ := h
    refine ⟨_, PSs.nox (pss_cons (ps_set (i := 1) sc__law_pool.nd rfl (.inl rfl) (pe_lst pa_nil))
      (pss_cons (ps_set (i := 2) sc__law_pool.nd rfl (.inl rfl) pe_int)
      (pss_cons (ps_for PassesOwn.never rfl (pi_range1 (by rfl) T.f_range (pa_cons (pe_callB (call_min2 rfl) (by rfl) T.f_min PyProof.Rows.boot_min (pa_cons (pe_callB call_lenQ (by rfl) T.f_len PySem.boot_len (pa_cons (pv 0) pa_nil)) (pa_cons pe_int pa_nil))) pa_nil)) (pg_name (i := 3) sc__law_pool.nd rfl (.inl rfl)) (pss_cons (ps_set (i := 4) sc__law_pool.nd rfl (.inl rfl) (pe_callTy call_int1Q (by rfl) T.f_int PyProof.Rows.boot_int (pa_cons (pe_ix ix_listQ (pv 0) (pv 3) (fun _ _ => rfl)) pa_nil)))
      (pss_cons (ps_set (i := 2) sc__law_pool.nd rfl (.inl rfl) (pe_op op_mod (pe_op op_add (pe_op op_add (pe_op op_mul (pv 2) pe_int) (pe_op op_mod (pv 4) pe_int)) (pv 3)) pe_int))
      (pss_one (ps_if (pt_cmpR op_ge (pv 4) (pe_op op_pow pe_int pe_int) (nomark _)) (pss_cons (ps_set (i := 5) sc__law_pool.nd rfl (.inl rfl) (pv 4))
      (pss_one (ps_for PassesOwn.never rfl (pi_range1 (by rfl) T.f_range (pa_cons pe_int pa_nil)) (pg_name (i := 6) sc__law_pool.nd rfl (.inl rfl)) (pss_one (ps_if (pt_cmpR op_gt (pv 5) pe_int (nomark _)) (pss_cons (ps_expr (pe_bm PySem.F.plainAttrs_list PySem.F.slot_list_append PySem.F.type_list_append mt_appQ (pv 1) (pa_cons (pe_op op_mod (pv 5) pe_int) pa_nil)))
      (pss_one (ps_set (i := 5) sc__law_pool.nd rfl (.inl rfl) (pe_op op_fdiv (pv 5) pe_int)))) pss_nil))))) (pss_cons (ps_set (i := 7) sc__law_pool.nd rfl (.inl rfl) (pe_op op_add (pe_op op_mod (pv 4) pe_int) pe_int))
      (pss_one (ps_for PassesOwn.never rfl (pi_range1 (by rfl) T.f_range (pa_cons pe_int pa_nil)) (pg_name (i := 6) sc__law_pool.nd rfl (.inl rfl)) (pss_cons (ps_set (i := 7) sc__law_pool.nd rfl (.inl rfl) (pe_op op_mod (pe_op op_add (pe_op op_mul (pv 7) pe_int) (pe_op op_mul pe_int (pe_op op_add (pe_op op_add (pv 3) (pv 6)) pe_int))) pe_int))
      (pss_one (ps_expr (pe_bm PySem.F.plainAttrs_list PySem.F.slot_list_append PySem.F.type_list_append mt_appQ (pv 1) (pa_cons (pe_op op_mod (pe_op op_fdiv (pe_op op_mod (pe_op op_mul (pv 7) pe_int) pe_int) pe_int) pe_int) pa_nil)))))))))))))
      (pss_cons (ps_for PassesOwn.never rfl (pi_range1 (by rfl) T.f_range (pa_cons pe_int pa_nil)) (pg_name (i := 6) sc__law_pool.nd rfl (.inl rfl)) (pss_cons (ps_set (i := 2) sc__law_pool.nd rfl (.inl rfl) (pe_op op_mod (pe_op op_add (pe_op op_add (pe_op op_mul (pv 2) pe_int) (pe_op op_mul pe_int (pv 6))) pe_int) pe_int))
      (pss_one (ps_expr (pe_bm PySem.F.plainAttrs_list PySem.F.slot_list_append PySem.F.type_list_append mt_appQ (pv 1) (pa_cons (pe_op op_mod (pe_op op_fdiv (pe_op op_mod (pe_op op_mul (pv 2) pe_int) pe_int) pe_int) pe_int) pa_nil))))))
      (pss_cons (ps_expr (pe_bm0 PySem.F.plainAttrs_list PySem.F.slot_list_reverse PySem.F.type_list_reverse mt_revQ (pv 1)))
      (pss_one (ps_ret (pv 1)))))))), ?_⟩
    simp only [cxOf, tYes, eq_self, if_true, if_false, wipe, rLenQ, rIxTQ, rIxLQ, rIxSQ, rInt1Q, rTupQ, rAppQ, rPopQ, rPopAtQ, rRevQ, rListS, rReprP, tLenSetT, tChain, tRetN, tRet, tSeq, tAsg, gName, tVar, tC, tCons, tNil, tCB, tOp, rI0, rI, tAndV, tOrV, tNotV, tIf, tTest, tB, tNot, tAnd, tOr, tIfS, tNext, tCallR, rIsK, rEq, rNe, tDrop, L2.start, List.map_cons, List.map_nil, List.length_cons, List.length_nil, Nat.reduceAdd, Nat.reduceSub, Nat.sub_self, List.replicate_zero, List.replicate_succ, List.append_nil, List.cons_append, List.nil_append, List.getElem?_cons_zero, List.getElem?_cons_succ, List.set_cons_zero, List.set_cons_succ, Option.some.injEq, List.cons.injEq, and_true, true_and, exists_eq_left, exists_eq_left', exists_eq_right, V.ty.injEq, V.int.injEq, V.bl.injEq, V.str.injEq, V.ref.injEq, exists_and_left, exists_const, reduceIte, reduceCtorEq, false_and, and_false, exists_false, or_false, false_or, Bool.not_true, Bool.not_false, Bool.false_eq_true, String.reduceEq, true_or, or_true, rNotT, tNNew, tNNotIn, tNGet, sNPut, tLenSetN, tPar, tAug, ipI, tDNotIn, sDPut, tDGet, tTup, tLst, tBM, tBM0]
    refine ⟨Nat.zero_le _, fun l hl0 => ?_⟩
    have ne : ∀ b o, H b = some o → b ≠ l := fun b o hb => ne_of_none hb hl0
    have sA : Same H (upd H l (.lst [])) := same_upd hl0
    refine ⟨.ref a, rfl, ns.map V.int, .inl (Same.seq sA ha), _, _, rfl, _, rfl, ?_, ?_, ?_⟩
    · split <;> omega
    · split <;> omega
    have hn63 : (if (63 : Int) < ((ns.map V.int).length : Int) then (63 : Int) else ((ns.map V.int).length : Int)).toNat ≤ 63 ∧ (if (63 : Int) < ((ns.map V.int).length : Int) then (63 : Int) else ((ns.map V.int).length : Int)).toNat ≤ ns.length := by
      rw [List.length_map]
      split <;> omega
    generalize (if (63 : Int) < ((ns.map V.int).length : Int) then (63 : Int) else ((ns.map V.int).length : Int)).toNat = N at hn63 ⊢
    refine for_range (PlA H a l 0) ⟨7, none, none, none, none, none, ⟨[], upd_same, Nat.zero_le _⟩, sA, rfl⟩ ?_ ?_
    · rintro i σ H1 hi ⟨sd, y3, y4, y5, y6, y7, ⟨js, hl, hjs⟩, s1, rfl⟩
      have e0 : (0 : Int) + (i : Int) = (i : Int) := Int.zero_add _
      rw [e0]
      simp only [cxOf, tYes, eq_self, if_true, if_false, wipe, rLenQ, rIxTQ, rIxLQ, rIxSQ, rInt1Q, rTupQ, rAppQ, rPopQ, rPopAtQ, rRevQ, rListS, rReprP, tLenSetT, tChain, tRetN, tRet, tSeq, tAsg, gName, tVar, tC, tCons, tNil, tCB, tOp, rI0, rI, tAndV, tOrV, tNotV, tIf, tTest, tB, tNot, tAnd, tOr, tIfS, tNext, tCallR, rIsK, rEq, rNe, tDrop, L2.start, List.map_cons, List.map_nil, List.length_cons, List.length_nil, Nat.reduceAdd, Nat.reduceSub, Nat.sub_self, List.replicate_zero, List.replicate_succ, List.append_nil, List.cons_append, List.nil_append, List.getElem?_cons_zero, List.getElem?_cons_succ, List.set_cons_zero, List.set_cons_succ, Option.some.injEq, List.cons.injEq, and_true, true_and, exists_eq_left, exists_eq_left', exists_eq_right, V.ty.injEq, V.int.injEq, V.bl.injEq, V.str.injEq, V.ref.injEq, exists_and_left, exists_const, reduceIte, reduceCtorEq, false_and, and_false, exists_false, or_false, false_or, Bool.not_true, Bool.not_false, Bool.false_eq_true, String.reduceEq, true_or, or_true, rNotT, tNNew, tNNotIn, tNGet, sNPut, tLenSetN, tPar, tAug, ipI, tDNotIn, sDPut, tDGet, tTup, tLst, tBM, tBM0]
      have hget : (ns.map V.int)[i]? = some (.int (ns.getD i 0)) := by
        have : i < ns.length := by omega
        rw [List.getElem?_map, List.getD_eq_getElem?_getD, List.getElem?_eq_getElem this]
        rfl
      refine ⟨_, Same.seq s1 ha, .int (ns.getD i 0), atI_nat hget, cmR, by decide, by decide, ⟨by decide, by decide, by decide⟩, ?_⟩
      by_cases hbig : (10 : Int) ^ Int.toNat 18 ≤ ns.getD i 0
      · refine ifT (decide_eq_true hbig) ⟨60, rfl, by omega, by omega, ?_⟩
        refine for_range (PlB H a l (60 * i) ((sd * 31 + ns.getD i 0 % 999983 + i) % 2147483647) i (ns.getD i 0) y7) ⟨ns.getD i 0, y6, ⟨js, hl, by omega⟩, s1, rfl⟩ ?_ ?_
        · rintro k σ H2 hk ⟨rs, z6, ⟨js2, hl2, hjs2⟩, s2, rfl⟩
          simp only [cxOf, tYes, eq_self, if_true, if_false, wipe, rLenQ, rIxTQ, rIxLQ, rIxSQ, rInt1Q, rTupQ, rAppQ, rPopQ, rPopAtQ, rRevQ, rListS, rReprP, tLenSetT, tChain, tRetN, tRet, tSeq, tAsg, gName, tVar, tC, tCons, tNil, tCB, tOp, rI0, rI, tAndV, tOrV, tNotV, tIf, tTest, tB, tNot, tAnd, tOr, tIfS, tNext, tCallR, rIsK, rEq, rNe, tDrop, L2.start, List.map_cons, List.map_nil, List.length_cons, List.length_nil, Nat.reduceAdd, Nat.reduceSub, Nat.sub_self, List.replicate_zero, List.replicate_succ, List.append_nil, List.cons_append, List.nil_append, List.getElem?_cons_zero, List.getElem?_cons_succ, List.set_cons_zero, List.set_cons_succ, Option.some.injEq, List.cons.injEq, and_true, true_and, exists_eq_left, exists_eq_left', exists_eq_right, V.ty.injEq, V.int.injEq, V.bl.injEq, V.str.injEq, V.ref.injEq, exists_and_left, exists_const, reduceIte, reduceCtorEq, false_and, and_false, exists_false, or_false, false_or, Bool.not_true, Bool.not_false, Bool.false_eq_true, String.reduceEq, true_or, or_true, rNotT, tNNew, tNNotIn, tNGet, sNPut, tLenSetN, tPar, tAug, ipI, tDNotIn, sDPut, tDGet, tTup, tLst, tBM, tBM0]
          by_cases hr : 0 < rs
          · refine ifT (decide_eq_true hr) ⟨lst_ty hl2, by decide, _, hl2, ?_, ⟨by decide, by decide⟩, ?_⟩
            · rw [List.length_map]
              exact szlt (m := 100000) (by have : k < 60 := hk; omega)
            · have pp := pl_put hl0 s2 hl2 hjs2 (rs % 5040)
              exact ⟨_, _, pp.1, pp.2, rfl⟩
          · exact ifF (decide_eq_false hr) ⟨_, _, ⟨js2, hl2, by omega⟩, s2, rfl⟩
        · rintro σ H2 ⟨rs, z6, ⟨js2, hl2, hjs2⟩, s2, rfl⟩
          have e60 : (60 : Int).toNat = 60 := rfl
          exact ⟨_, _, _, _, _, _, ⟨js2, hl2, by omega⟩, s2, rfl⟩
      · refine ifF (decide_eq_false hbig) ⟨by decide, 3, rfl, by omega, by omega, ?_⟩
        refine for_range (PlC H a l (60 * i) ((sd * 31 + ns.getD i 0 % 999983 + i) % 2147483647) i (ns.getD i 0) y5) ⟨ns.getD i 0 % 999983 + 1, y6, ⟨js, hl, by omega⟩, s1, rfl⟩ ?_ ?_
        · rintro k σ H2 hk ⟨on, z6, ⟨js2, hl2, hjs2⟩, s2, rfl⟩
          simp only [cxOf, tYes, eq_self, if_true, if_false, wipe, rLenQ, rIxTQ, rIxLQ, rIxSQ, rInt1Q, rTupQ, rAppQ, rPopQ, rPopAtQ, rRevQ, rListS, rReprP, tLenSetT, tChain, tRetN, tRet, tSeq, tAsg, gName, tVar, tC, tCons, tNil, tCB, tOp, rI0, rI, tAndV, tOrV, tNotV, tIf, tTest, tB, tNot, tAnd, tOr, tIfS, tNext, tCallR, rIsK, rEq, rNe, tDrop, L2.start, List.map_cons, List.map_nil, List.length_cons, List.length_nil, Nat.reduceAdd, Nat.reduceSub, Nat.sub_self, List.replicate_zero, List.replicate_succ, List.append_nil, List.cons_append, List.nil_append, List.getElem?_cons_zero, List.getElem?_cons_succ, List.set_cons_zero, List.set_cons_succ, Option.some.injEq, List.cons.injEq, and_true, true_and, exists_eq_left, exists_eq_left', exists_eq_right, V.ty.injEq, V.int.injEq, V.bl.injEq, V.str.injEq, V.ref.injEq, exists_and_left, exists_const, reduceIte, reduceCtorEq, false_and, and_false, exists_false, or_false, false_or, Bool.not_true, Bool.not_false, Bool.false_eq_true, String.reduceEq, true_or, or_true, rNotT, tNNew, tNNotIn, tNGet, sNPut, tLenSetN, tPar, tAug, ipI, tDNotIn, sDPut, tDGet, tTup, tLst, tBM, tBM0]
          have pp := pl_put hl0 s2 hl2 hjs2
          refine ⟨cmR, cmL, by decide, lst_ty hl2, cmR, by decide, ⟨by decide, by decide⟩, by decide, _, hl2, ?_, _, _, (pp _).1, (pp _).2, rfl⟩
          rw [List.length_map]
          exact szlt (m := 100000) (by have : k < 3 := hk; omega)
        · rintro σ H2 ⟨on, z6, ⟨js2, hl2, hjs2⟩, s2, rfl⟩
          have e3 : (3 : Int).toNat = 3 := rfl
          exact ⟨_, _, _, _, _, _, ⟨js2, hl2, by omega⟩, s2, rfl⟩
    · rintro σ H1 ⟨sd, y3, y4, y5, y6, y7, ⟨js, hl, hjs⟩, s1, rfl⟩
      simp only [cxOf, tYes, eq_self, if_true, if_false, wipe, rLenQ, rIxTQ, rIxLQ, rIxSQ, rInt1Q, rTupQ, rAppQ, rPopQ, rPopAtQ, rRevQ, rListS, rReprP, tLenSetT, tChain, tRetN, tRet, tSeq, tAsg, gName, tVar, tC, tCons, tNil, tCB, tOp, rI0, rI, tAndV, tOrV, tNotV, tIf, tTest, tB, tNot, tAnd, tOr, tIfS, tNext, tCallR, rIsK, rEq, rNe, tDrop, L2.start, List.map_cons, List.map_nil, List.length_cons, List.length_nil, Nat.reduceAdd, Nat.reduceSub, Nat.sub_self, List.replicate_zero, List.replicate_succ, List.append_nil, List.cons_append, List.nil_append, List.getElem?_cons_zero, List.getElem?_cons_succ, List.set_cons_zero, List.set_cons_succ, Option.some.injEq, List.cons.injEq, and_true, true_and, exists_eq_left, exists_eq_left', exists_eq_right, V.ty.injEq, V.int.injEq, V.bl.injEq, V.str.injEq, V.ref.injEq, exists_and_left, exists_const, reduceIte, reduceCtorEq, false_and, and_false, exists_false, or_false, false_or, Bool.not_true, Bool.not_false, Bool.false_eq_true, String.reduceEq, true_or, or_true, rNotT, tNNew, tNNotIn, tNGet, sNPut, tLenSetN, tPar, tAug, ipI, tDNotIn, sDPut, tDGet, tTup, tLst, tBM, tBM0]
      refine ⟨600, rfl, by omega, by omega, ?_⟩
      refine for_range (PlD H a l (60 * N)) ⟨sd, y3, y4, y5, y6, y7, ⟨js, hl, by omega⟩, s1, rfl⟩ ?_ ?_
      · rintro k σ H2 hk ⟨sd, y3, y4, y5, y6, y7, ⟨js, hl, hjs⟩, s1, rfl⟩
        simp only [cxOf, tYes, eq_self, if_true, if_false, wipe, rLenQ, rIxTQ, rIxLQ, rIxSQ, rInt1Q, rTupQ, rAppQ, rPopQ, rPopAtQ, rRevQ, rListS, rReprP, tLenSetT, tChain, tRetN, tRet, tSeq, tAsg, gName, tVar, tC, tCons, tNil, tCB, tOp, rI0, rI, tAndV, tOrV, tNotV, tIf, tTest, tB, tNot, tAnd, tOr, tIfS, tNext, tCallR, rIsK, rEq, rNe, tDrop, L2.start, List.map_cons, List.map_nil, List.length_cons, List.length_nil, Nat.reduceAdd, Nat.reduceSub, Nat.sub_self, List.replicate_zero, List.replicate_succ, List.append_nil, List.cons_append, List.nil_append, List.getElem?_cons_zero, List.getElem?_cons_succ, List.set_cons_zero, List.set_cons_succ, Option.some.injEq, List.cons.injEq, and_true, true_and, exists_eq_left, exists_eq_left', exists_eq_right, V.ty.injEq, V.int.injEq, V.bl.injEq, V.str.injEq, V.ref.injEq, exists_and_left, exists_const, reduceIte, reduceCtorEq, false_and, and_false, exists_false, or_false, false_or, Bool.not_true, Bool.not_false, Bool.false_eq_true, String.reduceEq, true_or, or_true, rNotT, tNNew, tNNotIn, tNGet, sNPut, tLenSetN, tPar, tAug, ipI, tDNotIn, sDPut, tDGet, tTup, tLst, tBM, tBM0]
        have pp := pl_put hl0 s1 hl hjs
        refine ⟨cmR, cmL, by decide, lst_ty hl, cmR, by decide, ⟨by decide, by decide⟩, by decide, _, hl, ?_, _, _, _, _, _, _, (pp _).1, (pp _).2, rfl⟩
        rw [List.length_map]
        exact szlt (m := 100000) (by have : k < 600 := hk; omega)
      · rintro σ H2 ⟨sd, y3, y4, y5, y6, y7, ⟨js, hl, hjs⟩, s1, rfl⟩
        simp only [cxOf, tYes, eq_self, if_true, if_false, wipe, rLenQ, rIxTQ, rIxLQ, rIxSQ, rInt1Q, rTupQ, rAppQ, rPopQ, rPopAtQ, rRevQ, rListS, rReprP, tLenSetT, tChain, tRetN, tRet, tSeq, tAsg, gName, tVar, tC, tCons, tNil, tCB, tOp, rI0, rI, tAndV, tOrV, tNotV, tIf, tTest, tB, tNot, tAnd, tOr, tIfS, tNext, tCallR, rIsK, rEq, rNe, tDrop, L2.start, List.map_cons, List.map_nil, List.length_cons, List.length_nil, Nat.reduceAdd, Nat.reduceSub, Nat.sub_self, List.replicate_zero, List.replicate_succ, List.append_nil, List.cons_append, List.nil_append, List.getElem?_cons_zero, List.getElem?_cons_succ, List.set_cons_zero, List.set_cons_succ, Option.some.injEq, List.cons.injEq, and_true, true_and, exists_eq_left, exists_eq_left', exists_eq_right, V.ty.injEq, V.int.injEq, V.bl.injEq, V.str.injEq, V.ref.injEq, exists_and_left, exists_const, reduceIte, reduceCtorEq, false_and, and_false, exists_false, or_false, false_or, Bool.not_true, Bool.not_false, Bool.false_eq_true, String.reduceEq, true_or, or_true, rNotT, tNNew, tNNotIn, tNGet, sNPut, tLenSetN, tPar, tAug, ipI, tDNotIn, sDPut, tDGet, tTup, tLst, tBM, tBM0]
        refine ⟨lst_ty hl, _, hl, q l _ hl0 (fun b o hb => ?_) ⟨js.reverse, by rw [upd_same, List.map_reverse]⟩⟩
        rw [upd_ne (ne b o hb)]
        exact s1 b o hb

theorem sc__law_signs : FnScope ["pool", "many", "row", "signs", "k"] ["pool", "many"] (defScope (topS 68)) := ⟨rfl, rfl, rfl, by decide +kernel, rfl, by decide +kernel, by decide +kernel⟩
theorem bd__law_signs {K : PySem.W.Frag} {f : Addr} {fd : FuncData} (F : FnP K "_law_signs" (topS 68) f fd) : Binds K fd ["pool", "many"] [] := F.bindsN fun _ _ _ _ _ _ us hl => match us, hl with | [_, _], _ => rfl
def spLs : Sp := fun vs H Q _ => ∃ l m, vs = [.ref l, .int m] ∧ PoolL H l ∧ 1 ≤ m ∧ m ≤ 5 ∧ ∀ (z : Str) H', SignsOk z → (∀ c ∈ z.cps.toList, c ≠ 10) → (z.length : Int) = m → But l H H' → PoolL H' l → Q (.str z) H'
def LsS (H : Hp) (l r : Addr) (m : Int) (k : Nat) (σ : L2.St) (H' : Hp) : Prop :=
  ∃ (z : Str) (cs : List Nat) (x4 : Option V), σ = [some (.ref l), some (.int m), some (.ref r), some (.str z), x4] ∧ But l H H' ∧ PoolL H' l ∧ H' r = some (.lst (cs.map fun c => .str (sgn c))) ∧ z.length = k ∧ cs.length + k = 36 ∧
    (z.cps.toList ++ cs).Nodup ∧ ∀ c ∈ z.cps.toList ++ cs, c < 128 ∧ c ≠ 10
theorem snoc_cps (z : Str) (c : Nat) : (z ++ sgn c).cps.toList = z.cps.toList ++ [c] := by
  show (z.cps ++ #[c]).toList = _
  rw [Array.toList_append]
theorem snoc_len (z : Str) (c : Nat) : (z ++ sgn c).length = z.length + 1 := by
  show (z.cps ++ #[c]).size = _
  rw [Array.size_append]
  rfl
theorem erase_perm {α : Type} : ∀ {l : List α} {i : Nat} {c : α}, l[i]? = some c → (c :: l.eraseIdx i).Perm l
  | [], i, c, h => by simp at h
  | a :: l, 0, c, h => by
    obtain rfl := Option.some.inj h
    exact List.Perm.refl _
  | a :: l, i + 1, c, h => (List.Perm.swap a c _).trans (List.Perm.cons a (erase_perm (l := l) (i := i) h))
theorem mapErase {α β : Type} (f : α → β) : ∀ (l : List α) (i : Nat), (l.map f).eraseIdx i = (l.eraseIdx i).map f
  | [], _ => rfl
  | _ :: _, 0 => rfl
  | a :: l, i + 1 => congrArg (f a :: ·) (mapErase f l i)
theorem ok__law_signs (T : Tx K mg) : Dk P w K mg base 2 "_law_signs" ["pool", "many"] spLs := by
  have D__law_draw := ok__law_draw (P := P) (w := w) (base := base) T
  obtain ⟨fd, F⟩ := T.d__law_signs
  refine ⟨⟨fd, F.ok sc__law_signs (fun vs H Q E h => ?_) (fun cdv A outer s H vs Q E hr h => ?_), bd__law_signs F⟩, F.kp, T.g__law_signs⟩
  · obtain ⟨l, m, rfl, _⟩ := h
    rfl
  · obtain ⟨l, m, rfl, ⟨js, hp⟩, hm1, hm5, q⟩ := h
    refine ⟨_, PSs.nox (pss_cons (ps_set (i := 2) sc__law_signs.nd rfl (.inl rfl) (pe_callTy (call_listS rfl) (by rfl) T.f_list PyProof.Rows.boot_list (pa_cons pe_str pa_nil)))
      (pss_cons (ps_set (i := 3) sc__law_signs.nd rfl (.inl rfl) pe_str)
      (pss_cons (ps_for PassesOwn.never rfl (pi_range1 (by rfl) T.f_range (pa_cons (pv 1) pa_nil)) (pg_name (i := 4) sc__law_signs.nd rfl (.inl rfl)) (pss_one (ps_set (i := 3) sc__law_signs.nd rfl (.inl rfl) (pe_op op_add_str (pv 3) (pe_bm PySem.F.plainAttrs_list PySem.F.slot_list_pop PySem.F.type_list_pop mt_popAtQ (pv 2) (pa_cons (pe_callR D__law_draw (hr.mono (by decide)) takes0 (pa_cons (pv 0) (pa_cons (pe_callB call_lenQ (by rfl) T.f_len PySem.boot_len (pa_cons (pv 2) pa_nil)) pa_nil))) pa_nil))))))
      (pss_one (ps_ret (pv 3)))))), ?_⟩
    simp only [cxOf, tYes, eq_self, if_true, if_false, wipe, rLenQ, rIxTQ, rIxLQ, rIxSQ, rInt1Q, rTupQ, rAppQ, rPopQ, rPopAtQ, rRevQ, rListS, rReprP, tLenSetT, tChain, tRetN, tRet, tSeq, tAsg, gName, tVar, tC, tCons, tNil, tCB, tOp, rI0, rI, tAndV, tOrV, tNotV, tIf, tTest, tB, tNot, tAnd, tOr, tIfS, tNext, tCallR, rIsK, rEq, rNe, tDrop, L2.start, List.map_cons, List.map_nil, List.length_cons, List.length_nil, Nat.reduceAdd, Nat.reduceSub, Nat.sub_self, List.replicate_zero, List.replicate_succ, List.append_nil, List.cons_append, List.nil_append, List.getElem?_cons_zero, List.getElem?_cons_succ, List.set_cons_zero, List.set_cons_succ, Option.some.injEq, List.cons.injEq, and_true, true_and, exists_eq_left, exists_eq_left', exists_eq_right, V.ty.injEq, V.int.injEq, V.bl.injEq, V.str.injEq, V.ref.injEq, exists_and_left, exists_const, reduceIte, reduceCtorEq, false_and, and_false, exists_false, or_false, false_or, Bool.not_true, Bool.not_false, Bool.false_eq_true, String.reduceEq, true_or, or_true, rNotT, tNNew, tNNotIn, tNGet, sNPut, tLenSetN, tPar, tAug, ipI, tDNotIn, sDPut, tDGet, tTup, tLst, tBM, tBM0]
    refine ⟨szle (m := 36) (by decide), fun r hr0 => ?_⟩
    have hlr : l ≠ r := ne_of_none hp hr0
    refine ⟨.int m, rfl, m, rfl, by omega, by omega, ?_⟩
    refine for_range (LsS H l r m) ⟨Str.ofString "", _, none, rfl, But.of_same (same_upd hr0), ⟨js, by rw [upd_ne hlr]; exact hp⟩, upd_same.trans (congrArg (fun v => some (HO.lst v)) (List.map_map ..)), rfl, by decide, by decide, by decide⟩ ?_ ?_
    · rintro k σ H1 hk ⟨z, cs, x4, rfl, hb, hpl, hcs, hz, hck, hnd, hlow⟩
      simp only [cxOf, tYes, eq_self, if_true, if_false, wipe, rLenQ, rIxTQ, rIxLQ, rIxSQ, rInt1Q, rTupQ, rAppQ, rPopQ, rPopAtQ, rRevQ, rListS, rReprP, tLenSetT, tChain, tRetN, tRet, tSeq, tAsg, gName, tVar, tC, tCons, tNil, tCB, tOp, rI0, rI, tAndV, tOrV, tNotV, tIf, tTest, tB, tNot, tAnd, tOr, tIfS, tNext, tCallR, rIsK, rEq, rNe, tDrop, L2.start, List.map_cons, List.map_nil, List.length_cons, List.length_nil, Nat.reduceAdd, Nat.reduceSub, Nat.sub_self, List.replicate_zero, List.replicate_succ, List.append_nil, List.cons_append, List.nil_append, List.getElem?_cons_zero, List.getElem?_cons_succ, List.set_cons_zero, List.set_cons_succ, Option.some.injEq, List.cons.injEq, and_true, true_and, exists_eq_left, exists_eq_left', exists_eq_right, V.ty.injEq, V.int.injEq, V.bl.injEq, V.str.injEq, V.ref.injEq, exists_and_left, exists_const, reduceIte, reduceCtorEq, false_and, and_false, exists_false, or_false, false_or, Bool.not_true, Bool.not_false, Bool.false_eq_true, String.reduceEq, true_or, or_true, rNotT, tNNew, tNNotIn, tNGet, sNPut, tLenSetN, tPar, tAug, ipI, tDNotIn, sDPut, tDGet, tTup, tLst, tBM, tBM0]
      refine ⟨lst_ty hcs, _, .inl (.inl (.inl hcs)), l, _, rfl, hpl, ?_, ?_⟩
      · rw [List.length_map]; omega
      · intro i H2 hi0 hi hb2 hpl2
        rw [List.length_map] at hi
        have hcs2 := hb2 r _ (Ne.symm hlr) hcs
        obtain ⟨c, hc⟩ : ∃ c, cs[i.toNat]? = some c := ⟨_, List.getElem?_eq_getElem (by omega)⟩
        refine ⟨_, hcs2, hi0, by omega, .str (sgn c), by rw [List.getElem?_map, hc]; rfl, _, rfl, ?_, ?_⟩
        · rw [show (sgn c).length = 1 from rfl]
          exact szle (m := 100) (by omega)
        · have pm := erase_perm hc
          have hm : ((z ++ sgn c).cps.toList ++ cs.eraseIdx i.toNat).Perm (z.cps.toList ++ cs) := by
            rw [snoc_cps, List.append_assoc]
            exact List.Perm.append_left _ pm
          refine ⟨z ++ sgn c, cs.eraseIdx i.toNat, _, rfl, ?_, ?_, ?_, by rw [snoc_len, hz], ?_, hm.nodup_iff.mpr hnd, fun c' hc' => hlow c' (hm.mem_iff.mp hc')⟩
          · intro b o hbl ho
            rw [upd_ne (fun e => by subst e; have := hb b o hbl ho; rw [hr0] at ho; cases ho)]
            exact hb2 b o hbl (hb b o hbl ho)
          · obtain ⟨js2, h2⟩ := hpl2
            exact ⟨js2, by rw [upd_ne hlr]; exact h2⟩
          · rw [upd_same, mapErase]
          · rw [List.length_eraseIdx_of_lt (by omega)]
            omega
    · rintro σ H1 ⟨z, cs, x4, rfl, hb, hpl, hcs, hz, hck, hnd, hlow⟩
      refine ⟨_, rfl, q z H1 ⟨by omega, by omega, (List.nodup_append.mp hnd).1, fun c hc => (hlow c (List.mem_append_left _ hc)).1⟩ (fun c hc => (hlow c (List.mem_append_left _ hc)).2) (by omega) hb hpl⟩

theorem sc__law_same : FnScope ["one", "other"] ["one", "other"] (defScope (topS 69)) := ⟨rfl, rfl, rfl, by decide +kernel, rfl, by decide +kernel, by decide +kernel⟩
theorem bd__law_same {K : PySem.W.Frag} {f : Addr} {fd : FuncData} (F : FnP K "_law_same" (topS 69) f fd) : Binds K fd ["one", "other"] [] := F.bindsN fun _ _ _ _ _ _ us hl => match us, hl with | [_, _], _ => rfl
def spSm (K : PySem.W.Frag) : Sp := fun vs H Q _ => ∃ x y d, vs = [x, y] ∧ Dp K H x d ∧ Dp K H y d ∧ GoodD d ∧ Q (.bl true) H
theorem ok__law_same (T : Tx K mg) : DkQ P w K mg base 1 "_law_same" ["one", "other"] (spSm K) := by
  obtain ⟨fd, F⟩ := T.d__law_same
  refine ⟨⟨fd, fnQ_of F sc__law_same (fun vs H Q E h => ?_) (fun cdv A outer s H vs Q E hA hr h => ?_), bd__law_same F⟩, F.kp, T.g__law_same⟩
  · obtain ⟨x, y, d, rfl, _⟩ := h
    rfl
  · obtain ⟨x, y, d, rfl, hx, hy, g, q⟩ := h
    refine ⟨_, PSs.nox (pss_one (ps_ret (pe_and (pe_cmpR (op_eqD hr.units) (pv 0) (pv 1) (nomark _)) (pe_one (pe_cmpR op_eq (pe_callB (call_reprD hA hr.units) (by rfl) T.f_repr (by decide +kernel) (pa_cons (pv 0) pa_nil)) (pe_callB (call_reprD hA hr.units) (by rfl) T.f_repr (by decide +kernel) (pa_cons (pv 1) pa_nil)) (nomark _)))))), ?_⟩
    simp only [cxOf, tYes, eq_self, if_true, if_false, wipe, rLenQ, rIxTQ, rIxLQ, rIxSQ, rInt1Q, rTupQ, rAppQ, rPopQ, rPopAtQ, rRevQ, rListS, rReprP, tLenSetT, tChain, tRetN, tRet, tSeq, tAsg, gName, tVar, tC, tCons, tNil, tCB, tOp, rI0, rI, tAndV, tOrV, tNotV, tIf, tTest, tB, tNot, tAnd, tOr, tIfS, tNext, tCallR, rIsK, rEq, rNe, tDrop, L2.start, List.map_cons, List.map_nil, List.length_cons, List.length_nil, Nat.reduceAdd, Nat.reduceSub, Nat.sub_self, List.replicate_zero, List.replicate_succ, List.append_nil, List.cons_append, List.nil_append, List.getElem?_cons_zero, List.getElem?_cons_succ, List.set_cons_zero, List.set_cons_succ, Option.some.injEq, List.cons.injEq, and_true, true_and, exists_eq_left, exists_eq_left', exists_eq_right, V.ty.injEq, V.int.injEq, V.bl.injEq, V.str.injEq, V.ref.injEq, exists_and_left, exists_const, reduceIte, reduceCtorEq, false_and, and_false, exists_false, or_false, false_or, Bool.not_true, Bool.not_false, Bool.false_eq_true, String.reduceEq, true_or, or_true, rNotT, tNNew, tNNotIn, tNGet, sNPut, tLenSetN, tPar, tAug, ipI, tDNotIn, sDPut, tDGet, tTup, tLst, tBM, tBM0]
    refine ⟨d, d, hx, hy, g.shaped, g.shaped, ?_⟩
    rw [g.refl]
    refine ⟨true, rfl, ifT rfl ⟨x, d, rfl, hx, g.show_, g.noDict, g.deep, g.size, y, d, rfl, hy, g.show_, g.noDict, g.deep, g.size, rfl, ?_⟩⟩
    rw [decide_eq_true rfl]
    exact q

end
end K34

namespace K34
open PySem PySem.Spec PyProof.Rows L2 Sg
section
variable {P : Program} {w : World} {K : PySem.W.Frag} {mg : Str → Option Value} {base : Heap}
theorem sc_check_text : FnScope ["signs", "value"] ["signs", "value"] (defScope (topS 10)) := ⟨rfl, rfl, rfl, by decide +kernel, rfl, by decide +kernel, by decide +kernel⟩
theorem bd_check_text {K : PySem.W.Frag} {f : Addr} {fd : FuncData} (F : FnP K "check_text" (topS 10) f fd) : Binds K fd ["signs", "value"] [] := F.bindsN fun _ _ _ _ _ _ us hl => match us, hl with | [_, _], _ => rfl
def spCt (K : PySem.W.Frag) : Sp := fun vs H Q E => ∃ z t, vs = [.str z, .str t] ∧ t.length ≤ 100000 ∧ (txB z t = true → ∀ H', Same H H' → Q .non H') ∧ (txB z t = false → ∀ H', Same H H' → E (.ref (He.ga K "BadSigns")) none H')
theorem ok_check_text (T : Tx K mg) : Dk P w K mg base 2 "check_text" ["signs", "value"] (spCt K) := by
  have D_is_text_of := ok_is_text_of (P := P) (w := w) (base := base) T
  obtain ⟨fd, F⟩ := T.d_check_text
  refine ⟨⟨fd, F.ok sc_check_text (fun vs H Q E h => ?_) (fun cdv A outer s H vs Q E hr h => ?_), bd_check_text F⟩, F.kp, T.g_check_text⟩
  · obtain ⟨z, t, rfl, _⟩ := h
    rfl
  · obtain ⟨z, t, rfl, ht, q1, q2⟩ := h
    refine ⟨_, (pss_one (ps_if (pt_not (pt_val (pe_callR D_is_text_of (hr.mono (by decide)) (takes_of rfl rfl rfl rfl) (pa_cons (pv 0) (pa_cons (pv 1) pa_nil))))) (pss_one (ps_raise rfl (takes_of rfl rfl rfl rfl) (pmk_own PySem.F.excBase_ValueError T.e_BadSigns.ex T.e_BadSigns.gm T.e_BadSigns.kp T.e_BadSigns.rs rfl))) pss_nil)), ?_⟩
    simp only [cxOf, tYes, eq_self, if_true, if_false, wipe, rLenQ, rIxTQ, rIxLQ, rIxSQ, rInt1Q, rTupQ, rAppQ, rPopQ, rPopAtQ, rRevQ, rListS, rReprP, tLenSetT, tChain, tRetN, tRet, tSeq, tAsg, gName, tVar, tC, tCons, tNil, tCB, tOp, rI0, rI, tAndV, tOrV, tNotV, tIf, tTest, tB, tNot, tAnd, tOr, tIfS, tNext, tCallR, rIsK, rEq, rNe, tDrop, L2.start, List.map_cons, List.map_nil, List.length_cons, List.length_nil, Nat.reduceAdd, Nat.reduceSub, Nat.sub_self, List.replicate_zero, List.replicate_succ, List.append_nil, List.cons_append, List.nil_append, List.getElem?_cons_zero, List.getElem?_cons_succ, List.set_cons_zero, List.set_cons_succ, Option.some.injEq, List.cons.injEq, and_true, true_and, exists_eq_left, exists_eq_left', exists_eq_right, V.ty.injEq, V.int.injEq, V.bl.injEq, V.str.injEq, V.ref.injEq, exists_and_left, exists_const, reduceIte, reduceCtorEq, false_and, and_false, exists_false, or_false, false_or, Bool.not_true, Bool.not_false, Bool.false_eq_true, String.reduceEq, true_or, or_true]
    refine ⟨z, .str t, rfl, .inl ⟨t, rfl, ht, fun H' s1 => ⟨_, rfl, ?_⟩⟩⟩
    cases e : txB z t with
    | true => exact ifF rfl (q1 e H' s1)
    | false => exact ifT rfl (q2 e H' s1)
theorem sc_state_behind : FnScope ["signs", "states", "state", "text", "sign"] ["signs", "states", "state", "text"] (defScope (topS 36)) := ⟨rfl, rfl, rfl, by decide +kernel, rfl, by decide +kernel, by decide +kernel⟩
theorem bd_state_behind {K : PySem.W.Frag} {f : Addr} {fd : FuncData} (F : FnP K "state_behind" (topS 36) f fd) : Binds K fd ["signs", "states", "state", "text"] [] := F.bindsN fun _ _ _ _ _ _ us hl => match us, hl with | [_, _, _, _], _ => rfl
def walkS (z : Str) (rs : List LRow) (p : Int) (l : List Nat) : Int := l.foldl (fun p c => nxt rs p (z.cps.toList.idxOf c)) p
def spSb (K : PySem.W.Frag) : Sp := fun vs H Q _ => ∃ z b rs p t, vs = [.str z, .ref b, .int p, .str t] ∧ RRows K H b rs ∧ SignsOk z ∧ RowsOk z.length rs ∧ InSt rs p ∧ txB z t = true ∧ Q (.int (walkS z rs p t.cps.toList)) H
theorem ok_state_behind (T : Tx K mg) : Dk P w K mg base 1 "state_behind" ["signs", "states", "state", "text"] (spSb K) := by
  obtain ⟨fd, F⟩ := T.d_state_behind
  refine ⟨⟨fd, F.ok sc_state_behind (fun vs H Q E h => ?_) (fun cdv A outer s H vs Q E hr h => ?_), bd_state_behind F⟩, F.kp, T.g_state_behind⟩
  · obtain ⟨z, b, rs, p, t, rfl, _⟩ := h
    rfl
  · obtain ⟨z, b, rs, p, t, rfl, hb, hz, hr2, hp, ht, q⟩ := h
    refine ⟨_, PSs.nox (pss_cons (ps_for PassesOwn.never rfl (pi_str (pv 3)) (pg_name (i := 4) sc_state_behind.nd rfl (.inl rfl)) (pss_one (ps_set (i := 2) sc_state_behind.nd rfl (.inl rfl) (pe_ix ix_tupQ (pe_ix ix_tupQ (pe_ix ix_tupQ (pv 1) (pv 2) (fun _ _ => rfl)) pe_int (fun _ _ => rfl)) (pe_m1 PySem.F.slot_str_find PySem.F.type_str_find mt_find (pv 0) (pv 4)) (fun _ _ => rfl)))))
      (pss_one (ps_ret (pv 2)))), ?_⟩
    simp only [cxOf, tYes, eq_self, if_true, if_false, wipe, rLenQ, rIxTQ, rIxLQ, rIxSQ, rInt1Q, rTupQ, rAppQ, rPopQ, rPopAtQ, rRevQ, rListS, rReprP, tLenSetT, tChain, tRetN, tRet, tSeq, tAsg, gName, tVar, tC, tCons, tNil, tCB, tOp, rI0, rI, tAndV, tOrV, tNotV, tIf, tTest, tB, tNot, tAnd, tOr, tIfS, tNext, tCallR, rIsK, rEq, rNe, tDrop, L2.start, List.map_cons, List.map_nil, List.length_cons, List.length_nil, Nat.reduceAdd, Nat.reduceSub, Nat.sub_self, List.replicate_zero, List.replicate_succ, List.append_nil, List.cons_append, List.nil_append, List.getElem?_cons_zero, List.getElem?_cons_succ, List.set_cons_zero, List.set_cons_succ, Option.some.injEq, List.cons.injEq, and_true, true_and, exists_eq_left, exists_eq_left', exists_eq_right, V.ty.injEq, V.int.injEq, V.bl.injEq, V.str.injEq, V.ref.injEq, exists_and_left, exists_const, reduceIte, reduceCtorEq, false_and, and_false, exists_false, or_false, false_or, Bool.not_true, Bool.not_false, Bool.false_eq_true, String.reduceEq, true_or, or_true]
    refine ⟨.str t, rfl, t, rfl, for_gen (n := t.cps.size) (fun i σ H' => H' = H ∧ InSt rs (walkS z rs p (t.cps.toList.take i)) ∧ ∃ x4, σ = [some (.str z), some (.ref b), some (.int (walkS z rs p (t.cps.toList.take i))), some (.str t), x4]) ⟨rfl, hp, _, rfl⟩ (fun i σ H' hi _ => hi) (fun σ H' _ => Nat.le_refl _) ?_ ?_⟩
    · rintro i x σ H1 H2 hi ⟨rfl, hin, x4, rfl⟩ ⟨rfl, c, hc, rfl⟩
      have hc2 : t.cps.toList[i]? = some c := by rw [Array.getElem?_toList]; exact hc
      have hcm : c ∈ z.cps.toList := of_decide_eq_true (List.all_eq_true.mp ht c (List.mem_of_getElem? hc2))
      have hx : z.cps.toList.idxOf c < z.cps.toList.length := List.idxOf_lt_length_of_mem hcm
      have hxi : z.cps.toList[z.cps.toList.idxOf c]? = some c := by
        rw [List.getElem?_eq_getElem hx]
        exact congrArg some (List.getElem_idxOf hx)
      have hxl : z.cps.toList.idxOf c < z.length := by
        have e : z.cps.toList.length = z.length := Array.length_toList
        omega
      obtain ⟨vs, a1, b1, h1, h2, h3, h4⟩ := hb.at hin
      simp only [cxOf, tYes, eq_self, if_true, if_false, wipe, rLenQ, rIxTQ, rIxLQ, rIxSQ, rInt1Q, rTupQ, rAppQ, rPopQ, rPopAtQ, rRevQ, rListS, rReprP, tLenSetT, tChain, tRetN, tRet, tSeq, tAsg, gName, tVar, tC, tCons, tNil, tCB, tOp, rI0, rI, tAndV, tOrV, tNotV, tIf, tTest, tB, tNot, tAnd, tOr, tIfS, tNext, tCallR, rIsK, rEq, rNe, tDrop, L2.start, List.map_cons, List.map_nil, List.length_cons, List.length_nil, Nat.reduceAdd, Nat.reduceSub, Nat.sub_self, List.replicate_zero, List.replicate_succ, List.append_nil, List.cons_append, List.nil_append, List.getElem?_cons_zero, List.getElem?_cons_succ, List.set_cons_zero, List.set_cons_succ, Option.some.injEq, List.cons.injEq, and_true, true_and, exists_eq_left, exists_eq_left', exists_eq_right, V.ty.injEq, V.int.injEq, V.bl.injEq, V.str.injEq, V.ref.injEq, exists_and_left, exists_const, reduceIte, reduceCtorEq, false_and, and_false, exists_false, or_false, false_or, Bool.not_true, Bool.not_false, Bool.false_eq_true, String.reduceEq, true_or, or_true]
      have step : walkS z rs p (t.cps.toList.take (i + 1)) = nxt rs (walkS z rs p (t.cps.toList.take i)) (z.cps.toList.idxOf c) := by
        unfold walkS
        rw [List.take_add_one, hc2, List.foldl_append]
        rfl
      have ef : Txt.find z ⟨#[c]⟩ = ((z.cps.toList.idxOf c : Nat) : Int) := find_sign hz.nd hxi
      refine ⟨vs, h1, _, h2, _, h3, _, rfl, ?_⟩
      refine ⟨.str z, rfl, ⟨z, rfl⟩, .str ⟨#[c]⟩, rfl, z, rfl, ⟨#[c]⟩, rfl, ?_⟩
      rw [ef]
      refine ⟨_, h4, _, row_at hr2 hin hxl, rfl, ?_, ?_, _, rfl⟩
      · rw [step]
        exact nxt_in hr2 hin hxl
      · rw [step]
    · rintro σ H1 ⟨rfl, hin, x4, rfl⟩
      have ee : t.cps.toList.take t.cps.size = t.cps.toList := List.take_of_length_le (by simp)
      rw [ee]
      exact ⟨_, rfl, q⟩
theorem sc_check_number : FnScope ["value", "low", "high"] ["value", "low", "high"] (defScope (topS 11)) := ⟨rfl, rfl, rfl, by decide +kernel, rfl, by decide +kernel, by decide +kernel⟩
theorem bd_check_number {K : PySem.W.Frag} {f : Addr} {fd : FuncData} (F : FnP K "check_number" (topS 11) f fd) : Binds K fd ["value", "low", "high"] [] := F.bindsN fun _ _ _ _ _ _ us hl => match us, hl with | [_, _, _], _ => rfl
def spCn (K : PySem.W.Frag) : Sp := fun vs H Q E => ∃ v lo hi : Int, vs = [.int v, .int lo, .int hi] ∧ (0 ≤ lo ∧ lo < 600) ∧ (0 ≤ hi ∧ hi < 600) ∧ (lo ≤ v → v ≤ hi → Q .non H) ∧ (¬ (lo ≤ v ∧ v ≤ hi) → E (.ref (He.ga K "BadNumber")) none H)
theorem ok_check_number (T : Tx K mg) : Dk P w K mg base 1 "check_number" ["value", "low", "high"] (spCn K) := by
  obtain ⟨fd, F⟩ := T.d_check_number
  refine ⟨⟨fd, F.ok sc_check_number (fun vs H Q E h => ?_) (fun cdv A outer s H vs Q E hr h => ?_), bd_check_number F⟩, F.kp, T.g_check_number⟩
  · obtain ⟨v, lo, hi, rfl, _⟩ := h
    rfl
  · obtain ⟨v, lo, hi, rfl, hlo, hhi, q1, q2⟩ := h
    refine ⟨_, (pss_cons (ps_if (PW.pt (pw_or (pt_not (pt_val (pe_callB call_isK (by rfl) T.f_isinstance PyProof.Rows.boot_isinstance (pa_cons (pv 0) (pa_cons (pe_bltn (v := .ty "int") (by rfl) T.f_int PyProof.Rows.boot_int rfl) pa_nil))))) (pw_or1 (pt_val (pe_callB call_isK (by rfl) T.f_isinstance PyProof.Rows.boot_isinstance (pa_cons (pv 0) (pa_cons (pe_bltn (v := .ty "bool") (by rfl) T.f_bool PyProof.Rows.boot_bool rfl) pa_nil))))))) (pss_one (ps_raise rfl (takes_of rfl rfl rfl rfl) (pmk_own PySem.F.excBase_ValueError T.e_BadNumber.ex T.e_BadNumber.gm T.e_BadNumber.kp T.e_BadNumber.rs rfl))) pss_nil)
      (pss_one (ps_if (pt_not (pt_chain op_le op_le (pv 1) (pv 0) (pv 2))) (pss_one (ps_raise rfl (takes_of rfl rfl rfl rfl) (pmk_ownE PySem.F.excBase_ValueError T.e_BadNumber.ex T.e_BadNumber.gm T.e_BadNumber.kp T.e_BadNumber.rs (pe_joined (PJ.cons pe_str (PJ.cons (pe_fmt (pv 1)) (PJ.cons pe_str (PJ.cons (pe_fmt (pv 2)) PJ.nil))))) rfl))) pss_nil))), ?_⟩
    simp only [cxOf, tYes, eq_self, if_true, if_false, wipe, rLenQ, rIxTQ, rIxLQ, rIxSQ, rInt1Q, rTupQ, rAppQ, rPopQ, rPopAtQ, rRevQ, rListS, rReprP, tLenSetT, tChain, tRetN, tRet, tSeq, tAsg, gName, tVar, tC, tCons, tNil, tCB, tOp, rI0, rI, tAndV, tOrV, tNotV, tIf, tTest, tB, tNot, tAnd, tOr, tIfS, tNext, tCallR, rIsK, rEq, rNe, tDrop, L2.start, List.map_cons, List.map_nil, List.length_cons, List.length_nil, Nat.reduceAdd, Nat.reduceSub, Nat.sub_self, List.replicate_zero, List.replicate_succ, List.append_nil, List.cons_append, List.nil_append, List.getElem?_cons_zero, List.getElem?_cons_succ, List.set_cons_zero, List.set_cons_succ, Option.some.injEq, List.cons.injEq, and_true, true_and, exists_eq_left, exists_eq_left', exists_eq_right, V.ty.injEq, V.int.injEq, V.bl.injEq, V.str.injEq, V.ref.injEq, exists_and_left, exists_const, reduceIte, reduceCtorEq, false_and, and_false, exists_false, or_false, false_or, Bool.not_true, Bool.not_false, Bool.false_eq_true, String.reduceEq, true_or, or_true, rNotT, tNNew, tNNotIn, tNGet, sNPut, tLenSetN, tPar, tAug, ipI, tDNotIn, sDPut, tDGet, tTup, tLst, tBM, tBM0]
    have tx : ∀ (R : Str → Hp → Prop), (∀ out, R out H) → tJs [tC (.str (Str.ofString "this is not an int from ")), tFmt (tVar 1), tC (.str (Str.ofString " to ")), tFmt (tVar 2)] Str.empty [some (.int v), some (.int lo), some (.int hi)] H R := by
      intro R hR
      have short : ∀ i : Int, 0 ≤ i ∧ i < 600 → (Str.ofString (toString i)).length ≤ 8 ∧ i.natAbs.log2 < 1920 := fun i hi => by
        have h1 := int_ok hi.1 hi.2
        refine ⟨by simpa [PyData.shown] using h1.1, ?_⟩
        simpa [PyData.showable] using h1.2.2
      have l1 := short lo hlo
      have l2 := short hi hhi
      have c1 : (Str.ofString "this is not an int from ").length = 24 := by decide
      have c2 : (Str.ofString " to ").length = 4 := by decide
      have c0 : Str.empty.length = 0 := rfl
      refine ⟨_, rfl, ?_, .int lo, rfl, .inr ⟨lo, rfl, l1.2, _, rfl, ?_, _, rfl, ?_, .int hi, rfl, .inr ⟨hi, rfl, l2.2, _, rfl, ?_, hR _⟩⟩⟩
      all_goals
        simp only [strLen_append]
        refine szle (m := 100) ?_
        omega
    refine ⟨.int v, ifF rfl ⟨.int v, ifF rfl ?_⟩⟩
    by_cases h1 : lo ≤ v
    · refine ifT (decide_eq_true h1) ?_
      by_cases h2 : v ≤ hi
      · exact ifF (by rw [decide_eq_true h2]; rfl) (q1 h1 h2)
      · exact ifT (by rw [decide_eq_false h2]; rfl) (tx _ fun _ => q2 fun z => h2 z.2)
    · exact ifF (decide_eq_false h1) (tx _ fun _ => q2 fun z => h1 z.1)
theorem sc_counts_behind : FnScope ["states", "length", "counts", "_", "state", "to"] ["states", "length"] (defScope (topS 44)) := ⟨rfl, rfl, rfl, by decide +kernel, rfl, by decide +kernel, by decide +kernel⟩
theorem bd_counts_behind {K : PySem.W.Frag} {f : Addr} {fd : FuncData} (F : FnP K "counts_behind" (topS 44) f fd) : Binds K fd ["states", "length"] [] := F.bindsN fun _ _ _ _ _ _ us hl => match us, hl with | [_, _], _ => rfl
def cntsOf (n : Nat) (rs : List LRow) (m : Nat) : List Int := (stR rs.length).map (cntAt n rs m)
def spCb (K : PySem.W.Frag) : Sp := fun vs H Q _ => ∃ b rs n, ∃ m : Nat, vs = [.ref b, .int (m : Int)] ∧ RRows K H b rs ∧ RowsOk n rs ∧ n ≤ 1000 ∧ m ≤ 1000 ∧ ∀ l H', Same H H' → H' l = some (.lst ((cntsOf n rs m).map V.int)) → Q (.ref l) H'
def CbI (H : Hp) (b : Addr) (n : Nat) (rs : List LRow) (m : Nat) (k : Nat) (σ : L2.St) (H' : Hp) : Prop :=
  ∃ (l : Addr) (y3 y4 y5 : Option V), Same H H' ∧ H' l = some (.lst ((cntsOf n rs k).map V.int)) ∧ σ = [some (.ref b), some (.int (m : Int)), some (.ref l), y3, y4, y5]
theorem ok_counts_behind (T : Tx K mg) : Dk P w K mg base 1 "counts_behind" ["states", "length"] (spCb K) := by
  obtain ⟨fd, F⟩ := T.d_counts_behind
  refine ⟨⟨fd, F.ok sc_counts_behind (fun vs H Q E h => ?_) (fun cdv A outer s H vs Q E hr h => ?_), bd_counts_behind F⟩, F.kp, T.g_counts_behind⟩
  · obtain ⟨b, rs, n, m, rfl, _⟩ := h
    rfl
  · obtain ⟨b, rs, n, m, rfl, ⟨vs, hvs, hpr⟩, ok, hn, hm, q⟩ := h
    refine ⟨_, PSs.nox (pss_cons (ps_set (i := 2) sc_counts_behind.nd rfl (.inr rfl) (pe_lc (own := [("state", 4)]) rfl sc_counts_behind.nd (pi_tup (pv 0)) (blkOk_by (own := [("state", 4)]) (N := ["states", "length", "counts", "_", "state", "to"]) (sc := defScope (topS 44)) (by decide +kernel)) (fun _ _ _ _ _ => (pg_name (i := 4) sc_counts_behind.nd rfl (.inl rfl))) (fun _ _ _ _ _ => pts_nil) (fun _ _ _ _ _ => (pe_ix (show IxR _ (rIxTQ K) by exact ix_tupQ) (pv 4) pe_int (fun _ _ => rfl)))))
      (pss_cons (ps_for PassesOwn.never rfl (pi_range1 (by rfl) T.f_range (pa_cons (pv 1) pa_nil)) (pg_name (i := 3) sc_counts_behind.nd rfl (.inl rfl)) (pss_one (ps_set (i := 2) sc_counts_behind.nd rfl (.inr rfl) (pe_lc (own := [("state", 4)]) rfl sc_counts_behind.nd (pi_tup (pv 0)) (blkOk_by (own := [("state", 4)]) (N := ["states", "length", "counts", "_", "state", "to"]) (sc := defScope (topS 44)) (by decide +kernel)) (fun _ _ _ _ _ => (pg_name (i := 4) sc_counts_behind.nd rfl (.inl rfl))) (fun _ _ _ _ _ => pts_nil) (fun _ _ _ _ _ => (pe_callB (show CallR _ (.builtin "sum") (rSum K) by exact cr_sum rfl) (by rfl) T.f_sum (by decide +kernel) (pa_cons (pe_lc (own := [("to", 5)]) rfl sc_counts_behind.nd (show PI _ _ _ (iTup K _) by exact (pi_tup (pe_ix (show IxR _ (rIxTQ K) by exact ix_tupQ) (pv 4) pe_int (fun _ _ => rfl)))) (by show BlkOk ["states", "length", "counts", "_", "state", "to"] ({ kind := .function, names := [(".0", .local), ("state", .local), ("sum", .globalImplicit), ("counts", .cell)], isGenerator := false, isCoroutine := false } : Scope) _ _; exact blkOk_by (by decide +kernel)) (fun _ _ _ _ _ => (pg_name (i := 5) sc_counts_behind.nd rfl (.inl rfl))) (fun _ _ _ _ _ => pts_nil) (fun _ _ _ _ _ => (pe_ix (show IxR _ (rIxLQ K) by exact ix_listQ) (pv 2) (pv 5) (fun _ _ => rfl)))) pa_nil)))))))
      (pss_one (ps_ret (pv 2))))), ?_⟩
    simp only [cxOf, tYes, eq_self, if_true, if_false, wipe, rLenQ, rIxTQ, rIxLQ, rIxSQ, rInt1Q, rTupQ, rAppQ, rPopQ, rPopAtQ, rRevQ, rListS, rReprP, tLenSetT, tChain, tRetN, tRet, tSeq, tAsg, gName, tVar, tC, tCons, tNil, tCB, tOp, rI0, rI, tAndV, tOrV, tNotV, tIf, tTest, tB, tNot, tAnd, tOr, tIfS, tNext, tCallR, rIsK, rEq, rNe, tDrop, L2.start, List.map_cons, List.map_nil, List.length_cons, List.length_nil, Nat.reduceAdd, Nat.reduceSub, Nat.sub_self, List.replicate_zero, List.replicate_succ, List.append_nil, List.cons_append, List.nil_append, List.getElem?_cons_zero, List.getElem?_cons_succ, List.set_cons_zero, List.set_cons_succ, Option.some.injEq, List.cons.injEq, and_true, true_and, exists_eq_left, exists_eq_left', exists_eq_right, V.ty.injEq, V.int.injEq, V.bl.injEq, V.str.injEq, V.ref.injEq, exists_and_left, exists_const, reduceIte, reduceCtorEq, false_and, and_false, exists_false, or_false, false_or, Bool.not_true, Bool.not_false, Bool.false_eq_true, String.reduceEq, true_or, or_true, rNotT, tNNew, tNNotIn, tNGet, sNPut, tLenSetN, tPar, tAug, ipI, tDNotIn, sDPut, tDGet, tTup, tLst, tBM, tBM0]
    have el : vs.length = rs.length := pr_len hpr
    have h600 := ok.top
    refine ⟨.ref b, rfl, b, rfl, ⟨vs, hvs⟩, fun D0 hD0 => ?_⟩
    refine lc_read (ys := (cntsOf n rs 0).map V.int) hD0 hvs (by simp [el, cntsOf, stR_len]) (by omega) (fun x => rfl) (fun i x y hx hy R hR => ?_) ?_
    · obtain ⟨r, hr, a1, b1, rfl, h3, h4⟩ := pr_get hpr hx
      have hi := (List.getElem?_eq_some_iff.mp hr).1
      have e : y = .int r.1 := by
        unfold cntsOf at hy
        rw [List.getElem?_map, List.getElem?_map, stR_get hi] at hy
        have hin : InSt rs (i : Int) := ⟨by omega, by omega⟩
        have h5 := rowOf_get hin
        rw [Int.toNat_natCast, hr] at h5
        rw [← Option.some.inj hy, Option.some.inj h5]
        rfl
      subst e
      exact ⟨_, rfl, _, _, Same.sqT (same_upd hD0) h3, rfl, hR⟩
    refine ⟨.int (m : Int), rfl, (m : Int), rfl, by omega, by omega, ?_⟩
    have en : ((m : Nat) : Int).toNat = m := Int.toNat_natCast _
    rw [en]
    refine for_range (CbI H b n rs m) ⟨D0, none, none, none, same_upd hD0, upd_same, rfl⟩ ?_ ?_
    · rintro k σ H1 hk ⟨l, y3, y4, y5, s1, hl, rfl⟩
      refine ⟨.ref b, rfl, b, rfl, ⟨vs, Same.sqT s1 hvs⟩, fun D1 hD1 => ?_⟩
      refine lc_grow (ys := (cntsOf n rs (k + 1)).map V.int) hD1 (Same.sqT s1 hvs) (by simp [el, cntsOf, stR_len]) (by omega) (fun x => rfl) (fun i x y hx hy H2 s2 R hR => ?_) (fun H2 s2 hD2 => ⟨D1, _, _, _, Same.trans s1 s2, hD2, rfl⟩)
      obtain ⟨r, hr, a1, b1, rfl, h3, h4⟩ := pr_get hpr hx
      have hi := (List.getElem?_eq_some_iff.mp hr).1
      have hin : InSt rs (i : Int) := ⟨by omega, by omega⟩
      have er : rowOf rs (i : Int) = r := by
        have h5 := rowOf_get hin
        rw [Int.toNat_natCast, hr] at h5
        exact (Option.some.inj h5).symm
      have s12 := Same.trans s1 s2
      have e : y = .int ((r.2.map (cntAt n rs k)).sum) := by
        unfold cntsOf at hy
        rw [List.getElem?_map, List.getElem?_map, stR_get hi] at hy
        rw [← Option.some.inj hy, ← er, ← cnt_succ ok hin]
      subst e
      refine ⟨.ref a1, rfl, _, _, Same.sqT s12 h3, rfl, b1, rfl, ⟨_, Same.sqT s12 h4⟩, fun D2 hD2 => ?_⟩
      refine lc_read (ys := (r.2.map (cntAt n rs k)).map V.int) hD2 (Same.sqT s12 h4) (by simp) (by have := ok.wid r (List.mem_of_getElem? hr); simp; omega) (fun x => rfl) (fun j x y hx hy R2 hR2 => ?_) ?_
      · rw [List.getElem?_map] at hx
        obtain ⟨qv, hq, rfl⟩ := Option.map_eq_some_iff.mp hx
        have hto := ok.to r (List.mem_of_getElem? hr) qv (List.mem_of_getElem? hq)
        have e : y = .int (cntAt n rs k qv) := by
          rw [List.getElem?_map, List.getElem?_map, hq] at hy
          exact (Option.some.inj hy).symm
        subst e
        have hg := getD_get (ms := cntsOf n rs k) (N := rs.length) (by simp [cntsOf, stR_len]) hto.1 hto.2
        rw [show mk (cntsOf n rs k) qv = cntAt n rs k qv from mk_stR hto.1 hto.2] at hg
        exact ⟨_, rfl, _, rfl, _, _, .inl (.inl (same_upd hD2 _ _ (s2 _ _ hl))), hg, hR2⟩
      exact ⟨D2, _, rfl, .inl (.inl upd_same), hR _ (same_upd hD2)⟩
    · rintro σ H1 ⟨l, y3, y4, y5, s1, hl, rfl⟩
      exact ⟨_, rfl, q l H1 s1 hl⟩
theorem sc_check_looker : FnScope ["value"] ["value"] (defScope (topS 29)) := ⟨rfl, rfl, rfl, by decide +kernel, rfl, by decide +kernel, by decide +kernel⟩
theorem bd_check_looker {K : PySem.W.Frag} {f : Addr} {fd : FuncData} (F : FnP K "check_looker" (topS 29) f fd) : Binds K fd ["value"] [] := F.bindsN fun _ _ _ _ _ _ us hl => match us, hl with | [_], _ => rfl
/-- data that is no looker -/
def BadK (K : PySem.W.Frag) (H : Hp) (v : V) : Prop := ∃ d, Dp K H v d ∧ noL d = true ∧ (∀ z r, d = .tuple (.str z :: r) → z.length ≤ 1000) ∧ lkB d = false
def GoodK (K : PySem.W.Frag) (H : Hp) (v : V) (z : Str) (rs : List LRow) : Prop := RLk K H v z rs ∧ SignsOk z ∧ RowsOk z.length rs
theorem GoodK.small {z : Str} {rs : List LRow} (hz : SignsOk z) : ∀ z' r, lkD z rs = .tuple (.str z' :: r) → z'.length ≤ 1000 := by
  intro z' r e
  have e2 := PyData.str.inj (List.cons.inj (PyData.tuple.inj e)).1
  rw [← e2]
  have := hz.top
  omega
theorem BadK.mono {H H' : Hp} (k : TK H H') {v : V} (h : BadK K H v) : BadK K H' v := by
  obtain ⟨d, h1, h2, h3, h4⟩ := h
  exact ⟨d, dp_mono k d v h1 h2, h2, h3, h4⟩
theorem GoodK.mono {H H' : Hp} (k : TK H H') {v : V} {z : Str} {rs : List LRow} (h : GoodK K H v z rs) : GoodK K H' v z rs := ⟨h.1.mono k, h.2⟩
def spCl (K : PySem.W.Frag) : Sp := fun vs H Q E => ∃ v, vs = [v] ∧ ((∃ z rs, GoodK K H v z rs ∧ Q .non H) ∨ (BadK K H v ∧ E (.ref (He.ga K "BadLooker")) none H))
theorem ok_check_looker (T : Tx K mg) : Dk P w K mg base 4 "check_looker" ["value"] (spCl K) := by
  have D_is_looker_value := ok_is_looker_value (P := P) (w := w) (base := base) T
  obtain ⟨fd, F⟩ := T.d_check_looker
  refine ⟨⟨fd, F.ok sc_check_looker (fun vs H Q E h => ?_) (fun cdv A outer s H vs Q E hr h => ?_), bd_check_looker F⟩, F.kp, T.g_check_looker⟩
  · obtain ⟨v, rfl, _⟩ := h
    rfl
  · obtain ⟨v, rfl, h⟩ := h
    refine ⟨_, (pss_one (ps_if (pt_not (pt_val (pe_callR D_is_looker_value (hr.mono (by decide)) (takes_of rfl rfl rfl rfl) (pa_cons (pv 0) pa_nil)))) (pss_one (ps_raise rfl (takes_of rfl rfl rfl rfl) (pmk_own PySem.F.excBase_ValueError T.e_BadLooker.ex T.e_BadLooker.gm T.e_BadLooker.kp T.e_BadLooker.rs rfl))) pss_nil)), ?_⟩
    simp only [cxOf, tYes, eq_self, if_true, if_false, wipe, rLenQ, rIxTQ, rIxLQ, rIxSQ, rInt1Q, rTupQ, rAppQ, rPopQ, rPopAtQ, rRevQ, rListS, rReprP, tLenSetT, tChain, tRetN, tRet, tSeq, tAsg, gName, tVar, tC, tCons, tNil, tCB, tOp, rI0, rI, tAndV, tOrV, tNotV, tIf, tTest, tB, tNot, tAnd, tOr, tIfS, tNext, tCallR, rIsK, rEq, rNe, tDrop, L2.start, List.map_cons, List.map_nil, List.length_cons, List.length_nil, Nat.reduceAdd, Nat.reduceSub, Nat.sub_self, List.replicate_zero, List.replicate_succ, List.append_nil, List.cons_append, List.nil_append, List.getElem?_cons_zero, List.getElem?_cons_succ, List.set_cons_zero, List.set_cons_succ, Option.some.injEq, List.cons.injEq, and_true, true_and, exists_eq_left, exists_eq_left', exists_eq_right, V.ty.injEq, V.int.injEq, V.bl.injEq, V.str.injEq, V.ref.injEq, exists_and_left, exists_const, reduceIte, reduceCtorEq, false_and, and_false, exists_false, or_false, false_or, Bool.not_true, Bool.not_false, Bool.false_eq_true, String.reduceEq, true_or, or_true]
    rcases h with ⟨z, rs, ⟨hv, hz, ok⟩, q⟩ | ⟨⟨d, h1, h2, h3, h4⟩, q⟩
    · refine ⟨v, lkD z rs, rfl, hv.dp, lkD_noL z rs, GoodK.small hz, _, rfl, ifF ?_ q⟩
      rw [lkD_lk hz ok]
      rfl
    · refine ⟨v, d, rfl, h1, h2, h3, _, rfl, ifT ?_ q⟩
      rw [h4]
      rfl
theorem sc_is_looker : FnScope ["value"] ["value"] (defScope (topS 47)) := ⟨rfl, rfl, rfl, by decide +kernel, rfl, by decide +kernel, by decide +kernel⟩
theorem bd_is_looker {K : PySem.W.Frag} {f : Addr} {fd : FuncData} (F : FnP K "is_looker" (topS 47) f fd) : Binds K fd ["value"] [] := F.bindsN fun _ _ _ _ _ _ us hl => match us, hl with | [_], _ => rfl
def spIl (K : PySem.W.Frag) : Sp := fun vs H Q _ => ∃ v, vs = [v] ∧ ((∃ z rs, GoodK K H v z rs ∧ Q (.bl true) H) ∨ (BadK K H v ∧ Q (.bl false) H))
theorem ok_is_looker (T : Tx K mg) : Dk P w K mg base 4 "is_looker" ["value"] (spIl K) := by
  have D_is_looker_value := ok_is_looker_value (P := P) (w := w) (base := base) T
  obtain ⟨fd, F⟩ := T.d_is_looker
  refine ⟨⟨fd, F.ok sc_is_looker (fun vs H Q E h => ?_) (fun cdv A outer s H vs Q E hr h => ?_), bd_is_looker F⟩, F.kp, T.g_is_looker⟩
  · obtain ⟨v, rfl, _⟩ := h
    rfl
  · obtain ⟨v, rfl, h⟩ := h
    refine ⟨_, PSs.nox (pss_one (ps_ret (pe_callR D_is_looker_value (hr.mono (by decide)) takes0 (pa_cons (pv 0) pa_nil)))), ?_⟩
    simp only [cxOf, tYes, eq_self, if_true, if_false, wipe, rLenQ, rIxTQ, rIxLQ, rIxSQ, rInt1Q, rTupQ, rAppQ, rPopQ, rPopAtQ, rRevQ, rListS, rReprP, tLenSetT, tChain, tRetN, tRet, tSeq, tAsg, gName, tVar, tC, tCons, tNil, tCB, tOp, rI0, rI, tAndV, tOrV, tNotV, tIf, tTest, tB, tNot, tAnd, tOr, tIfS, tNext, tCallR, rIsK, rEq, rNe, tDrop, L2.start, List.map_cons, List.map_nil, List.length_cons, List.length_nil, Nat.reduceAdd, Nat.reduceSub, Nat.sub_self, List.replicate_zero, List.replicate_succ, List.append_nil, List.cons_append, List.nil_append, List.getElem?_cons_zero, List.getElem?_cons_succ, List.set_cons_zero, List.set_cons_succ, Option.some.injEq, List.cons.injEq, and_true, true_and, exists_eq_left, exists_eq_left', exists_eq_right, V.ty.injEq, V.int.injEq, V.bl.injEq, V.str.injEq, V.ref.injEq, exists_and_left, exists_const, reduceIte, reduceCtorEq, false_and, and_false, exists_false, or_false, false_or, Bool.not_true, Bool.not_false, Bool.false_eq_true, String.reduceEq, true_or, or_true, rNotT, tNNew, tNNotIn, tNGet, sNPut, tLenSetN, tPar, tAug, ipI, tDNotIn, sDPut, tDGet, tTup, tLst, tBM, tBM0]
    rcases h with ⟨z, rs, ⟨hv, hz, ok⟩, q⟩ | ⟨⟨d, h1, h2, h3, h4⟩, q⟩
    · refine ⟨v, lkD z rs, rfl, hv.dp, lkD_noL z rs, GoodK.small hz, ?_⟩
      rw [lkD_lk hz ok]
      exact q
    · refine ⟨v, d, rfl, h1, h2, h3, ?_⟩
      rw [h4]
      exact q
theorem sc_takes : FnScope ["looker", "text", "signs", "states"] ["looker", "text"] (defScope (topS 48)) := ⟨rfl, rfl, rfl, by decide +kernel, rfl, by decide +kernel, by decide +kernel⟩
theorem bd_takes {K : PySem.W.Frag} {f : Addr} {fd : FuncData} (F : FnP K "takes" (topS 48) f fd) : Binds K fd ["looker", "text"] [] := F.bindsN fun _ _ _ _ _ _ us hl => match us, hl with | [_, _], _ => rfl
def endB (z : Str) (rs : List LRow) (t : Str) : Int := endAt rs (walkS z rs 0 t.cps.toList)
def spTk (K : PySem.W.Frag) : Sp := fun vs H Q E => ∃ v t, vs = [v, .str t] ∧ ((∃ z rs, GoodK K H v z rs ∧ t.length ≤ 100000 ∧ txB z t = true ∧ ∀ H', Same H H' → Q (.int (endB z rs t)) H') ∨ (BadK K H v ∧ E (.ref (He.ga K "BadLooker")) none H))
theorem walk_in {z : Str} {rs : List LRow} (ok : RowsOk z.length rs) : ∀ (l : List Nat), (∀ c ∈ l, c ∈ z.cps.toList) → ∀ p, InSt rs p → InSt rs (walkS z rs p l)
  | [], _, _, hp => hp
  | c :: l, h, p, hp => by
    have hx : z.cps.toList.idxOf c < z.cps.toList.length := List.idxOf_lt_length_of_mem (h c List.mem_cons_self)
    have e : z.cps.toList.length = z.length := Array.length_toList
    exact walk_in ok l (fun c hc => h c (List.mem_cons_of_mem _ hc)) _ (nxt_in ok hp (by omega))
theorem ok_takes (T : Tx K mg) : Dk P w K mg base 5 "takes" ["looker", "text"] (spTk K) := by
  have D_check_looker := ok_check_looker (P := P) (w := w) (base := base) T
  have D_check_text := ok_check_text (P := P) (w := w) (base := base) T
  have D_state_behind := ok_state_behind (P := P) (w := w) (base := base) T
  obtain ⟨fd, F⟩ := T.d_takes
  refine ⟨⟨fd, F.ok sc_takes (fun vs H Q E h => ?_) (fun cdv A outer s H vs Q E hr h => ?_), bd_takes F⟩, F.kp, T.g_takes⟩
  · obtain ⟨v, t, rfl, _⟩ := h
    rfl
  · obtain ⟨v, t, rfl, h⟩ := h
    refine ⟨_, (pss_cons (ps_expr (pe_callR D_check_looker (hr.mono (by decide)) (takes_of rfl rfl rfl rfl) (pa_cons (pv 0) pa_nil)))
      (pss_cons (ps_asg (pv 0) (pg_tup (by rfl) (pgs_cons (pg_name (i := 2) sc_takes.nd rfl (.inl rfl)) (pgs_cons (pg_name (i := 3) sc_takes.nd rfl (.inl rfl)) pgs_nil))))
      (pss_cons (ps_expr (pe_callR D_check_text (hr.mono (by decide)) (takes_of rfl rfl rfl rfl) (pa_cons (pv 2) (pa_cons (pv 1) pa_nil))))
      (pss_one (ps_ret (pe_ix ix_tupQ (pe_ix ix_tupQ (pv 3) (pe_callR D_state_behind (hr.mono (by decide)) (takes_of rfl rfl rfl rfl) (pa_cons (pv 2) (pa_cons (pv 3) (pa_cons pe_int (pa_cons (pv 1) pa_nil))))) (fun _ _ => rfl)) pe_int (fun _ _ => rfl))))))), ?_⟩
    simp only [cxOf, tYes, eq_self, if_true, if_false, wipe, rLenQ, rIxTQ, rIxLQ, rIxSQ, rInt1Q, rTupQ, rAppQ, rPopQ, rPopAtQ, rRevQ, rListS, rReprP, tLenSetT, tChain, tRetN, tRet, tSeq, tAsg, gName, tVar, tC, tCons, tNil, tCB, tOp, rI0, rI, tAndV, tOrV, tNotV, tIf, tTest, tB, tNot, tAnd, tOr, tIfS, tNext, tCallR, rIsK, rEq, rNe, tDrop, L2.start, List.map_cons, List.map_nil, List.length_cons, List.length_nil, Nat.reduceAdd, Nat.reduceSub, Nat.sub_self, List.replicate_zero, List.replicate_succ, List.append_nil, List.cons_append, List.nil_append, List.getElem?_cons_zero, List.getElem?_cons_succ, List.set_cons_zero, List.set_cons_succ, Option.some.injEq, List.cons.injEq, and_true, true_and, exists_eq_left, exists_eq_left', exists_eq_right, V.ty.injEq, V.int.injEq, V.bl.injEq, V.str.injEq, V.ref.injEq, exists_and_left, exists_const, reduceIte, reduceCtorEq, false_and, and_false, exists_false, or_false, false_or, Bool.not_true, Bool.not_false, Bool.false_eq_true, String.reduceEq, true_or, or_true, rNotT, tNNew, tNNotIn, tNGet, sNPut, tLenSetN, tPar, tAug, ipI, tDNotIn, sDPut, tDGet, tTup, tLst, tBM, tBM0]
    rcases h with ⟨z, rs, ⟨hv, hz, ok⟩, htl, ht, q⟩ | ⟨hb, q⟩
    case inr => exact ⟨v, rfl, .inr ⟨hb, q⟩⟩
    refine ⟨v, rfl, .inl ⟨z, rs, ⟨hv, hz, ok⟩, ?_⟩⟩
    obtain ⟨a, b, rfl, h1, hb⟩ := hv
    refine ⟨a, _, rfl, h1, rfl, _, _, rfl, _, _, rfl, rfl, ?_⟩
    refine ⟨.str z, rfl, .str t, rfl, z, t, rfl, htl, fun _ H1 s1 => ?_, fun e => by rw [ht] at e; cases e⟩
    have hb2 : RRows K H1 b rs := hb.mono (TK.of_same s1)
    simp only [cxOf, tYes, eq_self, if_true, if_false, wipe, rLenQ, rIxTQ, rIxLQ, rIxSQ, rInt1Q, rTupQ, rAppQ, rPopQ, rPopAtQ, rRevQ, rListS, rReprP, tLenSetT, tChain, tRetN, tRet, tSeq, tAsg, gName, tVar, tC, tCons, tNil, tCB, tOp, rI0, rI, tAndV, tOrV, tNotV, tIf, tTest, tB, tNot, tAnd, tOr, tIfS, tNext, tCallR, rIsK, rEq, rNe, tDrop, L2.start, List.map_cons, List.map_nil, List.length_cons, List.length_nil, Nat.reduceAdd, Nat.reduceSub, Nat.sub_self, List.replicate_zero, List.replicate_succ, List.append_nil, List.cons_append, List.nil_append, List.getElem?_cons_zero, List.getElem?_cons_succ, List.set_cons_zero, List.set_cons_succ, Option.some.injEq, List.cons.injEq, and_true, true_and, exists_eq_left, exists_eq_left', exists_eq_right, V.ty.injEq, V.int.injEq, V.bl.injEq, V.str.injEq, V.ref.injEq, exists_and_left, exists_const, reduceIte, reduceCtorEq, false_and, and_false, exists_false, or_false, false_or, Bool.not_true, Bool.not_false, Bool.false_eq_true, String.reduceEq, true_or, or_true, rNotT, tNNew, tNNotIn, tNGet, sNPut, tLenSetN, tPar, tAug, ipI, tDNotIn, sDPut, tDGet, tTup, tLst, tBM, tBM0]
    refine ⟨z, b, rs, 0, t, rfl, hb2, hz, ok, in_zero ok, ht, ?_⟩
    have hin : InSt rs (walkS z rs 0 t.cps.toList) := walk_in ok _ (fun c hc => of_decide_eq_true (List.all_eq_true.mp ht c hc)) _ (in_zero ok)
    obtain ⟨vs, a1, b1, g1, g2, g3, g4⟩ := hb2.at hin
    exact ⟨vs, g1, _, g2, _, g3, _, rfl, q _ s1⟩
theorem sc_count_taken : FnScope ["looker", "n"] ["looker", "n"] (defScope (topS 52)) := ⟨rfl, rfl, rfl, by decide +kernel, rfl, by decide +kernel, by decide +kernel⟩
theorem bd_count_taken {K : PySem.W.Frag} {f : Addr} {fd : FuncData} (F : FnP K "count_taken" (topS 52) f fd) : Binds K fd ["looker", "n"] [] := F.bindsN fun _ _ _ _ _ _ us hl => match us, hl with | [_, _], _ => rfl
def spCk (K : PySem.W.Frag) : Sp := fun vs H Q E => ∃ v, ∃ m : Int, vs = [v, .int m] ∧ ((∃ z rs, GoodK K H v z rs ∧ 0 ≤ m ∧ m ≤ 200 ∧ ∀ H', Same H H' → Q (.int (cntAt z.length rs m.toNat 0)) H') ∨ (BadK K H v ∧ E (.ref (He.ga K "BadLooker")) none H))
theorem ok_count_taken (T : Tx K mg) : Dk P w K mg base 5 "count_taken" ["looker", "n"] (spCk K) := by
  have D_check_looker := ok_check_looker (P := P) (w := w) (base := base) T
  have D_check_number := ok_check_number (P := P) (w := w) (base := base) T
  have D_counts_behind := ok_counts_behind (P := P) (w := w) (base := base) T
  obtain ⟨fd, F⟩ := T.d_count_taken
  refine ⟨⟨fd, F.ok sc_count_taken (fun vs H Q E h => ?_) (fun cdv A outer s H vs Q E hr h => ?_), bd_count_taken F⟩, F.kp, T.g_count_taken⟩
  · obtain ⟨v, m, rfl, _⟩ := h
    rfl
  · obtain ⟨v, m, rfl, h⟩ := h
    obtain ⟨_, c_MOST_LENGTH⟩ := T.c_MOST_LENGTH
    refine ⟨_, (pss_cons (ps_expr (pe_callR D_check_looker (hr.mono (by decide)) (takes_of rfl rfl rfl rfl) (pa_cons (pv 0) pa_nil)))
      (pss_cons (ps_expr (pe_callR D_check_number (hr.mono (by decide)) (takes_of rfl rfl rfl rfl) (pa_cons (pv 1) (pa_cons pe_int (pa_cons (pe_glob (v := .int 200) (by rfl) c_MOST_LENGTH ⟨_, rfl⟩) pa_nil)))))
      (pss_one (ps_ret (pe_ix ix_listQ (pe_callR D_counts_behind (hr.mono (by decide)) (takes_of rfl rfl rfl rfl) (pa_cons (pe_ix ix_tupQ (pv 0) pe_int (fun _ _ => rfl)) (pa_cons (pv 1) pa_nil))) pe_int (fun _ _ => rfl)))))), ?_⟩
    simp only [cxOf, tYes, eq_self, if_true, if_false, wipe, rLenQ, rIxTQ, rIxLQ, rIxSQ, rInt1Q, rTupQ, rAppQ, rPopQ, rPopAtQ, rRevQ, rListS, rReprP, tLenSetT, tChain, tRetN, tRet, tSeq, tAsg, gName, tVar, tC, tCons, tNil, tCB, tOp, rI0, rI, tAndV, tOrV, tNotV, tIf, tTest, tB, tNot, tAnd, tOr, tIfS, tNext, tCallR, rIsK, rEq, rNe, tDrop, L2.start, List.map_cons, List.map_nil, List.length_cons, List.length_nil, Nat.reduceAdd, Nat.reduceSub, Nat.sub_self, List.replicate_zero, List.replicate_succ, List.append_nil, List.cons_append, List.nil_append, List.getElem?_cons_zero, List.getElem?_cons_succ, List.set_cons_zero, List.set_cons_succ, Option.some.injEq, List.cons.injEq, and_true, true_and, exists_eq_left, exists_eq_left', exists_eq_right, V.ty.injEq, V.int.injEq, V.bl.injEq, V.str.injEq, V.ref.injEq, exists_and_left, exists_const, reduceIte, reduceCtorEq, false_and, and_false, exists_false, or_false, false_or, Bool.not_true, Bool.not_false, Bool.false_eq_true, String.reduceEq, true_or, or_true, rNotT, tNNew, tNNotIn, tNGet, sNPut, tLenSetN, tPar, tAug, ipI, tDNotIn, sDPut, tDGet, tTup, tLst, tBM, tBM0]
    rcases h with ⟨z, rs, ⟨hv, hz, ok⟩, m0, m1, q⟩ | ⟨hb, q⟩
    case inr => exact ⟨v, rfl, .inr ⟨hb, q⟩⟩
    have hz5 := hz.top
    refine ⟨v, rfl, .inl ⟨z, rs, ⟨hv, hz, ok⟩, m, 0, 200, rfl, by decide, by decide, fun h0 h1 => ?_, fun e => absurd ⟨m0, m1⟩ e⟩⟩
    obtain ⟨a, b, rfl, g1, gb⟩ := hv
    simp only [cxOf, tYes, eq_self, if_true, if_false, wipe, rLenQ, rIxTQ, rIxLQ, rIxSQ, rInt1Q, rTupQ, rAppQ, rPopQ, rPopAtQ, rRevQ, rListS, rReprP, tLenSetT, tChain, tRetN, tRet, tSeq, tAsg, gName, tVar, tC, tCons, tNil, tCB, tOp, rI0, rI, tAndV, tOrV, tNotV, tIf, tTest, tB, tNot, tAnd, tOr, tIfS, tNext, tCallR, rIsK, rEq, rNe, tDrop, L2.start, List.map_cons, List.map_nil, List.length_cons, List.length_nil, Nat.reduceAdd, Nat.reduceSub, Nat.sub_self, List.replicate_zero, List.replicate_succ, List.append_nil, List.cons_append, List.nil_append, List.getElem?_cons_zero, List.getElem?_cons_succ, List.set_cons_zero, List.set_cons_succ, Option.some.injEq, List.cons.injEq, and_true, true_and, exists_eq_left, exists_eq_left', exists_eq_right, V.ty.injEq, V.int.injEq, V.bl.injEq, V.str.injEq, V.ref.injEq, exists_and_left, exists_const, reduceIte, reduceCtorEq, false_and, and_false, exists_false, or_false, false_or, Bool.not_true, Bool.not_false, Bool.false_eq_true, String.reduceEq, true_or, or_true, rNotT, tNNew, tNNotIn, tNGet, sNPut, tLenSetN, tPar, tAug, ipI, tDNotIn, sDPut, tDGet, tTup, tLst, tBM, tBM0]
    refine ⟨_, g1, .ref b, rfl, b, rs, z.length, m.toNat, ?_, gb, ok, by omega, by omega, fun l H1 s1 hl => ?_⟩
    · rw [show ((m.toNat : Nat) : Int) = m by omega]
    · have hpos := ok.pos
      have hg := getD_get (ms := cntsOf z.length rs m.toNat) (N := rs.length) (p := 0) (by simp [cntsOf, stR_len]) (by omega) (by omega)
      rw [show mk (cntsOf z.length rs m.toNat) 0 = cntAt z.length rs m.toNat 0 from mk_stR (by omega) (by omega)] at hg
      exact ⟨_, .inl (.inl hl), _, hg, q H1 s1⟩
theorem sc_least_states : FnScope ["states", "marks", "numbers", "chosen", "rows", "end", "row", "leads", "to"] ["states"] (defScope (topS 38)) := ⟨rfl, rfl, rfl, by decide +kernel, rfl, by decide +kernel, by decide +kernel⟩
theorem bd_least_states {K : PySem.W.Frag} {f : Addr} {fd : FuncData} (F : FnP K "least_states" (topS 38) f fd) : Binds K fd ["states"] [] := F.bindsN fun _ _ _ _ _ _ us hl => match us, hl with | [_], _ => rfl
theorem ok_least_states (T : Tx K mg) : Dk P w K mg base 0 "least_states" ["states"] spNo := by
  obtain ⟨fd, F⟩ := T.d_least_states
  exact dk_no F (bd_least_states F) T.g_least_states 0
theorem sc_first_text : FnScope ["signs", "states", "came", "order", "at", "state", "place", "to"] ["signs", "states"] (defScope (topS 42)) := ⟨rfl, rfl, rfl, by decide +kernel, rfl, by decide +kernel, by decide +kernel⟩
theorem bd_first_text {K : PySem.W.Frag} {f : Addr} {fd : FuncData} (F : FnP K "first_text" (topS 42) f fd) : Binds K fd ["signs", "states"] [] := F.bindsN fun _ _ _ _ _ _ us hl => match us, hl with | [_, _], _ => rfl
theorem ok_first_text (T : Tx K mg) : Dk P w K mg base 0 "first_text" ["signs", "states"] spNo := by
  obtain ⟨fd, F⟩ := T.d_first_text
  exact dk_no F (bd_first_text F) T.g_first_text 0
theorem sc_first_unlike : FnScope ["signs", "one", "other", "came", "order", "at", "pair", "first", "second", "place", "to"] ["signs", "one", "other"] (defScope (topS 43)) := ⟨rfl, rfl, rfl, by decide +kernel, rfl, by decide +kernel, by decide +kernel⟩
theorem bd_first_unlike {K : PySem.W.Frag} {f : Addr} {fd : FuncData} (F : FnP K "first_unlike" (topS 43) f fd) : Binds K fd ["signs", "one", "other"] [] := F.bindsN fun _ _ _ _ _ _ us hl => match us, hl with | [_, _, _], _ => rfl
theorem ok_first_unlike (T : Tx K mg) : Dk P w K mg base 0 "first_unlike" ["signs", "one", "other"] spNo := by
  obtain ⟨fd, F⟩ := T.d_first_unlike
  exact dk_no F (bd_first_unlike F) T.g_first_unlike 0
theorem sc_check_same_signs : FnScope ["one", "other"] ["one", "other"] (defScope (topS 31)) := ⟨rfl, rfl, rfl, by decide +kernel, rfl, by decide +kernel, by decide +kernel⟩
theorem bd_check_same_signs {K : PySem.W.Frag} {f : Addr} {fd : FuncData} (F : FnP K "check_same_signs" (topS 31) f fd) : Binds K fd ["one", "other"] [] := F.bindsN fun _ _ _ _ _ _ us hl => match us, hl with | [_, _], _ => rfl
def spCs (K : PySem.W.Frag) : Sp := fun vs H Q _ => ∃ a b z xs ys, vs = [.ref a, .ref b] ∧ SqT K H a (.str z :: xs) ∧ SqT K H b (.str z :: ys) ∧ Q .non H
theorem ok_check_same_signs (T : Tx K mg) : Dk P w K mg base 1 "check_same_signs" ["one", "other"] (spCs K) := by
  obtain ⟨fd, F⟩ := T.d_check_same_signs
  refine ⟨⟨fd, F.ok sc_check_same_signs (fun vs H Q E h => ?_) (fun cdv A outer s H vs Q E hr h => ?_), bd_check_same_signs F⟩, F.kp, T.g_check_same_signs⟩
  · obtain ⟨a, b, z, xs, ys, rfl, _⟩ := h
    rfl
  · obtain ⟨a, b, z, xs, ys, rfl, h1, h2, q⟩ := h
    refine ⟨_, (pss_one (ps_if (pt_cmpR op_ne (pe_ix ix_tupQ (pv 0) pe_int (fun _ _ => rfl)) (pe_ix ix_tupQ (pv 1) pe_int (fun _ _ => rfl)) (nomark _)) (pss_one (ps_raise rfl (takes_of rfl rfl rfl rfl) (pmk_own PySem.F.excBase_ValueError T.e_BadSigns.ex T.e_BadSigns.gm T.e_BadSigns.kp T.e_BadSigns.rs rfl))) pss_nil)), ?_⟩
    simp only [cxOf, tYes, eq_self, if_true, if_false, wipe, rLenQ, rIxTQ, rIxLQ, rIxSQ, rInt1Q, rTupQ, rAppQ, rPopQ, rPopAtQ, rRevQ, rListS, rReprP, tLenSetT, tChain, tRetN, tRet, tSeq, tAsg, gName, tVar, tC, tCons, tNil, tCB, tOp, rI0, rI, tAndV, tOrV, tNotV, tIf, tTest, tB, tNot, tAnd, tOr, tIfS, tNext, tCallR, rIsK, rEq, rNe, tDrop, L2.start, List.map_cons, List.map_nil, List.length_cons, List.length_nil, Nat.reduceAdd, Nat.reduceSub, Nat.sub_self, List.replicate_zero, List.replicate_succ, List.append_nil, List.cons_append, List.nil_append, List.getElem?_cons_zero, List.getElem?_cons_succ, List.set_cons_zero, List.set_cons_succ, Option.some.injEq, List.cons.injEq, and_true, true_and, exists_eq_left, exists_eq_left', exists_eq_right, V.ty.injEq, V.int.injEq, V.bl.injEq, V.str.injEq, V.ref.injEq, exists_and_left, exists_const, reduceIte, reduceCtorEq, false_and, and_false, exists_false, or_false, false_or, Bool.not_true, Bool.not_false, Bool.false_eq_true, String.reduceEq, true_or, or_true]
    have i1 : ∀ us : List V, atI (V.str z :: us) 0 = some (V.str z) := fun us => atI_nat (j := 0) rfl
    refine ⟨_, h1, .str z, i1 xs, _, h2, .str z, i1 ys, rfl, ifF (by simp) q⟩
theorem sc_least : FnScope ["looker"] ["looker"] (defScope (topS 49)) := ⟨rfl, rfl, rfl, by decide +kernel, rfl, by decide +kernel, by decide +kernel⟩
theorem bd_least {K : PySem.W.Frag} {f : Addr} {fd : FuncData} (F : FnP K "least" (topS 49) f fd) : Binds K fd ["looker"] [] := F.bindsN fun _ _ _ _ _ _ us hl => match us, hl with | [_], _ => rfl
def spLe (K : PySem.W.Frag) : Sp := fun vs H Q E => ∃ v, vs = [v] ∧ BadK K H v ∧ E (.ref (He.ga K "BadLooker")) none H
theorem ok_least (T : Tx K mg) : Dk P w K mg base 5 "least" ["looker"] (spLe K) := by
  have D_check_looker := ok_check_looker (P := P) (w := w) (base := base) T
  have D_least_states := ok_least_states (P := P) (w := w) (base := base) T
  obtain ⟨fd, F⟩ := T.d_least
  refine ⟨⟨fd, F.ok sc_least (fun vs H Q E h => ?_) (fun cdv A outer s H vs Q E hr h => ?_), bd_least F⟩, F.kp, T.g_least⟩
  · obtain ⟨v, rfl, _⟩ := h
    rfl
  · obtain ⟨v, rfl, hb, q⟩ := h
    refine ⟨_, (pss_cons (ps_expr (pe_callR D_check_looker (hr.mono (by decide)) (takes_of rfl rfl rfl rfl) (pa_cons (pv 0) pa_nil)))
      (pss_one (ps_ret (pe_tup (pa_cons (pe_ix ix_tupQ (pv 0) pe_int (fun _ _ => rfl)) (pa_cons (pe_callR D_least_states (hr.mono (by decide)) (takes_of rfl rfl rfl rfl) (pa_cons (pe_ix ix_tupQ (pv 0) pe_int (fun _ _ => rfl)) pa_nil)) pa_nil)))))), ?_⟩
    simp only [cxOf, tYes, eq_self, if_true, if_false, wipe, rLenQ, rIxTQ, rIxLQ, rIxSQ, rInt1Q, rTupQ, rAppQ, rPopQ, rPopAtQ, rRevQ, rListS, rReprP, tLenSetT, tChain, tRetN, tRet, tSeq, tAsg, gName, tVar, tC, tCons, tNil, tCB, tOp, rI0, rI, tAndV, tOrV, tNotV, tIf, tTest, tB, tNot, tAnd, tOr, tIfS, tNext, tCallR, rIsK, rEq, rNe, tDrop, L2.start, List.map_cons, List.map_nil, List.length_cons, List.length_nil, Nat.reduceAdd, Nat.reduceSub, Nat.sub_self, List.replicate_zero, List.replicate_succ, List.append_nil, List.cons_append, List.nil_append, List.getElem?_cons_zero, List.getElem?_cons_succ, List.set_cons_zero, List.set_cons_succ, Option.some.injEq, List.cons.injEq, and_true, true_and, exists_eq_left, exists_eq_left', exists_eq_right, V.ty.injEq, V.int.injEq, V.bl.injEq, V.str.injEq, V.ref.injEq, exists_and_left, exists_const, reduceIte, reduceCtorEq, false_and, and_false, exists_false, or_false, false_or, Bool.not_true, Bool.not_false, Bool.false_eq_true, String.reduceEq, true_or, or_true, rNotT, tNNew, tNNotIn, tNGet, sNPut, tLenSetN, tPar, tAug, ipI, tDNotIn, sDPut, tDGet, tTup, tLst, tBM, tBM0]
    exact ⟨v, rfl, .inr ⟨hb, q⟩⟩
theorem sc_first_taken : FnScope ["looker"] ["looker"] (defScope (topS 50)) := ⟨rfl, rfl, rfl, by decide +kernel, rfl, by decide +kernel, by decide +kernel⟩
theorem bd_first_taken {K : PySem.W.Frag} {f : Addr} {fd : FuncData} (F : FnP K "first_taken" (topS 50) f fd) : Binds K fd ["looker"] [] := F.bindsN fun _ _ _ _ _ _ us hl => match us, hl with | [_], _ => rfl
theorem ok_first_taken (T : Tx K mg) : Dk P w K mg base 5 "first_taken" ["looker"] (spLe K) := by
  have D_check_looker := ok_check_looker (P := P) (w := w) (base := base) T
  have D_first_text := ok_first_text (P := P) (w := w) (base := base) T
  obtain ⟨fd, F⟩ := T.d_first_taken
  refine ⟨⟨fd, F.ok sc_first_taken (fun vs H Q E h => ?_) (fun cdv A outer s H vs Q E hr h => ?_), bd_first_taken F⟩, F.kp, T.g_first_taken⟩
  · obtain ⟨v, rfl, _⟩ := h
    rfl
  · obtain ⟨v, rfl, hb, q⟩ := h
    refine ⟨_, (pss_cons (ps_expr (pe_callR D_check_looker (hr.mono (by decide)) (takes_of rfl rfl rfl rfl) (pa_cons (pv 0) pa_nil)))
      (pss_one (ps_ret (pe_callR D_first_text (hr.mono (by decide)) (takes_of rfl rfl rfl rfl) (pa_cons (pe_ix ix_tupQ (pv 0) pe_int (fun _ _ => rfl)) (pa_cons (pe_ix ix_tupQ (pv 0) pe_int (fun _ _ => rfl)) pa_nil)))))), ?_⟩
    simp only [cxOf, tYes, eq_self, if_true, if_false, wipe, rLenQ, rIxTQ, rIxLQ, rIxSQ, rInt1Q, rTupQ, rAppQ, rPopQ, rPopAtQ, rRevQ, rListS, rReprP, tLenSetT, tChain, tRetN, tRet, tSeq, tAsg, gName, tVar, tC, tCons, tNil, tCB, tOp, rI0, rI, tAndV, tOrV, tNotV, tIf, tTest, tB, tNot, tAnd, tOr, tIfS, tNext, tCallR, rIsK, rEq, rNe, tDrop, L2.start, List.map_cons, List.map_nil, List.length_cons, List.length_nil, Nat.reduceAdd, Nat.reduceSub, Nat.sub_self, List.replicate_zero, List.replicate_succ, List.append_nil, List.cons_append, List.nil_append, List.getElem?_cons_zero, List.getElem?_cons_succ, List.set_cons_zero, List.set_cons_succ, Option.some.injEq, List.cons.injEq, and_true, true_and, exists_eq_left, exists_eq_left', exists_eq_right, V.ty.injEq, V.int.injEq, V.bl.injEq, V.str.injEq, V.ref.injEq, exists_and_left, exists_const, reduceIte, reduceCtorEq, false_and, and_false, exists_false, or_false, false_or, Bool.not_true, Bool.not_false, Bool.false_eq_true, String.reduceEq, true_or, or_true, rNotT, tNNew, tNNotIn, tNGet, sNPut, tLenSetN, tPar, tAug, ipI, tDNotIn, sDPut, tDGet, tTup, tLst, tBM, tBM0]
    exact ⟨v, rfl, .inr ⟨hb, q⟩⟩
theorem sc_alike : FnScope ["one", "other"] ["one", "other"] (defScope (topS 51)) := ⟨rfl, rfl, rfl, by decide +kernel, rfl, by decide +kernel, by decide +kernel⟩
theorem bd_alike {K : PySem.W.Frag} {f : Addr} {fd : FuncData} (F : FnP K "alike" (topS 51) f fd) : Binds K fd ["one", "other"] [] := F.bindsN fun _ _ _ _ _ _ us hl => match us, hl with | [_, _], _ => rfl
def spAl (K : PySem.W.Frag) : Sp := fun vs H Q E => ∃ u v, vs = [u, v] ∧ (BadK K H u ∨ ((∃ z rs, GoodK K H u z rs) ∧ BadK K H v)) ∧ E (.ref (He.ga K "BadLooker")) none H
theorem ok_alike (T : Tx K mg) : Dk P w K mg base 5 "alike" ["one", "other"] (spAl K) := by
  have D_check_looker := ok_check_looker (P := P) (w := w) (base := base) T
  have D_check_same_signs := ok_check_same_signs (P := P) (w := w) (base := base) T
  have D_first_unlike := ok_first_unlike (P := P) (w := w) (base := base) T
  obtain ⟨fd, F⟩ := T.d_alike
  refine ⟨⟨fd, F.ok sc_alike (fun vs H Q E h => ?_) (fun cdv A outer s H vs Q E hr h => ?_), bd_alike F⟩, F.kp, T.g_alike⟩
  · obtain ⟨u, v, rfl, _⟩ := h
    rfl
  · obtain ⟨u, v, rfl, h, q⟩ := h
    refine ⟨_, (pss_cons (ps_expr (pe_callR D_check_looker (hr.mono (by decide)) (takes_of rfl rfl rfl rfl) (pa_cons (pv 0) pa_nil)))
      (pss_cons (ps_expr (pe_callR D_check_looker (hr.mono (by decide)) (takes_of rfl rfl rfl rfl) (pa_cons (pv 1) pa_nil)))
      (pss_cons (ps_expr (pe_callR D_check_same_signs (hr.mono (by decide)) (takes_of rfl rfl rfl rfl) (pa_cons (pv 0) (pa_cons (pv 1) pa_nil))))
      (pss_one (ps_ret (pe_callR D_first_unlike (hr.mono (by decide)) (takes_of rfl rfl rfl rfl) (pa_cons (pe_ix ix_tupQ (pv 0) pe_int (fun _ _ => rfl)) (pa_cons (pe_ix ix_tupQ (pv 0) pe_int (fun _ _ => rfl)) (pa_cons (pe_ix ix_tupQ (pv 1) pe_int (fun _ _ => rfl)) pa_nil))))))))), ?_⟩
    simp only [cxOf, tYes, eq_self, if_true, if_false, wipe, rLenQ, rIxTQ, rIxLQ, rIxSQ, rInt1Q, rTupQ, rAppQ, rPopQ, rPopAtQ, rRevQ, rListS, rReprP, tLenSetT, tChain, tRetN, tRet, tSeq, tAsg, gName, tVar, tC, tCons, tNil, tCB, tOp, rI0, rI, tAndV, tOrV, tNotV, tIf, tTest, tB, tNot, tAnd, tOr, tIfS, tNext, tCallR, rIsK, rEq, rNe, tDrop, L2.start, List.map_cons, List.map_nil, List.length_cons, List.length_nil, Nat.reduceAdd, Nat.reduceSub, Nat.sub_self, List.replicate_zero, List.replicate_succ, List.append_nil, List.cons_append, List.nil_append, List.getElem?_cons_zero, List.getElem?_cons_succ, List.set_cons_zero, List.set_cons_succ, Option.some.injEq, List.cons.injEq, and_true, true_and, exists_eq_left, exists_eq_left', exists_eq_right, V.ty.injEq, V.int.injEq, V.bl.injEq, V.str.injEq, V.ref.injEq, exists_and_left, exists_const, reduceIte, reduceCtorEq, false_and, and_false, exists_false, or_false, false_or, Bool.not_true, Bool.not_false, Bool.false_eq_true, String.reduceEq, true_or, or_true, rNotT, tNNew, tNNotIn, tNGet, sNPut, tLenSetN, tPar, tAug, ipI, tDNotIn, sDPut, tDGet, tTup, tLst, tBM, tBM0]
    rcases h with hb | ⟨⟨z, rs, hg⟩, hb⟩
    · exact ⟨u, rfl, .inr ⟨hb, q⟩⟩
    · exact ⟨u, rfl, .inl ⟨z, rs, hg, v, rfl, .inr ⟨hb, q⟩⟩⟩
end
end K34

namespace K34
open PySem PySem.Spec PyProof.Rows L2 Sg
section
variable {P : Program} {w : World} {K : PySem.W.Frag} {mg : Str → Option Value} {base : Heap}
theorem tk_upd {H : Hp} {D : Addr} {o : HO} (nt : ∀ ys, H D ≠ some (.tup ys)) (nf : ∀ q v, H D ≠ some (.frz q v)) : TK H (upd H D o) :=
  ⟨fun b xs h => by rw [upd_ne (fun z => nt xs (by rw [← z]; exact h))]; exact h, fun b q v h => by rw [upd_ne (fun z => nf q v (by rw [← z]; exact h))]; exact h⟩
structure DlH (K : PySem.W.Frag) (H : Hp) (l rr : Addr) (z : Str) (m : Int) (p : Nat) (H' : Hp) (vs : List V) (rs : List LRow) : Prop where
  but : But l H H'
  pool : PoolL H' l
  list : H' rr = some (.lst vs)
  pr : Paired (RSt K H') vs rs
  len : rs.length = p
  ok : ∀ r ∈ rs, (r.1 = 0 ∨ r.1 = 1) ∧ r.2.length = z.length ∧ ∀ q ∈ r.2, 0 ≤ q ∧ q < m
section
variable {H H1 H2 : Hp} {l rr D : Addr} {z : Str} {m : Int} {p : Nat} {vs : List V} {rs : List LRow} {o : HO}
theorem DlH.put (h : DlH K H l rr z m p H1 vs rs) (h0 : H D = none) (h1 : l ≠ D) (h2 : rr ≠ D) (nt : ∀ ys, H1 D ≠ some (.tup ys)) (nf : ∀ q v, H1 D ≠ some (.frz q v)) : DlH K H l rr z m p (upd H1 D o) vs rs := by
  refine ⟨fun b x hb hx => ?_, ?_, by rw [upd_ne h2]; exact h.list, pr_mono h.pr fun _ _ r => r.mono (tk_upd nt nf), h.len, h.ok⟩
  · rw [upd_ne (ne_of_none hx h0)]
    exact h.but b x hb hx
  · obtain ⟨js, e⟩ := h.pool
    exact ⟨js, by rw [upd_ne h1]; exact e⟩
theorem DlH.free (h : DlH K H l rr z m p H1 vs rs) (h0 : H1 D = none) : l ≠ D ∧ rr ≠ D ∧ H D = none := by
  obtain ⟨js, e⟩ := h.pool
  refine ⟨ne_of_none e h0, ne_of_none h.list h0, ?_⟩
  cases hd : H D with
  | none => rfl
  | some x =>
    have := h.but D x (Ne.symm (ne_of_none e h0)) hd
    rw [h0] at this
    cases this
theorem DlH.fresh (h : DlH K H l rr z m p H1 vs rs) (h0 : H1 D = none) : DlH K H l rr z m p (upd H1 D o) vs rs :=
  h.put (h.free h0).2.2 (h.free h0).1 (h.free h0).2.1 (fun _ => by rw [h0]; nofun) (fun _ _ => by rw [h0]; nofun)
theorem DlH.draw (h : DlH K H l rr z m p H1 vs rs) (hne : rr ≠ l) (b : But l H1 H2) (hp : PoolL H2 l) : DlH K H l rr z m p H2 vs rs := by
  obtain ⟨js, e⟩ := h.pool
  exact ⟨fun c x hc hx => b c x hc (h.but c x hc hx), hp, b rr _ hne h.list, pr_mono h.pr fun _ _ r => r.mono (TK.of_but b e), h.len, h.ok⟩
end
theorem dl_tail {R : Hp → Prop} {H H2 : Hp} {l rr A : Addr} {z : Str} {m e : Int} {p : Nat} {vs : List V} {rs : List LRow} {acc : List Int} (h : DlH K H l rr z m p H2 vs rs) (hA : H2 A = some (.lst (acc.map V.int))) (hlen : acc.length = z.length) (hb : ∀ q ∈ acc, 0 ≤ q ∧ q < m) (he : e = 0 ∨ e = 1) (hz : H rr = none) (hp : p < 1000) (hlr : l ≠ rr)
    (hq : ∀ H3 vs' rs', rs' = rs ++ [(e, acc)] → DlH K H l rr z m (p + 1) H3 vs' rs' → R H3) :
    tyV K "list" (.ref rr) H2 ∧ ∃ ys, SqL K H2 A ys ∧ ∀ T1, H2 T1 = none → 2 ≤ sizeLine ∧ ∀ T2, upd H2 T1 (.tup ys) T2 = none → ∃ xs, (upd (upd H2 T1 (.tup ys)) T2 (.tup [.int e, .ref T1])) rr = some (.lst xs) ∧ xs.length < sizeLine ∧
      R (upd (upd (upd H2 T1 (.tup ys)) T2 (.tup [.int e, .ref T1])) rr (.lst (xs ++ [.ref T2]))) := by
  refine ⟨lst_ty h.list, _, .inl (.inl hA), fun T1 hT1 => ⟨szle (m := 2) (Nat.le_refl _), fun T2 hT2 => ?_⟩⟩
  have g1 := h.fresh (o := .tup (acc.map V.int)) hT1
  have g2 := g1.fresh (o := .tup [.int e, .ref T1]) hT2
  refine ⟨vs, g2.list, ?_, hq _ (vs ++ [.ref T2]) (rs ++ [(e, acc)]) rfl ?_⟩
  · have := pr_len h.pr
    rw [this, h.len]
    exact szlt (m := 1000) (by omega)
  · have t1 : (upd (upd H2 T1 (.tup (acc.map V.int))) T2 (.tup [.int e, .ref T1])) T1 = some (.tup (acc.map V.int)) := same_upd hT2 _ _ upd_same
    have t2 : (upd (upd H2 T1 (.tup (acc.map V.int))) T2 (.tup [.int e, .ref T1])) T2 = some (.tup [.int e, .ref T1]) := upd_same
    have k : TK (upd (upd H2 T1 (.tup (acc.map V.int))) T2 (.tup [.int e, .ref T1])) (upd (upd (upd H2 T1 (.tup (acc.map V.int))) T2 (.tup [.int e, .ref T1])) rr (.lst (vs ++ [.ref T2]))) :=
      tk_upd (fun _ => by rw [g2.list]; nofun) (fun _ _ => by rw [g2.list]; nofun)
    refine ⟨fun b x hb hx => ?_, ?_, upd_same, pr_snoc (pr_mono g2.pr fun _ _ r => r.mono k) ⟨T2, T1, rfl, k.sqT (.inl (.inl t2)), k.sqT (.inl (.inl t1))⟩, by rw [List.length_append, h.len]; rfl, ?_⟩
    · rw [upd_ne (ne_of_none hx hz)]
      exact g2.but b x hb hx
    · obtain ⟨js, e⟩ := g2.pool
      exact ⟨js, by rw [upd_ne hlr]; exact e⟩
    · intro r hr
      rcases List.mem_append.mp hr with hr | hr
      · exact h.ok r hr
      · obtain rfl := List.mem_singleton.mp hr
        exact ⟨he, hlen, hb⟩
def DlL (K : PySem.W.Frag) (H : Hp) (l rr : Addr) (z : Str) (m : Int) (p : Nat) (A : Addr) (i : Nat) (H' : Hp) : Prop :=
  ∃ vs rs, ∃ acc : List Int, DlH K H l rr z m p H' vs rs ∧ H' A = some (.lst (acc.map V.int)) ∧ acc.length = i ∧ ∀ q ∈ acc, 0 ≤ q ∧ q < m
theorem dl_step {H H2 : Hp} {l rr A : Addr} {z : Str} {m : Int} {p i : Nat} {acc : List Int} {vs : List V} {rs : List LRow} (h : DlH K H l rr z m p H2 vs rs) (hA : H2 A = some (.lst (acc.map V.int))) (hlen : acc.length = i) (hb : ∀ q ∈ acc, 0 ≤ q ∧ q < m) (h1 : l ≠ A) (h2 : rr ≠ A) (h0 : H A = none) (hi : i < 1000) {y : Int} (hy : 0 ≤ y ∧ y < m) :
    ∃ a, H2 A = some (.lst a) ∧ a.length < sizeLine ∧ DlL K H l rr z m p A (i + 1) (upd H2 A (.lst (a ++ [.int y]))) := by
  refine ⟨_, hA, by rw [List.length_map, hlen]; exact szlt (m := 1000) (by omega), vs, rs, acc ++ [y], h.put h0 h1 h2 (fun _ => by rw [hA]; nofun) (fun _ _ => by rw [hA]; nofun), by rw [upd_same, List.map_append]; rfl, by rw [List.length_append, hlen]; rfl, fun q hq => ?_⟩
  rcases List.mem_append.mp hq with hq | hq
  · exact hb q hq
  · obtain rfl := List.mem_singleton.mp hq
    exact hy
theorem dl_tail2 {R : Hp → Prop} {H H2 : Hp} {l rr : Addr} {z : Str} {m e q : Int} {p : Nat} {vs : List V} {rs : List LRow} (h : DlH K H l rr z m p H2 vs rs) (hlen : z.length = 1) (hb : 0 ≤ q ∧ q < m) (he : e = 0 ∨ e = 1) (hz : H rr = none) (hp : p < 1000) (hlr : l ≠ rr)
    (hq : ∀ H3 vs' rs', DlH K H l rr z m (p + 1) H3 vs' rs' → (∀ b x, b ≠ rr → H2 b = some x → H3 b = some x) → R H3) :
    ∀ T1, H2 T1 = none → 2 ≤ sizeLine ∧ ∀ T2, upd H2 T1 (.tup [.int q]) T2 = none → ∃ xs, (upd (upd H2 T1 (.tup [.int q])) T2 (.tup [.int e, .ref T1])) rr = some (.lst xs) ∧ xs.length < sizeLine ∧
      R (upd (upd (upd H2 T1 (.tup [.int q])) T2 (.tup [.int e, .ref T1])) rr (.lst (xs ++ [.ref T2]))) := by
  refine fun T1 hT1 => ⟨szle (m := 2) (Nat.le_refl _), fun T2 hT2 => ?_⟩
  have g1 := h.fresh (o := .tup [V.int q]) hT1
  have g2 := g1.fresh (o := .tup [.int e, .ref T1]) hT2
  refine ⟨vs, g2.list, ?_, hq _ (vs ++ [.ref T2]) (rs ++ [(e, [q])]) ?_ fun b x nb hb => ?_⟩
  · have := pr_len h.pr
    rw [this, h.len]
    exact szlt (m := 1000) (by omega)
  · have t1 : (upd (upd H2 T1 (.tup [V.int q])) T2 (.tup [.int e, .ref T1])) T1 = some (.tup [V.int q]) := same_upd hT2 _ _ upd_same
    have t2 : (upd (upd H2 T1 (.tup [V.int q])) T2 (.tup [.int e, .ref T1])) T2 = some (.tup [.int e, .ref T1]) := upd_same
    have k : TK (upd (upd H2 T1 (.tup [V.int q])) T2 (.tup [.int e, .ref T1])) (upd (upd (upd H2 T1 (.tup [V.int q])) T2 (.tup [.int e, .ref T1])) rr (.lst (vs ++ [.ref T2]))) :=
      tk_upd (fun _ => by rw [g2.list]; nofun) (fun _ _ => by rw [g2.list]; nofun)
    refine ⟨fun b x hb => ?_, ?_, upd_same, pr_snoc (pr_mono g2.pr fun _ _ r => r.mono k) ⟨T2, T1, rfl, k.sqT (.inl (.inl t2)), k.sqT (.inl (.inl t1))⟩, by rw [List.length_append, h.len]; rfl, ?_⟩
    · intro hx
      rw [upd_ne (ne_of_none hx hz)]
      exact g2.but b x hb hx
    · obtain ⟨js, e⟩ := g2.pool
      exact ⟨js, by rw [upd_ne hlr]; exact e⟩
    · intro r hr
      rcases List.mem_append.mp hr with hr | hr
      · exact h.ok r hr
      · obtain rfl := List.mem_singleton.mp hr
        refine ⟨he, by rw [hlen]; rfl, fun q' hq' => ?_⟩
        obtain rfl := List.mem_singleton.mp hq'
        exact hb
  · rw [upd_ne nb]
    exact same_upd hT2 _ _ (same_upd hT1 _ _ hb)
def DlE (K : PySem.W.Frag) (H : Hp) (l rr : Addr) (z : Str) (m c : Int) (p : Nat) (A : Addr) (i : Nat) (H' : Hp) : Prop :=
  ∃ vs rs, ∃ acc : List Int, DlH K H l rr z m p H' vs rs ∧ H' A = some (.lst (acc.map V.int)) ∧ acc.length = i ∧ ∀ q ∈ acc, 0 ≤ q ∧ q < c
theorem dl_stepE {H H2 : Hp} {l rr A : Addr} {z : Str} {m c : Int} {p i : Nat} {acc : List Int} {vs : List V} {rs : List LRow} (h : DlH K H l rr z m p H2 vs rs) (hA : H2 A = some (.lst (acc.map V.int))) (hlen : acc.length = i) (hb : ∀ q ∈ acc, 0 ≤ q ∧ q < c) (h1 : l ≠ A) (h2 : rr ≠ A) (h0 : H A = none) (hi : i < 1000) {y : Int} (hy : 0 ≤ y ∧ y < c) :
    ∃ a, H2 A = some (.lst a) ∧ a.length < sizeLine ∧ DlE K H l rr z m c p A (i + 1) (upd H2 A (.lst (a ++ [.int y]))) := by
  refine ⟨_, hA, by rw [List.length_map, hlen]; exact szlt (m := 1000) (by omega), vs, rs, acc ++ [y], h.put h0 h1 h2 (fun _ => by rw [hA]; nofun) (fun _ _ => by rw [hA]; nofun), by rw [upd_same, List.map_append]; rfl, by rw [List.length_append, hlen]; rfl, fun q hq => ?_⟩
  rcases List.mem_append.mp hq with hq | hq
  · exact hb q hq
  · obtain rfl := List.mem_singleton.mp hq
    exact hy
/-! each state twice, told the other way about -/
def phi (N k : Int) : Int := (if k = 0 then 0 else 2 * N - k) % N
theorem phi_in {N k : Int} (hN : 0 < N) : 0 ≤ phi N k ∧ phi N k < N := ⟨Int.emod_nonneg _ (by omega), Int.emod_lt_of_pos _ hN⟩
theorem phi_copy {N q d : Int} (h0 : 0 ≤ q) (h1 : q < N) (hd : d = 0 ∨ d = 1) : phi N (if q + N * d = 0 then 0 else 2 * N - 1 + 1 - (q + N * d)) = q ∧ 0 ≤ (if q + N * d = 0 then 0 else 2 * N - 1 + 1 - (q + N * d)) ∧ (if q + N * d = 0 then 0 else 2 * N - 1 + 1 - (q + N * d)) < 2 * N := by
  unfold phi
  rcases hd with rfl | rfl
  · rw [Int.mul_zero, Int.add_zero]
    by_cases c : q = 0
    · subst c
      simp
      omega
    · rw [if_neg c, if_neg (show ¬ (2 * N - 1 + 1 - q = 0) by omega)]
      refine ⟨?_, by omega, by omega⟩
      rw [show 2 * N - (2 * N - 1 + 1 - q) = q by omega]
      exact Int.emod_eq_of_lt h0 h1
  · rw [Int.mul_one]
    have c : ¬ (q + N = 0) := by omega
    rw [if_neg c, if_neg (show ¬ (2 * N - 1 + 1 - (q + N) = 0) by omega)]
    refine ⟨?_, by omega, by omega⟩
    rw [show 2 * N - (2 * N - 1 + 1 - (q + N)) = q + N by omega, Int.add_emod_right]
    exact Int.emod_eq_of_lt h0 h1
def TwinRow (n : Nat) (rs : List LRow) (j : Nat) (r : LRow) : Prop := r.1 = endAt rs (phi rs.length j) ∧ ∀ x, x < n → ∃ t, r.2[x]? = some t ∧ phi rs.length t = nxt rs (phi rs.length j) x
theorem twin_lang {n : Nat} {rs rs2 : List LRow} (ok : RowsOk n rs) (ok2 : RowsOk n rs2) (h : ∀ j r, rs2[j]? = some r → TwinRow n rs j r) : lang rs2 0 = lang rs 0 := by
  have hN : (0 : Int) < rs.length := by have := ok.pos; omega
  have key : ∀ (w : List Nat) (k : Int), InSt rs2 k → lang rs2 k w = lang rs (phi rs.length k) w := by
    intro w
    induction w with
    | nil =>
      intro k hk
      have hr := (h _ _ (rowOf_get hk)).1
      rw [(in_nat hk).1] at hr
      exact hr
    | cons x w ih =>
      intro k hk
      show lang rs2 (nxt rs2 k x) w = lang rs (nxt rs (phi rs.length k) x) w
      have hp : InSt rs (phi rs.length k) := phi_in hN
      by_cases hx : x < n
      · obtain ⟨t, ht, hp2⟩ := (h _ _ (rowOf_get hk)).2 x hx
        rw [nxt_get ok2 hk hx] at ht
        obtain rfl := Option.some.inj ht
        rw [(in_nat hk).1] at hp2
        rw [ih _ (nxt_in ok2 hk hx), hp2]
      · rw [nxt_far ok2 hk hx, nxt_far ok hp hx, ih 0 (in_zero ok2)]
        have e : phi rs.length 0 = 0 := by unfold phi; simp
        rw [e]
  have h0 := funext fun w => key w 0 (in_zero ok2)
  have e : phi rs.length 0 = 0 := by unfold phi; simp
  rw [e] at h0
  exact h0

theorem sc__law_drawn_looker : FnScope ["pool", "signs", "many", "step", "rows", "p", "row", "x", "far"] ["pool", "signs"] (defScope (topS 70)) := ⟨rfl, rfl, rfl, by decide +kernel, rfl, by decide +kernel, by decide +kernel⟩
theorem bd__law_drawn_looker {K : PySem.W.Frag} {f : Addr} {fd : FuncData} (F : FnP K "_law_drawn_looker" (topS 70) f fd) : Binds K fd ["pool", "signs"] [] := F.bindsN fun _ _ _ _ _ _ us hl => match us, hl with | [_, _], _ => rfl
def spDl (K : PySem.W.Frag) : Sp := fun vs H Q _ => ∃ (l : Addr) (z : Str), vs = [.ref l, .str z] ∧ PoolL H l ∧ SignsOk z ∧ ∀ v rs H', GoodK K H' v z rs → But l H H' → PoolL H' l → Q v H'
def DnI (K : PySem.W.Frag) (H : Hp) (l rr : Addr) (z : Str) (m s : Int) (p : Nat) (σ : L2.St) (H' : Hp) : Prop :=
  ∃ vs rs x5 x6 x7 x8, DlH K H l rr z m p H' vs rs ∧ σ = [some (.ref l), some (.str z), some (.int m), some (.int s), some (.ref rr), x5, x6, x7, x8]
def DnJ (K : PySem.W.Frag) (H : Hp) (l rr A : Addr) (z : Str) (m s : Int) (p i : Nat) (σ : L2.St) (H' : Hp) : Prop :=
  ∃ x7 x8, DlL K H l rr z m p A i H' ∧ σ = [some (.ref l), some (.str z), some (.int m), some (.int s), some (.ref rr), some (.int (p : Int)), some (.ref A), x7, x8]
theorem ok__law_drawn_looker (T : Tx K mg) : Dk P w K mg base 2 "_law_drawn_looker" ["pool", "signs"] (spDl K) := by
  have D__law_draw := ok__law_draw (P := P) (w := w) (base := base) T
  obtain ⟨fd, F⟩ := T.d__law_drawn_looker
  refine ⟨⟨fd, F.ok sc__law_drawn_looker (fun vs H Q E h => ?_) (fun cdv A outer s H vs Q E hr h => ?_), bd__law_drawn_looker F⟩, F.kp, T.g__law_drawn_looker⟩
  · obtain ⟨l, z, rfl, _⟩ := h
    rfl
  · obtain ⟨l, z, rfl, hp, hz, q⟩ := h
    refine ⟨_, PSs.nox (pss_cons (ps_set (i := 2) sc__law_drawn_looker.nd rfl (.inl rfl) (pe_ifExp (pt_cmpR op_eq (pe_callR D__law_draw (hr.mono (by decide)) takes0 (pa_cons (pv 0) (pa_cons pe_int pa_nil))) pe_int (nomark _)) pe_int (pe_op op_add pe_int (pe_callR D__law_draw (hr.mono (by decide)) takes0 (pa_cons (pv 0) (pa_cons pe_int pa_nil))))))
      (pss_cons (ps_set (i := 3) sc__law_drawn_looker.nd rfl (.inl rfl) (pe_op op_add pe_int (pe_callR D__law_draw (hr.mono (by decide)) takes0 (pa_cons (pv 0) (pa_cons pe_int pa_nil)))))
      (pss_cons (ps_set (i := 4) sc__law_drawn_looker.nd rfl (.inl rfl) (pe_lst pa_nil))
      (pss_cons (ps_for PassesOwn.never rfl (pi_range1 (by rfl) T.f_range (pa_cons (pv 2) pa_nil)) (pg_name (i := 5) sc__law_drawn_looker.nd rfl (.inl rfl)) (pss_cons (ps_set (i := 6) sc__law_drawn_looker.nd rfl (.inl rfl) (pe_lst pa_nil))
      (pss_cons (ps_for PassesOwn.never rfl (pi_range1 (by rfl) T.f_range (pa_cons (pe_callB call_lenQ (by rfl) T.f_len PySem.boot_len (pa_cons (pv 1) pa_nil)) pa_nil)) (pg_name (i := 7) sc__law_drawn_looker.nd rfl (.inl rfl)) (pss_cons (ps_set (i := 8) sc__law_drawn_looker.nd rfl (.inl rfl) (pe_callR D__law_draw (hr.mono (by decide)) takes0 (pa_cons (pv 0) (pa_cons pe_int pa_nil))))
      (pss_one (ps_expr (pe_bm PySem.F.plainAttrs_list PySem.F.slot_list_append PySem.F.type_list_append mt_appQ (pv 6) (pa_cons (pe_ifExp (pt_cmpR op_gt (pv 8) pe_int (nomark _)) (pe_op op_mod (pv 8) (pv 2)) (pe_op op_mod (pe_op op_add (pe_op op_add (pe_op op_mul (pv 5) (pv 3)) (pv 7)) pe_int) (pv 2))) pa_nil))))))
      (pss_one (ps_expr (pe_bm PySem.F.plainAttrs_list PySem.F.slot_list_append PySem.F.type_list_append mt_appQ (pv 4) (pa_cons (pe_tup (pa_cons (pe_callTy call_int1Q (by rfl) T.f_int PyProof.Rows.boot_int (pa_cons (pe_cmpR op_eq (pe_callR D__law_draw (hr.mono (by decide)) takes0 (pa_cons (pv 0) (pa_cons pe_int pa_nil))) pe_int (nomark _)) pa_nil)) (pa_cons (pe_callTy call_tupQ (by rfl) T.f_tuple PyProof.Rows.boot_tuple (pa_cons (pv 6) pa_nil)) pa_nil))) pa_nil)))))))
      (pss_one (ps_ret (pe_tup (pa_cons (pv 1) (pa_cons (pe_callTy call_tupQ (by rfl) T.f_tuple PyProof.Rows.boot_tuple (pa_cons (pv 4) pa_nil)) pa_nil))))))))), ?_⟩
    have hz5 := hz.top
    refine seq_with (fun σ H1 => ∃ m : Int, 1 ≤ m ∧ m ≤ 600 ∧ But l H H1 ∧ PoolL H1 l ∧ σ = [some (.ref l), some (.str z), some (.int m), none, none, none, none, none, none]) (fun N tail => ?_) ?_
    · simp only [cxOf, tYes, eq_self, if_true, if_false, wipe, rLenQ, rIxTQ, rIxLQ, rIxSQ, rInt1Q, rTupQ, rAppQ, rPopQ, rPopAtQ, rRevQ, rListS, rReprP, tLenSetT, tChain, tRetN, tRet, tSeq, tAsg, gName, tVar, tC, tCons, tNil, tCB, tOp, rI0, rI, tAndV, tOrV, tNotV, tIf, tTest, tB, tNot, tAnd, tOr, tIfS, tNext, tCallR, rIsK, rEq, rNe, tDrop, L2.start, List.map_cons, List.map_nil, List.length_cons, List.length_nil, Nat.reduceAdd, Nat.reduceSub, Nat.sub_self, List.replicate_zero, List.replicate_succ, List.append_nil, List.cons_append, List.nil_append, List.getElem?_cons_zero, List.getElem?_cons_succ, List.set_cons_zero, List.set_cons_succ, Option.some.injEq, List.cons.injEq, and_true, true_and, exists_eq_left, exists_eq_left', exists_eq_right, V.ty.injEq, V.int.injEq, V.bl.injEq, V.str.injEq, V.ref.injEq, exists_and_left, exists_const, reduceIte, reduceCtorEq, false_and, and_false, exists_false, or_false, false_or, Bool.not_true, Bool.not_false, Bool.false_eq_true, String.reduceEq, true_or, or_true, rNotT, tNNew, tNNotIn, tNGet, sNPut, tLenSetN, tPar, tAug, ipI, tDNotIn, sDPut, tDGet, tTup, tLst, tBM, tBM0]
      refine ⟨l, 6, rfl, hp, by decide, fun r H2 _ _ b2 p2 => ⟨rfl, ?_⟩⟩
      by_cases hr : r = 0
      · exact ifT (by simp [hr]) (tail _ _ ⟨600, by decide, by decide, b2, p2, rfl⟩)
      · refine ifF (by simp [hr]) ⟨l, 40, rfl, p2, by decide, fun n H3 n0 n1 b3 p3 => ⟨n, rfl, tail _ _ ⟨1 + n, by omega, by omega, b2.trans b3, p3, rfl⟩⟩⟩
    rintro σ H1 ⟨m, m1, m2, b1, p1, rfl⟩
    refine seq_with (fun σ H1 => ∃ s : Int, 1 ≤ s ∧ s ≤ 59 ∧ But l H H1 ∧ PoolL H1 l ∧ σ = [some (.ref l), some (.str z), some (.int m), some (.int s), none, none, none, none, none]) (fun N tail => ?_) ?_
    · simp only [cxOf, tYes, eq_self, if_true, if_false, wipe, rLenQ, rIxTQ, rIxLQ, rIxSQ, rInt1Q, rTupQ, rAppQ, rPopQ, rPopAtQ, rRevQ, rListS, rReprP, tLenSetT, tChain, tRetN, tRet, tSeq, tAsg, gName, tVar, tC, tCons, tNil, tCB, tOp, rI0, rI, tAndV, tOrV, tNotV, tIf, tTest, tB, tNot, tAnd, tOr, tIfS, tNext, tCallR, rIsK, rEq, rNe, tDrop, L2.start, List.map_cons, List.map_nil, List.length_cons, List.length_nil, Nat.reduceAdd, Nat.reduceSub, Nat.sub_self, List.replicate_zero, List.replicate_succ, List.append_nil, List.cons_append, List.nil_append, List.getElem?_cons_zero, List.getElem?_cons_succ, List.set_cons_zero, List.set_cons_succ, Option.some.injEq, List.cons.injEq, and_true, true_and, exists_eq_left, exists_eq_left', exists_eq_right, V.ty.injEq, V.int.injEq, V.bl.injEq, V.str.injEq, V.ref.injEq, exists_and_left, exists_const, reduceIte, reduceCtorEq, false_and, and_false, exists_false, or_false, false_or, Bool.not_true, Bool.not_false, Bool.false_eq_true, String.reduceEq, true_or, or_true, rNotT, tNNew, tNNotIn, tNGet, sNPut, tLenSetN, tPar, tAug, ipI, tDNotIn, sDPut, tDGet, tTup, tLst, tBM, tBM0]
      exact ⟨l, 59, rfl, p1, by decide, fun n H3 n0 n1 b3 p3 => ⟨n, rfl, tail _ _ ⟨1 + n, by omega, by omega, b1.trans b3, p3, rfl⟩⟩⟩
    rintro σ H2 ⟨s, s1, s2, b2, p2, rfl⟩
    simp only [cxOf, tYes, eq_self, if_true, if_false, wipe, rLenQ, rIxTQ, rIxLQ, rIxSQ, rInt1Q, rTupQ, rAppQ, rPopQ, rPopAtQ, rRevQ, rListS, rReprP, tLenSetT, tChain, tRetN, tRet, tSeq, tAsg, gName, tVar, tC, tCons, tNil, tCB, tOp, rI0, rI, tAndV, tOrV, tNotV, tIf, tTest, tB, tNot, tAnd, tOr, tIfS, tNext, tCallR, rIsK, rEq, rNe, tDrop, L2.start, List.map_cons, List.map_nil, List.length_cons, List.length_nil, Nat.reduceAdd, Nat.reduceSub, Nat.sub_self, List.replicate_zero, List.replicate_succ, List.append_nil, List.cons_append, List.nil_append, List.getElem?_cons_zero, List.getElem?_cons_succ, List.set_cons_zero, List.set_cons_succ, Option.some.injEq, List.cons.injEq, and_true, true_and, exists_eq_left, exists_eq_left', exists_eq_right, V.ty.injEq, V.int.injEq, V.bl.injEq, V.str.injEq, V.ref.injEq, exists_and_left, exists_const, reduceIte, reduceCtorEq, false_and, and_false, exists_false, or_false, false_or, Bool.not_true, Bool.not_false, Bool.false_eq_true, String.reduceEq, true_or, or_true, rNotT, tNNew, tNNotIn, tNGet, sNPut, tLenSetN, tPar, tAug, ipI, tDNotIn, sDPut, tDGet, tTup, tLst, tBM, tBM0]
    refine ⟨Nat.zero_le _, fun rr hr0 => ?_⟩
    obtain ⟨js, hpl⟩ := p2
    have hlr : l ≠ rr := ne_of_none hpl hr0
    have hr00 : H rr = none := by
      cases e : H rr with
      | none => rfl
      | some x =>
        have := b2 rr x (Ne.symm hlr) e
        rw [hr0] at this
        cases this
    have d0 : DlH K H l rr z m 0 (upd H2 rr (.lst [])) [] [] := ⟨fun c x hc hx => by rw [upd_ne (ne_of_none hx hr00)]; exact b2 c x hc hx, ⟨js, by rw [upd_ne hlr]; exact hpl⟩, upd_same, .nil, rfl, fun r hr => nomatch hr⟩
    refine ⟨.int m, rfl, m, rfl, by omega, by omega, ?_⟩
    refine for_range (DnI K H l rr z m s) ⟨[], [], none, none, none, none, d0, rfl⟩ ?_ ?_
    · rintro p σ H3 hp3 ⟨vs, rs, x5, x6, x7, x8, d, rfl⟩
      rw [show (0 : Int) + (p : Int) = (p : Int) by omega]
      simp only [cxOf, tYes, eq_self, if_true, if_false, wipe, rLenQ, rIxTQ, rIxLQ, rIxSQ, rInt1Q, rTupQ, rAppQ, rPopQ, rPopAtQ, rRevQ, rListS, rReprP, tLenSetT, tChain, tRetN, tRet, tSeq, tAsg, gName, tVar, tC, tCons, tNil, tCB, tOp, rI0, rI, tAndV, tOrV, tNotV, tIf, tTest, tB, tNot, tAnd, tOr, tIfS, tNext, tCallR, rIsK, rEq, rNe, tDrop, L2.start, List.map_cons, List.map_nil, List.length_cons, List.length_nil, Nat.reduceAdd, Nat.reduceSub, Nat.sub_self, List.replicate_zero, List.replicate_succ, List.append_nil, List.cons_append, List.nil_append, List.getElem?_cons_zero, List.getElem?_cons_succ, List.set_cons_zero, List.set_cons_succ, Option.some.injEq, List.cons.injEq, and_true, true_and, exists_eq_left, exists_eq_left', exists_eq_right, V.ty.injEq, V.int.injEq, V.bl.injEq, V.str.injEq, V.ref.injEq, exists_and_left, exists_const, reduceIte, reduceCtorEq, false_and, and_false, exists_false, or_false, false_or, Bool.not_true, Bool.not_false, Bool.false_eq_true, String.reduceEq, true_or, or_true, rNotT, tNNew, tNNotIn, tNGet, sNPut, tLenSetN, tPar, tAug, ipI, tDNotIn, sDPut, tDGet, tTup, tLst, tBM, tBM0]
      refine ⟨Nat.zero_le _, fun A hA0 => ?_⟩
      have fA := d.free hA0
      have d1 := d.fresh (o := .lst []) hA0
      refine ⟨.str z, rfl, szle (m := 5) hz5, (z.length : Int), rfl, by omega, by omega, ?_⟩
      rw [Int.toNat_natCast]
      refine for_range (DnJ K H l rr A z m s p) ⟨_, _, ⟨vs, rs, [], d1, upd_same, rfl, fun q hq => nomatch hq⟩, rfl⟩ ?_ ?_
      · rintro i σ H4 hi ⟨x7, x8, ⟨vs, rs, acc, dd, hacc, hlen, hbb⟩, rfl⟩
        rw [show (0 : Int) + (i : Int) = (i : Int) by omega]
        simp only [cxOf, tYes, eq_self, if_true, if_false, wipe, rLenQ, rIxTQ, rIxLQ, rIxSQ, rInt1Q, rTupQ, rAppQ, rPopQ, rPopAtQ, rRevQ, rListS, rReprP, tLenSetT, tChain, tRetN, tRet, tSeq, tAsg, gName, tVar, tC, tCons, tNil, tCB, tOp, rI0, rI, tAndV, tOrV, tNotV, tIf, tTest, tB, tNot, tAnd, tOr, tIfS, tNext, tCallR, rIsK, rEq, rNe, tDrop, L2.start, List.map_cons, List.map_nil, List.length_cons, List.length_nil, Nat.reduceAdd, Nat.reduceSub, Nat.sub_self, List.replicate_zero, List.replicate_succ, List.append_nil, List.cons_append, List.nil_append, List.getElem?_cons_zero, List.getElem?_cons_succ, List.set_cons_zero, List.set_cons_succ, Option.some.injEq, List.cons.injEq, and_true, true_and, exists_eq_left, exists_eq_left', exists_eq_right, V.ty.injEq, V.int.injEq, V.bl.injEq, V.str.injEq, V.ref.injEq, exists_and_left, exists_const, reduceIte, reduceCtorEq, false_and, and_false, exists_false, or_false, false_or, Bool.not_true, Bool.not_false, Bool.false_eq_true, String.reduceEq, true_or, or_true, rNotT, tNNew, tNNotIn, tNGet, sNPut, tLenSetN, tPar, tAug, ipI, tDNotIn, sDPut, tDGet, tTup, tLst, tBM, tBM0]
        refine ⟨l, 5040, rfl, dd.pool, by decide, fun f H5 f0 f1 b5 p5 => ⟨lst_ty (b5 A _ (Ne.symm fA.1) hacc), ?_⟩⟩
        have dd5 := dd.draw (Ne.symm hlr) b5 p5
        have hac5 := b5 A _ (Ne.symm fA.1) hacc
        refine ⟨f, rfl, ?_⟩
        by_cases hf : 0 < f
        · refine ifT (decide_eq_true hf) ⟨f, rfl, by omega, ?_⟩
          obtain ⟨a, g1, g2, g3⟩ := dl_step dd5 hac5 hlen hbb fA.1 fA.2.1 fA.2.2 (by omega) (y := f % m) ⟨Int.emod_nonneg _ (by omega), Int.emod_lt_of_pos _ (by omega)⟩
          exact ⟨a, g1, g2, _, _, g3, rfl⟩
        · refine ifF (decide_eq_false hf) ⟨.inl ⟨by omega, by omega⟩, by omega, ?_⟩
          obtain ⟨a, g1, g2, g3⟩ := dl_step dd5 hac5 hlen hbb fA.1 fA.2.1 fA.2.2 (by omega) (y := ((p : Int) * s + (i : Int) + 1) % m) ⟨Int.emod_nonneg _ (by omega), Int.emod_lt_of_pos _ (by omega)⟩
          exact ⟨a, g1, g2, _, _, g3, rfl⟩
      · rintro σ H4 ⟨x7, x8, ⟨vs, rs, acc, dd, hacc, hlen, hbb⟩, rfl⟩
        simp only [cxOf, tYes, eq_self, if_true, if_false, wipe, rLenQ, rIxTQ, rIxLQ, rIxSQ, rInt1Q, rTupQ, rAppQ, rPopQ, rPopAtQ, rRevQ, rListS, rReprP, tLenSetT, tChain, tRetN, tRet, tSeq, tAsg, gName, tVar, tC, tCons, tNil, tCB, tOp, rI0, rI, tAndV, tOrV, tNotV, tIf, tTest, tB, tNot, tAnd, tOr, tIfS, tNext, tCallR, rIsK, rEq, rNe, tDrop, L2.start, List.map_cons, List.map_nil, List.length_cons, List.length_nil, Nat.reduceAdd, Nat.reduceSub, Nat.sub_self, List.replicate_zero, List.replicate_succ, List.append_nil, List.cons_append, List.nil_append, List.getElem?_cons_zero, List.getElem?_cons_succ, List.set_cons_zero, List.set_cons_succ, Option.some.injEq, List.cons.injEq, and_true, true_and, exists_eq_left, exists_eq_left', exists_eq_right, V.ty.injEq, V.int.injEq, V.bl.injEq, V.str.injEq, V.ref.injEq, exists_and_left, exists_const, reduceIte, reduceCtorEq, false_and, and_false, exists_false, or_false, false_or, Bool.not_true, Bool.not_false, Bool.false_eq_true, String.reduceEq, true_or, or_true, rNotT, tNNew, tNNotIn, tNGet, sNPut, tLenSetN, tPar, tAug, ipI, tDNotIn, sDPut, tDGet, tTup, tLst, tBM, tBM0]
        refine ⟨lst_ty dd.list, l, 3, rfl, dd.pool, by decide, fun r H5 r0 r1 b5 p5 => ⟨rfl, ?_⟩⟩
        refine (dl_tail (R := fun H3 => DnI K H l rr z m s (p + 1) _ H3) (dd.draw (Ne.symm hlr) b5 p5) (b5 A _ (Ne.symm fA.1) hacc) hlen hbb (by split <;> simp) hr00 (by omega) hlr ?_).2
        intro H4 vs' rs' _ d6
        exact ⟨vs', rs', _, _, _, _, d6, rfl⟩
    · rintro σ H2 ⟨vs, rs, x5, x6, x7, x8, d, rfl⟩
      simp only [cxOf, tYes, eq_self, if_true, if_false, wipe, rLenQ, rIxTQ, rIxLQ, rIxSQ, rInt1Q, rTupQ, rAppQ, rPopQ, rPopAtQ, rRevQ, rListS, rReprP, tLenSetT, tChain, tRetN, tRet, tSeq, tAsg, gName, tVar, tC, tCons, tNil, tCB, tOp, rI0, rI, tAndV, tOrV, tNotV, tIf, tTest, tB, tNot, tAnd, tOr, tIfS, tNext, tCallR, rIsK, rEq, rNe, tDrop, L2.start, List.map_cons, List.map_nil, List.length_cons, List.length_nil, Nat.reduceAdd, Nat.reduceSub, Nat.sub_self, List.replicate_zero, List.replicate_succ, List.append_nil, List.cons_append, List.nil_append, List.getElem?_cons_zero, List.getElem?_cons_succ, List.set_cons_zero, List.set_cons_succ, Option.some.injEq, List.cons.injEq, and_true, true_and, exists_eq_left, exists_eq_left', exists_eq_right, V.ty.injEq, V.int.injEq, V.bl.injEq, V.str.injEq, V.ref.injEq, exists_and_left, exists_const, reduceIte, reduceCtorEq, false_and, and_false, exists_false, or_false, false_or, Bool.not_true, Bool.not_false, Bool.false_eq_true, String.reduceEq, true_or, or_true, rNotT, tNNew, tNNotIn, tNGet, sNPut, tLenSetN, tPar, tAug, ipI, tDNotIn, sDPut, tDGet, tTup, tLst, tBM, tBM0]
      refine ⟨vs, .inl (.inl d.list), fun T1 hT1 => ⟨szle (m := 2) (Nat.le_refl _), fun T2 hT2 => ?_⟩⟩
      have g1 := d.fresh (o := .tup vs) hT1
      have g2 := g1.fresh (o := .tup [.str z, .ref T1]) hT2
      have t1 : (upd (upd H2 T1 (.tup vs)) T2 (.tup [.str z, .ref T1])) T1 = some (.tup vs) := same_upd hT2 _ _ upd_same
      have hl : (rs.length : Int) = m := by rw [d.len]; omega
      refine q _ rs _ ⟨⟨T2, T1, rfl, .inl (.inl upd_same), vs, .inl (.inl t1), g2.pr⟩, hz, ⟨by omega, by omega, fun r hr => (d.ok r hr).1, fun r hr => (d.ok r hr).2.1, fun r hr q hq => ?_⟩⟩ g2.but g2.pool
      rw [hl]
      exact (d.ok r hr).2.2 q hq
end
end K34

namespace K34
open PySem PySem.Spec PyProof.Rows L2 Sg
section
variable {P : Program} {w : World} {K : PySem.W.Frag} {mg : Str → Option Value} {base : Heap}
theorem da_snoc {H' H2 : Hp} {D : Addr} {us : List V} {ds : List PyData} {v : V} {d : PyData} (h : DpAll K H' us ds) (n : noLs ds = true) (s : Same H' H2) (hD : H2 D = some (.lst us)) (hv : Dp K H2 v d) (nd : noL d = true) : DpAll K (upd H2 D (.lst (us ++ [v]))) (us ++ [v]) (ds ++ [d]) := by
  have k : TK H2 (upd H2 D (.lst (us ++ [v]))) := tk_upd (fun _ => by rw [hD]; nofun) (fun _ _ => by rw [hD]; nofun)
  exact dpAll_app (dpAll_mono k _ _ (dpAll_mono (TK.of_same s) _ _ h n) n) (.cons (dp_mono k _ _ hv nd) .nil)
theorem snoc_same {H H2 : Hp} {D : Addr} {o : HO} (h0 : H D = none) (s : Same H H2) : Same H (upd H2 D o) := fun b x hb => by
  rw [upd_ne (ne_of_none hb h0)]
  exact s b x hb
theorem rows_noLs (rs : List LRow) : noLs (rs.map rowD) = true := noLs_all fun d hd => by
  obtain ⟨r, _, rfl⟩ := List.mem_map.mp hd
  exact rowD_noL r
theorem ints_noLs (l : List Int) : noLs (l.map PyData.int) = true := noLs_all fun d hd => by
  obtain ⟨r, _, rfl⟩ := List.mem_map.mp hd
  simp [noL]
def gm (r : LRow) : PyData := .tuple [.int r.1, .tuple (r.2.map .int ++ [.int (r.2.getD 0 0)])]
def g2 (r : LRow) : PyData := .tuple [.int r.1, .tuple []]
def g3 (r : LRow) : PyData := .tuple [.int r.1, .tuple (List.replicate 6 (.int (r.2.getD 0 0)))]
theorem noL2 {a b : PyData} (ha : noL a = true) (hb : noL b = true) : noL (.tuple [a, b]) = true := by
  rw [noL_tup]
  exact noLs_all fun d hd => by
    simp only [List.mem_cons, List.not_mem_nil, or_false] at hd
    rcases hd with rfl | rfl
    · exact ha
    · exact hb
theorem noLs_app {l m : List PyData} (h1 : noLs l = true) (h2 : noLs m = true) : noLs (l ++ m) = true := noLs_all fun d hd => by
  rcases List.mem_append.mp hd with h | h
  · exact noLs_mem h1 h
  · exact noLs_mem h2 h
theorem noLs_rep {d : PyData} (h : noL d = true) (n : Nat) : noLs (List.replicate n d) = true := noLs_all fun e he => by
  rw [(List.mem_replicate.mp he).2]
  exact h
theorem noL_int (i : Int) : noL (.int i) = true := by simp [noL]
theorem noL_str (i : Str) : noL (.str i) = true := by simp [noL]
theorem noLs_map {α : Type} {f : α → PyData} (h : ∀ a, noL (f a) = true) (l : List α) : noLs (l.map f) = true := noLs_all fun d hd => by
  obtain ⟨r, _, rfl⟩ := List.mem_map.mp hd
  exact h r
theorem gm_noL (r : LRow) : noL (gm r) = true := noL2 (noL_int _) (by rw [noL_tup]; exact noLs_app (ints_noLs _) (noLs_rep (noL_int _) 1))
theorem g2_noL (r : LRow) : noL (g2 r) = true := noL2 (noL_int _) (by rw [noL_tup]; rfl)
theorem g3_noL (r : LRow) : noL (g3 r) = true := noL2 (noL_int _) (by rw [noL_tup]; exact noLs_rep (noL_int _) 6)
theorem bad_of {H : Hp} {v : V} {d : PyData} (h : Dp K H v d) (n : noL d = true) (f : lkB d = true → False) (sm : ∀ z r, d = .tuple (.str z :: r) → z.length ≤ 1000) : BadK K H v := ⟨d, h, n, sm, no_of f⟩
theorem sgB_long {z : Str} (h : 5 < z.length) : sgB z = false := no_of fun e => by
  unfold sgB at e
  simp only [Bool.and_eq_true, decide_eq_true_eq] at e
  omega
theorem sgB_twice {z : Str} {c : Nat} (h : c ∈ z.cps.toList) : sgB (z ++ sgn c) = false := no_of fun e => by
  unfold sgB at e
  simp only [Bool.and_eq_true, decide_eq_true_eq] at e
  have l1 : (signsOf (z ++ sgn c)).length = (z ++ sgn c).length := by
    unfold signsOf
    rw [List.length_map, Array.length_toList]
    rfl
  have nd := nodup_of_once (l := signsOf (z ++ sgn c)) (by omega)
  unfold signsOf at nd
  have nd2 : (z ++ sgn c).cps.toList.Nodup := (List.pairwise_map.mp nd).imp fun h e => h (by rw [e])
  rw [snoc_cps] at nd2
  exact (List.nodup_append.mp nd2).2.2 c h c (by simp) rfl
theorem at0 {l : List Int} (h : 1 ≤ l.length) : atI (l.map V.int) 0 = some (.int (l.getD 0 0)) := by
  cases l with
  | nil => simp at h
  | cons y t => exact atI_nat (j := 0) rfl
theorem noLs2 {a b : PyData} (ha : noL a = true) (hb : noL b = true) : noLs [a, b] = true := by
  have := noL2 ha hb
  rwa [noL_tup] at this
/-- a looker whose signs are none -/
theorem bad_signs {H : Hp} {v : V} {z : Str} {d : PyData} (h : Dp K H v (.tuple [.str z, d])) (n : noL d = true) (hs : sgB z = false) (hz : z.length ≤ 1000) : BadK K H v :=
  bad_of h (noL2 (noL_str _) n) (fun e => by
    obtain ⟨z', ss, e1, h1, _⟩ := lkB_inv e
    have e2 := PyData.str.inj (List.cons.inj (PyData.tuple.inj e1)).1
    rw [← e2, hs] at h1
    cases h1) fun z' r e => by
    have e2 := PyData.str.inj (List.cons.inj (PyData.tuple.inj e)).1
    rw [← e2]
    exact hz
theorem sc__law_whole_wrong : FnScope ["pool", "signs", "states", "kind", "more", "others", "end", "row"] ["pool", "signs", "states"] (defScope (topS 71)) := ⟨rfl, rfl, rfl, by decide +kernel, rfl, by decide +kernel, by decide +kernel⟩
theorem bd__law_whole_wrong {K : PySem.W.Frag} {f : Addr} {fd : FuncData} (F : FnP K "_law_whole_wrong" (topS 71) f fd) : Binds K fd ["pool", "signs", "states"] [] := F.bindsN fun _ _ _ _ _ _ us hl => match us, hl with | [_, _, _], _ => rfl
def spWw (K : PySem.W.Frag) : Sp := fun vs H Q _ => ∃ (l b : Addr) (z : Str) (xs : List V) (rs : List LRow), vs = [.ref l, .str z, .ref b] ∧ PoolL H l ∧ SignsOk z ∧ SqT K H b xs ∧ Paired (RSt K H) xs rs ∧ RowsOk z.length rs ∧ ∀ v H', BadK K H' v → But l H H' → Q v H'
theorem ok__law_whole_wrong (T : Tx K mg) : Dk P w K mg base 2 "_law_whole_wrong" ["pool", "signs", "states"] (spWw K) := by
  have D__law_draw := ok__law_draw (P := P) (w := w) (base := base) T
  obtain ⟨fd, F⟩ := T.d__law_whole_wrong
  refine ⟨⟨fd, F.ok sc__law_whole_wrong (fun vs H Q E h => ?_) (fun cdv A outer s H vs Q E hr h => ?_), bd__law_whole_wrong F⟩, F.kp, T.g__law_whole_wrong⟩
  · obtain ⟨l, b, z, xs, rs, rfl, _⟩ := h
    rfl
  · obtain ⟨l, b, z, xs, rs, rfl, hp, hz, hb, hpr, ok, q⟩ := h
    refine ⟨_, PSs.nox (pss_cons (ps_set (i := 3) sc__law_whole_wrong.nd rfl (.inl rfl) (pe_callR D__law_draw (hr.mono (by decide)) takes0 (pa_cons (pv 0) (pa_cons pe_int pa_nil))))
      (pss_cons (ps_set (i := 4) sc__law_whole_wrong.nd rfl (.inl rfl) (pe_callTy call_tupQ (by rfl) T.f_tuple PyProof.Rows.boot_tuple (pa_cons (pe_lc (own := [("end", 6), ("row", 7)]) rfl sc__law_whole_wrong.nd (pi_tup (pv 2)) (blkOk_by (own := [("end", 6), ("row", 7)]) (N := ["pool", "signs", "states", "kind", "more", "others", "end", "row"]) (sc := defScope (topS 71)) (by decide +kernel)) (fun _ _ _ _ _ => (show PG _ _ (gTup K 2 _) by exact pg_tup (by rfl) (pgs_cons (pg_name (i := 6) sc__law_whole_wrong.nd rfl (.inl rfl)) (pgs_cons (pg_name (i := 7) sc__law_whole_wrong.nd rfl (.inl rfl)) pgs_nil)))) (fun _ _ _ _ _ => pts_nil) (fun _ _ _ _ _ => (pe_tup (pa_cons (pv 6) (pa_cons (pe_op (show OpR _ _ (rCatA K) by exact op_catA) (pv 7) (pe_tup (pa_cons (pe_ix (show IxR _ (rIxTQ K) by exact ix_tupQ) (pv 7) pe_int (fun _ _ => rfl)) pa_nil))) pa_nil))))) pa_nil)))
      (pss_cons (ps_if (pt_cmpR op_eq (pv 3) pe_int (nomark _)) (pss_one (ps_ret (pe_tup (pa_cons (pv 1) (pa_cons (pe_op op_catA (pv 2) (pe_op op_repT1 (pe_tup (pa_cons (pe_ix ix_tupQ (pv 2) pe_int (fun _ _ => rfl)) pa_nil)) (pe_op op_sub pe_int (pe_callB call_lenQ (by rfl) T.f_len PySem.boot_len (pa_cons (pv 2) pa_nil))))) pa_nil))))) pss_nil)
      (pss_cons (ps_if (pt_cmpR op_eq (pv 3) pe_int (nomark _)) (pss_one (ps_ret (pe_tup (pa_cons (pe_op op_add_str (pv 1) (pe_ix ix_strQ (pv 1) pe_int (fun _ _ => rfl))) (pa_cons (pv 4) pa_nil))))) pss_nil)
      (pss_cons (ps_if (pt_cmpR op_eq (pv 3) pe_int (nomark _)) (pss_one (ps_ret (pe_tup (pa_cons pe_str (pa_cons (pe_callTy call_tupQ (by rfl) T.f_tuple PyProof.Rows.boot_tuple (pa_cons (pe_lc (own := [("end", 6), ("row", 7)]) rfl sc__law_whole_wrong.nd (pi_tup (pv 2)) (blkOk_by (own := [("end", 6), ("row", 7)]) (N := ["pool", "signs", "states", "kind", "more", "others", "end", "row"]) (sc := defScope (topS 71)) (by decide +kernel)) (fun _ _ _ _ _ => (show PG _ _ (gTup K 2 _) by exact pg_tup (by rfl) (pgs_cons (pg_name (i := 6) sc__law_whole_wrong.nd rfl (.inl rfl)) (pgs_cons (pg_name (i := 7) sc__law_whole_wrong.nd rfl (.inl rfl)) pgs_nil)))) (fun _ _ _ _ _ => pts_nil) (fun _ _ _ _ _ => (pe_tup (pa_cons (pv 6) (pa_cons (pe_tup pa_nil) pa_nil))))) pa_nil)) pa_nil))))) pss_nil)
      (pss_cons (ps_if (pt_cmpR op_eq (pv 3) pe_int (nomark _)) (pss_one (ps_ret (pe_tup (pa_cons pe_str (pa_cons (pe_callTy call_tupQ (by rfl) T.f_tuple PyProof.Rows.boot_tuple (pa_cons (pe_lc (own := [("end", 6), ("row", 7)]) rfl sc__law_whole_wrong.nd (pi_tup (pv 2)) (blkOk_by (own := [("end", 6), ("row", 7)]) (N := ["pool", "signs", "states", "kind", "more", "others", "end", "row"]) (sc := defScope (topS 71)) (by decide +kernel)) (fun _ _ _ _ _ => (show PG _ _ (gTup K 2 _) by exact pg_tup (by rfl) (pgs_cons (pg_name (i := 6) sc__law_whole_wrong.nd rfl (.inl rfl)) (pgs_cons (pg_name (i := 7) sc__law_whole_wrong.nd rfl (.inl rfl)) pgs_nil)))) (fun _ _ _ _ _ => pts_nil) (fun _ _ _ _ _ => (pe_tup (pa_cons (pv 6) (pa_cons (pe_op (show OpR _ _ (rRepT1 K) by exact op_repT1) (pe_tup (pa_cons (pe_ix (show IxR _ (rIxTQ K) by exact ix_tupQ) (pv 7) pe_int (fun _ _ => rfl)) pa_nil)) pe_int) pa_nil))))) pa_nil)) pa_nil))))) pss_nil)
      (pss_cons (ps_set (i := 5) sc__law_whole_wrong.nd rfl (.inl rfl) (pe_tup (pa_cons pe_non (pa_cons pe_int (pa_cons (pv 1) (pa_cons (pe_tup (pa_cons (pv 1) pa_nil)) (pa_cons (pe_tup (pa_cons (pv 1) (pa_cons (pe_tup pa_nil) pa_nil))) (pa_cons (pe_tup (pa_cons (pv 1) (pa_cons (pv 2) (pa_cons pe_int pa_nil)))) (pa_cons (pe_tup (pa_cons (pe_callTy (call_tupS rfl) (by rfl) T.f_tuple PyProof.Rows.boot_tuple (pa_cons (pv 1) pa_nil)) (pa_cons (pv 2) pa_nil))) (pa_cons (pe_tup (pa_cons (pv 1) (pa_cons pe_non pa_nil))) pa_nil))))))))))
      (pss_one (ps_ret (pe_ix ix_tupQ (pv 5) (pe_op op_sub (pv 3) pe_int) (fun _ _ => rfl))))))))))), ?_⟩
    have hz5 := hz.top
    have hlen := pr_len hpr
    have hpos := ok.pos
    have htop := ok.top
    refine seq_with (fun σ H1 => ∃ k : Int, 0 ≤ k ∧ k < 12 ∧ But l H H1 ∧ PoolL H1 l ∧ σ = [some (.ref l), some (.str z), some (.ref b), some (.int k), none, none, none, none]) (fun N tail => ?_) ?_
    · simp only [cxOf, tYes, eq_self, if_true, if_false, wipe, rLenQ, rIxTQ, rIxLQ, rIxSQ, rInt1Q, rTupQ, rAppQ, rPopQ, rPopAtQ, rRevQ, rListS, rReprP, tLenSetT, tChain, tRetN, tRet, tSeq, tAsg, gName, tVar, tC, tCons, tNil, tCB, tOp, rI0, rI, tAndV, tOrV, tNotV, tIf, tTest, tB, tNot, tAnd, tOr, tIfS, tNext, tCallR, rIsK, rEq, rNe, tDrop, L2.start, List.map_cons, List.map_nil, List.length_cons, List.length_nil, Nat.reduceAdd, Nat.reduceSub, Nat.sub_self, List.replicate_zero, List.replicate_succ, List.append_nil, List.cons_append, List.nil_append, List.getElem?_cons_zero, List.getElem?_cons_succ, List.set_cons_zero, List.set_cons_succ, Option.some.injEq, List.cons.injEq, and_true, true_and, exists_eq_left, exists_eq_left', exists_eq_right, V.ty.injEq, V.int.injEq, V.bl.injEq, V.str.injEq, V.ref.injEq, exists_and_left, exists_const, reduceIte, reduceCtorEq, false_and, and_false, exists_false, or_false, false_or, Bool.not_true, Bool.not_false, Bool.false_eq_true, String.reduceEq, true_or, or_true, rNotT, tNNew, tNNotIn, tNGet, sNPut, tLenSetN, tPar, tAug, ipI, tDNotIn, sDPut, tDGet, tTup, tLst, tBM, tBM0]
      exact ⟨l, 12, rfl, hp, by decide, fun k H1 k0 k1 b1 p1 => tail _ _ ⟨k, k0, k1, b1, p1, rfl⟩⟩
    rintro σ H1 ⟨k, k0, k1, b1, p1, rfl⟩
    have tk1 := (TK.of_but b1 hp.choose_spec)
    have hb1 : SqT K H1 b xs := tk1.sqT hb
    have hpr1 : Paired (RSt K H1) xs rs := pr_mono hpr fun _ _ r => r.mono tk1
    refine seq_with (fun σ H2 => ∃ mo ds, Dp K H2 (.ref mo) (.tuple ds) ∧ noLs ds = true ∧ Same H1 H2 ∧ σ = [some (.ref l), some (.str z), some (.ref b), some (.int k), some (.ref mo), none, none, none]) (fun N tail => ?_) ?_
    · simp only [cxOf, tYes, eq_self, if_true, if_false, wipe, rLenQ, rIxTQ, rIxLQ, rIxSQ, rInt1Q, rTupQ, rAppQ, rPopQ, rPopAtQ, rRevQ, rListS, rReprP, tLenSetT, tChain, tRetN, tRet, tSeq, tAsg, gName, tVar, tC, tCons, tNil, tCB, tOp, rI0, rI, tAndV, tOrV, tNotV, tIf, tTest, tB, tNot, tAnd, tOr, tIfS, tNext, tCallR, rIsK, rEq, rNe, tDrop, L2.start, List.map_cons, List.map_nil, List.length_cons, List.length_nil, Nat.reduceAdd, Nat.reduceSub, Nat.sub_self, List.replicate_zero, List.replicate_succ, List.append_nil, List.cons_append, List.nil_append, List.getElem?_cons_zero, List.getElem?_cons_succ, List.set_cons_zero, List.set_cons_succ, Option.some.injEq, List.cons.injEq, and_true, true_and, exists_eq_left, exists_eq_left', exists_eq_right, V.ty.injEq, V.int.injEq, V.bl.injEq, V.str.injEq, V.ref.injEq, exists_and_left, exists_const, reduceIte, reduceCtorEq, false_and, and_false, exists_false, or_false, false_or, Bool.not_true, Bool.not_false, Bool.false_eq_true, String.reduceEq, true_or, or_true, rNotT, tNNew, tNNotIn, tNGet, sNPut, tLenSetN, tPar, tAug, ipI, tDNotIn, sDPut, tDGet, tTup, tLst, tBM, tBM0]
      refine ⟨.ref b, rfl, b, rfl, ⟨xs, hb1⟩, fun D hD => ?_⟩
      refine lc_gen (n := xs.length) (fun i H' => ∃ us, Same H1 H' ∧ H' D = some (.lst us) ∧ DpAll K H' us ((rs.take i).map gm)) ⟨[], same_upd hD, upd_same, .nil⟩ (fun i H' hi e => ?_) (fun H' e => ?_) ?_ ?_
      · obtain ⟨us, s3, h3, pr3⟩ := e
        exact ⟨xs, xs[i], Same.sqT s3 hb1, List.getElem?_eq_getElem hi⟩
      · obtain ⟨us, s3, h3, pr3⟩ := e
        exact ⟨xs, Same.sqT s3 hb1, Nat.le_refl _⟩
      · rintro i x H3 H4 hi ⟨us, s3, h3, pr3⟩ ⟨rfl, hx⟩
        obtain ⟨r, hr, a1, b1', rfl, g3', g4⟩ := pr_get hpr1 (hx xs (Same.sqT s3 hb1))
        have hrm := List.mem_of_getElem? hr
        have hw := ok.wid r hrm
        have hwp := hz.pos
        refine ⟨a1, _, rfl, Same.sqT s3 g3', rfl, ?_⟩
        simp only [cxOf, tYes, eq_self, if_true, if_false, wipe, rLenQ, rIxTQ, rIxLQ, rIxSQ, rInt1Q, rTupQ, rAppQ, rPopQ, rPopAtQ, rRevQ, rListS, rReprP, tLenSetT, tChain, tRetN, tRet, tSeq, tAsg, gName, tVar, tC, tCons, tNil, tCB, tOp, rI0, rI, tAndV, tOrV, tNotV, tIf, tTest, tB, tNot, tAnd, tOr, tIfS, tNext, tCallR, rIsK, rEq, rNe, tDrop, L2.start, List.map_cons, List.map_nil, List.length_cons, List.length_nil, Nat.reduceAdd, Nat.reduceSub, Nat.sub_self, List.replicate_zero, List.replicate_succ, List.append_nil, List.cons_append, List.nil_append, List.getElem?_cons_zero, List.getElem?_cons_succ, List.set_cons_zero, List.set_cons_succ, Option.some.injEq, List.cons.injEq, and_true, true_and, exists_eq_left, exists_eq_left', exists_eq_right, V.ty.injEq, V.int.injEq, V.bl.injEq, V.str.injEq, V.ref.injEq, exists_and_left, exists_const, reduceIte, reduceCtorEq, false_and, and_false, exists_false, or_false, false_or, Bool.not_true, Bool.not_false, Bool.false_eq_true, String.reduceEq, true_or, or_true, rNotT, tNNew, tNNotIn, tNGet, sNPut, tLenSetN, tPar, tAug, ipI, tDNotIn, sDPut, tDGet, tTup, tLst, tBM, tBM0]
        have hn : noLs ((rs.take i).map gm) = true := noLs_map gm_noL _
        have hul : us.length ≤ 600 := by
          rw [dpAll_len pr3, List.length_map, List.length_take]
          omega
        have g4' := Same.sqT s3 g4
        refine ⟨_, _, rfl, _, _, rfl, rfl, rfl, _, rfl, _, rfl, _, rfl, _, g4', _, at0 (by omega), szle (m := 1) (Nat.le_refl _), fun p hp => ?_⟩
        refine ⟨b1', p, _, _, rfl, rfl, Same.sqT (same_upd hp) g4', .inl (.inl upd_same), by rw [List.length_map]; exact szle (m := 10) (by show r.2.length + 1 ≤ 10; omega), fun e => ?_, (fun _ e => by cases e), fun _ _ p2 hp2 => ?_⟩
        · have : r.2.length = 0 := by rw [← List.length_map (f := V.int), e]; rfl
          omega
        · refine ⟨szle (m := 2) (Nat.le_refl _), fun p3 hp3 => ?_⟩
          have sm := Same.trans (same_upd (o := .tup [V.int (r.2.getD 0 0)]) hp) (Same.trans (same_upd (o := .tup (r.2.map V.int ++ [V.int (r.2.getD 0 0)])) hp2) (same_upd (o := .tup [V.int r.1, .ref p2]) hp3))
          refine ⟨us, sm _ _ h3, szlt (m := 600) hul, snoc_same hD (Same.trans s3 sm), _, upd_same, ?_⟩
          rw [List.take_add_one, hr, List.map_append]
          refine da_snoc pr3 hn sm (sm _ _ h3) (.tup (.inl (.inl upd_same)) (.cons (.int _) (.cons (.tup (.inl (.inl (same_upd hp3 _ _ upd_same))) ?_) .nil))) (gm_noL r)
          exact dpAll_app (ints_dp _) (.cons (.int _) .nil)
      · rintro H3 ⟨us, s3, h3, pr3⟩
        simp only [cxOf, tYes, eq_self, if_true, if_false, wipe, rLenQ, rIxTQ, rIxLQ, rIxSQ, rInt1Q, rTupQ, rAppQ, rPopQ, rPopAtQ, rRevQ, rListS, rReprP, tLenSetT, tChain, tRetN, tRet, tSeq, tAsg, gName, tVar, tC, tCons, tNil, tCB, tOp, rI0, rI, tAndV, tOrV, tNotV, tIf, tTest, tB, tNot, tAnd, tOr, tIfS, tNext, tCallR, rIsK, rEq, rNe, tDrop, L2.start, List.map_cons, List.map_nil, List.length_cons, List.length_nil, Nat.reduceAdd, Nat.reduceSub, Nat.sub_self, List.replicate_zero, List.replicate_succ, List.append_nil, List.cons_append, List.nil_append, List.getElem?_cons_zero, List.getElem?_cons_succ, List.set_cons_zero, List.set_cons_succ, Option.some.injEq, List.cons.injEq, and_true, true_and, exists_eq_left, exists_eq_left', exists_eq_right, V.ty.injEq, V.int.injEq, V.bl.injEq, V.str.injEq, V.ref.injEq, exists_and_left, exists_const, reduceIte, reduceCtorEq, false_and, and_false, exists_false, or_false, false_or, Bool.not_true, Bool.not_false, Bool.false_eq_true, String.reduceEq, true_or, or_true, rNotT, tNNew, tNNotIn, tNGet, sNPut, tLenSetN, tPar, tAug, ipI, tDNotIn, sDPut, tDGet, tTup, tLst, tBM, tBM0]
        exact ⟨us, .inl (.inl h3), fun T1 hT1 => tail _ _ ⟨T1, _, .tup (.inl (.inl upd_same)) (dpAll_mono (TK.of_same (same_upd hT1)) _ _ pr3 (noLs_map gm_noL _)), noLs_map gm_noL _, Same.trans s3 (same_upd hT1), rfl⟩⟩
    rintro σ H2 ⟨mo, ds, hmo, nds, s2, rfl⟩
    simp only [cxOf, tYes, eq_self, if_true, if_false, wipe, rLenQ, rIxTQ, rIxLQ, rIxSQ, rInt1Q, rTupQ, rAppQ, rPopQ, rPopAtQ, rRevQ, rListS, rReprP, tLenSetT, tChain, tRetN, tRet, tSeq, tAsg, gName, tVar, tC, tCons, tNil, tCB, tOp, rI0, rI, tAndV, tOrV, tNotV, tIf, tTest, tB, tNot, tAnd, tOr, tIfS, tNext, tCallR, rIsK, rEq, rNe, tDrop, L2.start, List.map_cons, List.map_nil, List.length_cons, List.length_nil, Nat.reduceAdd, Nat.reduceSub, Nat.sub_self, List.replicate_zero, List.replicate_succ, List.append_nil, List.cons_append, List.nil_append, List.getElem?_cons_zero, List.getElem?_cons_succ, List.set_cons_zero, List.set_cons_succ, Option.some.injEq, List.cons.injEq, and_true, true_and, exists_eq_left, exists_eq_left', exists_eq_right, V.ty.injEq, V.int.injEq, V.bl.injEq, V.str.injEq, V.ref.injEq, exists_and_left, exists_const, reduceIte, reduceCtorEq, false_and, and_false, exists_false, or_false, false_or, Bool.not_true, Bool.not_false, Bool.false_eq_true, String.reduceEq, true_or, or_true, rNotT, tNNew, tNNotIn, tNGet, sNPut, tLenSetN, tPar, tAug, ipI, tDNotIn, sDPut, tDGet, tTup, tLst, tBM, tBM0]
    refine ⟨rfl, ?_⟩
    have hb2 : SqT K H2 b xs := Same.sqT s2 hb1
    have hpr2 : Paired (RSt K H2) xs rs := pr_mono hpr1 fun _ _ r => r.mono (TK.of_same s2)
    have but : ∀ {H'}, Same H2 H' → But l H H' := fun s => b1.trans ((But.of_same s2).trans (But.of_same s))
    have hrows := rows_dp hpr2
    by_cases c0 : k = 0
    · refine ifT (decide_eq_true c0) ⟨xs, hb2, ?_⟩
      obtain ⟨r0, hr0⟩ : ∃ r0, rs[0]? = some r0 := ⟨rs[0], List.getElem?_eq_getElem (by omega)⟩
      obtain ⟨x0, hx0, hrx⟩ := pr_get' hpr2 hr0
      have dx0 : Dp K H2 x0 (rowD r0) := by
        obtain ⟨a, b, rfl, h1, h2⟩ := hrx
        exact .tup h1 (.cons (.int _) (.cons (.tup h2 (ints_dp _)) .nil))
      refine ⟨x0, atI_nat (j := 0) hx0, szle (m := 1) (Nat.le_refl _), fun p hp => ?_⟩
      have sp := same_upd (o := .tup [x0]) hp
      refine ⟨xs, .inr (Same.sqT sp hb2), p, 601 - (xs.length : Int), [x0], rfl, rfl, .inl (.inl upd_same), by simp, by omega, by omega, by simp, fun p2 H3 s3 h3 => ?_⟩
      have erep : (List.replicate (601 - (xs.length : Int)).toNat [x0]).flatten = List.replicate (601 - rs.length) x0 := by
        rw [show (601 - (xs.length : Int)).toNat = 601 - rs.length by omega]
        induction (601 - rs.length) with
        | zero => rfl
        | succ n ih => rw [List.replicate_succ, List.flatten_cons, ih, List.replicate_succ]; rfl
      have hrep : SqT K H3 p2 (List.replicate (601 - rs.length) x0) := by
        rcases h3 with h3 | ⟨rfl, rfl, e⟩
        · rw [erep] at h3
          exact .inl (.inl h3)
        · rw [show 601 - rs.length = 1 by omega]
          exact .inl (.inl upd_same)
      have s23 := Same.trans sp s3
      refine ⟨b, p2, xs, _, rfl, rfl, Same.sqT s23 hb2, hrep, by rw [List.length_replicate]; exact szle (m := 1000) (by omega), fun e => ?_, fun _ e => ?_, fun _ _ p3 hp3 => ⟨szle (m := 2) (Nat.le_refl _), fun p4 hp4 => ?_⟩⟩
      · have : xs.length = 0 := by rw [e]; rfl
        omega
      · have : (List.replicate (601 - rs.length) x0).length = 0 := by rw [e]; rfl
        rw [List.length_replicate] at this
        omega
      have s5 := Same.trans s23 (Same.trans (same_upd (o := .tup (xs ++ List.replicate (601 - rs.length) x0)) hp3) (same_upd (o := .tup [.str z, .ref p3]) hp4))
      have hd : noLs (rs.map rowD ++ List.replicate (601 - rs.length) (rowD r0)) = true := noLs_app (rows_noLs rs) (noLs_rep (rowD_noL r0) _)
      refine q _ _ (bad_of (d := .tuple [.str z, .tuple (rs.map rowD ++ List.replicate (601 - rs.length) (rowD r0))]) (.tup (.inl (.inl upd_same)) (.cons (.str z) (.cons (.tup (.inl (.inl (same_upd hp4 _ _ upd_same))) ?_) .nil))) (noL2 (noL_str z) (by rw [noL_tup]; exact hd)) (fun e => ?_) fun z' r' e => ?_) (but s5)
      · exact dpAll_mono (TK.of_same s5) _ _ (dpAll_app hrows (dpAll_rep dx0 _)) hd
      · obtain ⟨z', ss, e1, _, _, h4, _⟩ := lkB_inv e
        have e2 := PyData.tuple.inj (List.cons.inj (List.cons.inj (PyData.tuple.inj e1)).2).1
        rw [← e2, List.length_append, List.length_map, List.length_replicate] at h4
        omega
      · rw [← PyData.str.inj (List.cons.inj (PyData.tuple.inj e)).1]
        omega
    refine ifF (decide_eq_false c0) ⟨rfl, ?_⟩
    by_cases c1 : k = 1
    · refine ifT (decide_eq_true c1) ?_
      have hz1 := hz.pos
      have hc : ∃ c, z.cps.toList[0]? = some c ∧ c ∈ z.cps.toList := by
        have hl : z.cps.toList.length = z.length := Array.length_toList
        exact ⟨_, List.getElem?_eq_getElem (by omega), List.getElem_mem _⟩
      obtain ⟨c, hc, hcm⟩ := hc
      refine ⟨szle (m := 5) hz5, c, atI_nat (j := 0) hc, ?_, szle (m := 2) (Nat.le_refl _), fun p hp => ?_⟩
      · show z.length + 1 ≤ sizeLine
        exact szle (m := 10) (by omega)
      have sp := same_upd (o := .tup [.str (z ++ sgn c), .ref mo]) hp
      exact q _ _ (bad_signs (z := z ++ sgn c) (d := .tuple ds) (.tup (.inl (.inl upd_same)) (.cons (.str _) (.cons (dp_mono (TK.of_same sp) _ _ hmo (by rw [noL_tup]; exact nds)) .nil))) (by rw [noL_tup]; exact nds) (sgB_twice hcm) (by rw [snoc_len]; omega)) (but sp)
    refine ifF (decide_eq_false c1) ⟨rfl, ?_⟩
    by_cases c2 : k = 2
    · refine ifT (decide_eq_true c2) ?_
      refine ⟨.ref b, rfl, b, rfl, ⟨xs, hb2⟩, fun D hD => ?_⟩
      refine lc_gen (n := xs.length) (fun i H' => ∃ us, Same H2 H' ∧ H' D = some (.lst us) ∧ DpAll K H' us ((rs.take i).map g2)) ⟨[], same_upd hD, upd_same, .nil⟩ (fun i H' hi e => ?_) (fun H' e => ?_) ?_ ?_
      · obtain ⟨us, s3, h3, pr3⟩ := e
        exact ⟨xs, xs[i], Same.sqT s3 hb2, List.getElem?_eq_getElem hi⟩
      · obtain ⟨us, s3, h3, pr3⟩ := e
        exact ⟨xs, Same.sqT s3 hb2, Nat.le_refl _⟩
      · rintro i x H3 H4 hi ⟨us, s3, h3, pr3⟩ ⟨rfl, hx⟩
        obtain ⟨r, hr, a1, b1', rfl, g3', g4⟩ := pr_get hpr2 (hx xs (Same.sqT s3 hb2))
        have hrm := List.mem_of_getElem? hr
        have hw := ok.wid r hrm
        have hwp := hz.pos
        refine ⟨a1, _, rfl, Same.sqT s3 g3', rfl, ?_⟩
        simp only [cxOf, tYes, eq_self, if_true, if_false, wipe, rLenQ, rIxTQ, rIxLQ, rIxSQ, rInt1Q, rTupQ, rAppQ, rPopQ, rPopAtQ, rRevQ, rListS, rReprP, tLenSetT, tChain, tRetN, tRet, tSeq, tAsg, gName, tVar, tC, tCons, tNil, tCB, tOp, rI0, rI, tAndV, tOrV, tNotV, tIf, tTest, tB, tNot, tAnd, tOr, tIfS, tNext, tCallR, rIsK, rEq, rNe, tDrop, L2.start, List.map_cons, List.map_nil, List.length_cons, List.length_nil, Nat.reduceAdd, Nat.reduceSub, Nat.sub_self, List.replicate_zero, List.replicate_succ, List.append_nil, List.cons_append, List.nil_append, List.getElem?_cons_zero, List.getElem?_cons_succ, List.set_cons_zero, List.set_cons_succ, Option.some.injEq, List.cons.injEq, and_true, true_and, exists_eq_left, exists_eq_left', exists_eq_right, V.ty.injEq, V.int.injEq, V.bl.injEq, V.str.injEq, V.ref.injEq, exists_and_left, exists_const, reduceIte, reduceCtorEq, false_and, and_false, exists_false, or_false, false_or, Bool.not_true, Bool.not_false, Bool.false_eq_true, String.reduceEq, true_or, or_true, rNotT, tNNew, tNNotIn, tNGet, sNPut, tLenSetN, tPar, tAug, ipI, tDNotIn, sDPut, tDGet, tTup, tLst, tBM, tBM0]
        have hn : noLs ((rs.take i).map g2) = true := noLs_map g2_noL _
        have hul : us.length ≤ 600 := by
          rw [dpAll_len pr3, List.length_map, List.length_take]
          omega
        have g4' := Same.sqT s3 g4
        refine ⟨_, _, rfl, _, _, rfl, rfl, rfl, _, rfl, Nat.zero_le _, fun p2 hp2 => ⟨szle (m := 2) (Nat.le_refl _), fun p3 hp3 => ?_⟩⟩
        have sm := Same.trans (same_upd (o := .tup []) hp2) (same_upd (o := .tup [V.int r.1, .ref p2]) hp3)
        refine ⟨us, sm _ _ h3, szlt (m := 600) hul, snoc_same hD (Same.trans s3 sm), _, upd_same, ?_⟩
        rw [List.take_add_one, hr, List.map_append]
        exact da_snoc pr3 hn sm (sm _ _ h3) (.tup (.inl (.inl upd_same)) (.cons (.int _) (.cons (.tup (.inl (.inl (same_upd hp3 _ _ upd_same))) .nil) .nil))) (g2_noL r)
      · rintro H3 ⟨us, s3, h3, pr3⟩
        simp only [cxOf, tYes, eq_self, if_true, if_false, wipe, rLenQ, rIxTQ, rIxLQ, rIxSQ, rInt1Q, rTupQ, rAppQ, rPopQ, rPopAtQ, rRevQ, rListS, rReprP, tLenSetT, tChain, tRetN, tRet, tSeq, tAsg, gName, tVar, tC, tCons, tNil, tCB, tOp, rI0, rI, tAndV, tOrV, tNotV, tIf, tTest, tB, tNot, tAnd, tOr, tIfS, tNext, tCallR, rIsK, rEq, rNe, tDrop, L2.start, List.map_cons, List.map_nil, List.length_cons, List.length_nil, Nat.reduceAdd, Nat.reduceSub, Nat.sub_self, List.replicate_zero, List.replicate_succ, List.append_nil, List.cons_append, List.nil_append, List.getElem?_cons_zero, List.getElem?_cons_succ, List.set_cons_zero, List.set_cons_succ, Option.some.injEq, List.cons.injEq, and_true, true_and, exists_eq_left, exists_eq_left', exists_eq_right, V.ty.injEq, V.int.injEq, V.bl.injEq, V.str.injEq, V.ref.injEq, exists_and_left, exists_const, reduceIte, reduceCtorEq, false_and, and_false, exists_false, or_false, false_or, Bool.not_true, Bool.not_false, Bool.false_eq_true, String.reduceEq, true_or, or_true, rNotT, tNNew, tNNotIn, tNGet, sNPut, tLenSetN, tPar, tAug, ipI, tDNotIn, sDPut, tDGet, tTup, tLst, tBM, tBM0]
        refine ⟨us, .inl (.inl h3), fun T1 hT1 => ⟨szle (m := 2) (Nat.le_refl _), fun T2 hT2 => ?_⟩⟩
        have s4 := Same.trans (same_upd (o := .tup us) hT1) (same_upd (o := .tup [.str (Str.ofString ""), .ref T1]) hT2)
        have hn : noLs ((rs.take xs.length).map g2) = true := noLs_map g2_noL _
        refine q _ _ (bad_signs (z := Str.ofString "") (d := .tuple ((rs.take xs.length).map g2)) (.tup (.inl (.inl upd_same)) (.cons (.str _) (.cons (.tup (.inl (.inl (same_upd hT2 _ _ upd_same))) (dpAll_mono (TK.of_same s4) _ _ pr3 hn)) .nil))) (by rw [noL_tup]; exact hn) (by decide) (by decide)) (but (Same.trans s3 s4))
    refine ifF (decide_eq_false c2) ⟨rfl, ?_⟩
    by_cases c3 : k = 3
    · refine ifT (decide_eq_true c3) ?_
      refine ⟨.ref b, rfl, b, rfl, ⟨xs, hb2⟩, fun D hD => ?_⟩
      refine lc_gen (n := xs.length) (fun i H' => ∃ us, Same H2 H' ∧ H' D = some (.lst us) ∧ DpAll K H' us ((rs.take i).map g3)) ⟨[], same_upd hD, upd_same, .nil⟩ (fun i H' hi e => ?_) (fun H' e => ?_) ?_ ?_
      · obtain ⟨us, s3, h3, pr3⟩ := e
        exact ⟨xs, xs[i], Same.sqT s3 hb2, List.getElem?_eq_getElem hi⟩
      · obtain ⟨us, s3, h3, pr3⟩ := e
        exact ⟨xs, Same.sqT s3 hb2, Nat.le_refl _⟩
      · rintro i x H3 H4 hi ⟨us, s3, h3, pr3⟩ ⟨rfl, hx⟩
        obtain ⟨r, hr, a1, b1', rfl, g3', g4⟩ := pr_get hpr2 (hx xs (Same.sqT s3 hb2))
        have hrm := List.mem_of_getElem? hr
        have hw := ok.wid r hrm
        have hwp := hz.pos
        refine ⟨a1, _, rfl, Same.sqT s3 g3', rfl, ?_⟩
        simp only [cxOf, tYes, eq_self, if_true, if_false, wipe, rLenQ, rIxTQ, rIxLQ, rIxSQ, rInt1Q, rTupQ, rAppQ, rPopQ, rPopAtQ, rRevQ, rListS, rReprP, tLenSetT, tChain, tRetN, tRet, tSeq, tAsg, gName, tVar, tC, tCons, tNil, tCB, tOp, rI0, rI, tAndV, tOrV, tNotV, tIf, tTest, tB, tNot, tAnd, tOr, tIfS, tNext, tCallR, rIsK, rEq, rNe, tDrop, L2.start, List.map_cons, List.map_nil, List.length_cons, List.length_nil, Nat.reduceAdd, Nat.reduceSub, Nat.sub_self, List.replicate_zero, List.replicate_succ, List.append_nil, List.cons_append, List.nil_append, List.getElem?_cons_zero, List.getElem?_cons_succ, List.set_cons_zero, List.set_cons_succ, Option.some.injEq, List.cons.injEq, and_true, true_and, exists_eq_left, exists_eq_left', exists_eq_right, V.ty.injEq, V.int.injEq, V.bl.injEq, V.str.injEq, V.ref.injEq, exists_and_left, exists_const, reduceIte, reduceCtorEq, false_and, and_false, exists_false, or_false, false_or, Bool.not_true, Bool.not_false, Bool.false_eq_true, String.reduceEq, true_or, or_true, rNotT, tNNew, tNNotIn, tNGet, sNPut, tLenSetN, tPar, tAug, ipI, tDNotIn, sDPut, tDGet, tTup, tLst, tBM, tBM0]
        have hn : noLs ((rs.take i).map g3) = true := noLs_map g3_noL _
        have hul : us.length ≤ 600 := by
          rw [dpAll_len pr3, List.length_map, List.length_take]
          omega
        have g4' := Same.sqT s3 g4
        refine ⟨_, _, rfl, _, _, rfl, rfl, rfl, _, rfl, _, rfl, _, g4', _, at0 (by omega), szle (m := 1) (Nat.le_refl _), fun p hp => ?_⟩
        refine ⟨p, 6, _, rfl, rfl, .inl (.inl upd_same), by simp, by decide, by decide, by simp, fun p2 H5 s5 h5 => ⟨szle (m := 2) (Nat.le_refl _), fun p3 hp3 => ?_⟩⟩
        have h5' : H5 p2 = some (.tup (List.replicate 6 (V.int (r.2.getD 0 0)))) := by
          rcases h5 with h5 | ⟨_, _, e⟩
          · exact h5
          · cases e
        have sm := Same.trans (same_upd (o := .tup [V.int (r.2.getD 0 0)]) hp) (Same.trans s5 (same_upd (o := .tup [V.int r.1, .ref p2]) hp3))
        refine ⟨us, sm _ _ h3, szlt (m := 600) hul, snoc_same hD (Same.trans s3 sm), _, upd_same, ?_⟩
        rw [List.take_add_one, hr, List.map_append]
        exact da_snoc pr3 hn sm (sm _ _ h3) (.tup (.inl (.inl upd_same)) (.cons (.int _) (.cons (.tup (.inl (.inl (same_upd hp3 _ _ h5'))) (dpAll_rep (.int _) 6)) .nil))) (g3_noL r)
      · rintro H3 ⟨us, s3, h3, pr3⟩
        simp only [cxOf, tYes, eq_self, if_true, if_false, wipe, rLenQ, rIxTQ, rIxLQ, rIxSQ, rInt1Q, rTupQ, rAppQ, rPopQ, rPopAtQ, rRevQ, rListS, rReprP, tLenSetT, tChain, tRetN, tRet, tSeq, tAsg, gName, tVar, tC, tCons, tNil, tCB, tOp, rI0, rI, tAndV, tOrV, tNotV, tIf, tTest, tB, tNot, tAnd, tOr, tIfS, tNext, tCallR, rIsK, rEq, rNe, tDrop, L2.start, List.map_cons, List.map_nil, List.length_cons, List.length_nil, Nat.reduceAdd, Nat.reduceSub, Nat.sub_self, List.replicate_zero, List.replicate_succ, List.append_nil, List.cons_append, List.nil_append, List.getElem?_cons_zero, List.getElem?_cons_succ, List.set_cons_zero, List.set_cons_succ, Option.some.injEq, List.cons.injEq, and_true, true_and, exists_eq_left, exists_eq_left', exists_eq_right, V.ty.injEq, V.int.injEq, V.bl.injEq, V.str.injEq, V.ref.injEq, exists_and_left, exists_const, reduceIte, reduceCtorEq, false_and, and_false, exists_false, or_false, false_or, Bool.not_true, Bool.not_false, Bool.false_eq_true, String.reduceEq, true_or, or_true, rNotT, tNNew, tNNotIn, tNGet, sNPut, tLenSetN, tPar, tAug, ipI, tDNotIn, sDPut, tDGet, tTup, tLst, tBM, tBM0]
        refine ⟨us, .inl (.inl h3), fun T1 hT1 => ⟨szle (m := 2) (Nat.le_refl _), fun T2 hT2 => ?_⟩⟩
        have s4 := Same.trans (same_upd (o := .tup us) hT1) (same_upd (o := .tup [.str (Str.ofString "abcxyz"), .ref T1]) hT2)
        have hn : noLs ((rs.take xs.length).map g3) = true := noLs_map g3_noL _
        refine q _ _ (bad_signs (z := Str.ofString "abcxyz") (d := .tuple ((rs.take xs.length).map g3)) (.tup (.inl (.inl upd_same)) (.cons (.str _) (.cons (.tup (.inl (.inl (same_upd hT2 _ _ upd_same))) (dpAll_mono (TK.of_same s4) _ _ pr3 hn)) .nil))) (by rw [noL_tup]; exact hn) (by decide) (by decide)) (but (Same.trans s3 s4))
    refine ifF (decide_eq_false c3) ?_
    refine ⟨szle (m := 1) (Nat.le_refl _), fun p hp => ⟨Nat.zero_le _, fun p1 hp1 => ⟨szle (m := 2) (Nat.le_refl _), fun p2 hp2 => ⟨szle (m := 3) (Nat.le_refl _), fun p3 hp3 => ⟨szle (m := 5) hz5, fun px hpx => ⟨szle (m := 2) (Nat.le_refl _), fun p4 hp4 => ⟨szle (m := 2) (Nat.le_refl _), fun p5 hp5 => ⟨szle (m := 8) (Nat.le_refl _), fun p6 hp6 => ⟨_, .inl (.inl upd_same), ?_⟩⟩⟩⟩⟩⟩⟩⟩⟩
    have e1 := same_upd (o := .tup [.str z]) hp
    have e2 := same_upd (o := .tup []) hp1
    have e3 := same_upd (o := .tup [.str z, .ref p1]) hp2
    have e4 := same_upd (o := .tup [.str z, .ref b, .int 0]) hp3
    have ex := same_upd (o := .tup ((signsOf z).map V.str)) hpx
    have e5 := same_upd (o := .tup [.ref px, .ref b]) hp4
    have e6 := same_upd (o := .tup [.str z, .non]) hp5
    have e7 := same_upd (o := .tup [.non, .int 0, .str z, .ref p, .ref p2, .ref p3, .ref p4, .ref p5]) hp6
    have t6 := Same.trans e6 e7
    have t5 := Same.trans e5 t6
    have tx := Same.trans ex t5
    have t4 := Same.trans e4 tx
    have t3 := Same.trans e3 t4
    have t2 := Same.trans e2 t3
    have t1 := Same.trans e1 t2
    have w0 := t2 p _ upd_same
    have w1 := t3 p1 _ upd_same
    have w2 := t4 p2 _ upd_same
    have w3 := tx p3 _ upd_same
    have wx := t5 px _ upd_same
    have w4 := t6 p4 _ upd_same
    have w5 := e7 p5 _ upd_same
    have db : Dp K _ (.ref b) (.tuple (rs.map rowD)) := .tup (Same.sqT t1 hb2) (dpAll_mono (TK.of_same t1) _ _ hrows (rows_noLs rs))
    generalize upd _ p6 _ = H8 at *
    have go : ∀ x, BadK K H8 x → Q x H8 := fun x hx => q x H8 hx (but t1)
    have sm : ∀ r0, ∀ z' r, PyData.tuple (.str z :: r0) = .tuple (.str z' :: r) → z'.length ≤ 1000 := fun r0 z' r e => by
      rw [← PyData.str.inj (List.cons.inj (PyData.tuple.inj e)).1]
      omega
    have nrows := rows_noLs rs
    rcases (by omega : k = 4 ∨ k = 5 ∨ k = 6 ∨ k = 7 ∨ k = 8 ∨ k = 9 ∨ k = 10 ∨ k = 11) with rfl | rfl | rfl | rfl | rfl | rfl | rfl | rfl
    · exact ⟨.non, rfl, go _ (bad_of .non rfl (fun e => by obtain ⟨_, _, e1, _⟩ := lkB_inv e; cases e1) fun _ _ e => by cases e)⟩
    · exact ⟨.int 0, rfl, go _ (bad_of (.int 0) rfl (fun e => by obtain ⟨_, _, e1, _⟩ := lkB_inv e; cases e1) fun _ _ e => by cases e)⟩
    · exact ⟨.str z, rfl, go _ (bad_of (.str z) rfl (fun e => by obtain ⟨_, _, e1, _⟩ := lkB_inv e; cases e1) fun _ _ e => by cases e)⟩
    · exact ⟨.ref p, rfl, go _ (bad_of (.tup (.inl (.inl w0)) (.cons (.str z) .nil)) (by rw [noL_tup]; rfl) (fun e => by obtain ⟨_, _, e1, _⟩ := lkB_inv e; cases e1) (sm _))⟩
    · exact ⟨.ref p2, rfl, go _ (bad_of (.tup (.inl (.inl w2)) (.cons (.str z) (.cons (.tup (.inl (.inl w1)) .nil) .nil))) (noL2 (noL_str z) (by rw [noL_tup]; rfl)) (fun e => by obtain ⟨_, _, e1, _, h2, _⟩ := lkB_inv e; cases e1; exact absurd h2 (by decide)) (sm _))⟩
    · exact ⟨.ref p3, rfl, go _ (bad_of (.tup (.inl (.inl w3)) (.cons (.str z) (.cons db (.cons (.int 0) .nil)))) (by rw [noL_tup]; exact noLs_app (l := [.str z]) rfl (noLs2 (by rw [noL_tup]; exact nrows) rfl)) (fun e => by obtain ⟨_, _, e1, _⟩ := lkB_inv e; cases e1) (sm _))⟩
    · have hs : DpAll K H8 ((signsOf z).map V.str) ((signsOf z).map PyData.str) := by
        generalize signsOf z = l
        induction l with
        | nil => exact .nil
        | cons a l ih => exact .cons (.str a) ih
      exact ⟨.ref p4, rfl, go _ (bad_of (.tup (.inl (.inl w4)) (.cons (.tup (.inl (.inl wx)) hs) (.cons db .nil))) (noL2 (by rw [noL_tup]; exact noLs_map noL_str _) (by rw [noL_tup]; exact nrows)) (fun e => by obtain ⟨_, _, e1, _⟩ := lkB_inv e; cases e1) fun _ _ e => by cases e)⟩
    · exact ⟨.ref p5, rfl, go _ (bad_of (.tup (.inl (.inl w5)) (.cons (.str z) (.cons .non .nil))) (noL2 (noL_str z) rfl) (fun e => by obtain ⟨_, _, e1, _⟩ := lkB_inv e; cases e1) (sm _))⟩
end
end K34

namespace K34
open PySem PySem.Spec PyProof.Rows L2 Sg
section
variable {P : Program} {w : World} {K : PySem.W.Frag} {mg : Str → Option Value} {base : Heap}
theorem catA {H : Hp} {a b : Addr} {xs ys : List V} {Q : VK} (hx : SqT K H a xs) (hy : SqT K H b ys) (hl : xs.length + ys.length ≤ 1000) (q : ∀ p H', Same H H' → SqT K H' p (xs ++ ys) → Q (.ref p) H') : rCatA K (.ref a) (.ref b) H Q := by
  refine ⟨a, b, xs, ys, rfl, rfl, hx, hy, szle hl, fun e => ?_, fun _ e => ?_, fun _ _ p hp => q p _ (same_upd hp) (.inl (.inl upd_same))⟩
  · refine q b H (fun _ _ h => h) ?_
    rw [e]
    exact hy
  · refine q a H (fun _ _ h => h) ?_
    rw [e, List.append_nil]
    exact hx
theorem cutA {H : Hp} {a : Addr} {xs : List V} {lo hi : Option Int} {Q : VK} (hx : SqT K H a xs) (q : ∀ p H', Same H H' → SqT K H' p (cutV xs lo hi) → Q (.ref p) H') : rSlA K (.ref a) lo hi H Q := by
  refine ⟨a, xs, rfl, hx, fun e => ?_, fun _ p hp => q p _ (same_upd hp) (.inl (.inl upd_same))⟩
  refine q a H (fun _ _ h => h) ?_
  unfold cutV
  rw [e.1, e.2, List.drop_zero, Nat.sub_zero, List.take_length]
  exact hx
theorem cut_take {xs : List V} {n : Nat} (h : n ≤ xs.length) : cutV xs none (some (n : Int)) = xs.take n := by
  unfold cutV
  rw [HT.sIx_nat, HT.sIx_none, List.drop_zero, Nat.sub_zero, Nat.min_eq_left h]
theorem cut_drop {xs : List V} {n : Nat} (h : n ≤ xs.length) : cutV xs (some (n : Int)) none = xs.drop n := by
  unfold cutV
  rw [HT.sIx_nat, HT.sIx_none, Nat.min_eq_left h, List.take_of_length_le (by rw [List.length_drop]; omega)]
theorem sc__law_wrong : FnScope ["pool", "signs", "states", "kind", "many", "at", "x", "end", "row", "new"] ["pool", "signs", "states"] (defScope (topS 72)) := ⟨rfl, rfl, rfl, by decide +kernel, rfl, by decide +kernel, by decide +kernel⟩
theorem bd__law_wrong {K : PySem.W.Frag} {f : Addr} {fd : FuncData} (F : FnP K "_law_wrong" (topS 72) f fd) : Binds K fd ["pool", "signs", "states"] [] := F.bindsN fun _ _ _ _ _ _ us hl => match us, hl with | [_, _, _], _ => rfl
def spWr (K : PySem.W.Frag) : Sp := fun vs H Q _ => ∃ (l b : Addr) (z : Str) (xs : List V) (rs : List LRow), vs = [.ref l, .str z, .ref b] ∧ PoolL H l ∧ SignsOk z ∧ SqT K H b xs ∧ Paired (RSt K H) xs rs ∧ RowsOk z.length rs ∧ ∀ v H', BadK K H' v → But l H H' → Q v H'
def WrS (a : Addr) (z : Str) (b : Addr) (l : List (Option V)) : L2.St := some (V.ref a) :: some (.str z) :: some (.ref b) :: (l ++ List.replicate (7 - l.length) none)
theorem ok__law_wrong (T : Tx K mg) : Dk P w K mg base 3 "_law_wrong" ["pool", "signs", "states"] (spWr K) := by
  have D__law_draw := ok__law_draw (P := P) (w := w) (base := base) T
  have D__law_whole_wrong := ok__law_whole_wrong (P := P) (w := w) (base := base) T
  obtain ⟨fd, F⟩ := T.d__law_wrong
  refine ⟨⟨fd, F.ok sc__law_wrong (fun vs H Q E h => ?_) (fun cdv A outer s H vs Q E hr h => ?_), bd__law_wrong F⟩, F.kp, T.g__law_wrong⟩
  · obtain ⟨l, b, z, xs, rs, rfl, _⟩ := h
    rfl
  · obtain ⟨l, b, z, xs, rs, rfl, hp, hz, hb, hpr, ok, q⟩ := h
    refine ⟨_, PSs.nox (pss_cons (ps_set (i := 3) sc__law_wrong.nd rfl (.inl rfl) (pe_callR D__law_draw (hr.mono (by decide)) takes0 (pa_cons (pv 0) (pa_cons pe_int pa_nil))))
      (pss_cons (ps_if (pt_cmpR op_gt (pv 3) pe_int (nomark _)) (pss_one (ps_ret (pe_callR D__law_whole_wrong (hr.mono (by decide)) takes0 (pa_cons (pv 0) (pa_cons (pv 1) (pa_cons (pv 2) pa_nil)))))) pss_nil)
      (pss_cons (ps_set (i := 4) sc__law_wrong.nd rfl (.inl rfl) (pe_callB call_lenQ (by rfl) T.f_len PySem.boot_len (pa_cons (pv 2) pa_nil)))
      (pss_cons (ps_set (i := 5) sc__law_wrong.nd rfl (.inl rfl) (pe_callR D__law_draw (hr.mono (by decide)) takes0 (pa_cons (pv 0) (pa_cons (pv 4) pa_nil))))
      (pss_cons (ps_set (i := 6) sc__law_wrong.nd rfl (.inl rfl) (pe_callR D__law_draw (hr.mono (by decide)) takes0 (pa_cons (pv 0) (pa_cons (pe_callB call_lenQ (by rfl) T.f_len PySem.boot_len (pa_cons (pv 1) pa_nil)) pa_nil))))
      (pss_cons (ps_asg (pe_ix ix_tupQ (pv 2) (pv 5) (fun _ _ => rfl)) (pg_tup (by rfl) (pgs_cons (pg_name (i := 7) sc__law_wrong.nd rfl (.inl rfl)) (pgs_cons (pg_name (i := 8) sc__law_wrong.nd rfl (.inl rfl)) pgs_nil))))
      (pss_cons (ps_if (pt_cmpR op_lt (pv 3) pe_int (nomark _)) (pss_one (ps_set (i := 9) sc__law_wrong.nd rfl (.inl rfl) (pe_ix ix_tupQ (pe_tup (pa_cons (pe_tup (pa_cons pe_bl (pa_cons (pv 8) pa_nil))) (pa_cons (pe_tup (pa_cons pe_int (pa_cons (pv 8) pa_nil))) (pa_cons (pe_tup (pa_cons pe_non (pa_cons (pv 8) pa_nil))) (pa_cons (pe_tup (pa_cons (pe_callTy call_str_int (by rfl) T.f_str PyProof.Rows.boot_str (pa_cons (pv 7) pa_nil)) (pa_cons (pv 8) pa_nil))) (pa_cons (pe_tup (pa_cons (pv 7) (pa_cons (pv 8) (pa_cons (pv 8) pa_nil)))) pa_nil)))))) (pv 3) (fun _ _ => rfl)))) (pss_one (ps_if (pt_cmpR op_lt (pv 3) pe_int (nomark _)) (pss_one (ps_set (i := 9) sc__law_wrong.nd rfl (.inl rfl) (pe_tup (pa_cons (pv 7) (pa_cons (pe_op op_catA (pe_op op_catA (pe_slice sl_tupA (pv 8) po_none (po_some (pv 6))) (pe_tup (pa_cons (pe_ix ix_tupQ (pe_tup (pa_cons (pv 4) (pa_cons (pe_un un_neg pe_int) (pa_cons pe_non (pa_cons pe_bl (pa_cons pe_str (pa_cons (pe_tup (pa_cons pe_int pa_nil)) pa_nil))))))) (pe_op op_sub (pv 3) pe_int) (fun _ _ => rfl)) pa_nil))) (pe_slice sl_tupA (pv 8) (po_some (pe_op op_add (pv 6) pe_int)) po_none)) pa_nil))))) (pss_one (ps_set (i := 9) sc__law_wrong.nd rfl (.inl rfl) (pe_ix ix_tupQ (pe_tup (pa_cons (pe_tup (pa_cons (pv 7) (pa_cons (pe_op op_catA (pv 8) (pe_tup (pa_cons pe_int pa_nil))) pa_nil))) (pa_cons (pe_tup (pa_cons (pv 7) (pa_cons (pe_slice sl_tupA (pv 8) (po_some pe_int) po_none) pa_nil))) (pa_cons (pe_tup (pa_cons (pv 7) pa_nil)) pa_nil)))) (pe_op op_sub (pv 3) pe_int) (fun _ _ => rfl)))))))
      (pss_one (ps_ret (pe_tup (pa_cons (pv 1) (pa_cons (pe_op op_catA (pe_op op_catA (pe_slice sl_tupA (pv 2) po_none (po_some (pv 5))) (pe_tup (pa_cons (pv 9) pa_nil))) (pe_slice sl_tupA (pv 2) (po_some (pe_op op_add (pv 5) pe_int)) po_none)) pa_nil)))))))))))), ?_⟩
    have hz5 := hz.top
    have hz1 := hz.pos
    have hlen := pr_len hpr
    have hpos := ok.pos
    have htop := ok.top
    have tko : ∀ {H'}, But l H H' → TK H H' := fun b => TK.of_but b hp.choose_spec
    refine seq_with (fun σ H1 => ∃ k : Int, 0 ≤ k ∧ k < 20 ∧ But l H H1 ∧ PoolL H1 l ∧ σ = WrS l z b [some (.int k)]) (fun N tail => ?_) ?_
    · simp only [cxOf, tYes, eq_self, if_true, if_false, wipe, rLenQ, rIxTQ, rIxLQ, rIxSQ, rInt1Q, rTupQ, rAppQ, rPopQ, rPopAtQ, rRevQ, rListS, rReprP, tLenSetT, tChain, tRetN, tRet, tSeq, tAsg, gName, tVar, tC, tCons, tNil, tCB, tOp, rI0, rI, tAndV, tOrV, tNotV, tIf, tTest, tB, tNot, tAnd, tOr, tIfS, tNext, tCallR, rIsK, rEq, rNe, tDrop, L2.start, List.map_cons, List.map_nil, List.length_cons, List.length_nil, Nat.reduceAdd, Nat.reduceSub, Nat.sub_self, List.replicate_zero, List.replicate_succ, List.append_nil, List.cons_append, List.nil_append, List.getElem?_cons_zero, List.getElem?_cons_succ, List.set_cons_zero, List.set_cons_succ, Option.some.injEq, List.cons.injEq, and_true, true_and, exists_eq_left, exists_eq_left', exists_eq_right, V.ty.injEq, V.int.injEq, V.bl.injEq, V.str.injEq, V.ref.injEq, exists_and_left, exists_const, reduceIte, reduceCtorEq, false_and, and_false, exists_false, or_false, false_or, Bool.not_true, Bool.not_false, Bool.false_eq_true, String.reduceEq, true_or, or_true, rNotT, tNNew, tNNotIn, tNGet, sNPut, tLenSetN, tPar, tAug, ipI, tDNotIn, sDPut, tDGet, tTup, tLst, tBM, tBM0]
      exact ⟨l, 20, rfl, hp, by decide, fun k H1 k0 k1 b1 p1 => tail _ _ ⟨k, k0, k1, b1, p1, rfl⟩⟩
    rintro σ H1 ⟨k, k0, k1, b1, p1, rfl⟩
    refine seq_with (fun σ H1 => k ≤ 13 ∧ But l H H1 ∧ PoolL H1 l ∧ σ = WrS l z b [some (.int k)]) (fun N tail => ?_) ?_
    · simp only [WrS, List.append_assoc, cxOf, tYes, eq_self, if_true, if_false, wipe, rLenQ, rIxTQ, rIxLQ, rIxSQ, rInt1Q, rTupQ, rAppQ, rPopQ, rPopAtQ, rRevQ, rListS, rReprP, tLenSetT, tChain, tRetN, tRet, tSeq, tAsg, gName, tVar, tC, tCons, tNil, tCB, tOp, rI0, rI, tAndV, tOrV, tNotV, tIf, tTest, tB, tNot, tAnd, tOr, tIfS, tNext, tCallR, rIsK, rEq, rNe, tDrop, L2.start, List.map_cons, List.map_nil, List.length_cons, List.length_nil, Nat.reduceAdd, Nat.reduceSub, Nat.sub_self, List.replicate_zero, List.replicate_succ, List.append_nil, List.cons_append, List.nil_append, List.getElem?_cons_zero, List.getElem?_cons_succ, List.set_cons_zero, List.set_cons_succ, Option.some.injEq, List.cons.injEq, and_true, true_and, exists_eq_left, exists_eq_left', exists_eq_right, V.ty.injEq, V.int.injEq, V.bl.injEq, V.str.injEq, V.ref.injEq, exists_and_left, exists_const, reduceIte, reduceCtorEq, false_and, and_false, exists_false, or_false, false_or, Bool.not_true, Bool.not_false, Bool.false_eq_true, String.reduceEq, true_or, or_true, rNotT, tNNew, tNNotIn, tNGet, sNPut, tLenSetN, tPar, tAug, ipI, tDNotIn, sDPut, tDGet, tTup, tLst, tBM, tBM0]
      by_cases c : 13 < k
      · exact ifT (decide_eq_true c) ⟨l, b, z, xs, rs, rfl, p1, hz, (tko b1).sqT hb, pr_mono hpr fun _ _ r => r.mono (tko b1), ok, fun v H' hv b2 => q v H' hv (b1.trans b2)⟩
      · exact ifF (decide_eq_false c) (tail _ _ ⟨by omega, b1, p1, rfl⟩)
    rintro σ H1 ⟨k13, b1, p1, rfl⟩
    refine seq_with (fun σ H1 => But l H H1 ∧ PoolL H1 l ∧ σ = WrS l z b [some (.int k), some (.int rs.length)]) (fun N tail => ?_) ?_
    · simp only [WrS, List.append_assoc, cxOf, tYes, eq_self, if_true, if_false, wipe, rLenQ, rIxTQ, rIxLQ, rIxSQ, rInt1Q, rTupQ, rAppQ, rPopQ, rPopAtQ, rRevQ, rListS, rReprP, tLenSetT, tChain, tRetN, tRet, tSeq, tAsg, gName, tVar, tC, tCons, tNil, tCB, tOp, rI0, rI, tAndV, tOrV, tNotV, tIf, tTest, tB, tNot, tAnd, tOr, tIfS, tNext, tCallR, rIsK, rEq, rNe, tDrop, L2.start, List.map_cons, List.map_nil, List.length_cons, List.length_nil, Nat.reduceAdd, Nat.reduceSub, Nat.sub_self, List.replicate_zero, List.replicate_succ, List.append_nil, List.cons_append, List.nil_append, List.getElem?_cons_zero, List.getElem?_cons_succ, List.set_cons_zero, List.set_cons_succ, Option.some.injEq, List.cons.injEq, and_true, true_and, exists_eq_left, exists_eq_left', exists_eq_right, V.ty.injEq, V.int.injEq, V.bl.injEq, V.str.injEq, V.ref.injEq, exists_and_left, exists_const, reduceIte, reduceCtorEq, false_and, and_false, exists_false, or_false, false_or, Bool.not_true, Bool.not_false, Bool.false_eq_true, String.reduceEq, true_or, or_true, rNotT, tNNew, tNNotIn, tNGet, sNPut, tLenSetN, tPar, tAug, ipI, tDNotIn, sDPut, tDGet, tTup, tLst, tBM, tBM0]
      refine ⟨xs, .inr ((tko b1).sqT hb), ?_⟩
      rw [hlen]
      exact tail _ _ ⟨b1, p1, rfl⟩
    rintro σ H1 ⟨b1, p1, rfl⟩
    refine seq_with (fun σ H1 => But l H H1 ∧ PoolL H1 l ∧ ∃ at_ : Nat, at_ < rs.length ∧ σ = WrS l z b [some (.int k), some (.int rs.length), some (.int at_)]) (fun N tail => ?_) ?_
    · simp only [WrS, List.append_assoc, cxOf, tYes, eq_self, if_true, if_false, wipe, rLenQ, rIxTQ, rIxLQ, rIxSQ, rInt1Q, rTupQ, rAppQ, rPopQ, rPopAtQ, rRevQ, rListS, rReprP, tLenSetT, tChain, tRetN, tRet, tSeq, tAsg, gName, tVar, tC, tCons, tNil, tCB, tOp, rI0, rI, tAndV, tOrV, tNotV, tIf, tTest, tB, tNot, tAnd, tOr, tIfS, tNext, tCallR, rIsK, rEq, rNe, tDrop, L2.start, List.map_cons, List.map_nil, List.length_cons, List.length_nil, Nat.reduceAdd, Nat.reduceSub, Nat.sub_self, List.replicate_zero, List.replicate_succ, List.append_nil, List.cons_append, List.nil_append, List.getElem?_cons_zero, List.getElem?_cons_succ, List.set_cons_zero, List.set_cons_succ, Option.some.injEq, List.cons.injEq, and_true, true_and, exists_eq_left, exists_eq_left', exists_eq_right, V.ty.injEq, V.int.injEq, V.bl.injEq, V.str.injEq, V.ref.injEq, exists_and_left, exists_const, reduceIte, reduceCtorEq, false_and, and_false, exists_false, or_false, false_or, Bool.not_true, Bool.not_false, Bool.false_eq_true, String.reduceEq, true_or, or_true, rNotT, tNNew, tNNotIn, tNGet, sNPut, tLenSetN, tPar, tAug, ipI, tDNotIn, sDPut, tDGet, tTup, tLst, tBM, tBM0]
      refine ⟨l, rs.length, rfl, p1, by omega, fun n H3 n0 n1 b3 p3 => ?_⟩
      obtain ⟨n, rfl⟩ : ∃ k : Nat, n = (k : Int) := ⟨n.toNat, by omega⟩
      exact tail _ _ ⟨b1.trans b3, p3, n, by omega, rfl⟩
    rintro σ H1 ⟨b1, p1, at_, hat, rfl⟩
    refine seq_with (fun σ H1 => But l H H1 ∧ PoolL H1 l ∧ ∃ x : Nat, x < z.length ∧ σ = WrS l z b [some (.int k), some (.int rs.length), some (.int at_), some (.int x)]) (fun N tail => ?_) ?_
    · simp only [WrS, List.append_assoc, cxOf, tYes, eq_self, if_true, if_false, wipe, rLenQ, rIxTQ, rIxLQ, rIxSQ, rInt1Q, rTupQ, rAppQ, rPopQ, rPopAtQ, rRevQ, rListS, rReprP, tLenSetT, tChain, tRetN, tRet, tSeq, tAsg, gName, tVar, tC, tCons, tNil, tCB, tOp, rI0, rI, tAndV, tOrV, tNotV, tIf, tTest, tB, tNot, tAnd, tOr, tIfS, tNext, tCallR, rIsK, rEq, rNe, tDrop, L2.start, List.map_cons, List.map_nil, List.length_cons, List.length_nil, Nat.reduceAdd, Nat.reduceSub, Nat.sub_self, List.replicate_zero, List.replicate_succ, List.append_nil, List.cons_append, List.nil_append, List.getElem?_cons_zero, List.getElem?_cons_succ, List.set_cons_zero, List.set_cons_succ, Option.some.injEq, List.cons.injEq, and_true, true_and, exists_eq_left, exists_eq_left', exists_eq_right, V.ty.injEq, V.int.injEq, V.bl.injEq, V.str.injEq, V.ref.injEq, exists_and_left, exists_const, reduceIte, reduceCtorEq, false_and, and_false, exists_false, or_false, false_or, Bool.not_true, Bool.not_false, Bool.false_eq_true, String.reduceEq, true_or, or_true, rNotT, tNNew, tNNotIn, tNGet, sNPut, tLenSetN, tPar, tAug, ipI, tDNotIn, sDPut, tDGet, tTup, tLst, tBM, tBM0]
      refine ⟨szle (m := 5) hz5, l, z.length, rfl, p1, by omega, fun n H3 n0 n1 b3 p3 => ?_⟩
      obtain ⟨n, rfl⟩ : ∃ k : Nat, n = (k : Int) := ⟨n.toNat, by omega⟩
      exact tail _ _ ⟨b1.trans b3, p3, n, by omega, rfl⟩
    rintro σ H1 ⟨b1, p1, x, hx, rfl⟩
    have tk1 := tko b1
    have hb1 := tk1.sqT hb
    have hpr1 : Paired (RSt K H1) xs rs := pr_mono hpr fun _ _ r => r.mono tk1
    obtain ⟨r, hr⟩ : ∃ r, rs[at_]? = some r := ⟨rs[at_], List.getElem?_eq_getElem hat⟩
    have hrm := List.mem_of_getElem? hr
    obtain ⟨x0, hx0, a1, c1, rfl, h1, h2⟩ := pr_get' hpr1 hr
    have hw := ok.wid r hrm
    refine seq_with (fun σ H2 => H2 = H1 ∧ σ = WrS l z b [some (.int k), some (.int rs.length), some (.int at_), some (.int x), some (.int r.1), some (.ref c1)]) (fun N tail => ?_) ?_
    · simp only [WrS, List.append_assoc, cxOf, tYes, eq_self, if_true, if_false, wipe, rLenQ, rIxTQ, rIxLQ, rIxSQ, rInt1Q, rTupQ, rAppQ, rPopQ, rPopAtQ, rRevQ, rListS, rReprP, tLenSetT, tChain, tRetN, tRet, tSeq, tAsg, gName, tVar, tC, tCons, tNil, tCB, tOp, rI0, rI, tAndV, tOrV, tNotV, tIf, tTest, tB, tNot, tAnd, tOr, tIfS, tNext, tCallR, rIsK, rEq, rNe, tDrop, L2.start, List.map_cons, List.map_nil, List.length_cons, List.length_nil, Nat.reduceAdd, Nat.reduceSub, Nat.sub_self, List.replicate_zero, List.replicate_succ, List.append_nil, List.cons_append, List.nil_append, List.getElem?_cons_zero, List.getElem?_cons_succ, List.set_cons_zero, List.set_cons_succ, Option.some.injEq, List.cons.injEq, and_true, true_and, exists_eq_left, exists_eq_left', exists_eq_right, V.ty.injEq, V.int.injEq, V.bl.injEq, V.str.injEq, V.ref.injEq, exists_and_left, exists_const, reduceIte, reduceCtorEq, false_and, and_false, exists_false, or_false, false_or, Bool.not_true, Bool.not_false, Bool.false_eq_true, String.reduceEq, true_or, or_true, rNotT, tNNew, tNNotIn, tNGet, sNPut, tLenSetN, tPar, tAug, ipI, tDNotIn, sDPut, tDGet, tTup, tLst, tBM, tBM0]
      refine ⟨_, hb1, .ref a1, atI_nat hx0, ?_⟩
      exact ⟨a1, _, rfl, h1, rfl, _, _, rfl, _, _, rfl, rfl, tail _ _ ⟨rfl, rfl⟩⟩
    rintro σ H2 ⟨rfl, rfl⟩
    refine seq_with (fun σ H3 => Same H2 H3 ∧ ∃ nv nd, Dp K H3 nv nd ∧ noL nd = true ∧ rowLk rs.length z.length nd = false ∧ σ = WrS l z b [some (.int k), some (.int rs.length), some (.int at_), some (.int x), some (.int r.1), some (.ref c1), some nv]) (fun N tail => ?_) ?_
    · have go : ∀ (H3 : Hp) (nv : V) (nd : PyData), Same H2 H3 → Dp K H3 nv nd → noL nd = true → (rowLk rs.length z.length nd = true → False) → N (WrS l z b [some (.int k), some (.int rs.length), some (.int at_), some (.int x), some (.int r.1), some (.ref c1), some nv]) H3 := fun H3 nv nd s h n f => tail _ _ ⟨s, nv, nd, h, n, no_of f, rfl⟩
      simp only [WrS, List.cons_append, List.nil_append, List.length_cons, List.length_nil, Nat.reduceAdd, Nat.reduceSub, List.replicate_zero] at go
      have hin := ints_noLs r.2
      have drow : ∀ H', Same H2 H' → Dp K H' (.ref c1) (.tuple (r.2.map PyData.int)) := fun H' s => .tup (Same.sqT s h2) (ints_dp _)
      have rl : (r.2.map V.int).length = z.length := by rw [List.length_map]; exact hw
      simp only [WrS, List.append_assoc, cxOf, tYes, eq_self, if_true, if_false, wipe, rLenQ, rIxTQ, rIxLQ, rIxSQ, rInt1Q, rTupQ, rAppQ, rPopQ, rPopAtQ, rRevQ, rListS, rReprP, tLenSetT, tChain, tRetN, tRet, tSeq, tAsg, gName, tVar, tC, tCons, tNil, tCB, tOp, rI0, rI, tAndV, tOrV, tNotV, tIf, tTest, tB, tNot, tAnd, tOr, tIfS, tNext, tCallR, rIsK, rEq, rNe, tDrop, L2.start, List.map_cons, List.map_nil, List.length_cons, List.length_nil, Nat.reduceAdd, Nat.reduceSub, Nat.sub_self, List.replicate_zero, List.replicate_succ, List.append_nil, List.cons_append, List.nil_append, List.getElem?_cons_zero, List.getElem?_cons_succ, List.set_cons_zero, List.set_cons_succ, Option.some.injEq, List.cons.injEq, and_true, true_and, exists_eq_left, exists_eq_left', exists_eq_right, V.ty.injEq, V.int.injEq, V.bl.injEq, V.str.injEq, V.ref.injEq, exists_and_left, exists_const, reduceIte, reduceCtorEq, false_and, and_false, exists_false, or_false, false_or, Bool.not_true, Bool.not_false, Bool.false_eq_true, String.reduceEq, true_or, or_true, rNotT, tNNew, tNNotIn, tNGet, sNPut, tLenSetN, tPar, tAug, ipI, tDNotIn, sDPut, tDGet, tTup, tLst, tBM, tBM0]
      by_cases k5 : k < 5
      · refine ifT (decide_eq_true k5) ?_
        have lg : r.1.natAbs.log2 < 1920 := by rcases ok.bit r hrm with e | e <;> rw [e] <;> decide
        refine ⟨szle (m := 2) (Nat.le_refl _), fun p hp => ⟨szle (m := 2) (Nat.le_refl _), fun p1 hp1 => ⟨szle (m := 2) (Nat.le_refl _), fun p2 hp2 => ⟨lg, szle (m := 2) (Nat.le_refl _), fun p3 hp3 => ⟨szle (m := 3) (Nat.le_refl _), fun p4 hp4 => ⟨szle (m := 5) (Nat.le_refl _), fun p5 hp5 => ⟨_, .inl (.inl upd_same), ?_⟩⟩⟩⟩⟩⟩⟩
        have e0 := same_upd (o := .tup [.bl true, .ref c1]) hp
        have e1 := same_upd (o := .tup [.int 2, .ref c1]) hp1
        have e2 := same_upd (o := .tup [.non, .ref c1]) hp2
        have e3 := same_upd (o := .tup [.str (Str.ofString (toString r.1)), .ref c1]) hp3
        have e4 := same_upd (o := .tup [.int r.1, .ref c1, .ref c1]) hp4
        have e5 := same_upd (o := .tup [.ref p, .ref p1, .ref p2, .ref p3, .ref p4]) hp5
        have t4 := Same.trans e4 e5
        have t3 := Same.trans e3 t4
        have t2 := Same.trans e2 t3
        have t1 := Same.trans e1 t2
        have t0 := Same.trans e0 t1
        have w0 := t1 p _ upd_same
        have w1 := t2 p1 _ upd_same
        have w2 := t3 p2 _ upd_same
        have w3 := t4 p3 _ upd_same
        have w4 := e5 p4 _ upd_same
        generalize upd _ p5 _ = H8 at *
        have dr := drow H8 t0
        have nr : noL (.tuple (r.2.map PyData.int)) = true := by rw [noL_tup]; exact hin
        rcases (by omega : k = 0 ∨ k = 1 ∨ k = 2 ∨ k = 3 ∨ k = 4) with rfl | rfl | rfl | rfl | rfl
        · exact ⟨.ref p, rfl, go H8 _ _ t0 (.tup (.inl (.inl w0)) (.cons (.bl true) (.cons dr .nil))) (noL2 rfl nr) fun e => by obtain ⟨_, _, e1, hb, _⟩ := rowLk_inv e; cases e1; cases hb⟩
        · exact ⟨.ref p1, rfl, go H8 _ _ t0 (.tup (.inl (.inl w1)) (.cons (.int 2) (.cons dr .nil))) (noL2 rfl nr) fun e => by obtain ⟨_, _, e1, hb, _⟩ := rowLk_inv e; cases e1; exact absurd hb (by decide)⟩
        · exact ⟨.ref p2, rfl, go H8 _ _ t0 (.tup (.inl (.inl w2)) (.cons .non (.cons dr .nil))) (noL2 rfl nr) fun e => by obtain ⟨_, _, e1, hb, _⟩ := rowLk_inv e; cases e1; cases hb⟩
        · exact ⟨.ref p3, rfl, go H8 _ _ t0 (.tup (.inl (.inl w3)) (.cons (.str _) (.cons dr .nil))) (noL2 (noL_str _) nr) fun e => by obtain ⟨_, _, e1, hb, _⟩ := rowLk_inv e; cases e1; cases hb⟩
        · exact ⟨.ref p4, rfl, go H8 _ _ t0 (.tup (.inl (.inl w4)) (.cons (.int _) (.cons dr (.cons dr .nil)))) (by rw [noL_tup]; exact noLs_app (l := [.int r.1]) rfl (noLs2 nr nr)) fun e => by obtain ⟨_, _, e1, hb, _⟩ := rowLk_inv e; cases e1⟩
      refine ifF (decide_eq_false k5) ?_
      by_cases k11 : k < 11
      · refine ifT (decide_eq_true k11) ?_
        refine ⟨_, rfl, _, rfl, _, rfl, cutA h2 fun pa Ha sa ha => ⟨1, rfl, szle (m := 1) (Nat.le_refl _), fun p hp => ⟨szle (m := 6) (Nat.le_refl _), fun p1 hp1 => ⟨_, .inl (.inl upd_same), ?_⟩⟩⟩⟩
        rw [cut_take (by omega)] at ha
        have e0 := same_upd (o := .tup [.int 0]) hp
        have e1 := same_upd (o := .tup [.int (rs.length : Int), .int (-1), .non, .bl false, .str (Str.ofString "0"), .ref p]) hp1
        have sb := Same.trans sa (Same.trans e0 e1)
        have hab := Same.sqT (Same.trans e0 e1) ha
        have w0 := e1 p _ upd_same
        generalize upd _ p1 _ = Hb at *
        have elem : ∃ y dy, atI [V.int (rs.length : Int), V.int (-1), V.non, V.bl false, V.str (Str.ofString "0"), V.ref p] (k - 5) = some y ∧ Dp K Hb y dy ∧ noL dy = true ∧ stD rs.length dy = false := by
          rcases (by omega : k = 5 ∨ k = 6 ∨ k = 7 ∨ k = 8 ∨ k = 9 ∨ k = 10) with rfl | rfl | rfl | rfl | rfl | rfl
          · exact ⟨_, _, rfl, .int _, rfl, no_of fun e => by
              have e : (decide (0 ≤ (rs.length : Int)) && decide ((rs.length : Int) < rs.length)) = true := e
              rw [decide_eq_false (by omega : ¬ ((rs.length : Int) < rs.length)), Bool.and_false] at e
              cases e⟩
          · exact ⟨_, _, rfl, .int _, rfl, rfl⟩
          · exact ⟨_, _, rfl, .non, rfl, rfl⟩
          · exact ⟨_, _, rfl, .bl _, rfl, rfl⟩
          · exact ⟨_, _, rfl, .str _, rfl, rfl⟩
          · exact ⟨_, _, rfl, .tup (.inl (.inl w0)) (.cons (.int 0) .nil), rfl, rfl⟩
        obtain ⟨y, dy, hy, hdy, ndy, sdy⟩ := elem
        refine ⟨y, hy, szle (m := 1) (Nat.le_refl _), fun p2 hp2 => ?_⟩
        have e2 := same_upd (o := .tup [y]) hp2
        refine catA (Same.sqT e2 hab) (.inl (.inl upd_same)) (by rw [List.length_take]; show _ + 1 ≤ 1000; omega) fun p3 Hc sc hc => ?_
        have sc2 := Same.trans (Same.trans sb e2) sc
        refine ⟨_, rfl, _, rfl, _, _, rfl, rfl, _, rfl, ?_⟩
        simp only [tNoPart]
        refine cutA (Same.sqT sc2 h2) fun p4 Hd sd hd => ?_
        have cd : cutV (r.2.map V.int) (some ((x : Int) + 1)) none = (r.2.map V.int).drop (x + 1) := cut_drop (n := x + 1) (by omega)
        rw [cd] at hd
        refine catA (Same.sqT sd hc) hd (by simp only [List.length_append, List.length_take, List.length_drop, List.length_cons, List.length_nil]; omega) fun p5 He se he => ⟨szle (m := 2) (Nat.le_refl _), fun p6 hp6 => ?_⟩
        have e6 := same_upd (o := .tup [.int r.1, .ref p5]) hp6
        have sf := Same.trans (Same.trans (Same.trans sc2 sd) se) e6
        have sy := TK.of_same (Same.trans (Same.trans (Same.trans (Same.trans e2 sc) sd) se) e6)
        have nts : noLs (((r.2.map PyData.int).take x ++ [dy]) ++ (r.2.map PyData.int).drop (x + 1)) = true := noLs_all fun d hd => by
          rcases List.mem_append.mp hd with hd | hd
          · rcases List.mem_append.mp hd with hd | hd
            · exact noLs_mem hin (List.mem_of_mem_take hd)
            · obtain rfl := List.mem_singleton.mp hd
              exact ndy
          · exact noLs_mem hin (List.mem_of_mem_drop hd)
        refine go _ _ _ sf (.tup (.inl (.inl upd_same)) (.cons (.int _) (.cons (.tup (Same.sqT e6 he) (dpAll_app (dpAll_app (dpAll_take x (ints_dp r.2)) (.cons (dp_mono sy _ _ hdy ndy) .nil)) (dpAll_drop (x + 1) (ints_dp r.2)))) .nil))) (noL2 (noL_int _) (by rw [noL_tup]; exact nts)) fun e => ?_
        obtain ⟨_, ts, e1, _, _, hall⟩ := rowLk_inv e
        have e2 := PyData.tuple.inj (List.cons.inj (List.cons.inj (PyData.tuple.inj e1)).2).1
        have := hall dy (by rw [← e2]; exact List.mem_append_left _ (List.mem_append_right _ (List.mem_cons_self)))
        rw [sdy] at this
        cases this
      · refine ifF (decide_eq_false k11) ?_
        refine ⟨szle (m := 1) (Nat.le_refl _), fun p hp => ?_⟩
        have e0 := same_upd (o := .tup [.int 0]) hp
        refine catA (Same.sqT e0 h2) (.inl (.inl upd_same)) (by rw [rl]; show _ + 1 ≤ 1000; omega) fun pc Hc sc hc => ⟨szle (m := 2) (Nat.le_refl _), fun p1 hp1 => ?_⟩
        have e1 := same_upd (o := .tup [.int r.1, .ref pc]) hp1
        have s1 := Same.trans (Same.trans e0 sc) e1
        refine ⟨_, rfl, 1, rfl, ?_⟩
        simp only [tNoPart]
        refine cutA (Same.sqT s1 h2) fun pd Hd sd hd => ⟨szle (m := 2) (Nat.le_refl _), fun p2 hp2 => ⟨szle (m := 1) (Nat.le_refl _), fun p3 hp3 => ⟨szle (m := 3) (Nat.le_refl _), fun p4 hp4 => ⟨_, .inl (.inl upd_same), ?_⟩⟩⟩⟩
        have cd : cutV (r.2.map V.int) (some 1) none = (r.2.map V.int).drop 1 := cut_drop (n := 1) (by omega)
        rw [cd] at hd
        have e2 := same_upd (o := .tup [.int r.1, .ref pd]) hp2
        have e3 := same_upd (o := .tup [.int r.1]) hp3
        have e4 := same_upd (o := .tup [.ref p1, .ref p2, .ref p3]) hp4
        have t2 := Same.trans e2 (Same.trans e3 e4)
        have w1 := t2 p1 _ (sd p1 _ upd_same)
        have wc := Same.sqT (Same.trans e1 (Same.trans sd t2)) hc
        have w2 := (Same.trans e3 e4) p2 _ upd_same
        have wd := Same.sqT t2 hd
        have w3 := e4 p3 _ upd_same
        have sf := Same.trans (Same.trans s1 sd) t2
        generalize upd _ p4 _ = H8 at *
        rcases (by omega : k = 11 ∨ k = 12 ∨ k = 13) with rfl | rfl | rfl
        · refine ⟨.ref p1, rfl, go H8 _ _ sf (.tup (.inl (.inl w1)) (.cons (.int _) (.cons (.tup wc (dpAll_app (ints_dp r.2) (.cons (.int 0) .nil))) .nil))) (noL2 (noL_int _) (by rw [noL_tup]; exact noLs_app hin rfl)) fun e => ?_⟩
          obtain ⟨_, ts, e1, _, hl, _⟩ := rowLk_inv e
          have e2 := PyData.tuple.inj (List.cons.inj (List.cons.inj (PyData.tuple.inj e1)).2).1
          rw [← e2, List.length_append, List.length_map] at hl
          simp only [List.length_cons, List.length_nil] at hl
          omega
        · refine ⟨.ref p2, rfl, go H8 _ _ sf (.tup (.inl (.inl w2)) (.cons (.int _) (.cons (.tup wd (dpAll_drop 1 (ints_dp r.2))) .nil))) (noL2 (noL_int _) (by rw [noL_tup]; exact noLs_all fun d hd => noLs_mem hin (List.mem_of_mem_drop hd))) fun e => ?_⟩
          obtain ⟨_, ts, e1, _, hl, _⟩ := rowLk_inv e
          have e2 := PyData.tuple.inj (List.cons.inj (List.cons.inj (PyData.tuple.inj e1)).2).1
          rw [← e2, List.length_drop, List.length_map] at hl
          omega
        · exact ⟨.ref p3, rfl, go H8 _ _ sf (.tup (.inl (.inl w3)) (.cons (.int _) .nil)) (by rw [noL_tup]; rfl) fun e => by obtain ⟨_, _, e1, _⟩ := rowLk_inv e; cases e1⟩
    rintro σ H3 ⟨s3, nv, nd, hnv, hnn, hbad, rfl⟩
    simp only [WrS, List.append_assoc, cxOf, tYes, eq_self, if_true, if_false, wipe, rLenQ, rIxTQ, rIxLQ, rIxSQ, rInt1Q, rTupQ, rAppQ, rPopQ, rPopAtQ, rRevQ, rListS, rReprP, tLenSetT, tChain, tRetN, tRet, tSeq, tAsg, gName, tVar, tC, tCons, tNil, tCB, tOp, rI0, rI, tAndV, tOrV, tNotV, tIf, tTest, tB, tNot, tAnd, tOr, tIfS, tNext, tCallR, rIsK, rEq, rNe, tDrop, L2.start, List.map_cons, List.map_nil, List.length_cons, List.length_nil, Nat.reduceAdd, Nat.reduceSub, Nat.sub_self, List.replicate_zero, List.replicate_succ, List.append_nil, List.cons_append, List.nil_append, List.getElem?_cons_zero, List.getElem?_cons_succ, List.set_cons_zero, List.set_cons_succ, Option.some.injEq, List.cons.injEq, and_true, true_and, exists_eq_left, exists_eq_left', exists_eq_right, V.ty.injEq, V.int.injEq, V.bl.injEq, V.str.injEq, V.ref.injEq, exists_and_left, exists_const, reduceIte, reduceCtorEq, false_and, and_false, exists_false, or_false, false_or, Bool.not_true, Bool.not_false, Bool.false_eq_true, String.reduceEq, true_or, or_true, rNotT, tNNew, tNNotIn, tNGet, sNPut, tLenSetN, tPar, tAug, ipI, tDNotIn, sDPut, tDGet, tTup, tLst, tBM, tBM0]
    have hb3 := Same.sqT s3 hb1
    have hrows := rows_dp hpr1
    have nrows := rows_noLs rs
    refine ⟨_, rfl, _, rfl, _, rfl, cutA hb3 fun pa Ha sa ha => ⟨szle (m := 1) (Nat.le_refl _), fun p hp => ?_⟩⟩
    rw [cut_take (by omega)] at ha
    have e0 := same_upd (o := .tup [nv]) hp
    refine catA (Same.sqT e0 ha) (.inl (.inl upd_same)) (by rw [List.length_take]; show _ + 1 ≤ 1000; omega) fun pc Hc sc hc => ?_
    have s4 := Same.trans (Same.trans sa e0) sc
    refine ⟨_, rfl, _, rfl, _, _, rfl, rfl, _, rfl, ?_⟩
    simp only [tNoPart]
    refine cutA (Same.sqT s4 hb3) fun pd Hd sd hd => ?_
    have cd : cutV xs (some ((at_ : Int) + 1)) none = xs.drop (at_ + 1) := cut_drop (n := at_ + 1) (by omega)
    rw [cd] at hd
    refine catA (Same.sqT sd hc) hd (by simp only [List.length_append, List.length_take, List.length_drop, List.length_cons, List.length_nil]; omega) fun pe He se he => ⟨szle (m := 2) (Nat.le_refl _), fun pf hpf => ?_⟩
    have e6 := same_upd (o := .tup [.str z, .ref pe]) hpf
    have s5 := Same.trans (Same.trans (Same.trans s4 sd) se) e6
    have sall := Same.trans s3 s5
    have nts : noLs (((rs.map rowD).take at_ ++ [nd]) ++ (rs.map rowD).drop (at_ + 1)) = true := noLs_all fun d hd => by
      rcases List.mem_append.mp hd with hd | hd
      · rcases List.mem_append.mp hd with hd | hd
        · exact noLs_mem nrows (List.mem_of_mem_take hd)
        · obtain rfl := List.mem_singleton.mp hd
          exact hnn
      · exact noLs_mem nrows (List.mem_of_mem_drop hd)
    have drows := dpAll_mono (TK.of_same sall) _ _ hrows nrows
    refine q _ _ (bad_of (.tup (.inl (.inl upd_same)) (.cons (.str z) (.cons (.tup (Same.sqT e6 he) (dpAll_app (dpAll_app (dpAll_take at_ drows) (.cons (dp_mono (TK.of_same s5) _ _ hnv hnn) .nil)) (dpAll_drop (at_ + 1) drows))) .nil))) (noL2 (noL_str z) (by rw [noL_tup]; exact nts)) (fun e => ?_) fun z' r' e => ?_) (b1.trans (But.of_same sall))
    · obtain ⟨z', ss, e1, _, _, _, h5⟩ := lkB_inv e
      have e3 := PyData.str.inj (List.cons.inj (PyData.tuple.inj e1)).1
      have e2 := PyData.tuple.inj (List.cons.inj (List.cons.inj (PyData.tuple.inj e1)).2).1
      have hl : ss.length = rs.length := by
        rw [← e2]
        simp only [List.length_append, List.length_take, List.length_drop, List.length_cons, List.length_nil, List.length_map]
        omega
      have := h5 nd (by rw [← e2]; exact List.mem_append_left _ (List.mem_append_right _ (List.mem_cons_self)))
      rw [hl, ← e3, hbad] at this
      cases this
    · rw [← PyData.str.inj (List.cons.inj (PyData.tuple.inj e)).1]
      omega
end
end K34

namespace K34
open PySem PySem.Spec PyProof.Rows L2 Sg
section
variable {P : Program} {w : World} {K : PySem.W.Frag} {mg : Str → Option Value} {base : Heap}
theorem for_none {J : It} {g : TG} {tb : TS} {D : Ends} {σ : L2.St} {H : Hp} (hs : J.stop 0 H) (q : D.nx σ H) :
    ∃ W : Nat → Nat → L2.St → Hp → Prop, (∃ m, W 0 m σ H) ∧ ∀ i m σ H, W i m σ H →
      (J.stop i H ∧ D.nx σ H) ∨ (J.go i H ∧ ∃ N : L2.St → Hp → Prop, (∀ σ' H', N σ' H' → ∃ m', m' < m ∧ W (i + 1) m' σ' H') ∧ ∀ x H', J.yld i H x H' → g x σ H' fun σ2 H2 => tb { D with nx := N, ct := N, bk := D.nx } σ2 H2) :=
  for_gen (n := 0) (fun _ σ' H' => σ' = σ ∧ H' = H) ⟨rfl, rfl⟩ (fun _ _ _ hi => absurd hi (Nat.not_lt_zero _)) (fun _ _ e => by obtain ⟨rfl, rfl⟩ := e; exact hs) (fun _ _ _ _ _ hi => absurd hi (Nat.not_lt_zero _)) fun _ _ e => by obtain ⟨rfl, rfl⟩ := e; exact q
theorem lc_none {J : It} {g : TG} {tt : TT} {te : TE} {vs : List Nat} {σ : L2.St} {H1 : Hp} {D : Addr} {Qd : Hp → Prop} (hs : J.stop 0 (upd H1 D (.lst []))) (q : Qd (upd H1 D (.lst []))) :
    ∃ W : Nat → Nat → Hp → Prop, (∃ m, W 0 m (upd H1 D (.lst []))) ∧ ∀ i m H, W i m H →
      (J.stop i H ∧ Qd H) ∨ (J.go i H ∧ ∃ Nx : Hp → Prop, (∀ H', Nx H' → ∃ m', m' < m ∧ W (i + 1) m' H') ∧ ∀ x H', J.yld i H x H' → g x (wipe σ vs) H' fun σ2 H2 => wipe σ2 vs = wipe σ vs ∧ tt σ2 H2 fun b H3 =>
        if b = true then te σ2 H3 fun y H4 => ∃ acc, H4 D = some (.lst acc) ∧ acc.length < sizeLine ∧ Nx (upd H4 D (.lst (acc ++ [y]))) else Nx H3) :=
  lc_gen (n := 0) (fun _ H' => H' = upd H1 D (.lst [])) rfl (fun _ _ hi => absurd hi (Nat.not_lt_zero _)) (fun _ e => by rw [e]; exact hs) (fun _ _ _ _ hi => absurd hi (Nat.not_lt_zero _)) fun _ e => by rw [e]; exact q
theorem while_none {c : TT} {tb : TS} {D : Ends} {σ : L2.St} {H : Hp} (hc : ∀ Q, Q false H → c σ H Q) (q : D.nx σ H) : tWhile c tb D σ H :=
  ⟨fun m σ' H' => σ' = σ ∧ H' = H, ⟨0, rfl, rfl⟩, fun _ _ _ e => by
    obtain ⟨rfl, rfl⟩ := e
    exact hc _ (by rw [if_neg Bool.false_ne_true]; exact q)⟩
theorem sc_is_written : FnScope ["value", "signs", "many"] ["value", "signs", "many"] (defScope (topS 22)) := ⟨rfl, rfl, rfl, by decide +kernel, rfl, by decide +kernel, by decide +kernel⟩
theorem bd_is_written {K : PySem.W.Frag} {f : Addr} {fd : FuncData} (F : FnP K "is_written" (topS 22) f fd) : Binds K fd ["value", "signs", "many"] [] := F.bindsN fun _ _ _ _ _ _ us hl => match us, hl with | [_, _, _], _ => rfl
theorem ok_is_written (T : Tx K mg) : Dk P w K mg base 0 "is_written" ["value", "signs", "many"] spNo := by
  obtain ⟨fd, F⟩ := T.d_is_written
  exact dk_no F (bd_is_written F) T.g_is_written 0
theorem sc_is_rising : FnScope ["value", "at"] ["value"] (defScope (topS 23)) := ⟨rfl, rfl, rfl, by decide +kernel, rfl, by decide +kernel, by decide +kernel⟩
theorem bd_is_rising {K : PySem.W.Frag} {f : Addr} {fd : FuncData} (F : FnP K "is_rising" (topS 23) f fd) : Binds K fd ["value"] [] := F.bindsN fun _ _ _ _ _ _ us hl => match us, hl with | [_], _ => rfl
def spRi (K : PySem.W.Frag) : Sp := fun vs H Q _ => ∃ a, vs = [.ref a] ∧ SqT K H a [] ∧ Q (.bl true) H
theorem ok_is_rising (T : Tx K mg) : Dk P w K mg base 1 "is_rising" ["value"] (spRi K) := by
  obtain ⟨fd, F⟩ := T.d_is_rising
  refine ⟨⟨fd, F.ok sc_is_rising (fun vs H Q E h => ?_) (fun cdv A outer s H vs Q E hr h => ?_), bd_is_rising F⟩, F.kp, T.g_is_rising⟩
  · obtain ⟨a, rfl, _⟩ := h
    rfl
  · obtain ⟨a, rfl, h1, q⟩ := h
    refine ⟨_, PSs.nox (pss_cons (ps_for PassesOwn.never rfl (pi_range2 (by rfl) T.f_range (pa_cons pe_int (pa_cons (pe_callB call_lenQ (by rfl) T.f_len PySem.boot_len (pa_cons (pv 0) pa_nil)) pa_nil))) (pg_name (i := 1) sc_is_rising.nd rfl (.inl rfl)) (pss_one (ps_if (pt_not (pt_cmpR op_lt (pe_ix ix_tupQ (pv 0) (pe_op op_sub (pv 1) pe_int) (fun _ _ => rfl)) (pe_ix ix_tupQ (pv 0) (pv 1) (fun _ _ => rfl)) (nomark _))) (pss_one (ps_ret pe_bl)) pss_nil)))
      (pss_one (ps_ret pe_bl))), ?_⟩
    simp only [cxOf, tYes, eq_self, if_true, if_false, wipe, rLenQ, rIxTQ, rIxLQ, rIxSQ, rInt1Q, rTupQ, rAppQ, rPopQ, rPopAtQ, rRevQ, rListS, rReprP, tLenSetT, tChain, tRetN, tRet, tSeq, tAsg, gName, tVar, tC, tCons, tNil, tCB, tOp, rI0, rI, tAndV, tOrV, tNotV, tIf, tTest, tB, tNot, tAnd, tOr, tIfS, tNext, tCallR, rIsK, rEq, rNe, tDrop, L2.start, List.map_cons, List.map_nil, List.length_cons, List.length_nil, Nat.reduceAdd, Nat.reduceSub, Nat.sub_self, List.replicate_zero, List.replicate_succ, List.append_nil, List.cons_append, List.nil_append, List.getElem?_cons_zero, List.getElem?_cons_succ, List.set_cons_zero, List.set_cons_succ, Option.some.injEq, List.cons.injEq, and_true, true_and, exists_eq_left, exists_eq_left', exists_eq_right, V.ty.injEq, V.int.injEq, V.bl.injEq, V.str.injEq, V.ref.injEq, exists_and_left, exists_const, reduceIte, reduceCtorEq, false_and, and_false, exists_false, or_false, false_or, Bool.not_true, Bool.not_false, Bool.false_eq_true, String.reduceEq, true_or, or_true, rNotT, tNNew, tNNotIn, tNGet, sNPut, tLenSetN, tPar, tAug, ipI, tDNotIn, sDPut, tDGet, tTup, tLst, tBM, tBM0]
    refine ⟨_, rfl, [], .inr h1, 1, 0, rfl, by decide, for_none (Nat.le_refl _) q⟩
theorem sc_is_pairs : FnScope ["value", "signs", "many", "pair"] ["value", "signs", "many"] (defScope (topS 24)) := ⟨rfl, rfl, rfl, by decide +kernel, rfl, by decide +kernel, by decide +kernel⟩
theorem bd_is_pairs {K : PySem.W.Frag} {f : Addr} {fd : FuncData} (F : FnP K "is_pairs" (topS 24) f fd) : Binds K fd ["value", "signs", "many"] [] := F.bindsN fun _ _ _ _ _ _ us hl => match us, hl with | [_, _, _], _ => rfl
def spPa (K : PySem.W.Frag) : Sp := fun vs H Q _ => ∃ a x y, vs = [.ref a, x, y] ∧ SqT K H a [] ∧ Q (.bl true) H
theorem ok_is_pairs (T : Tx K mg) : Dk P w K mg base 2 "is_pairs" ["value", "signs", "many"] (spPa K) := by
  have D_is_written := ok_is_written (P := P) (w := w) (base := base) T
  have D_is_rising := ok_is_rising (P := P) (w := w) (base := base) T
  obtain ⟨fd, F⟩ := T.d_is_pairs
  refine ⟨⟨fd, F.ok sc_is_pairs (fun vs H Q E h => ?_) (fun cdv A outer s H vs Q E hr h => ?_), bd_is_pairs F⟩, F.kp, T.g_is_pairs⟩
  · obtain ⟨a, x, y, rfl, _⟩ := h
    rfl
  · obtain ⟨a, x, y, rfl, h1, q⟩ := h
    refine ⟨_, PSs.nox (pss_cons (ps_if (pt_not (pt_val (pe_callB call_isK (by rfl) T.f_isinstance PyProof.Rows.boot_isinstance (pa_cons (pv 0) (pa_cons (pe_bltn (v := .ty "tuple") (by rfl) T.f_tuple PyProof.Rows.boot_tuple rfl) pa_nil))))) (pss_one (ps_ret pe_bl)) pss_nil)
      (pss_cons (ps_for PassesOwn.never rfl (pi_tup (pv 0)) (pg_name (i := 3) sc_is_pairs.nd rfl (.inl rfl)) (pss_one (ps_if (pt_not (pt_val (pe_callR D_is_written (hr.mono (by decide)) takes0 (pa_cons (pv 3) (pa_cons (pv 1) (pa_cons (pv 2) pa_nil)))))) (pss_one (ps_ret pe_bl)) pss_nil)))
      (pss_one (ps_ret (pe_callR D_is_rising (hr.mono (by decide)) takes0 (pa_cons (pv 0) pa_nil)))))), ?_⟩
    simp only [cxOf, tYes, eq_self, if_true, if_false, wipe, rLenQ, rIxTQ, rIxLQ, rIxSQ, rInt1Q, rTupQ, rAppQ, rPopQ, rPopAtQ, rRevQ, rListS, rReprP, tLenSetT, tChain, tRetN, tRet, tSeq, tAsg, gName, tVar, tC, tCons, tNil, tCB, tOp, rI0, rI, tAndV, tOrV, tNotV, tIf, tTest, tB, tNot, tAnd, tOr, tIfS, tNext, tCallR, rIsK, rEq, rNe, tDrop, L2.start, List.map_cons, List.map_nil, List.length_cons, List.length_nil, Nat.reduceAdd, Nat.reduceSub, Nat.sub_self, List.replicate_zero, List.replicate_succ, List.append_nil, List.cons_append, List.nil_append, List.getElem?_cons_zero, List.getElem?_cons_succ, List.set_cons_zero, List.set_cons_succ, Option.some.injEq, List.cons.injEq, and_true, true_and, exists_eq_left, exists_eq_left', exists_eq_right, V.ty.injEq, V.int.injEq, V.bl.injEq, V.str.injEq, V.ref.injEq, exists_and_left, exists_const, reduceIte, reduceCtorEq, false_and, and_false, exists_false, or_false, false_or, Bool.not_true, Bool.not_false, Bool.false_eq_true, String.reduceEq, true_or, or_true, rNotT, tNNew, tNNotIn, tNGet, sNPut, tLenSetN, tPar, tAug, ipI, tDNotIn, sDPut, tDGet, tTup, tLst, tBM, tBM0]
    refine ⟨.tup h1, ifF (by simp [isaB]) ⟨_, rfl, a, rfl, ⟨_, h1⟩, for_none ⟨[], h1, Nat.le_refl _⟩ ⟨_, rfl, a, rfl, h1, q⟩⟩⟩
theorem sc_is_writer_value : FnScope ["value", "signs", "begins", "states", "state", "pairs"] ["value"] (defScope (topS 27)) := ⟨rfl, rfl, rfl, by decide +kernel, rfl, by decide +kernel, by decide +kernel⟩
theorem bd_is_writer_value {K : PySem.W.Frag} {f : Addr} {fd : FuncData} (F : FnP K "is_writer_value" (topS 27) f fd) : Binds K fd ["value"] [] := F.bindsN fun _ _ _ _ _ _ us hl => match us, hl with | [_], _ => rfl
def EWr (K : PySem.W.Frag) (H : Hp) (v : V) (z : Str) : Prop := ∃ a b c, v = .ref a ∧ SqT K H a [.str z, .ref b, .ref c] ∧ SqT K H b [] ∧ SqT K H c []
def spWv (K : PySem.W.Frag) : Sp := fun vs H Q _ => ∃ v z, vs = [v] ∧ EWr K H v z ∧ SignsOk z ∧ Q (.bl true) H
theorem ok_is_writer_value (T : Tx K mg) : Dk P w K mg base 3 "is_writer_value" ["value"] (spWv K) := by
  have D_is_row := ok_is_row (P := P) (w := w) (base := base) T
  have D_is_signs := ok_is_signs (P := P) (w := w) (base := base) T
  have D_is_pairs := ok_is_pairs (P := P) (w := w) (base := base) T
  obtain ⟨fd, F⟩ := T.d_is_writer_value
  refine ⟨⟨fd, F.ok sc_is_writer_value (fun vs H Q E h => ?_) (fun cdv A outer s H vs Q E hr h => ?_), bd_is_writer_value F⟩, F.kp, T.g_is_writer_value⟩
  · obtain ⟨v, z, rfl, _⟩ := h
    rfl
  · obtain ⟨v, z, rfl, ⟨a, b, c, rfl, h1, h2, h3⟩, hz, q⟩ := h
    obtain ⟨_, c_MOST_WRITER⟩ := T.c_MOST_WRITER
    refine ⟨_, PSs.nox (pss_cons (ps_if (PW.pt (pw_or (pt_not (pt_val (pe_callR D_is_row (hr.mono (by decide)) takes0 (pa_cons (pv 0) (pa_cons pe_int pa_nil))))) (pw_or (pt_not (pt_val (pe_callR D_is_signs (hr.mono (by decide)) takes0 (pa_cons (pe_ix ix_tupQ (pv 0) pe_int (fun _ _ => rfl)) pa_nil)))) (pw_or1 (pt_not (pt_val (pe_callB call_isK (by rfl) T.f_isinstance PyProof.Rows.boot_isinstance (pa_cons (pe_ix ix_tupQ (pv 0) pe_int (fun _ _ => rfl)) (pa_cons (pe_bltn (v := .ty "tuple") (by rfl) T.f_tuple PyProof.Rows.boot_tuple rfl) pa_nil))))))))) (pss_one (ps_ret pe_bl)) pss_nil)
      (pss_cons (ps_asg (pv 0) (pg_tup (by rfl) (pgs_cons (pg_name (i := 1) sc_is_writer_value.nd rfl (.inl rfl)) (pgs_cons (pg_name (i := 2) sc_is_writer_value.nd rfl (.inl rfl)) (pgs_cons (pg_name (i := 3) sc_is_writer_value.nd rfl (.inl rfl)) pgs_nil)))))
      (pss_cons (ps_if (PW.pt (pw_or (pt_cmpR op_gt (pe_callB call_lenQ (by rfl) T.f_len PySem.boot_len (pa_cons (pv 3) pa_nil)) (pe_glob (v := .int 2000) (by rfl) c_MOST_WRITER ⟨_, rfl⟩) (nomark _)) (pw_or1 (pt_not (pt_val (pe_callR D_is_pairs (hr.mono (by decide)) takes0 (pa_cons (pv 2) (pa_cons (pv 1) (pa_cons (pe_callB call_lenQ (by rfl) T.f_len PySem.boot_len (pa_cons (pv 3) pa_nil)) pa_nil))))))))) (pss_one (ps_ret pe_bl)) pss_nil)
      (pss_cons (ps_for PassesOwn.never rfl (pi_tup (pv 3)) (pg_name (i := 4) sc_is_writer_value.nd rfl (.inl rfl)) pss_dead)
      (pss_one (ps_ret pe_bl)))))), ?_⟩
    simp only [cxOf, tYes, eq_self, if_true, if_false, wipe, rLenQ, rIxTQ, rIxLQ, rIxSQ, rInt1Q, rTupQ, rAppQ, rPopQ, rPopAtQ, rRevQ, rListS, rReprP, tLenSetT, tChain, tRetN, tRet, tSeq, tAsg, gName, tVar, tC, tCons, tNil, tCB, tOp, rI0, rI, tAndV, tOrV, tNotV, tIf, tTest, tB, tNot, tAnd, tOr, tIfS, tNext, tCallR, rIsK, rEq, rNe, tDrop, L2.start, List.map_cons, List.map_nil, List.length_cons, List.length_nil, Nat.reduceAdd, Nat.reduceSub, Nat.sub_self, List.replicate_zero, List.replicate_succ, List.append_nil, List.cons_append, List.nil_append, List.getElem?_cons_zero, List.getElem?_cons_succ, List.set_cons_zero, List.set_cons_succ, Option.some.injEq, List.cons.injEq, and_true, true_and, exists_eq_left, exists_eq_left', exists_eq_right, V.ty.injEq, V.int.injEq, V.bl.injEq, V.str.injEq, V.ref.injEq, exists_and_left, exists_const, reduceIte, reduceCtorEq, false_and, and_false, exists_false, or_false, false_or, Bool.not_true, Bool.not_false, Bool.false_eq_true, String.reduceEq, true_or, or_true, rNotT, tNNew, tNNotIn, tNGet, sNPut, tLenSetN, tPar, tAug, ipI, tDNotIn, sDPut, tDGet, tTup, tLst, tBM, tBM0]
    have hz5 := hz.top
    refine ⟨.ref a, 3, true, rfl, .inl ⟨a, _, rfl, h1, rfl⟩, true, rfl, ifF rfl ⟨_, h1, .str z, rfl, .str z, rfl, .str z, fun y e => by cases e; omega, true, ?_, ifF rfl ⟨_, h1, .ref c, rfl, .tup h3, ifF (by simp [isaB]) ?_⟩⟩⟩
    · show V.bl (sgB z) = V.bl true
      rw [hz.sgB]
    refine ⟨a, _, rfl, h1, rfl, _, _, rfl, _, _, rfl, _, _, rfl, rfl, ?_⟩
    simp only [cxOf, tYes, eq_self, if_true, if_false, wipe, rLenQ, rIxTQ, rIxLQ, rIxSQ, rInt1Q, rTupQ, rAppQ, rPopQ, rPopAtQ, rRevQ, rListS, rReprP, tLenSetT, tChain, tRetN, tRet, tSeq, tAsg, gName, tVar, tC, tCons, tNil, tCB, tOp, rI0, rI, tAndV, tOrV, tNotV, tIf, tTest, tB, tNot, tAnd, tOr, tIfS, tNext, tCallR, rIsK, rEq, rNe, tDrop, L2.start, List.map_cons, List.map_nil, List.length_cons, List.length_nil, Nat.reduceAdd, Nat.reduceSub, Nat.sub_self, List.replicate_zero, List.replicate_succ, List.append_nil, List.cons_append, List.nil_append, List.getElem?_cons_zero, List.getElem?_cons_succ, List.set_cons_zero, List.set_cons_succ, Option.some.injEq, List.cons.injEq, and_true, true_and, exists_eq_left, exists_eq_left', exists_eq_right, V.ty.injEq, V.int.injEq, V.bl.injEq, V.str.injEq, V.ref.injEq, exists_and_left, exists_const, reduceIte, reduceCtorEq, false_and, and_false, exists_false, or_false, false_or, Bool.not_true, Bool.not_false, Bool.false_eq_true, String.reduceEq, true_or, or_true, rNotT, tNNew, tNNotIn, tNGet, sNPut, tLenSetN, tPar, tAug, ipI, tDNotIn, sDPut, tDGet, tTup, tLst, tBM, tBM0]
    refine ⟨[], .inr h3, ifF rfl ⟨[], .inr h3, b, _, _, rfl, h2, true, rfl, ifF rfl ⟨_, rfl, c, rfl, ⟨_, h3⟩, ?_⟩⟩⟩
    exact for_none (J := Itt K c) (tb := fun _ _ _ => False) ⟨[], h3, Nat.le_refl _⟩ q
theorem sc_ascending : FnScope ["found"] ["found"] (defScope (topS 34)) := ⟨rfl, rfl, rfl, by decide +kernel, rfl, by decide +kernel, by decide +kernel⟩
theorem bd_ascending {K : PySem.W.Frag} {f : Addr} {fd : FuncData} (F : FnP K "ascending" (topS 34) f fd) : Binds K fd ["found"] [] := F.bindsN fun _ _ _ _ _ _ us hl => match us, hl with | [_], _ => rfl
def spAs (K : PySem.W.Frag) : Sp := fun vs H Q _ => ∃ a, vs = [.ref a] ∧ SqL K H a [] ∧ ∀ p H', Same H H' → SqT K H' p [] → Q (.ref p) H'
theorem ok_ascending (T : Tx K mg) : Dk P w K mg base 1 "ascending" ["found"] (spAs K) := by
  obtain ⟨fd, F⟩ := T.d_ascending
  refine ⟨⟨fd, F.ok sc_ascending (fun vs H Q E h => ?_) (fun cdv A outer s H vs Q E hr h => ?_), bd_ascending F⟩, F.kp, T.g_ascending⟩
  · obtain ⟨a, rfl, _⟩ := h
    rfl
  · obtain ⟨a, rfl, h1, q⟩ := h
    refine ⟨_, PSs.nox (pss_one (ps_ret (pe_callTy call_tupQ (by rfl) T.f_tuple PyProof.Rows.boot_tuple (pa_cons (pe_callB (cr_sortedT rfl) (by rfl) T.f_sorted (by decide +kernel) (pa_cons (pe_callTy (show CallR _ _ (rSetOfT K P w) by exact cr_setOfT rfl hr.units) (by rfl) T.f_set PyProof.Rows.boot_set (pa_cons (pv 0) pa_nil)) pa_nil)) pa_nil)))), ?_⟩
    simp only [cxOf, tYes, eq_self, if_true, if_false, wipe, rLenQ, rIxTQ, rIxLQ, rIxSQ, rInt1Q, rTupQ, rAppQ, rPopQ, rPopAtQ, rRevQ, rListS, rReprP, tLenSetT, tChain, tRetN, tRet, tSeq, tAsg, gName, tVar, tC, tCons, tNil, tCB, tOp, rI0, rI, tAndV, tOrV, tNotV, tIf, tTest, tB, tNot, tAnd, tOr, tIfS, tNext, tCallR, rIsK, rEq, rNe, tDrop, L2.start, List.map_cons, List.map_nil, List.length_cons, List.length_nil, Nat.reduceAdd, Nat.reduceSub, Nat.sub_self, List.replicate_zero, List.replicate_succ, List.append_nil, List.cons_append, List.nil_append, List.getElem?_cons_zero, List.getElem?_cons_succ, List.set_cons_zero, List.set_cons_succ, Option.some.injEq, List.cons.injEq, and_true, true_and, exists_eq_left, exists_eq_left', exists_eq_right, V.ty.injEq, V.int.injEq, V.bl.injEq, V.str.injEq, V.ref.injEq, exists_and_left, exists_const, reduceIte, reduceCtorEq, false_and, and_false, exists_false, or_false, false_or, Bool.not_true, Bool.not_false, Bool.false_eq_true, String.reduceEq, true_or, or_true, rNotT, tNNew, tNNotIn, tNGet, sNPut, tLenSetN, tPar, tAug, ipI, tDNotIn, sDPut, tDGet, tTup, tLst, tBM, tBM0]
    refine ⟨a, [], rfl, h1, (fun p hp => nomatch hp), by decide, fun b L hb hL _ => ?_⟩
    obtain rfl : L = [] := List.eq_nil_iff_forall_not_mem.mpr fun p hp => nomatch hL p hp
    refine ⟨b, [], 1, 1, rfl, upd_same, (fun p hp => nomatch hp), by decide, (fun p hp => nomatch hp), fun L' p hL' _ _ _ hp => ?_⟩
    obtain rfl := List.Perm.eq_nil hL'
    refine ⟨[], .inl (.inl upd_same), fun l hl => q l _ (Same.trans (same_upd hb) (Same.trans (same_upd hp) (same_upd hl))) (.inl (.inl upd_same))⟩
theorem sc_spread : FnScope ["starts", "leads", "met", "waiting", "state", "to", "_"] ["starts", "leads"] (defScope (topS 54)) := ⟨rfl, rfl, rfl, by decide +kernel, rfl, by decide +kernel, by decide +kernel⟩
theorem bd_spread {K : PySem.W.Frag} {f : Addr} {fd : FuncData} (F : FnP K "spread" (topS 54) f fd) : Binds K fd ["starts", "leads"] [] := F.bindsN fun _ _ _ _ _ _ us hl => match us, hl with | [_, _], _ => rfl
def spSp (K : PySem.W.Frag) : Sp := fun vs H Q _ => ∃ a b, vs = [.ref a, .ref b] ∧ SqL K H a [] ∧ SqL K H b [] ∧ ∀ p H', Same H H' → H' p = some (.lst []) → Q (.ref p) H'
theorem ok_spread (T : Tx K mg) : Dk P w K mg base 1 "spread" ["starts", "leads"] (spSp K) := by
  obtain ⟨fd, F⟩ := T.d_spread
  refine ⟨⟨fd, F.ok sc_spread (fun vs H Q E h => ?_) (fun cdv A outer s H vs Q E hr h => ?_), bd_spread F⟩, F.kp, T.g_spread⟩
  · obtain ⟨a, b, rfl, _⟩ := h
    rfl
  · obtain ⟨a, b, rfl, h1, h2, q⟩ := h
    refine ⟨_, PSs.nox (pss_cons (ps_setLc (i := 2) (own := [("_", 6)]) rfl sc_spread.nd rfl rfl (sw_true rfl rfl rfl (by decide +kernel)) (pi_list (pv 1)) (blkOk_by (own := [("_", 6)]) (N := ["starts", "leads", "met", "waiting", "state", "to", "_"]) (sc := defScope (topS 54)) (by decide +kernel)) (fun _ _ _ _ _ => (pg_name (i := 6) sc_spread.nd rfl (.inl rfl))) (fun _ _ _ _ _ => pts_nil) (fun _ _ _ _ _ => pe_bl))
      (pss_cons (ps_set (i := 3) sc_spread.nd rfl (.inl rfl) (pe_lst pa_nil))
      (pss_cons (ps_for PassesOwn.never rfl (pi_list (pv 0)) (pg_name (i := 4) sc_spread.nd rfl (.inl rfl)) (pss_one (ps_if (pt_not (pt_val (pe_ix ix_listQ (pv 2) (pv 4) (fun _ _ => rfl)))) (pss_cons (ps_asg pe_bl (pg_sub (pv 2) (pv 4) set_list))
      (pss_one (ps_expr (pe_bm PySem.F.plainAttrs_list PySem.F.slot_list_append PySem.F.type_list_append mt_appQ (pv 3) (pa_cons (pv 4) pa_nil))))) pss_nil)))
      (pss_cons (ps_while PassesOwn.never (pt_truth (pv 3) (by intro _; rfl)) (pss_one (ps_for PassesOwn.never rfl (pi_tup (pe_ix ix_listQ (pv 1) (pe_bm0 PySem.F.plainAttrs_list PySem.F.slot_list_pop PySem.F.type_list_pop mt_popQ (pv 3)) (fun _ _ => rfl))) (pg_name (i := 5) sc_spread.nd rfl (.inl rfl)) (pss_one (ps_if (pt_not (pt_val (pe_ix ix_listQ (pv 2) (pv 5) (fun _ _ => rfl)))) (pss_cons (ps_asg pe_bl (pg_sub (pv 2) (pv 5) set_list))
      (pss_one (ps_expr (pe_bm PySem.F.plainAttrs_list PySem.F.slot_list_append PySem.F.type_list_append mt_appQ (pv 3) (pa_cons (pv 5) pa_nil))))) pss_nil)))))
      (pss_one (ps_ret (pv 2))))))), ?_⟩
    simp only [cxOf, tYes, eq_self, if_true, if_false, wipe, rLenQ, rIxTQ, rIxLQ, rIxSQ, rInt1Q, rTupQ, rAppQ, rPopQ, rPopAtQ, rRevQ, rListS, rReprP, tLenSetT, tChain, tRetN, tRet, tSeq, tAsg, gName, tVar, tC, tCons, tNil, tCB, tOp, rI0, rI, tAndV, tOrV, tNotV, tIf, tTest, tB, tNot, tAnd, tOr, tIfS, tNext, tCallR, rIsK, rEq, rNe, tDrop, L2.start, List.map_cons, List.map_nil, List.length_cons, List.length_nil, Nat.reduceAdd, Nat.reduceSub, Nat.sub_self, List.replicate_zero, List.replicate_succ, List.append_nil, List.cons_append, List.nil_append, List.getElem?_cons_zero, List.getElem?_cons_succ, List.set_cons_zero, List.set_cons_succ, Option.some.injEq, List.cons.injEq, and_true, true_and, exists_eq_left, exists_eq_left', exists_eq_right, V.ty.injEq, V.int.injEq, V.bl.injEq, V.str.injEq, V.ref.injEq, exists_and_left, exists_const, reduceIte, reduceCtorEq, false_and, and_false, exists_false, or_false, false_or, Bool.not_true, Bool.not_false, Bool.false_eq_true, String.reduceEq, true_or, or_true, rNotT, tNNew, tNNotIn, tNGet, sNPut, tLenSetN, tPar, tAug, ipI, tDNotIn, sDPut, tDGet, tTup, tLst, tBM, tBM0]
    refine ⟨_, rfl, b, rfl, ⟨_, h2⟩, fun D hD => lc_none ⟨[], Same.seq (same_upd hD) h2, Nat.le_refl _⟩ ⟨Nat.zero_le _, fun p hp => ⟨_, rfl, a, rfl, ⟨_, Same.seq (Same.trans (same_upd hD) (same_upd hp)) h1⟩, for_none ⟨[], Same.seq (Same.trans (same_upd hD) (same_upd hp)) h1, Nat.le_refl _⟩ ?_⟩⟩⟩
    simp only [cxOf, tYes, eq_self, if_true, if_false, wipe, rLenQ, rIxTQ, rIxLQ, rIxSQ, rInt1Q, rTupQ, rAppQ, rPopQ, rPopAtQ, rRevQ, rListS, rReprP, tLenSetT, tChain, tRetN, tRet, tSeq, tAsg, gName, tVar, tC, tCons, tNil, tCB, tOp, rI0, rI, tAndV, tOrV, tNotV, tIf, tTest, tB, tNot, tAnd, tOr, tIfS, tNext, tCallR, rIsK, rEq, rNe, tDrop, L2.start, List.map_cons, List.map_nil, List.length_cons, List.length_nil, Nat.reduceAdd, Nat.reduceSub, Nat.sub_self, List.replicate_zero, List.replicate_succ, List.append_nil, List.cons_append, List.nil_append, List.getElem?_cons_zero, List.getElem?_cons_succ, List.set_cons_zero, List.set_cons_succ, Option.some.injEq, List.cons.injEq, and_true, true_and, exists_eq_left, exists_eq_left', exists_eq_right, V.ty.injEq, V.int.injEq, V.bl.injEq, V.str.injEq, V.ref.injEq, exists_and_left, exists_const, reduceIte, reduceCtorEq, false_and, and_false, exists_false, or_false, false_or, Bool.not_true, Bool.not_false, Bool.false_eq_true, String.reduceEq, true_or, or_true, rNotT, tNNew, tNNotIn, tNGet, sNPut, tLenSetN, tPar, tAug, ipI, tDNotIn, sDPut, tDGet, tTup, tLst, tBM, tBM0]
    exact while_none (fun R hR => ⟨_, rfl, false, .inl ⟨[], .inl (.inl upd_same), rfl⟩, hR⟩) ⟨_, rfl, q D _ (Same.trans (same_upd hD) (same_upd hp)) (same_upd hp _ _ upd_same)⟩
theorem sc_leads_of : FnScope ["states", "state", "pairs", "_", "to"] ["states"] (defScope (topS 55)) := ⟨rfl, rfl, rfl, by decide +kernel, rfl, by decide +kernel, by decide +kernel⟩
theorem bd_leads_of {K : PySem.W.Frag} {f : Addr} {fd : FuncData} (F : FnP K "leads_of" (topS 55) f fd) : Binds K fd ["states"] [] := F.bindsN fun _ _ _ _ _ _ us hl => match us, hl with | [_], _ => rfl
def spLo (K : PySem.W.Frag) : Sp := fun vs H Q _ => ∃ a, vs = [.ref a] ∧ SqT K H a [] ∧ ∀ p H', Same H H' → H' p = some (.lst []) → Q (.ref p) H'
theorem ok_leads_of (T : Tx K mg) : Dk P w K mg base 1 "leads_of" ["states"] (spLo K) := by
  obtain ⟨fd, F⟩ := T.d_leads_of
  refine ⟨⟨fd, F.ok sc_leads_of (fun vs H Q E h => ?_) (fun cdv A outer s H vs Q E hr h => ?_), bd_leads_of F⟩, F.kp, T.g_leads_of⟩
  · obtain ⟨a, rfl, _⟩ := h
    rfl
  · obtain ⟨a, rfl, h1, q⟩ := h
    refine ⟨_, PSs.nox (pss_one (ps_ret (pe_lc (own := [("state", 1)]) rfl sc_leads_of.nd (pi_tup (pv 0)) (blkOk_by (own := [("state", 1)]) (N := ["states", "state", "pairs", "_", "to"]) (sc := defScope (topS 55)) (by decide +kernel)) (fun _ _ _ _ _ => (pg_name (i := 1) sc_leads_of.nd rfl (.inl rfl))) (fun _ _ _ _ _ => pts_nil) (fun _ _ _ _ _ => (pe_dead))))), ?_⟩
    simp only [cxOf, tYes, eq_self, if_true, if_false, wipe, rLenQ, rIxTQ, rIxLQ, rIxSQ, rInt1Q, rTupQ, rAppQ, rPopQ, rPopAtQ, rRevQ, rListS, rReprP, tLenSetT, tChain, tRetN, tRet, tSeq, tAsg, gName, tVar, tC, tCons, tNil, tCB, tOp, rI0, rI, tAndV, tOrV, tNotV, tIf, tTest, tB, tNot, tAnd, tOr, tIfS, tNext, tCallR, rIsK, rEq, rNe, tDrop, L2.start, List.map_cons, List.map_nil, List.length_cons, List.length_nil, Nat.reduceAdd, Nat.reduceSub, Nat.sub_self, List.replicate_zero, List.replicate_succ, List.append_nil, List.cons_append, List.nil_append, List.getElem?_cons_zero, List.getElem?_cons_succ, List.set_cons_zero, List.set_cons_succ, Option.some.injEq, List.cons.injEq, and_true, true_and, exists_eq_left, exists_eq_left', exists_eq_right, V.ty.injEq, V.int.injEq, V.bl.injEq, V.str.injEq, V.ref.injEq, exists_and_left, exists_const, reduceIte, reduceCtorEq, false_and, and_false, exists_false, or_false, false_or, Bool.not_true, Bool.not_false, Bool.false_eq_true, String.reduceEq, true_or, or_true, rNotT, tNNew, tNNotIn, tNGet, sNPut, tLenSetN, tPar, tAug, ipI, tDNotIn, sDPut, tDGet, tTup, tLst, tBM, tBM0]
    exact ⟨_, rfl, a, rfl, ⟨_, h1⟩, fun D hD => lc_none (J := Itt K a) (te := fun _ _ _ => False) ⟨[], Same.sqT (same_upd hD) h1, Nat.le_refl _⟩ (q D _ (same_upd hD) upd_same)⟩
theorem sc_sources_of : FnScope ["states", "_", "sources", "at", "state", "pairs", "to"] ["states"] (defScope (topS 56)) := ⟨rfl, rfl, rfl, by decide +kernel, rfl, by decide +kernel, by decide +kernel⟩
theorem bd_sources_of {K : PySem.W.Frag} {f : Addr} {fd : FuncData} (F : FnP K "sources_of" (topS 56) f fd) : Binds K fd ["states"] [] := F.bindsN fun _ _ _ _ _ _ us hl => match us, hl with | [_], _ => rfl
theorem ok_sources_of (T : Tx K mg) : Dk P w K mg base 1 "sources_of" ["states"] (spLo K) := by
  obtain ⟨fd, F⟩ := T.d_sources_of
  refine ⟨⟨fd, F.ok sc_sources_of (fun vs H Q E h => ?_) (fun cdv A outer s H vs Q E hr h => ?_), bd_sources_of F⟩, F.kp, T.g_sources_of⟩
  · obtain ⟨a, rfl, _⟩ := h
    rfl
  · obtain ⟨a, rfl, h1, q⟩ := h
    refine ⟨_, PSs.nox (pss_cons (ps_setLc (i := 2) (own := [("_", 1)]) rfl sc_sources_of.nd rfl rfl (sw_true rfl rfl rfl (by decide +kernel)) (pi_tup (pv 0)) (blkOk_by (own := [("_", 1)]) (N := ["states", "_", "sources", "at", "state", "pairs", "to"]) (sc := defScope (topS 56)) (by decide +kernel)) (fun _ _ _ _ _ => (pg_name (i := 1) sc_sources_of.nd rfl (.inl rfl))) (fun _ _ _ _ _ => pts_nil) (fun _ _ _ _ _ => (pe_lst pa_nil)))
      (pss_cons (ps_for PassesOwn.never rfl (pi_enumT (by rfl) T.f_enumerate (pa_cons (pv 0) pa_nil)) (pg_tup (by rfl) (pgs_cons (pg_name (i := 3) sc_sources_of.nd rfl (.inl rfl)) (pgs_cons (pg_name (i := 4) sc_sources_of.nd rfl (.inl rfl)) pgs_nil))) (pss_one (ps_dead)))
      (pss_one (ps_ret (pv 2))))), ?_⟩
    simp only [cxOf, tYes, eq_self, if_true, if_false, wipe, rLenQ, rIxTQ, rIxLQ, rIxSQ, rInt1Q, rTupQ, rAppQ, rPopQ, rPopAtQ, rRevQ, rListS, rReprP, tLenSetT, tChain, tRetN, tRet, tSeq, tAsg, gName, tVar, tC, tCons, tNil, tCB, tOp, rI0, rI, tAndV, tOrV, tNotV, tIf, tTest, tB, tNot, tAnd, tOr, tIfS, tNext, tCallR, rIsK, rEq, rNe, tDrop, L2.start, List.map_cons, List.map_nil, List.length_cons, List.length_nil, Nat.reduceAdd, Nat.reduceSub, Nat.sub_self, List.replicate_zero, List.replicate_succ, List.append_nil, List.cons_append, List.nil_append, List.getElem?_cons_zero, List.getElem?_cons_succ, List.set_cons_zero, List.set_cons_succ, Option.some.injEq, List.cons.injEq, and_true, true_and, exists_eq_left, exists_eq_left', exists_eq_right, V.ty.injEq, V.int.injEq, V.bl.injEq, V.str.injEq, V.ref.injEq, exists_and_left, exists_const, reduceIte, reduceCtorEq, false_and, and_false, exists_false, or_false, false_or, Bool.not_true, Bool.not_false, Bool.false_eq_true, String.reduceEq, true_or, or_true, rNotT, tNNew, tNNotIn, tNGet, sNPut, tLenSetN, tPar, tAug, ipI, tDNotIn, sDPut, tDGet, tTup, tLst, tBM, tBM0]
    exact ⟨_, rfl, a, rfl, ⟨_, h1⟩, fun D hD => lc_none (J := Itt K a) ⟨[], Same.sqT (same_upd hD) h1, Nat.le_refl _⟩ ⟨_, rfl, a, [], rfl, Same.sqT (same_upd hD) h1, for_none (J := IteT K a) (tb := fun _ _ _ => False) ⟨[], Same.sqT (same_upd hD) h1, Nat.le_refl _⟩ ⟨_, rfl, q D _ (same_upd hD) upd_same⟩⟩⟩
theorem sc_on_walks : FnScope ["writer", "_", "begins", "states", "met", "ending", "first", "second", "to", "at", "state"] ["writer"] (defScope (topS 57)) := ⟨rfl, rfl, rfl, by decide +kernel, rfl, by decide +kernel, by decide +kernel⟩
theorem bd_on_walks {K : PySem.W.Frag} {f : Addr} {fd : FuncData} (F : FnP K "on_walks" (topS 57) f fd) : Binds K fd ["writer"] [] := F.bindsN fun _ _ _ _ _ _ us hl => match us, hl with | [_], _ => rfl
def spOw (K : PySem.W.Frag) : Sp := fun vs H Q _ => ∃ v z, vs = [v] ∧ EWr K H v z ∧ ∀ p H', Same H H' → H' p = some (.lst []) → Q (.ref p) H'
theorem ok_on_walks (T : Tx K mg) : Dk P w K mg base 2 "on_walks" ["writer"] (spOw K) := by
  have D_spread := ok_spread (P := P) (w := w) (base := base) T
  have D_leads_of := ok_leads_of (P := P) (w := w) (base := base) T
  have D_sources_of := ok_sources_of (P := P) (w := w) (base := base) T
  obtain ⟨fd, F⟩ := T.d_on_walks
  refine ⟨⟨fd, F.ok sc_on_walks (fun vs H Q E h => ?_) (fun cdv A outer s H vs Q E hr h => ?_), bd_on_walks F⟩, F.kp, T.g_on_walks⟩
  · obtain ⟨v, z, rfl, _⟩ := h
    rfl
  · obtain ⟨v, z, rfl, ⟨a, b, c, rfl, h1, h2, h3⟩, q⟩ := h
    refine ⟨_, PSs.nox (pss_cons (ps_asg (pv 0) (pg_tup (by rfl) (pgs_cons (pg_name (i := 1) sc_on_walks.nd rfl (.inl rfl)) (pgs_cons (pg_name (i := 2) sc_on_walks.nd rfl (.inl rfl)) (pgs_cons (pg_name (i := 3) sc_on_walks.nd rfl (.inl rfl)) pgs_nil)))))
      (pss_cons (ps_set (i := 4) sc_on_walks.nd rfl (.inl rfl) (pe_callR D_spread (hr.mono (by decide)) takes0 (pa_cons (pe_lc (own := [("_", 1), ("to", 8)]) rfl sc_on_walks.nd (pi_tup (pv 2)) (blkOk_by (own := [("_", 1), ("to", 8)]) (N := ["writer", "_", "begins", "states", "met", "ending", "first", "second", "to", "at", "state"]) (sc := defScope (topS 57)) (by decide +kernel)) (fun _ _ _ _ _ => (show PG _ _ (gTup K 2 _) by exact pg_tup (by rfl) (pgs_cons (pg_name (i := 1) sc_on_walks.nd rfl (.inl rfl)) (pgs_cons (pg_name (i := 8) sc_on_walks.nd rfl (.inl rfl)) pgs_nil)))) (fun _ _ _ _ _ => pts_nil) (fun _ _ _ _ _ => (pv 8))) (pa_cons (pe_callR D_leads_of (hr.mono (by decide)) takes0 (pa_cons (pv 3) pa_nil)) pa_nil))))
      (pss_cons (ps_set (i := 5) sc_on_walks.nd rfl (.inl rfl) (pe_callR D_spread (hr.mono (by decide)) takes0 (pa_cons (pe_lc (own := [("at", 9), ("state", 10)]) rfl sc_on_walks.nd (pi_enumT (by rfl) T.f_enumerate (pa_cons (pv 3) pa_nil)) (blkOk_by (own := [("at", 9), ("state", 10)]) (N := ["writer", "_", "begins", "states", "met", "ending", "first", "second", "to", "at", "state"]) (sc := defScope (topS 57)) (by decide +kernel)) (fun _ _ _ _ _ => (show PG _ _ (gTup K 2 _) by exact pg_tup (by rfl) (pgs_cons (pg_name (i := 9) sc_on_walks.nd rfl (.inl rfl)) (pgs_cons (pg_name (i := 10) sc_on_walks.nd rfl (.inl rfl)) pgs_nil)))) (fun _ _ _ _ _ => (pts_one (pt_val (pe_ix (show IxR _ (rIxTQ K) by exact ix_tupQ) (pv 10) pe_int (fun _ _ => rfl))))) (fun _ _ _ _ _ => (pv 9))) (pa_cons (pe_callR D_sources_of (hr.mono (by decide)) takes0 (pa_cons (pv 3) pa_nil)) pa_nil))))
      (pss_one (ps_ret (pe_lc (own := [("first", 6), ("second", 7)]) rfl sc_on_walks.nd (pi_zip (by rfl) T.f_zip (pa_cons (pv 4) (pa_cons (pv 5) pa_nil))) (blkOk_by (own := [("first", 6), ("second", 7)]) (N := ["writer", "_", "begins", "states", "met", "ending", "first", "second", "to", "at", "state"]) (sc := defScope (topS 57)) (by decide +kernel)) (fun _ _ _ _ _ => (show PG _ _ (gTup K 2 _) by exact pg_tup (by rfl) (pgs_cons (pg_name (i := 6) sc_on_walks.nd rfl (.inl rfl)) (pgs_cons (pg_name (i := 7) sc_on_walks.nd rfl (.inl rfl)) pgs_nil)))) (fun _ _ _ _ _ => pts_nil) (fun _ _ _ _ _ => (pe_dead)))))))), ?_⟩
    simp only [cxOf, tYes, eq_self, if_true, if_false, wipe, rLenQ, rIxTQ, rIxLQ, rIxSQ, rInt1Q, rTupQ, rAppQ, rPopQ, rPopAtQ, rRevQ, rListS, rReprP, tLenSetT, tChain, tRetN, tRet, tSeq, tAsg, gName, tVar, tC, tCons, tNil, tCB, tOp, rI0, rI, tAndV, tOrV, tNotV, tIf, tTest, tB, tNot, tAnd, tOr, tIfS, tNext, tCallR, rIsK, rEq, rNe, tDrop, L2.start, List.map_cons, List.map_nil, List.length_cons, List.length_nil, Nat.reduceAdd, Nat.reduceSub, Nat.sub_self, List.replicate_zero, List.replicate_succ, List.append_nil, List.cons_append, List.nil_append, List.getElem?_cons_zero, List.getElem?_cons_succ, List.set_cons_zero, List.set_cons_succ, Option.some.injEq, List.cons.injEq, and_true, true_and, exists_eq_left, exists_eq_left', exists_eq_right, V.ty.injEq, V.int.injEq, V.bl.injEq, V.str.injEq, V.ref.injEq, exists_and_left, exists_const, reduceIte, reduceCtorEq, false_and, and_false, exists_false, or_false, false_or, Bool.not_true, Bool.not_false, Bool.false_eq_true, String.reduceEq, true_or, or_true, rNotT, tNNew, tNNotIn, tNGet, sNPut, tLenSetN, tPar, tAug, ipI, tDNotIn, sDPut, tDGet, tTup, tLst, tBM, tBM0]
    refine ⟨a, _, rfl, h1, rfl, _, _, rfl, _, _, rfl, _, _, rfl, rfl, ?_⟩
    simp only [cxOf, tYes, eq_self, if_true, if_false, wipe, rLenQ, rIxTQ, rIxLQ, rIxSQ, rInt1Q, rTupQ, rAppQ, rPopQ, rPopAtQ, rRevQ, rListS, rReprP, tLenSetT, tChain, tRetN, tRet, tSeq, tAsg, gName, tVar, tC, tCons, tNil, tCB, tOp, rI0, rI, tAndV, tOrV, tNotV, tIf, tTest, tB, tNot, tAnd, tOr, tIfS, tNext, tCallR, rIsK, rEq, rNe, tDrop, L2.start, List.map_cons, List.map_nil, List.length_cons, List.length_nil, Nat.reduceAdd, Nat.reduceSub, Nat.sub_self, List.replicate_zero, List.replicate_succ, List.append_nil, List.cons_append, List.nil_append, List.getElem?_cons_zero, List.getElem?_cons_succ, List.set_cons_zero, List.set_cons_succ, Option.some.injEq, List.cons.injEq, and_true, true_and, exists_eq_left, exists_eq_left', exists_eq_right, V.ty.injEq, V.int.injEq, V.bl.injEq, V.str.injEq, V.ref.injEq, exists_and_left, exists_const, reduceIte, reduceCtorEq, false_and, and_false, exists_false, or_false, false_or, Bool.not_true, Bool.not_false, Bool.false_eq_true, String.reduceEq, true_or, or_true, rNotT, tNNew, tNNotIn, tNGet, sNPut, tLenSetN, tPar, tAug, ipI, tDNotIn, sDPut, tDGet, tTup, tLst, tBM, tBM0]
    refine ⟨_, rfl, b, rfl, ⟨_, h2⟩, fun D hD => lc_none (J := Itt K b) ⟨[], Same.sqT (same_upd hD) h2, Nat.le_refl _⟩ ?_⟩
    have s1 := same_upd (o := .lst []) hD
    have w1 : (upd H D (.lst [])) D = some (.lst []) := upd_same
    refine ⟨c, rfl, Same.sqT s1 h3, fun l1 Ha sa ha => ⟨D, l1, rfl, .inl (.inl (sa _ _ w1)), .inl (.inl ha), fun m1 Hb sb hb => ?_⟩⟩
    have s2 := Same.trans (Same.trans s1 sa) sb
    refine ⟨_, rfl, c, [], rfl, Same.sqT s2 h3, fun D2 hD2 => lc_none (J := IteT K c) ⟨[], Same.sqT (Same.trans s2 (same_upd hD2)) h3, Nat.le_refl _⟩ ?_⟩
    have s3 := Same.trans s2 (same_upd (o := .lst []) hD2)
    have w2 : (upd Hb D2 (.lst [])) D2 = some (.lst []) := upd_same
    refine ⟨c, rfl, Same.sqT s3 h3, fun l2 Hc sc hc => ⟨D2, l2, rfl, .inl (.inl (sc _ _ w2)), .inl (.inl hc), fun m2 Hd sd hd => ?_⟩⟩
    have hm1 : Hd m1 = some (.lst []) := sd _ _ (sc _ _ (same_upd hD2 _ _ hb))
    exact ⟨_, rfl, _, rfl, m1, m2, [], [], rfl, .inl (.inl hm1), .inl (.inl hd), fun D3 hD3 => lc_none (J := Itz K m1 m2) (te := fun _ _ _ => False) ⟨[], [], .inl (.inl (same_upd hD3 _ _ hm1)), .inl (.inl (same_upd hD3 _ _ hd)), .inl (Nat.le_refl _)⟩ (q D3 _ (Same.trans (Same.trans (Same.trans s3 sc) sd) (same_upd hD3)) upd_same)⟩
theorem sc_kept_pairs : FnScope ["pairs", "numbers", "text", "to"] ["pairs", "numbers"] (defScope (topS 58)) := ⟨rfl, rfl, rfl, by decide +kernel, rfl, by decide +kernel, by decide +kernel⟩
theorem bd_kept_pairs {K : PySem.W.Frag} {f : Addr} {fd : FuncData} (F : FnP K "kept_pairs" (topS 58) f fd) : Binds K fd ["pairs", "numbers"] [] := F.bindsN fun _ _ _ _ _ _ us hl => match us, hl with | [_, _], _ => rfl
def spKp (K : PySem.W.Frag) : Sp := fun vs H Q _ => ∃ a x, vs = [.ref a, x] ∧ SqT K H a [] ∧ ∀ p H', Same H H' → SqT K H' p [] → Q (.ref p) H'
theorem ok_kept_pairs (T : Tx K mg) : Dk P w K mg base 1 "kept_pairs" ["pairs", "numbers"] (spKp K) := by
  obtain ⟨fd, F⟩ := T.d_kept_pairs
  refine ⟨⟨fd, F.ok sc_kept_pairs (fun vs H Q E h => ?_) (fun cdv A outer s H vs Q E hr h => ?_), bd_kept_pairs F⟩, F.kp, T.g_kept_pairs⟩
  · obtain ⟨a, x, rfl, _⟩ := h
    rfl
  · obtain ⟨a, x, rfl, h1, q⟩ := h
    refine ⟨_, PSs.nox (pss_one (ps_ret (pe_callTy call_tupQ (by rfl) T.f_tuple PyProof.Rows.boot_tuple (pa_cons (pe_lc (own := [("text", 2), ("to", 3)]) rfl sc_kept_pairs.nd (pi_tup (pv 0)) (blkOk_by (own := [("text", 2), ("to", 3)]) (N := ["pairs", "numbers", "text", "to"]) (sc := defScope (topS 58)) (by decide +kernel)) (fun _ _ _ _ _ => (show PG _ _ (gTup K 2 _) by exact pg_tup (by rfl) (pgs_cons (pg_name (i := 2) sc_kept_pairs.nd rfl (.inl rfl)) (pgs_cons (pg_name (i := 3) sc_kept_pairs.nd rfl (.inl rfl)) pgs_nil)))) (fun _ _ _ _ _ => (pts_one (pt_dead))) (fun _ _ _ _ _ => (pe_dead))) pa_nil)))), ?_⟩
    simp only [cxOf, tYes, eq_self, if_true, if_false, wipe, rLenQ, rIxTQ, rIxLQ, rIxSQ, rInt1Q, rTupQ, rAppQ, rPopQ, rPopAtQ, rRevQ, rListS, rReprP, tLenSetT, tChain, tRetN, tRet, tSeq, tAsg, gName, tVar, tC, tCons, tNil, tCB, tOp, rI0, rI, tAndV, tOrV, tNotV, tIf, tTest, tB, tNot, tAnd, tOr, tIfS, tNext, tCallR, rIsK, rEq, rNe, tDrop, L2.start, List.map_cons, List.map_nil, List.length_cons, List.length_nil, Nat.reduceAdd, Nat.reduceSub, Nat.sub_self, List.replicate_zero, List.replicate_succ, List.append_nil, List.cons_append, List.nil_append, List.getElem?_cons_zero, List.getElem?_cons_succ, List.set_cons_zero, List.set_cons_succ, Option.some.injEq, List.cons.injEq, and_true, true_and, exists_eq_left, exists_eq_left', exists_eq_right, V.ty.injEq, V.int.injEq, V.bl.injEq, V.str.injEq, V.ref.injEq, exists_and_left, exists_const, reduceIte, reduceCtorEq, false_and, and_false, exists_false, or_false, false_or, Bool.not_true, Bool.not_false, Bool.false_eq_true, String.reduceEq, true_or, or_true, rNotT, tNNew, tNNotIn, tNGet, sNPut, tLenSetN, tPar, tAug, ipI, tDNotIn, sDPut, tDGet, tTup, tLst, tBM, tBM0]
    exact ⟨_, rfl, a, rfl, ⟨_, h1⟩, fun D hD => lc_none (J := Itt K a) (tt := fun _ _ _ => False) (te := fun _ _ _ => False) ⟨[], Same.sqT (same_upd hD) h1, Nat.le_refl _⟩ ⟨[], .inl (.inl upd_same), fun l hl => q l _ (Same.trans (same_upd hD) (same_upd hl)) (.inl (.inl upd_same))⟩⟩
theorem sc_trimmed : FnScope ["writer", "signs", "begins", "states", "numbers", "at", "kept", "rows", "state", "pairs"] ["writer"] (defScope (topS 59)) := ⟨rfl, rfl, rfl, by decide +kernel, rfl, by decide +kernel, by decide +kernel⟩
theorem bd_trimmed {K : PySem.W.Frag} {f : Addr} {fd : FuncData} (F : FnP K "trimmed" (topS 59) f fd) : Binds K fd ["writer"] [] := F.bindsN fun _ _ _ _ _ _ us hl => match us, hl with | [_], _ => rfl
def spTr (K : PySem.W.Frag) : Sp := fun vs H Q _ => ∃ v z, vs = [v] ∧ EWr K H v z ∧ ∀ u H', Same H H' → EWr K H' u z → Q u H'
theorem ok_trimmed (T : Tx K mg) : Dk P w K mg base 3 "trimmed" ["writer"] (spTr K) := by
  have D_on_walks := ok_on_walks (P := P) (w := w) (base := base) T
  have D_kept_pairs := ok_kept_pairs (P := P) (w := w) (base := base) T
  obtain ⟨fd, F⟩ := T.d_trimmed
  refine ⟨⟨fd, F.ok sc_trimmed (fun vs H Q E h => ?_) (fun cdv A outer s H vs Q E hr h => ?_), bd_trimmed F⟩, F.kp, T.g_trimmed⟩
  · obtain ⟨v, z, rfl, _⟩ := h
    rfl
  · obtain ⟨v, z, rfl, ⟨a, b, c, rfl, h1, h2, h3⟩, q⟩ := h
    refine ⟨_, PSs.nox (pss_cons (ps_asg (pv 0) (pg_tup (by rfl) (pgs_cons (pg_name (i := 1) sc_trimmed.nd rfl (.inl rfl)) (pgs_cons (pg_name (i := 2) sc_trimmed.nd rfl (.inl rfl)) (pgs_cons (pg_name (i := 3) sc_trimmed.nd rfl (.inl rfl)) pgs_nil)))))
      (pss_cons (ps_set (i := 4) sc_trimmed.nd rfl (.inr rfl) pe_dnewK)
      (pss_cons (ps_for PassesOwn.never rfl (pi_enum (by rfl) T.f_enumerate (pa_cons (pe_callR D_on_walks (hr.mono (by decide)) takes0 (pa_cons (pv 0) pa_nil)) pa_nil)) (pg_tup (by rfl) (pgs_cons (pg_name (i := 5) sc_trimmed.nd rfl (.inl rfl)) (pgs_cons (pg_name (i := 6) sc_trimmed.nd rfl (.inl rfl)) pgs_nil))) (pss_one (ps_if (pt_val (pv 6)) (pss_one (ps_dput (hu_of hr) (pv 4) (pv 5) (pe_callB call_lenD (by rfl) T.f_len PySem.boot_len (pa_cons (pv 4) pa_nil)) rfl)) pss_nil)))
      (pss_cons (ps_set (i := 7) sc_trimmed.nd rfl (.inl rfl) (pe_lst pa_nil))
      (pss_cons (ps_for PassesOwn.never rfl (pi_enumT (by rfl) T.f_enumerate (pa_cons (pv 3) pa_nil)) (pg_tup (by rfl) (pgs_cons (pg_name (i := 5) sc_trimmed.nd rfl (.inl rfl)) (pgs_cons (pg_name (i := 8) sc_trimmed.nd rfl (.inl rfl)) pgs_nil))) (pss_one (ps_if (pt_cmp (pc_din (hu_of hr) (pv 5) (pv 4))) (pss_one (ps_dead)) pss_nil)))
      (pss_one (ps_ret (pe_tup (pa_cons (pv 1) (pa_cons (pe_callR D_kept_pairs (hr.mono (by decide)) takes0 (pa_cons (pv 2) (pa_cons (pv 4) pa_nil))) (pa_cons (pe_callTy call_tupQ (by rfl) T.f_tuple PyProof.Rows.boot_tuple (pa_cons (pv 7) pa_nil)) pa_nil))))))))))), ?_⟩
    simp only [cxOf, tYes, eq_self, if_true, if_false, wipe, rLenQ, rIxTQ, rIxLQ, rIxSQ, rInt1Q, rTupQ, rAppQ, rPopQ, rPopAtQ, rRevQ, rListS, rReprP, tLenSetT, tChain, tRetN, tRet, tSeq, tAsg, gName, tVar, tC, tCons, tNil, tCB, tOp, rI0, rI, tAndV, tOrV, tNotV, tIf, tTest, tB, tNot, tAnd, tOr, tIfS, tNext, tCallR, rIsK, rEq, rNe, tDrop, L2.start, List.map_cons, List.map_nil, List.length_cons, List.length_nil, Nat.reduceAdd, Nat.reduceSub, Nat.sub_self, List.replicate_zero, List.replicate_succ, List.append_nil, List.cons_append, List.nil_append, List.getElem?_cons_zero, List.getElem?_cons_succ, List.set_cons_zero, List.set_cons_succ, Option.some.injEq, List.cons.injEq, and_true, true_and, exists_eq_left, exists_eq_left', exists_eq_right, V.ty.injEq, V.int.injEq, V.bl.injEq, V.str.injEq, V.ref.injEq, exists_and_left, exists_const, reduceIte, reduceCtorEq, false_and, and_false, exists_false, or_false, false_or, Bool.not_true, Bool.not_false, Bool.false_eq_true, String.reduceEq, true_or, or_true, rNotT, tNNew, tNNotIn, tNGet, sNPut, tLenSetN, tPar, tAug, ipI, tDNotIn, sDPut, tDGet, tTup, tLst, tBM, tBM0]
    refine ⟨a, _, rfl, h1, rfl, _, _, rfl, _, _, rfl, _, _, rfl, rfl, ?_⟩
    simp only [cxOf, tYes, eq_self, if_true, if_false, wipe, rLenQ, rIxTQ, rIxLQ, rIxSQ, rInt1Q, rTupQ, rAppQ, rPopQ, rPopAtQ, rRevQ, rListS, rReprP, tLenSetT, tChain, tRetN, tRet, tSeq, tAsg, gName, tVar, tC, tCons, tNil, tCB, tOp, rI0, rI, tAndV, tOrV, tNotV, tIf, tTest, tB, tNot, tAnd, tOr, tIfS, tNext, tCallR, rIsK, rEq, rNe, tDrop, L2.start, List.map_cons, List.map_nil, List.length_cons, List.length_nil, Nat.reduceAdd, Nat.reduceSub, Nat.sub_self, List.replicate_zero, List.replicate_succ, List.append_nil, List.cons_append, List.nil_append, List.getElem?_cons_zero, List.getElem?_cons_succ, List.set_cons_zero, List.set_cons_succ, Option.some.injEq, List.cons.injEq, and_true, true_and, exists_eq_left, exists_eq_left', exists_eq_right, V.ty.injEq, V.int.injEq, V.bl.injEq, V.str.injEq, V.ref.injEq, exists_and_left, exists_const, reduceIte, reduceCtorEq, false_and, and_false, exists_false, or_false, false_or, Bool.not_true, Bool.not_false, Bool.false_eq_true, String.reduceEq, true_or, or_true, rNotT, tNNew, tNNotIn, tNGet, sNPut, tLenSetN, tPar, tAug, ipI, tDNotIn, sDPut, tDGet, tTup, tLst, tBM, tBM0]
    intro d hd
    have s1 := same_upd (o := .dK []) hd
    refine ⟨_, rfl, .ref a, z, rfl, ⟨a, b, c, rfl, Same.sqT s1 h1, Same.sqT s1 h2, Same.sqT s1 h3⟩, fun p Ha sa ha => ⟨p, [], rfl, .inl (.inl ha), for_none (J := Ite K p) ⟨[], .inl (.inl ha), Nat.le_refl _⟩ ?_⟩⟩
    simp only [cxOf, tYes, eq_self, if_true, if_false, wipe, rLenQ, rIxTQ, rIxLQ, rIxSQ, rInt1Q, rTupQ, rAppQ, rPopQ, rPopAtQ, rRevQ, rListS, rReprP, tLenSetT, tChain, tRetN, tRet, tSeq, tAsg, gName, tVar, tC, tCons, tNil, tCB, tOp, rI0, rI, tAndV, tOrV, tNotV, tIf, tTest, tB, tNot, tAnd, tOr, tIfS, tNext, tCallR, rIsK, rEq, rNe, tDrop, L2.start, List.map_cons, List.map_nil, List.length_cons, List.length_nil, Nat.reduceAdd, Nat.reduceSub, Nat.sub_self, List.replicate_zero, List.replicate_succ, List.append_nil, List.cons_append, List.nil_append, List.getElem?_cons_zero, List.getElem?_cons_succ, List.set_cons_zero, List.set_cons_succ, Option.some.injEq, List.cons.injEq, and_true, true_and, exists_eq_left, exists_eq_left', exists_eq_right, V.ty.injEq, V.int.injEq, V.bl.injEq, V.str.injEq, V.ref.injEq, exists_and_left, exists_const, reduceIte, reduceCtorEq, false_and, and_false, exists_false, or_false, false_or, Bool.not_true, Bool.not_false, Bool.false_eq_true, String.reduceEq, true_or, or_true, rNotT, tNNew, tNNotIn, tNGet, sNPut, tLenSetN, tPar, tAug, ipI, tDNotIn, sDPut, tDGet, tTup, tLst, tBM, tBM0]
    have s2 := Same.trans s1 sa
    refine ⟨Nat.zero_le _, fun r hr => ?_⟩
    have s3 := Same.trans s2 (same_upd (o := .lst []) hr)
    have wr : (upd Ha r (.lst [])) r = some (.lst []) := upd_same
    refine ⟨_, rfl, c, [], rfl, Same.sqT s3 h3, for_none (J := IteT K c) ⟨[], Same.sqT s3 h3, Nat.le_refl _⟩ ?_⟩
    simp only [cxOf, tYes, eq_self, if_true, if_false, wipe, rLenQ, rIxTQ, rIxLQ, rIxSQ, rInt1Q, rTupQ, rAppQ, rPopQ, rPopAtQ, rRevQ, rListS, rReprP, tLenSetT, tChain, tRetN, tRet, tSeq, tAsg, gName, tVar, tC, tCons, tNil, tCB, tOp, rI0, rI, tAndV, tOrV, tNotV, tIf, tTest, tB, tNot, tAnd, tOr, tIfS, tNext, tCallR, rIsK, rEq, rNe, tDrop, L2.start, List.map_cons, List.map_nil, List.length_cons, List.length_nil, Nat.reduceAdd, Nat.reduceSub, Nat.sub_self, List.replicate_zero, List.replicate_succ, List.append_nil, List.cons_append, List.nil_append, List.getElem?_cons_zero, List.getElem?_cons_succ, List.set_cons_zero, List.set_cons_succ, Option.some.injEq, List.cons.injEq, and_true, true_and, exists_eq_left, exists_eq_left', exists_eq_right, V.ty.injEq, V.int.injEq, V.bl.injEq, V.str.injEq, V.ref.injEq, exists_and_left, exists_const, reduceIte, reduceCtorEq, false_and, and_false, exists_false, or_false, false_or, Bool.not_true, Bool.not_false, Bool.false_eq_true, String.reduceEq, true_or, or_true, rNotT, tNNew, tNNotIn, tNGet, sNPut, tLenSetN, tPar, tAug, ipI, tDNotIn, sDPut, tDGet, tTup, tLst, tBM, tBM0]
    refine ⟨b, _, rfl, Same.sqT s3 h2, fun kp Hb sb hb => ⟨[], .inl (.inl (sb _ _ wr)), fun tp htp => ⟨szle (m := 3) (Nat.le_refl _), fun u hu => ?_⟩⟩⟩
    have e1 := same_upd (o := .tup []) htp
    have e2 := same_upd (o := .tup [.str z, .ref kp, .ref tp]) hu
    exact q _ _ (Same.trans (Same.trans s3 sb) (Same.trans e1 e2)) ⟨u, kp, tp, rfl, .inl (.inl upd_same), Same.sqT (Same.trans e1 e2) hb, .inl (.inl (e2 _ _ upd_same))⟩
end
end K34

namespace K34
open PySem PySem.Spec PyProof.Rows L2 Sg
section
variable {P : Program} {w : World} {K : PySem.W.Frag} {mg : Str → Option Value} {base : Heap}
theorem sc_check_writer : FnScope ["value"] ["value"] (defScope (topS 30)) := ⟨rfl, rfl, rfl, by decide +kernel, rfl, by decide +kernel, by decide +kernel⟩
theorem bd_check_writer {K : PySem.W.Frag} {f : Addr} {fd : FuncData} (F : FnP K "check_writer" (topS 30) f fd) : Binds K fd ["value"] [] := F.bindsN fun _ _ _ _ _ _ us hl => match us, hl with | [_], _ => rfl
def spCw (K : PySem.W.Frag) : Sp := fun vs H Q _ => ∃ v z, vs = [v] ∧ EWr K H v z ∧ SignsOk z ∧ Q .non H
theorem ok_check_writer (T : Tx K mg) : Dk P w K mg base 4 "check_writer" ["value"] (spCw K) := by
  have D_is_writer_value := ok_is_writer_value (P := P) (w := w) (base := base) T
  obtain ⟨fd, F⟩ := T.d_check_writer
  refine ⟨⟨fd, F.ok sc_check_writer (fun vs H Q E h => ?_) (fun cdv A outer s H vs Q E hr h => ?_), bd_check_writer F⟩, F.kp, T.g_check_writer⟩
  · obtain ⟨v, z, rfl, _⟩ := h
    rfl
  · obtain ⟨v, z, rfl, h1, hz, q⟩ := h
    refine ⟨_, (pss_one (ps_if (pt_not (pt_val (pe_callR D_is_writer_value (hr.mono (by decide)) (takes_of rfl rfl rfl rfl) (pa_cons (pv 0) pa_nil)))) (pss_one (ps_raise rfl (takes_of rfl rfl rfl rfl) (pmk_own PySem.F.excBase_ValueError T.e_BadWriter.ex T.e_BadWriter.gm T.e_BadWriter.kp T.e_BadWriter.rs rfl))) pss_nil)), ?_⟩
    simp only [cxOf, tYes, eq_self, if_true, if_false, wipe, rLenQ, rIxTQ, rIxLQ, rIxSQ, rInt1Q, rTupQ, rAppQ, rPopQ, rPopAtQ, rRevQ, rListS, rReprP, tLenSetT, tChain, tRetN, tRet, tSeq, tAsg, gName, tVar, tC, tCons, tNil, tCB, tOp, rI0, rI, tAndV, tOrV, tNotV, tIf, tTest, tB, tNot, tAnd, tOr, tIfS, tNext, tCallR, rIsK, rEq, rNe, tDrop, L2.start, List.map_cons, List.map_nil, List.length_cons, List.length_nil, Nat.reduceAdd, Nat.reduceSub, Nat.sub_self, List.replicate_zero, List.replicate_succ, List.append_nil, List.cons_append, List.nil_append, List.getElem?_cons_zero, List.getElem?_cons_succ, List.set_cons_zero, List.set_cons_succ, Option.some.injEq, List.cons.injEq, and_true, true_and, exists_eq_left, exists_eq_left', exists_eq_right, V.ty.injEq, V.int.injEq, V.bl.injEq, V.str.injEq, V.ref.injEq, exists_and_left, exists_const, reduceIte, reduceCtorEq, false_and, and_false, exists_false, or_false, false_or, Bool.not_true, Bool.not_false, Bool.false_eq_true, String.reduceEq, true_or, or_true, rNotT, tNNew, tNNotIn, tNGet, sNPut, tLenSetN, tPar, tAug, ipI, tDNotIn, sDPut, tDGet, tTup, tLst, tBM, tBM0]
    exact ⟨v, z, rfl, h1, hz, true, rfl, ifF rfl q⟩
theorem sc_reverse_leads : FnScope ["states", "sources", "at", "state", "to", "_"] ["states"] (defScope (topS 39)) := ⟨rfl, rfl, rfl, by decide +kernel, rfl, by decide +kernel, by decide +kernel⟩
theorem bd_reverse_leads {K : PySem.W.Frag} {f : Addr} {fd : FuncData} (F : FnP K "reverse_leads" (topS 39) f fd) : Binds K fd ["states"] [] := F.bindsN fun _ _ _ _ _ _ us hl => match us, hl with | [_], _ => rfl
def smR (n : Nat) : List LRow := [(1, List.replicate n 0)]
def spRl (K : PySem.W.Frag) : Sp := fun vs H Q _ => ∃ b n, vs = [.ref b] ∧ RRows K H b (smR n) ∧ n ≤ 5 ∧ ∀ l s0 H' k, Same H H' → H' l = some (.lst [.ref s0]) → H' s0 = some (.lst (List.replicate k (.int 0))) → Q (.ref l) H'
theorem ok_reverse_leads (T : Tx K mg) : Dk P w K mg base 1 "reverse_leads" ["states"] (spRl K) := by
  obtain ⟨fd, F⟩ := T.d_reverse_leads
  refine ⟨⟨fd, F.ok sc_reverse_leads (fun vs H Q E h => ?_) (fun cdv A outer s H vs Q E hr h => ?_), bd_reverse_leads F⟩, F.kp, T.g_reverse_leads⟩
  · obtain ⟨b, n, rfl, _⟩ := h
    rfl
  · obtain ⟨b, n, rfl, ⟨xs, hb, hpr⟩, hn, q⟩ := h
    obtain ⟨x0, hx0, a1, c1, rfl, h1, h2⟩ := pr_get' (i := 0) hpr rfl
    have hl := pr_len hpr
    obtain rfl : xs = [.ref a1] := by
      match xs, hl, hx0 with
      | [x], _, e => exact congrArg (fun y => [y]) (Option.some.inj e)
    refine ⟨_, PSs.nox (pss_cons (ps_setLc (i := 1) (own := [("_", 5)]) rfl sc_reverse_leads.nd rfl rfl (sw_true rfl rfl rfl (by decide +kernel)) (pi_tup (pv 0)) (blkOk_by (own := [("_", 5)]) (N := ["states", "sources", "at", "state", "to", "_"]) (sc := defScope (topS 39)) (by decide +kernel)) (fun _ _ _ _ _ => (pg_name (i := 5) sc_reverse_leads.nd rfl (.inl rfl))) (fun _ _ _ _ _ => pts_nil) (fun _ _ _ _ _ => (pe_lst pa_nil)))
      (pss_cons (ps_for PassesOwn.never rfl (pi_enumT (by rfl) T.f_enumerate (pa_cons (pv 0) pa_nil)) (pg_tup (by rfl) (pgs_cons (pg_name (i := 2) sc_reverse_leads.nd rfl (.inl rfl)) (pgs_cons (pg_name (i := 3) sc_reverse_leads.nd rfl (.inl rfl)) pgs_nil))) (pss_one (ps_for PassesOwn.never rfl (pi_tup (pe_ix ix_tupQ (pv 3) pe_int (fun _ _ => rfl))) (pg_name (i := 4) sc_reverse_leads.nd rfl (.inl rfl)) (pss_one (ps_expr (pe_bm PySem.F.plainAttrs_list PySem.F.slot_list_append PySem.F.type_list_append mt_appQ (pe_ix ix_listQ (pv 1) (pv 4) (fun _ _ => rfl)) (pa_cons (pv 2) pa_nil)))))))
      (pss_one (ps_ret (pv 1))))), ?_⟩
    refine seq_with (fun σ H1 => ∃ D s0, Same H H1 ∧ H D = none ∧ H s0 = none ∧ s0 ≠ D ∧ H1 D = some (.lst [.ref s0]) ∧ H1 s0 = some (.lst []) ∧ σ = [some (.ref b), some (.ref D), none, none, none, none]) (fun N tail => ?_) ?_
    · simp only [cxOf, tYes, eq_self, if_true, if_false, wipe, rLenQ, rIxTQ, rIxLQ, rIxSQ, rInt1Q, rTupQ, rAppQ, rPopQ, rPopAtQ, rRevQ, rListS, rReprP, tLenSetT, tChain, tRetN, tRet, tSeq, tAsg, gName, tVar, tC, tCons, tNil, tCB, tOp, rI0, rI, tAndV, tOrV, tNotV, tIf, tTest, tB, tNot, tAnd, tOr, tIfS, tNext, tCallR, rIsK, rEq, rNe, tDrop, L2.start, List.map_cons, List.map_nil, List.length_cons, List.length_nil, Nat.reduceAdd, Nat.reduceSub, Nat.sub_self, List.replicate_zero, List.replicate_succ, List.append_nil, List.cons_append, List.nil_append, List.getElem?_cons_zero, List.getElem?_cons_succ, List.set_cons_zero, List.set_cons_succ, Option.some.injEq, List.cons.injEq, and_true, true_and, exists_eq_left, exists_eq_left', exists_eq_right, V.ty.injEq, V.int.injEq, V.bl.injEq, V.str.injEq, V.ref.injEq, exists_and_left, exists_const, reduceIte, reduceCtorEq, false_and, and_false, exists_false, or_false, false_or, Bool.not_true, Bool.not_false, Bool.false_eq_true, String.reduceEq, true_or, or_true, rNotT, tNNew, tNNotIn, tNGet, sNPut, tLenSetN, tPar, tAug, ipI, tDNotIn, sDPut, tDGet, tTup, tLst, tBM, tBM0]
      refine ⟨_, rfl, b, rfl, ⟨_, hb⟩, fun D hD => ?_⟩
      refine lc_gen (J := Itt K b) (n := 1) (fun i H' => Same H H' ∧ ((i = 0 ∧ H' D = some (.lst [])) ∨ (i = 1 ∧ ∃ s0, H s0 = none ∧ s0 ≠ D ∧ H' D = some (.lst [.ref s0]) ∧ H' s0 = some (.lst [])))) ⟨same_upd hD, .inl ⟨rfl, upd_same⟩⟩ (fun i H' hi e => ⟨_, .ref a1, Same.sqT e.1 hb, by rw [show i = 0 by omega]; rfl⟩) (fun H' e => ⟨_, Same.sqT e.1 hb, Nat.le_refl _⟩) ?_ ?_
      · rintro i x H3 H4 hi ⟨s3, h3⟩ ⟨rfl, _⟩
        obtain rfl : i = 0 := by omega
        have h30 : H4 D = some (.lst []) := by
          rcases h3 with h3 | ⟨h3, _⟩
          · exact h3.2
          · cases h3
        refine ⟨rfl, ?_⟩
        simp only [cxOf, tYes, eq_self, if_true, if_false, wipe, rLenQ, rIxTQ, rIxLQ, rIxSQ, rInt1Q, rTupQ, rAppQ, rPopQ, rPopAtQ, rRevQ, rListS, rReprP, tLenSetT, tChain, tRetN, tRet, tSeq, tAsg, gName, tVar, tC, tCons, tNil, tCB, tOp, rI0, rI, tAndV, tOrV, tNotV, tIf, tTest, tB, tNot, tAnd, tOr, tIfS, tNext, tCallR, rIsK, rEq, rNe, tDrop, L2.start, List.map_cons, List.map_nil, List.length_cons, List.length_nil, Nat.reduceAdd, Nat.reduceSub, Nat.sub_self, List.replicate_zero, List.replicate_succ, List.append_nil, List.cons_append, List.nil_append, List.getElem?_cons_zero, List.getElem?_cons_succ, List.set_cons_zero, List.set_cons_succ, Option.some.injEq, List.cons.injEq, and_true, true_and, exists_eq_left, exists_eq_left', exists_eq_right, V.ty.injEq, V.int.injEq, V.bl.injEq, V.str.injEq, V.ref.injEq, exists_and_left, exists_const, reduceIte, reduceCtorEq, false_and, and_false, exists_false, or_false, false_or, Bool.not_true, Bool.not_false, Bool.false_eq_true, String.reduceEq, true_or, or_true, rNotT, tNNew, tNNotIn, tNGet, sNPut, tLenSetN, tPar, tAug, ipI, tDNotIn, sDPut, tDGet, tTup, tLst, tBM, tBM0]
        refine ⟨Nat.zero_le _, fun p hp => ⟨[], same_upd hp _ _ h30, by rw [sizeLine_eq]; decide, snoc_same hD (Same.trans s3 (same_upd hp)), ?_⟩⟩
        have hpD := ne_of_none h30 hp
        refine ⟨p, s3.free hp, Ne.symm hpD, upd_same, ?_⟩
        rw [upd_ne (Ne.symm hpD)]
        exact upd_same
      · rintro H3 ⟨s3, h3⟩
        rcases h3 with ⟨e, _⟩ | ⟨_, s0, f0, ne, g1, g2⟩
        · cases e
        · exact tail _ _ ⟨D, s0, s3, hD, f0, ne, g1, g2, rfl⟩
    rintro σ H1 ⟨D, s0, s1, hD, hs0, ne, g1, g2, rfl⟩
    simp only [cxOf, tYes, eq_self, if_true, if_false, wipe, rLenQ, rIxTQ, rIxLQ, rIxSQ, rInt1Q, rTupQ, rAppQ, rPopQ, rPopAtQ, rRevQ, rListS, rReprP, tLenSetT, tChain, tRetN, tRet, tSeq, tAsg, gName, tVar, tC, tCons, tNil, tCB, tOp, rI0, rI, tAndV, tOrV, tNotV, tIf, tTest, tB, tNot, tAnd, tOr, tIfS, tNext, tCallR, rIsK, rEq, rNe, tDrop, L2.start, List.map_cons, List.map_nil, List.length_cons, List.length_nil, Nat.reduceAdd, Nat.reduceSub, Nat.sub_self, List.replicate_zero, List.replicate_succ, List.append_nil, List.cons_append, List.nil_append, List.getElem?_cons_zero, List.getElem?_cons_succ, List.set_cons_zero, List.set_cons_succ, Option.some.injEq, List.cons.injEq, and_true, true_and, exists_eq_left, exists_eq_left', exists_eq_right, V.ty.injEq, V.int.injEq, V.bl.injEq, V.str.injEq, V.ref.injEq, exists_and_left, exists_const, reduceIte, reduceCtorEq, false_and, and_false, exists_false, or_false, false_or, Bool.not_true, Bool.not_false, Bool.false_eq_true, String.reduceEq, true_or, or_true, rNotT, tNNew, tNNotIn, tNGet, sNPut, tLenSetN, tPar, tAug, ipI, tDNotIn, sDPut, tDGet, tTup, tLst, tBM, tBM0]
    refine ⟨_, rfl, b, [.ref a1], rfl, Same.sqT s1 hb, ?_⟩
    refine for_gen (J := IteT K b) (n := 1) (fun i σ H' => ∃ k x2 x3 x4, k ≤ 5 * i ∧ Same H H' ∧ H' D = some (.lst [.ref s0]) ∧ H' s0 = some (.lst (List.replicate k (.int 0))) ∧ σ = [some (.ref b), some (.ref D), x2, x3, x4, none]) ⟨0, _, _, _, Nat.le_refl _, s1, g1, g2, rfl⟩ ?_ ?_ ?_ ?_
    · rintro i σ H' hi ⟨k, x2, x3, x4, hk, s2, g3, g4, rfl⟩
      exact ⟨_, .ref a1, Same.sqT s2 hb, by rw [show i = 0 by omega]; rfl⟩
    · rintro σ H' ⟨k, x2, x3, x4, hk, s2, g3, g4, rfl⟩
      exact ⟨_, Same.sqT s2 hb, Nat.le_refl _⟩
    · rintro i x σ H' H'' hi ⟨k, x2, x3, x4, hk, s2, g3, g4, rfl⟩ ⟨T1, y, rfl, hT, rfl, hy⟩
      obtain rfl : i = 0 := by omega
      obtain rfl : y = .ref a1 := (Option.some.inj (hy _ (Same.sqT s2 hb))).symm
      simp only [cxOf, tYes, eq_self, if_true, if_false, wipe, rLenQ, rIxTQ, rIxLQ, rIxSQ, rInt1Q, rTupQ, rAppQ, rPopQ, rPopAtQ, rRevQ, rListS, rReprP, tLenSetT, tChain, tRetN, tRet, tSeq, tAsg, gName, tVar, tC, tCons, tNil, tCB, tOp, rI0, rI, tAndV, tOrV, tNotV, tIf, tTest, tB, tNot, tAnd, tOr, tIfS, tNext, tCallR, rIsK, rEq, rNe, tDrop, L2.start, List.map_cons, List.map_nil, List.length_cons, List.length_nil, Nat.reduceAdd, Nat.reduceSub, Nat.sub_self, List.replicate_zero, List.replicate_succ, List.append_nil, List.cons_append, List.nil_append, List.getElem?_cons_zero, List.getElem?_cons_succ, List.set_cons_zero, List.set_cons_succ, Option.some.injEq, List.cons.injEq, and_true, true_and, exists_eq_left, exists_eq_left', exists_eq_right, V.ty.injEq, V.int.injEq, V.bl.injEq, V.str.injEq, V.ref.injEq, exists_and_left, exists_const, reduceIte, reduceCtorEq, false_and, and_false, exists_false, or_false, false_or, Bool.not_true, Bool.not_false, Bool.false_eq_true, String.reduceEq, true_or, or_true, rNotT, tNNew, tNNotIn, tNGet, sNPut, tLenSetN, tPar, tAug, ipI, tDNotIn, sDPut, tDGet, tTup, tLst, tBM, tBM0]
      have sT := same_upd (o := .tup [V.int (((0 : Nat) : Int)), .ref a1]) hT
      refine ⟨T1, _, rfl, .inl (.inl upd_same), rfl, _, _, rfl, _, _, rfl, rfl, ?_⟩
      simp only [cxOf, tYes, eq_self, if_true, if_false, wipe, rLenQ, rIxTQ, rIxLQ, rIxSQ, rInt1Q, rTupQ, rAppQ, rPopQ, rPopAtQ, rRevQ, rListS, rReprP, tLenSetT, tChain, tRetN, tRet, tSeq, tAsg, gName, tVar, tC, tCons, tNil, tCB, tOp, rI0, rI, tAndV, tOrV, tNotV, tIf, tTest, tB, tNot, tAnd, tOr, tIfS, tNext, tCallR, rIsK, rEq, rNe, tDrop, L2.start, List.map_cons, List.map_nil, List.length_cons, List.length_nil, Nat.reduceAdd, Nat.reduceSub, Nat.sub_self, List.replicate_zero, List.replicate_succ, List.append_nil, List.cons_append, List.nil_append, List.getElem?_cons_zero, List.getElem?_cons_succ, List.set_cons_zero, List.set_cons_succ, Option.some.injEq, List.cons.injEq, and_true, true_and, exists_eq_left, exists_eq_left', exists_eq_right, V.ty.injEq, V.int.injEq, V.bl.injEq, V.str.injEq, V.ref.injEq, exists_and_left, exists_const, reduceIte, reduceCtorEq, false_and, and_false, exists_false, or_false, false_or, Bool.not_true, Bool.not_false, Bool.false_eq_true, String.reduceEq, true_or, or_true, rNotT, tNNew, tNNotIn, tNGet, sNPut, tLenSetN, tPar, tAug, ipI, tDNotIn, sDPut, tDGet, tTup, tLst, tBM, tBM0]
      have sA := Same.trans s2 sT
      refine ⟨_, rfl, _, _, Same.sqT sA h1, rfl, c1, rfl, ⟨_, Same.sqT sA h2⟩, ?_⟩
      refine for_tup (K := K) (a := c1) (xs := (List.replicate n (0 : Int)).map V.int) (fun j σ H2 => ∃ k x4, k ≤ j ∧ Same H H2 ∧ H2 D = some (.lst [.ref s0]) ∧ H2 s0 = some (.lst (List.replicate k (.int 0))) ∧ σ = [some (.ref b), some (.ref D), some (.int 0), some (.ref a1), x4, none]) ⟨0, _, Nat.le_refl _, sA, sT _ _ g3, ?_, rfl⟩ ?_ ?_ ?_
      · obtain rfl : k = 0 := by omega
        exact sT _ _ g4
      · rintro j σ H2 hj ⟨k, x4, hk, s3, g5, g6, rfl⟩
        exact Same.sqT s3 h2
      · rintro j x σ H2 hj ⟨k, x4, hk, s3, g5, g6, rfl⟩
        have hx : x = .int 0 := by
          have hm := List.mem_of_getElem? hj
          rw [List.map_replicate] at hm
          exact (List.mem_replicate.mp hm).2
        have hjn : j < 5 := by
          have := (List.getElem?_eq_some_iff.mp hj).1
          rw [List.length_map, List.length_replicate] at this
          omega
        subst hx
        simp only [cxOf, tYes, eq_self, if_true, if_false, wipe, rLenQ, rIxTQ, rIxLQ, rIxSQ, rInt1Q, rTupQ, rAppQ, rPopQ, rPopAtQ, rRevQ, rListS, rReprP, tLenSetT, tChain, tRetN, tRet, tSeq, tAsg, gName, tVar, tC, tCons, tNil, tCB, tOp, rI0, rI, tAndV, tOrV, tNotV, tIf, tTest, tB, tNot, tAnd, tOr, tIfS, tNext, tCallR, rIsK, rEq, rNe, tDrop, L2.start, List.map_cons, List.map_nil, List.length_cons, List.length_nil, Nat.reduceAdd, Nat.reduceSub, Nat.sub_self, List.replicate_zero, List.replicate_succ, List.append_nil, List.cons_append, List.nil_append, List.getElem?_cons_zero, List.getElem?_cons_succ, List.set_cons_zero, List.set_cons_succ, Option.some.injEq, List.cons.injEq, and_true, true_and, exists_eq_left, exists_eq_left', exists_eq_right, V.ty.injEq, V.int.injEq, V.bl.injEq, V.str.injEq, V.ref.injEq, exists_and_left, exists_const, reduceIte, reduceCtorEq, false_and, and_false, exists_false, or_false, false_or, Bool.not_true, Bool.not_false, Bool.false_eq_true, String.reduceEq, true_or, or_true, rNotT, tNNew, tNNotIn, tNGet, sNPut, tLenSetN, tPar, tAug, ipI, tDNotIn, sDPut, tDGet, tTup, tLst, tBM, tBM0]
        refine ⟨_, .inl (.inl g5), .ref s0, rfl, lst_ty g6, _, g6, by rw [List.length_replicate]; exact szlt (m := 10) (by omega), k + 1, by omega, snoc_same hs0 s3, by rw [upd_ne (Ne.symm ne)]; exact g5, ?_, _, rfl⟩
        rw [upd_same, List.replicate_succ']
      · rintro σ H2 ⟨k, x4, hk, s3, g5, g6, rfl⟩
        refine ⟨k, ?_, s3, g5, g6, _, _, _, rfl⟩
        rw [List.length_map, List.length_replicate] at hk
        omega
    · rintro σ H' ⟨k, x2, x3, x4, hk, s2, g3, g4, rfl⟩
      exact ⟨_, rfl, q D s0 _ _ s2 g3 g4⟩
theorem sc_live_states : FnScope ["states", "sources", "live", "waiting", "source", "state", "at"] ["states"] (defScope (topS 40)) := ⟨rfl, rfl, rfl, by decide +kernel, rfl, by decide +kernel, by decide +kernel⟩
theorem bd_live_states {K : PySem.W.Frag} {f : Addr} {fd : FuncData} (F : FnP K "live_states" (topS 40) f fd) : Binds K fd ["states"] [] := F.bindsN fun _ _ _ _ _ _ us hl => match us, hl with | [_], _ => rfl
def spLs2 (K : PySem.W.Frag) : Sp := fun vs H Q _ => ∃ b n, vs = [.ref b] ∧ RRows K H b (smR n) ∧ n ≤ 5 ∧ ∀ l H', Same H H' → H' l = some (.lst [.bl true]) → Q (.ref l) H'
theorem ok_live_states (T : Tx K mg) : Dk P w K mg base 2 "live_states" ["states"] (spLs2 K) := by
  have D_reverse_leads := ok_reverse_leads (P := P) (w := w) (base := base) T
  obtain ⟨fd, F⟩ := T.d_live_states
  refine ⟨⟨fd, F.ok sc_live_states (fun vs H Q E h => ?_) (fun cdv A outer s H vs Q E hr h => ?_), bd_live_states F⟩, F.kp, T.g_live_states⟩
  · obtain ⟨b, n, rfl, _⟩ := h
    rfl
  · obtain ⟨b, n, rfl, hb, hn, q⟩ := h
    refine ⟨_, PSs.nox (pss_cons (ps_set (i := 1) sc_live_states.nd rfl (.inl rfl) (pe_callR D_reverse_leads (hr.mono (by decide)) takes0 (pa_cons (pv 0) pa_nil)))
      (pss_cons (ps_setLc (i := 2) (own := [("state", 5)]) rfl sc_live_states.nd rfl rfl (sw_true rfl rfl rfl (by decide +kernel)) (pi_tup (pv 0)) (blkOk_by (own := [("state", 5)]) (N := ["states", "sources", "live", "waiting", "source", "state", "at"]) (sc := defScope (topS 40)) (by decide +kernel)) (fun _ _ _ _ _ => (pg_name (i := 5) sc_live_states.nd rfl (.inl rfl))) (fun _ _ _ _ _ => pts_nil) (fun _ _ _ _ _ => (pe_cmpR op_eq (pe_ix (show IxR _ (rIxTQ K) by exact ix_tupQ) (pv 5) pe_int (fun _ _ => rfl)) pe_int (nomark _))))
      (pss_cons (ps_setLc (i := 3) (own := [("at", 6), ("state", 5)]) rfl sc_live_states.nd rfl rfl (sw_true rfl rfl rfl (by decide +kernel)) (pi_enumT (by rfl) T.f_enumerate (pa_cons (pv 0) pa_nil)) (blkOk_by (own := [("at", 6), ("state", 5)]) (N := ["states", "sources", "live", "waiting", "source", "state", "at"]) (sc := defScope (topS 40)) (by decide +kernel)) (fun _ _ _ _ _ => (show PG _ _ (gTup K 2 _) by exact pg_tup (by rfl) (pgs_cons (pg_name (i := 6) sc_live_states.nd rfl (.inl rfl)) (pgs_cons (pg_name (i := 5) sc_live_states.nd rfl (.inl rfl)) pgs_nil)))) (fun _ _ _ _ _ => (pts_one (pt_cmpR op_eq (pe_ix (show IxR _ (rIxTQ K) by exact ix_tupQ) (pv 5) pe_int (fun _ _ => rfl)) pe_int (nomark _)))) (fun _ _ _ _ _ => (pv 6)))
      (pss_cons (ps_while PassesOwn.never (pt_truth (pv 3) (by intro _; rfl)) (pss_one (ps_for PassesOwn.never rfl (pi_list (pe_ix ix_listQ (pv 1) (pe_bm0 PySem.F.plainAttrs_list PySem.F.slot_list_pop PySem.F.type_list_pop mt_popQ (pv 3)) (fun _ _ => rfl))) (pg_name (i := 4) sc_live_states.nd rfl (.inl rfl)) (pss_one (ps_if (pt_not (pt_val (pe_ix ix_listQ (pv 2) (pv 4) (fun _ _ => rfl)))) (pss_cons (ps_asg pe_bl (pg_sub (pv 2) (pv 4) set_list))
      (pss_one (ps_expr (pe_bm PySem.F.plainAttrs_list PySem.F.slot_list_append PySem.F.type_list_append mt_appQ (pv 3) (pa_cons (pv 4) pa_nil))))) pss_nil)))))
      (pss_one (ps_ret (pv 2))))))), ?_⟩
    simp only [cxOf, tYes, eq_self, if_true, if_false, wipe, rLenQ, rIxTQ, rIxLQ, rIxSQ, rInt1Q, rTupQ, rAppQ, rPopQ, rPopAtQ, rRevQ, rListS, rReprP, tLenSetT, tChain, tRetN, tRet, tSeq, tAsg, gName, tVar, tC, tCons, tNil, tCB, tOp, rI0, rI, tAndV, tOrV, tNotV, tIf, tTest, tB, tNot, tAnd, tOr, tIfS, tNext, tCallR, rIsK, rEq, rNe, tDrop, L2.start, List.map_cons, List.map_nil, List.length_cons, List.length_nil, Nat.reduceAdd, Nat.reduceSub, Nat.sub_self, List.replicate_zero, List.replicate_succ, List.append_nil, List.cons_append, List.nil_append, List.getElem?_cons_zero, List.getElem?_cons_succ, List.set_cons_zero, List.set_cons_succ, Option.some.injEq, List.cons.injEq, and_true, true_and, exists_eq_left, exists_eq_left', exists_eq_right, V.ty.injEq, V.int.injEq, V.bl.injEq, V.str.injEq, V.ref.injEq, exists_and_left, exists_const, reduceIte, reduceCtorEq, false_and, and_false, exists_false, or_false, false_or, Bool.not_true, Bool.not_false, Bool.false_eq_true, String.reduceEq, true_or, or_true, rNotT, tNNew, tNNotIn, tNGet, sNPut, tLenSetN, tPar, tAug, ipI, tDNotIn, sDPut, tDGet, tTup, tLst, tBM, tBM0]
    refine ⟨b, n, rfl, hb, hn, fun l s0 H1 k s1 g1 g2 => ?_⟩
    obtain ⟨xs, hb, hpr⟩ := hb
    obtain ⟨x0, hx0, a1, c1, rfl, h1, h2⟩ := pr_get' (i := 0) hpr rfl
    have hl := pr_len hpr
    obtain rfl : xs = [.ref a1] := by
      match xs, hl, hx0 with
      | [x], _, e => exact congrArg (fun y => [y]) (Option.some.inj e)
    refine ⟨_, rfl, b, rfl, ⟨_, Same.sqT s1 hb⟩, fun D hD => ?_⟩
    refine lc_gen (J := Itt K b) (n := 1) (fun i H' => Same H1 H' ∧ ((i = 0 ∧ H' D = some (.lst [])) ∨ (i = 1 ∧ H' D = some (.lst [.bl true])))) ⟨same_upd hD, .inl ⟨rfl, upd_same⟩⟩ (fun i H' hi e => ⟨_, .ref a1, Same.sqT (Same.trans s1 e.1) hb, by rw [show i = 0 by omega]; rfl⟩) (fun H' e => ⟨_, Same.sqT (Same.trans s1 e.1) hb, Nat.le_refl _⟩) ?_ ?_
    · rintro i x H3 H4 hi ⟨s3, h3⟩ ⟨rfl, hx⟩
      obtain rfl : i = 0 := by omega
      have h3 : H4 D = some (.lst []) := by
        rcases h3 with h3 | ⟨h3, _⟩
        · exact h3.2
        · cases h3
      obtain rfl : x = .ref a1 := (Option.some.inj (hx _ (Same.sqT (Same.trans s1 s3) hb))).symm
      refine ⟨rfl, ?_⟩
      simp only [cxOf, tYes, eq_self, if_true, if_false, wipe, rLenQ, rIxTQ, rIxLQ, rIxSQ, rInt1Q, rTupQ, rAppQ, rPopQ, rPopAtQ, rRevQ, rListS, rReprP, tLenSetT, tChain, tRetN, tRet, tSeq, tAsg, gName, tVar, tC, tCons, tNil, tCB, tOp, rI0, rI, tAndV, tOrV, tNotV, tIf, tTest, tB, tNot, tAnd, tOr, tIfS, tNext, tCallR, rIsK, rEq, rNe, tDrop, L2.start, List.map_cons, List.map_nil, List.length_cons, List.length_nil, Nat.reduceAdd, Nat.reduceSub, Nat.sub_self, List.replicate_zero, List.replicate_succ, List.append_nil, List.cons_append, List.nil_append, List.getElem?_cons_zero, List.getElem?_cons_succ, List.set_cons_zero, List.set_cons_succ, Option.some.injEq, List.cons.injEq, and_true, true_and, exists_eq_left, exists_eq_left', exists_eq_right, V.ty.injEq, V.int.injEq, V.bl.injEq, V.str.injEq, V.ref.injEq, exists_and_left, exists_const, reduceIte, reduceCtorEq, false_and, and_false, exists_false, or_false, false_or, Bool.not_true, Bool.not_false, Bool.false_eq_true, String.reduceEq, true_or, or_true, rNotT, tNNew, tNNotIn, tNGet, sNPut, tLenSetN, tPar, tAug, ipI, tDNotIn, sDPut, tDGet, tTup, tLst, tBM, tBM0]
      exact ⟨_, Same.sqT (Same.trans s1 s3) h1, .int 1, rfl, rfl, [], h3, by rw [sizeLine_eq]; decide, snoc_same hD s3, by rw [upd_same, decide_eq_true rfl]; rfl⟩
    rintro H3 ⟨s3, h3⟩
    have h3 : H3 D = some (.lst [.bl true]) := by
      rcases h3 with ⟨h3, _⟩ | h3
      · cases h3
      · exact h3.2
    have s4 := Same.trans s1 s3
    refine ⟨_, rfl, b, _, rfl, Same.sqT s4 hb, fun D2 hD2 => ?_⟩
    refine lc_gen (J := IteT K b) (n := 1) (fun i H' => Same H3 H' ∧ ((i = 0 ∧ H' D2 = some (.lst [])) ∨ (i = 1 ∧ H' D2 = some (.lst [.int 0])))) ⟨same_upd hD2, .inl ⟨rfl, upd_same⟩⟩ (fun i H' hi e => ⟨_, .ref a1, Same.sqT (Same.trans s4 e.1) hb, by rw [show i = 0 by omega]; rfl⟩) (fun H' e => ⟨_, Same.sqT (Same.trans s4 e.1) hb, Nat.le_refl _⟩) ?_ ?_
    · rintro i x H5 H6 hi ⟨s5, h5⟩ ⟨T1, y, rfl, hT, rfl, hy⟩
      obtain rfl : i = 0 := by omega
      have h5 : H5 D2 = some (.lst []) := by
        rcases h5 with h5 | ⟨h5, _⟩
        · exact h5.2
        · cases h5
      obtain rfl : y = .ref a1 := (Option.some.inj (hy _ (Same.sqT (Same.trans s4 s5) hb))).symm
      have sT := same_upd (o := .tup [V.int (((0 : Nat) : Int)), .ref a1]) hT
      refine ⟨T1, _, rfl, .inl (.inl upd_same), rfl, ?_⟩
      simp only [cxOf, tYes, eq_self, if_true, if_false, wipe, rLenQ, rIxTQ, rIxLQ, rIxSQ, rInt1Q, rTupQ, rAppQ, rPopQ, rPopAtQ, rRevQ, rListS, rReprP, tLenSetT, tChain, tRetN, tRet, tSeq, tAsg, gName, tVar, tC, tCons, tNil, tCB, tOp, rI0, rI, tAndV, tOrV, tNotV, tIf, tTest, tB, tNot, tAnd, tOr, tIfS, tNext, tCallR, rIsK, rEq, rNe, tDrop, L2.start, List.map_cons, List.map_nil, List.length_cons, List.length_nil, Nat.reduceAdd, Nat.reduceSub, Nat.sub_self, List.replicate_zero, List.replicate_succ, List.append_nil, List.cons_append, List.nil_append, List.getElem?_cons_zero, List.getElem?_cons_succ, List.set_cons_zero, List.set_cons_succ, Option.some.injEq, List.cons.injEq, and_true, true_and, exists_eq_left, exists_eq_left', exists_eq_right, V.ty.injEq, V.int.injEq, V.bl.injEq, V.str.injEq, V.ref.injEq, exists_and_left, exists_const, reduceIte, reduceCtorEq, false_and, and_false, exists_false, or_false, false_or, Bool.not_true, Bool.not_false, Bool.false_eq_true, String.reduceEq, true_or, or_true, rNotT, tNNew, tNNotIn, tNGet, sNPut, tLenSetN, tPar, tAug, ipI, tDNotIn, sDPut, tDGet, tTup, tLst, tBM, tBM0]
      refine ⟨_, _, rfl, _, _, rfl, rfl, rfl, _, rfl, _, Same.sqT (Same.trans (Same.trans s4 s5) sT) h1, .int 1, rfl, rfl, ifT rfl ?_⟩
      exact ⟨_, rfl, [], sT _ _ h5, by rw [sizeLine_eq]; decide, snoc_same hD2 (Same.trans s5 sT), upd_same⟩
    rintro H5 ⟨s5, h5⟩
    have h5 : H5 D2 = some (.lst [.int 0]) := by
      rcases h5 with ⟨h5, _⟩ | h5
      · cases h5
      · exact h5.2
    have s6 := Same.trans s4 s5
    have hD0 : H D2 = none := s4.free hD2
    have hlD : H5 l = some (.lst [.ref s0]) := s5 _ _ (s3 _ _ g1)
    have hsD : H5 s0 = some (.lst (List.replicate k (.int 0))) := s5 _ _ (s3 _ _ g2)
    have hDD : H5 D = some (.lst [.bl true]) := s5 _ _ h3
    have nel : l ≠ D2 := ne_of_none (s3 _ _ g1) hD2
    have nes : s0 ≠ D2 := ne_of_none (s3 _ _ g2) hD2
    have neD : D ≠ D2 := ne_of_none h3 hD2
    refine ⟨fun m σ H' => But D2 H5 H' ∧ (∃ x4, σ = [some (.ref b), some (.ref l), some (.ref D), some (.ref D2), x4, none, none]) ∧ ((m = 1 ∧ H' D2 = some (.lst [.int 0])) ∨ (m = 0 ∧ H' D2 = some (.lst []))), ⟨1, But.refl _ _, ⟨_, rfl⟩, .inl ⟨rfl, h5⟩⟩, ?_⟩
    rintro m σ H' ⟨b5, ⟨x4, rfl⟩, ⟨rfl, h6⟩ | ⟨rfl, h6⟩⟩
    · refine ⟨_, rfl, true, .inl ⟨_, .inl (.inl h6), rfl⟩, ?_⟩
      refine ifT (c := true) rfl ?_
      refine ⟨fun σ H' => But D2 H5 H' ∧ (∃ x4, σ = [some (.ref b), some (.ref l), some (.ref D), some (.ref D2), x4, none, none]) ∧ H' D2 = some (.lst []), fun σ' H' e => ⟨0, by decide, e.1, e.2.1, .inr ⟨rfl, e.2.2⟩⟩, ?_⟩
      have gl : (upd H' D2 (.lst [])) l = some (.lst [.ref s0]) := by rw [upd_ne nel]; exact b5 l _ nel hlD
      have gs : (upd H' D2 (.lst [])) s0 = some (.lst (List.replicate k (.int 0))) := by rw [upd_ne nes]; exact b5 s0 _ nes hsD
      have gD : (upd H' D2 (.lst [])) D = some (.lst [.bl true]) := by rw [upd_ne neD]; exact b5 D _ neD hDD
      refine ⟨_, rfl, _, rfl, lst_ty h6, [], .int 0, h6, _, .ref s0, .inl (.inl gl), rfl, s0, rfl, ⟨_, .inl (.inl gs)⟩, ?_⟩
      refine for_list (K := K) (a := s0) (xs := List.replicate k (.int 0)) (fun j σ H2 => H2 = upd H' D2 (.lst []) ∧ ∃ x4, σ = [some (.ref b), some (.ref l), some (.ref D), some (.ref D2), x4, none, none]) ⟨rfl, _, rfl⟩ (fun j σ H2 _ e => by rw [e.1]; exact .inl (.inl gs)) ?_ ?_
      · rintro j x σ H2 hj ⟨rfl, x4, rfl⟩
        obtain rfl := (List.mem_replicate.mp (List.mem_of_getElem? hj)).2
        simp only [cxOf, tYes, eq_self, if_true, if_false, wipe, rLenQ, rIxTQ, rIxLQ, rIxSQ, rInt1Q, rTupQ, rAppQ, rPopQ, rPopAtQ, rRevQ, rListS, rReprP, tLenSetT, tChain, tRetN, tRet, tSeq, tAsg, gName, tVar, tC, tCons, tNil, tCB, tOp, rI0, rI, tAndV, tOrV, tNotV, tIf, tTest, tB, tNot, tAnd, tOr, tIfS, tNext, tCallR, rIsK, rEq, rNe, tDrop, L2.start, List.map_cons, List.map_nil, List.length_cons, List.length_nil, Nat.reduceAdd, Nat.reduceSub, Nat.sub_self, List.replicate_zero, List.replicate_succ, List.append_nil, List.cons_append, List.nil_append, List.getElem?_cons_zero, List.getElem?_cons_succ, List.set_cons_zero, List.set_cons_succ, Option.some.injEq, List.cons.injEq, and_true, true_and, exists_eq_left, exists_eq_left', exists_eq_right, V.ty.injEq, V.int.injEq, V.bl.injEq, V.str.injEq, V.ref.injEq, exists_and_left, exists_const, reduceIte, reduceCtorEq, false_and, and_false, exists_false, or_false, false_or, Bool.not_true, Bool.not_false, Bool.false_eq_true, String.reduceEq, true_or, or_true, rNotT, tNNew, tNNotIn, tNGet, sNPut, tLenSetN, tPar, tAug, ipI, tDNotIn, sDPut, tDGet, tTup, tLst, tBM, tBM0]
        exact ⟨_, .inl (.inl gD), .bl true, rfl, true, rfl, ifF rfl ⟨_, rfl⟩⟩
      · rintro σ H2 ⟨rfl, x4, rfl⟩
        exact ⟨b5.trans But.upd, ⟨_, rfl⟩, upd_same⟩
    · refine ⟨_, rfl, false, .inl ⟨_, .inl (.inl h6), rfl⟩, ?_⟩
      refine ifF (c := false) rfl ?_
      exact ⟨_, rfl, q D _ (fun c o hc => b5 c o (ne_of_none hc hD0) (s6 c o hc)) (b5 D _ neD hDD)⟩
theorem sc_Numbering_m___init__ : FnScope ["self", "most", "what"] ["self", "most", "what"] (defScope (clsAt (topS 33) 0)) := ⟨rfl, rfl, rfl, by decide +kernel, rfl, by decide +kernel, by decide +kernel⟩
theorem pl {f : Str} {y : V} {fs : List (Str × V)} {k : Nat} (h : fs.length ≤ k) : (putF f y fs).length ≤ k + 1 := Nat.le_trans (length_putF f y fs) (Nat.succ_le_succ h)
def nbF (m u : V) (lo d : Addr) : List (Str × V) := putF "places" (.ref d) (putF "order" (.ref lo) (putF "what" u (putF "most" m [])))
def spNi (K : PySem.W.Frag) : Sp := fun vs H Q _ => ∃ x dx m u, vs = [.ref x, m, u] ∧ H x = some (.ins (He.ga K "Numbering") dx []) ∧ ∀ lo d H', (∀ b o, b ≠ x → H b = some o → H' b = some o) → H' x = some (.ins (He.ga K "Numbering") dx (nbF m u lo d)) → H' lo = some (.lst []) → Q .non H'
theorem ok_Numbering_m___init__ (T : Tx K mg) : DkM P w K mg base 1 "Numbering" "__init__" ["self", "most", "what"] [.str "states"] (spNi K) := by
  obtain ⟨fd, F⟩ := T.d_Numbering_m___init__
  have B : ∃ ds, Vals [V.str "states"] ds ∧ Binds K fd ["self", "most", "what"] ds := F.binds1 (n := 2) (j := 0) (by decide) (by rfl) fun T kV doc pm an cdv ct us its hu hi => match us, its, hu, hi with | [_, _], [_], _, _ => ⟨_, rfl, rfl⟩
  obtain ⟨ds, hd, hb⟩ := B
  refine ⟨⟨fd, ds, F.ok sc_Numbering_m___init__ (fun vs H Q E h => ?_) (fun cdv A outer s H vs Q E hr h => ?_), hb, hd⟩⟩
  · obtain ⟨x, dx, m, u, rfl, _⟩ := h
    rfl
  · obtain ⟨x, dx, m, u, rfl, h1, q⟩ := h
    refine ⟨_, PSs.nox (pss_cons (ps_fld (pv 0) (pv 1) rfl)
      (pss_cons (ps_fld (pv 0) (pv 2) rfl)
      (pss_cons (ps_fld (pv 0) (pe_lst pa_nil) rfl)
      (pss_one (ps_fld (pv 0) pe_dnewK rfl))))), ?_⟩
    simp only [cxOf, tYes, eq_self, if_true, if_false, wipe, rLenQ, rIxTQ, rIxLQ, rIxSQ, rInt1Q, rTupQ, rAppQ, rPopQ, rPopAtQ, rRevQ, rListS, rReprP, tLenSetT, tChain, tRetN, tRet, tSeq, tAsg, gName, tVar, tC, tCons, tNil, tCB, tOp, rI0, rI, tAndV, tOrV, tNotV, tIf, tTest, tB, tNot, tAnd, tOr, tIfS, tNext, tCallR, rIsK, rEq, rNe, tDrop, L2.start, List.map_cons, List.map_nil, List.length_cons, List.length_nil, Nat.reduceAdd, Nat.reduceSub, Nat.sub_self, List.replicate_zero, List.replicate_succ, List.append_nil, List.cons_append, List.nil_append, List.getElem?_cons_zero, List.getElem?_cons_succ, List.set_cons_zero, List.set_cons_succ, Option.some.injEq, List.cons.injEq, and_true, true_and, exists_eq_left, exists_eq_left', exists_eq_right, V.ty.injEq, V.int.injEq, V.bl.injEq, V.str.injEq, V.ref.injEq, exists_and_left, exists_const, reduceIte, reduceCtorEq, false_and, and_false, exists_false, or_false, false_or, Bool.not_true, Bool.not_false, Bool.false_eq_true, String.reduceEq, true_or, or_true, rNotT, tNNew, tNNotIn, tNGet, sNPut, tLenSetN, tPar, tAug, ipI, tDNotIn, sDPut, tDGet, tTup, tLst, tBM, tBM0]
    refine ⟨_, rfl, _, rfl, x, _, dx, [], rfl, h1, T.cl_Numbering, T.na_Numbering_most, by decide, ?_⟩
    refine ⟨_, rfl, _, rfl, x, _, dx, _, rfl, upd_same, T.cl_Numbering, T.na_Numbering_what, Nat.lt_of_le_of_lt (pl (Nat.zero_le 0)) (by decide), ?_⟩
    refine ⟨Nat.zero_le _, fun lo hlo => ?_⟩
    have e2 : (upd (upd H x (.ins (He.ga K "Numbering") dx (putF "most" m []))) x (.ins (He.ga K "Numbering") dx (putF "what" u (putF "most" m [])))) x = some (.ins (He.ga K "Numbering") dx (putF "what" u (putF "most" m []))) := upd_same
    have nlo : x ≠ lo := ne_of_none e2 hlo
    refine ⟨_, rfl, x, _, dx, _, rfl, same_upd hlo _ _ e2, T.cl_Numbering, T.na_Numbering_order, Nat.lt_of_le_of_lt (pl (pl (Nat.zero_le 0))) (by decide), ?_⟩
    refine fun d hd => ⟨_, rfl, x, _, dx, _, rfl, same_upd hd _ _ upd_same, T.cl_Numbering, T.na_Numbering_places, Nat.lt_of_le_of_lt (pl (pl (pl (Nat.zero_le 0)))) (by decide), ?_⟩
    have e4 : ∀ o : HO, (upd (upd (upd (upd H x (.ins (He.ga K "Numbering") dx (putF "most" m []))) x (.ins (He.ga K "Numbering") dx (putF "what" u (putF "most" m [])))) lo (.lst [])) x o) lo = some (.lst []) := fun o => by
      rw [upd_ne (Ne.symm nlo), upd_same]
    have nld : lo ≠ d := ne_of_none (e4 _) hd
    refine q lo d _ (fun b o hb hbo => ?_) upd_same ?_
    · have k2 : ∀ o1 o2 : HO, (upd (upd H x o1) x o2) b = some o := fun o1 o2 => by rw [upd_ne hb, upd_ne hb]; exact hbo
      have nbl : b ≠ lo := ne_of_none (k2 _ _) hlo
      have k4 : ∀ o1 o2 o3 o4 : HO, (upd (upd (upd (upd H x o1) x o2) lo o3) x o4) b = some o := fun o1 o2 o3 o4 => by rw [upd_ne hb, upd_ne nbl]; exact k2 _ _
      rw [upd_ne hb, upd_ne (ne_of_none (k4 _ _ _ _) hd)]
      exact k4 _ _ _ _
    · rw [upd_ne (Ne.symm nlo), upd_ne nld]
      exact e4 _
theorem sc_Numbering_m_met : FnScope ["self"] ["self"] (defScope (clsAt (topS 33) 2)) := ⟨rfl, rfl, rfl, by decide +kernel, rfl, by decide +kernel, by decide +kernel⟩
theorem bd_Numbering_m_met {K : PySem.W.Frag} {fd : FuncData} (F : FnM K "Numbering" "met" "Numbering.met" (clsAt (topS 33) 2) [] fd) : Binds K fd ["self"] [] := F.bindsN fun _ _ _ _ _ _ us hl => match us, hl with | [_], _ => rfl
def spNm (K : PySem.W.Frag) : Sp := fun vs H Q _ => ∃ x dx m u lo d, vs = [.ref x] ∧ H x = some (.ins (He.ga K "Numbering") dx (nbF m u lo d)) ∧ H lo = some (.lst []) ∧ Q (.int 0) H
theorem ok_Numbering_m_met (T : Tx K mg) : DkM P w K mg base 1 "Numbering" "met" ["self"] [] (spNm K) := by
  obtain ⟨fd, F⟩ := T.d_Numbering_m_met
  refine ⟨⟨fd, [], F.ok sc_Numbering_m_met (fun vs H Q E h => ?_) (fun cdv A outer s H vs Q E hr h => ?_), bd_Numbering_m_met F, .nil⟩⟩
  · obtain ⟨x, dx, m, u, lo, d, rfl, _⟩ := h
    rfl
  · obtain ⟨x, dx, m, u, lo, d, rfl, h1, h2, q⟩ := h
    refine ⟨_, PSs.nox (pss_one (ps_ret (pe_callB call_lenQ (by rfl) T.f_len PySem.boot_len (pa_cons (pe_fld (pv 0) rfl) pa_nil)))), ?_⟩
    simp only [cxOf, tYes, eq_self, if_true, if_false, wipe, rLenQ, rIxTQ, rIxLQ, rIxSQ, rInt1Q, rTupQ, rAppQ, rPopQ, rPopAtQ, rRevQ, rListS, rReprP, tLenSetT, tChain, tRetN, tRet, tSeq, tAsg, gName, tVar, tC, tCons, tNil, tCB, tOp, rI0, rI, tAndV, tOrV, tNotV, tIf, tTest, tB, tNot, tAnd, tOr, tIfS, tNext, tCallR, rIsK, rEq, rNe, tDrop, L2.start, List.map_cons, List.map_nil, List.length_cons, List.length_nil, Nat.reduceAdd, Nat.reduceSub, Nat.sub_self, List.replicate_zero, List.replicate_succ, List.append_nil, List.cons_append, List.nil_append, List.getElem?_cons_zero, List.getElem?_cons_succ, List.set_cons_zero, List.set_cons_succ, Option.some.injEq, List.cons.injEq, and_true, true_and, exists_eq_left, exists_eq_left', exists_eq_right, V.ty.injEq, V.int.injEq, V.bl.injEq, V.str.injEq, V.ref.injEq, exists_and_left, exists_const, reduceIte, reduceCtorEq, false_and, and_false, exists_false, or_false, false_or, Bool.not_true, Bool.not_false, Bool.false_eq_true, String.reduceEq, true_or, or_true, rNotT, tNNew, tNNotIn, tNGet, sNPut, tLenSetN, tPar, tAug, ipI, tDNotIn, sDPut, tDGet, tTup, tLst, tBM, tBM0]
    exact ⟨_, rfl, x, _, dx, _, .ref lo, rfl, h1, T.cl_Numbering, T.na_Numbering_order, rfl, [], .inl (.inl (.inl h2)), q⟩
end
end K34

namespace K34
open PySem PySem.Spec PyProof.Rows L2 Sg
section
variable {P : Program} {w : World} {K : PySem.W.Frag} {mg : Str → Option Value} {base : Heap}
theorem sc_Numbering_m_number : FnScope ["self", "key"] ["self", "key"] (defScope (clsAt (topS 33) 1)) := ⟨rfl, rfl, rfl, by decide +kernel, rfl, by decide +kernel, by decide +kernel⟩
theorem bd_Numbering_m_number {K : PySem.W.Frag} {fd : FuncData} (F : FnM K "Numbering" "number" "Numbering.number" (clsAt (topS 33) 1) [] fd) : Binds K fd ["self", "key"] [] := F.bindsN fun _ _ _ _ _ _ us hl => match us, hl with | [_, _], _ => rfl
theorem ok_Numbering_m_number (T : Tx K mg) : DkM P w K mg base 0 "Numbering" "number" ["self", "key"] [] spNo := by
  obtain ⟨fd, F⟩ := T.d_Numbering_m_number
  exact dkM_no (bd_Numbering_m_number F) 0
theorem sc_Numbering_m_key_at : FnScope ["self", "number"] ["self", "number"] (defScope (clsAt (topS 33) 3)) := ⟨rfl, rfl, rfl, by decide +kernel, rfl, by decide +kernel, by decide +kernel⟩
theorem bd_Numbering_m_key_at {K : PySem.W.Frag} {fd : FuncData} (F : FnM K "Numbering" "key_at" "Numbering.key_at" (clsAt (topS 33) 3) [] fd) : Binds K fd ["self", "number"] [] := F.bindsN fun _ _ _ _ _ _ us hl => match us, hl with | [_, _], _ => rfl
theorem ok_Numbering_m_key_at (T : Tx K mg) : DkM P w K mg base 0 "Numbering" "key_at" ["self", "number"] [] spNo := by
  obtain ⟨fd, F⟩ := T.d_Numbering_m_key_at
  exact dkM_no (bd_Numbering_m_key_at F) 0
/-- what a Keeping of an empty writer holds -/
def kpF (one st : V) (live nb : Addr) : List (Str × V) := putF "numbering" (.ref nb) (putF "live" (.ref live) (putF "states" st (putF "one" one [])))
def KpS (K : PySem.W.Frag) (H : Hp) (x : Addr) (z : Str) : Prop := ∃ dx one st live nb ndx m u lo d, H x = some (.ins (He.ga K "Keeping") dx (kpF one st live nb)) ∧ EWr K H one z ∧ H live = some (.lst [.bl true]) ∧ H nb = some (.ins (He.ga K "Numbering") ndx (nbF m u lo d)) ∧ H lo = some (.lst [])
theorem EWr.mono {H H' : Hp} {v : V} {z : Str} (k : TK H H') (h : EWr K H v z) : EWr K H' v z := by
  obtain ⟨a, b, c, e, h1, h2, h3⟩ := h
  exact ⟨a, b, c, e, k.sqT h1, k.sqT h2, k.sqT h3⟩
theorem KpS.same {H H' : Hp} {x : Addr} {z : Str} (s : Same H H') (h : KpS K H x z) : KpS K H' x z := by
  obtain ⟨dx, one, st, live, nb, ndx, m, u, lo, d, k1, k2, k3, k4, k5⟩ := h
  exact ⟨dx, one, st, live, nb, ndx, m, u, lo, d, s _ _ k1, k2.mono (TK.of_same s), s _ _ k3, s _ _ k4, s _ _ k5⟩
theorem sc_Keeping_m___init__ : FnScope ["self", "writer", "states"] ["self", "writer", "states"] (defScope (clsAt (topS 61) 0)) := ⟨rfl, rfl, rfl, by decide +kernel, rfl, by decide +kernel, by decide +kernel⟩
theorem bd_Keeping_m___init__ {K : PySem.W.Frag} {fd : FuncData} (F : FnM K "Keeping" "__init__" "Keeping.__init__" (clsAt (topS 61) 0) [] fd) : Binds K fd ["self", "writer", "states"] [] := F.bindsN fun _ _ _ _ _ _ us hl => match us, hl with | [_, _, _], _ => rfl
def spKi (K : PySem.W.Frag) : Sp := fun vs H Q _ => ∃ x dx v z b n, vs = [.ref x, v, .ref b] ∧ H x = some (.ins (He.ga K "Keeping") dx []) ∧ EWr K H v z ∧ RRows K H b (smR n) ∧ n ≤ 5 ∧ ∀ H', (∀ b o, b ≠ x → H b = some o → H' b = some o) → KpS K H' x z → Q .non H'
theorem ok_Keeping_m___init__ (T : Tx K mg) : DkM P w K mg base 4 "Keeping" "__init__" ["self", "writer", "states"] [] (spKi K) := by
  have D_trimmed := ok_trimmed (P := P) (w := w) (base := base) T
  have D_live_states := ok_live_states (P := P) (w := w) (base := base) T
  have D_Numbering_m___init__ := ok_Numbering_m___init__ (P := P) (w := w) (base := base) T
  obtain ⟨fd, F⟩ := T.d_Keeping_m___init__
  refine ⟨⟨fd, [], F.ok sc_Keeping_m___init__ (fun vs H Q E h => ?_) (fun cdv A outer s H vs Q E hr h => ?_), bd_Keeping_m___init__ F, .nil⟩⟩
  · obtain ⟨x, dx, v, z, b, n, rfl, _⟩ := h
    rfl
  · obtain ⟨x, dx, v, z, b, n, rfl, h1, hv, hb, hn, q⟩ := h
    obtain ⟨_, c_MOST_WRITER⟩ := T.c_MOST_WRITER
    refine ⟨_, PSs.nox (pss_cons (ps_fld (pv 0) (pe_callR D_trimmed (hr.mono (by decide)) takes0 (pa_cons (pv 1) pa_nil)) rfl)
      (pss_cons (ps_fld (pv 0) (pv 2) rfl)
      (pss_cons (ps_fld (pv 0) (pe_callR D_live_states (hr.mono (by decide)) takes0 (pa_cons (pv 2) pa_nil)) rfl)
      (pss_one (ps_fld (pv 0) (pe_makeR T.mk_Numbering T.g_Numbering D_Numbering_m___init__ (hr.mono (by decide)) (pa_cons (pe_glob (v := .int 2000) (by rfl) c_MOST_WRITER ⟨_, rfl⟩) pa_nil)) rfl))))), ?_⟩
    simp only [cxOf, tYes, eq_self, if_true, if_false, wipe, rLenQ, rIxTQ, rIxLQ, rIxSQ, rInt1Q, rTupQ, rAppQ, rPopQ, rPopAtQ, rRevQ, rListS, rReprP, tLenSetT, tChain, tRetN, tRet, tSeq, tAsg, gName, tVar, tC, tCons, tNil, tCB, tOp, rI0, rI, tAndV, tOrV, tNotV, tIf, tTest, tB, tNot, tAnd, tOr, tIfS, tNext, tCallR, rIsK, rEq, rNe, tDrop, L2.start, List.map_cons, List.map_nil, List.length_cons, List.length_nil, Nat.reduceAdd, Nat.reduceSub, Nat.sub_self, List.replicate_zero, List.replicate_succ, List.append_nil, List.cons_append, List.nil_append, List.getElem?_cons_zero, List.getElem?_cons_succ, List.set_cons_zero, List.set_cons_succ, Option.some.injEq, List.cons.injEq, and_true, true_and, exists_eq_left, exists_eq_left', exists_eq_right, V.ty.injEq, V.int.injEq, V.bl.injEq, V.str.injEq, V.ref.injEq, exists_and_left, exists_const, reduceIte, reduceCtorEq, false_and, and_false, exists_false, or_false, false_or, Bool.not_true, Bool.not_false, Bool.false_eq_true, String.reduceEq, true_or, or_true, rNotT, tNNew, tNNotIn, tNGet, sNPut, tLenSetN, tPar, tAug, ipI, tDNotIn, sDPut, tDGet, tTup, tLst, tBM, tBM0]
    refine ⟨_, rfl, v, z, rfl, hv, fun one Ha sa ho => ⟨_, rfl, x, _, dx, [], rfl, sa _ _ h1, T.cl_Keeping, T.na_Keeping_one, by decide, ?_⟩⟩
    have ht1 : TK H (upd Ha x (.ins (He.ga K "Keeping") dx (putF "one" one []))) := (TK.of_same sa).trans (tk_upd (fun _ => by rw [sa _ _ h1]; nofun) (fun _ _ => by rw [sa _ _ h1]; nofun))
    refine ⟨_, rfl, _, rfl, x, _, dx, _, rfl, upd_same, T.cl_Keeping, T.na_Keeping_states, Nat.lt_of_le_of_lt (pl (Nat.zero_le 0)) (by decide), ?_⟩
    have tx : ∀ {H1 : Hp} {o o' : HO}, H1 x = some o → (∀ ys, o ≠ .tup ys) → (∀ q v, o ≠ .frz q v) → TK H1 (upd H1 x o') := fun {H1 o o'} h n1 n2 => tk_upd (fun ys e => by rw [h] at e; exact n1 ys (Option.some.inj e)) (fun q v e => by rw [h] at e; exact n2 q v (Option.some.inj e))
    have hins : ∀ (fs : List (Str × V)) ys, HO.ins (He.ga K "Keeping") dx fs ≠ .tup ys := fun _ _ e => nomatch e
    have hinf : ∀ (fs : List (Str × V)) q v, HO.ins (He.ga K "Keeping") dx fs ≠ .frz q v := fun _ _ _ e => nomatch e
    have t1 : TK Ha (upd Ha x (.ins (He.ga K "Keeping") dx (putF "one" one []))) := tx (sa _ _ h1) (hins _) (hinf _)
    have t2 : TK (upd Ha x (.ins (He.ga K "Keeping") dx (putF "one" one []))) (upd (upd Ha x (.ins (He.ga K "Keeping") dx (putF "one" one []))) x (.ins (He.ga K "Keeping") dx (putF "states" (.ref b) (putF "one" one [])))) := tx upd_same (hins _) (hinf _)
    have w2 : (upd (upd Ha x (.ins (He.ga K "Keeping") dx (putF "one" one []))) x (.ins (He.ga K "Keeping") dx (putF "states" (.ref b) (putF "one" one [])))) x = some (.ins (He.ga K "Keeping") dx (putF "states" (.ref b) (putF "one" one []))) := upd_same
    have o2 : ∀ c o, c ≠ x → H c = some o → (upd (upd Ha x (.ins (He.ga K "Keeping") dx (putF "one" one []))) x (.ins (He.ga K "Keeping") dx (putF "states" (.ref b) (putF "one" one [])))) c = some o := fun c o hc h => by
      rw [upd_ne hc, upd_ne hc]
      exact sa _ _ h
    have tt := t1.trans t2
    have he := ho.mono tt
    have hb2 := hb.mono ((TK.of_same sa).trans tt)
    clear t1 t2 ht1
    generalize upd (upd Ha x (.ins (He.ga K "Keeping") dx (putF "one" one []))) x (.ins (He.ga K "Keeping") dx (putF "states" (.ref b) (putF "one" one []))) = H2 at *
    refine ⟨_, rfl, b, n, rfl, hb2, hn, fun live Hb sb hl => ⟨_, rfl, x, _, dx, _, rfl, sb _ _ w2, T.cl_Keeping, T.na_Keeping_live, Nat.lt_of_le_of_lt (pl (pl (Nat.zero_le 0))) (by decide), ?_⟩⟩
    have w3 := sb _ _ w2
    have nlx : live ≠ x := fun e => by rw [e, w3] at hl; cases hl
    have t3 : TK Hb (upd Hb x (.ins (He.ga K "Keeping") dx (putF "live" (.ref live) (putF "states" (.ref b) (putF "one" one []))))) := tx w3 (hins _) (hinf _)
    have w4 : (upd Hb x (.ins (He.ga K "Keeping") dx (putF "live" (.ref live) (putF "states" (.ref b) (putF "one" one []))))) x = some (.ins (He.ga K "Keeping") dx (putF "live" (.ref live) (putF "states" (.ref b) (putF "one" one [])))) := upd_same
    have l4 : (upd Hb x (.ins (He.ga K "Keeping") dx (putF "live" (.ref live) (putF "states" (.ref b) (putF "one" one []))))) live = some (.lst [.bl true]) := by rw [upd_ne nlx]; exact hl
    have o4 : ∀ c o, c ≠ x → H c = some o → (upd Hb x (.ins (He.ga K "Keeping") dx (putF "live" (.ref live) (putF "states" (.ref b) (putF "one" one []))))) c = some o := fun c o hc h => by
      rw [upd_ne hc]
      exact sb _ _ (o2 c o hc h)
    have he4 := (he.mono (TK.of_same sb)).mono t3
    clear t3
    generalize upd Hb x (.ins (He.ga K "Keeping") dx (putF "live" (.ref live) (putF "states" (.ref b) (putF "one" one [])))) = H4 at *
    refine fun nb ndx hnb hndx hne => ⟨nb, ndx, .int 2000, .str "states", rfl, upd_same, fun lo d H5 keep g1 g2 => ⟨rfl, ?_⟩⟩
    have k5 : Same H4 H5 := fun c o hc => keep c o (ne_of_none hc hnb) (by rw [upd_ne (ne_of_none hc hnb), upd_ne (ne_of_none hc hndx)]; exact hc)
    have w5 := k5 _ _ w4
    have nnx : nb ≠ x := Ne.symm (ne_of_none w4 hnb)
    have nlo : lo ≠ x := fun e => by rw [e, w5] at g2; cases g2
    refine ⟨_, rfl, x, _, dx, _, rfl, w5, T.cl_Keeping, T.na_Keeping_numbering, Nat.lt_of_le_of_lt (pl (pl (pl (Nat.zero_le 0)))) (by decide), ?_⟩
    refine q _ (fun c o hc h => ?_) ⟨dx, one, .ref b, live, nb, ndx, .int 2000, .str "states", lo, d, upd_same, (he4.mono (TK.of_same k5)).mono (tx w5 (hins _) (hinf _)), ?_, ?_, ?_⟩
    · rw [upd_ne hc]
      exact k5 _ _ (o4 c o hc h)
    · rw [upd_ne nlx]
      exact k5 _ _ l4
    · rw [upd_ne nnx]
      exact g1
    · rw [upd_ne nlo]
      exact g2
theorem sc_Keeping_m_placed : FnScope ["self", "pairs", "reached", "text", "to"] ["self", "pairs", "reached"] (defScope (clsAt (topS 61) 1)) := ⟨rfl, rfl, rfl, by decide +kernel, rfl, by decide +kernel, by decide +kernel⟩
theorem bd_Keeping_m_placed {K : PySem.W.Frag} {fd : FuncData} (F : FnM K "Keeping" "placed" "Keeping.placed" (clsAt (topS 61) 1) [] fd) : Binds K fd ["self", "pairs", "reached"] [] := F.bindsN fun _ _ _ _ _ _ us hl => match us, hl with | [_, _, _], _ => rfl
def spKq (K : PySem.W.Frag) : Sp := fun vs H Q _ => ∃ x z a, vs = [.ref x, .ref a, .int 0] ∧ KpS K H x z ∧ SqT K H a [] ∧ ∀ p H', Same H H' → SqT K H' p [] → Q (.ref p) H'
theorem ok_Keeping_m_placed (T : Tx K mg) : DkM P w K mg base 2 "Keeping" "placed" ["self", "pairs", "reached"] [] (spKq K) := by
  have D_ascending := ok_ascending (P := P) (w := w) (base := base) T
  obtain ⟨fd, F⟩ := T.d_Keeping_m_placed
  refine ⟨⟨fd, [], F.ok sc_Keeping_m_placed (fun vs H Q E h => ?_) (fun cdv A outer s H vs Q E hr h => ?_), bd_Keeping_m_placed F, .nil⟩⟩
  · obtain ⟨x, z, a, rfl, _⟩ := h
    rfl
  · obtain ⟨x, z, a, rfl, hk, ha, q⟩ := h
    obtain ⟨dx, one, st, live, nb, ndx, m, u, lo, d, k1, k2, k3, k4, k5⟩ := hk
    refine ⟨_, PSs.nox (pss_cons (ps_if (pt_not (pt_val (pe_ix ix_listQ (pe_fld (pv 0) rfl) (pv 2) (fun _ _ => rfl)))) (pss_one (ps_ret (pe_tup pa_nil))) pss_nil)
      (pss_one (ps_ret (pe_callR D_ascending (hr.mono (by decide)) takes0 (pa_cons (pe_lc (own := [("text", 3), ("to", 4)]) rfl sc_Keeping_m_placed.nd (pi_tup (pv 1)) (blkOk_by (own := [("text", 3), ("to", 4)]) (N := ["self", "pairs", "reached", "text", "to"]) (sc := defScope (clsAt (topS 61) 1)) (by decide +kernel)) (fun _ _ _ _ _ => (show PG _ _ (gTup K 2 _) by exact pg_tup (by rfl) (pgs_cons (pg_name (i := 3) sc_Keeping_m_placed.nd rfl (.inl rfl)) (pgs_cons (pg_name (i := 4) sc_Keeping_m_placed.nd rfl (.inl rfl)) pgs_nil)))) (fun _ _ _ _ _ => pts_nil) (fun _ _ _ _ _ => (pe_dead))) pa_nil))))), ?_⟩
    simp only [cxOf, tYes, eq_self, if_true, if_false, wipe, rLenQ, rIxTQ, rIxLQ, rIxSQ, rInt1Q, rTupQ, rAppQ, rPopQ, rPopAtQ, rRevQ, rListS, rReprP, tLenSetT, tChain, tRetN, tRet, tSeq, tAsg, gName, tVar, tC, tCons, tNil, tCB, tOp, rI0, rI, tAndV, tOrV, tNotV, tIf, tTest, tB, tNot, tAnd, tOr, tIfS, tNext, tCallR, rIsK, rEq, rNe, tDrop, L2.start, List.map_cons, List.map_nil, List.length_cons, List.length_nil, Nat.reduceAdd, Nat.reduceSub, Nat.sub_self, List.replicate_zero, List.replicate_succ, List.append_nil, List.cons_append, List.nil_append, List.getElem?_cons_zero, List.getElem?_cons_succ, List.set_cons_zero, List.set_cons_succ, Option.some.injEq, List.cons.injEq, and_true, true_and, exists_eq_left, exists_eq_left', exists_eq_right, V.ty.injEq, V.int.injEq, V.bl.injEq, V.str.injEq, V.ref.injEq, exists_and_left, exists_const, reduceIte, reduceCtorEq, false_and, and_false, exists_false, or_false, false_or, Bool.not_true, Bool.not_false, Bool.false_eq_true, String.reduceEq, true_or, or_true, rNotT, tNNew, tNNotIn, tNGet, sNPut, tLenSetN, tPar, tAug, ipI, tDNotIn, sDPut, tDGet, tTup, tLst, tBM, tBM0]
    refine ⟨_, rfl, x, _, dx, _, .ref live, rfl, k1, T.cl_Keeping, T.na_Keeping_live, rfl, _, .inl (.inl k3), .bl true, rfl, true, rfl, ifF rfl ?_⟩
    exact ⟨_, rfl, a, rfl, ⟨_, ha⟩, fun D hD => lc_none (J := Itt K a) (te := fun _ _ _ => False) ⟨[], Same.sqT (same_upd hD) ha, Nat.le_refl _⟩ ⟨D, rfl, .inl (.inl upd_same), fun p H' s hp => q p H' (Same.trans (same_upd hD) s) hp⟩⟩
theorem sc_Keeping_m_writer : FnScope ["self", "begins", "rows", "state", "place", "ends", "row", "end", "leads", "found", "pairs", "to"] ["self"] (defScope (clsAt (topS 61) 2)) := ⟨rfl, rfl, rfl, by decide +kernel, rfl, by decide +kernel, by decide +kernel⟩
theorem bd_Keeping_m_writer {K : PySem.W.Frag} {fd : FuncData} (F : FnM K "Keeping" "writer" "Keeping.writer" (clsAt (topS 61) 2) [] fd) : Binds K fd ["self"] [] := F.bindsN fun _ _ _ _ _ _ us hl => match us, hl with | [_], _ => rfl
def spKw (K : PySem.W.Frag) : Sp := fun vs H Q _ => ∃ x z, vs = [.ref x] ∧ KpS K H x z ∧ ∀ v H', Same H H' → EWr K H' v z → Q v H'
theorem ok_Keeping_m_writer (T : Tx K mg) : DkM P w K mg base 4 "Keeping" "writer" ["self"] [] (spKw K) := by
  have D_trimmed := ok_trimmed (P := P) (w := w) (base := base) T
  have D_Keeping_m_placed := ok_Keeping_m_placed (P := P) (w := w) (base := base) T
  have D_Numbering_m_met := ok_Numbering_m_met (P := P) (w := w) (base := base) T
  have D_Numbering_m_key_at := ok_Numbering_m_key_at (P := P) (w := w) (base := base) T
  obtain ⟨fd, F⟩ := T.d_Keeping_m_writer
  refine ⟨⟨fd, [], F.ok sc_Keeping_m_writer (fun vs H Q E h => ?_) (fun cdv A outer s H vs Q E hr h => ?_), bd_Keeping_m_writer F, .nil⟩⟩
  · obtain ⟨x, z, rfl, _⟩ := h
    rfl
  · obtain ⟨x, z, rfl, hk, q⟩ := h
    obtain ⟨dx, one, st, live, nb, ndx, m, u, lo, d, k1, k2, k3, k4, k5⟩ := id hk
    refine ⟨_, PSs.nox (pss_cons (ps_set (i := 1) sc_Keeping_m_writer.nd rfl (.inl rfl) (pe_methR (pv 0) T.cl_Keeping T.m_Keeping_placed D_Keeping_m_placed (hr.mono (by decide)) (pa_cons (pe_ix ix_tupQ (pe_fld (pv 0) rfl) pe_int (fun _ _ => rfl)) (pa_cons pe_int pa_nil))))
      (pss_cons (ps_set (i := 2) sc_Keeping_m_writer.nd rfl (.inl rfl) (pe_lst pa_nil))
      (pss_cons (ps_while PassesOwn.never (pt_cmpR op_lt (pe_callB call_lenQ (by rfl) T.f_len PySem.boot_len (pa_cons (pv 2) pa_nil)) (pe_methR0 (pe_fld (pv 0) rfl) T.cl_Numbering T.m_Numbering_met D_Numbering_m_met (hr.mono (by decide))) (nomark _)) pss_dead)
      (pss_one (ps_ret (pe_callR D_trimmed (hr.mono (by decide)) takes0 (pa_cons (pe_tup (pa_cons (pe_ix ix_tupQ (pe_fld (pv 0) rfl) pe_int (fun _ _ => rfl)) (pa_cons (pv 1) (pa_cons (pe_callTy call_tupQ (by rfl) T.f_tuple PyProof.Rows.boot_tuple (pa_cons (pv 2) pa_nil)) pa_nil)))) pa_nil))))))), ?_⟩
    simp only [cxOf, tYes, eq_self, if_true, if_false, wipe, rLenQ, rIxTQ, rIxLQ, rIxSQ, rInt1Q, rTupQ, rAppQ, rPopQ, rPopAtQ, rRevQ, rListS, rReprP, tLenSetT, tChain, tRetN, tRet, tSeq, tAsg, gName, tVar, tC, tCons, tNil, tCB, tOp, rI0, rI, tAndV, tOrV, tNotV, tIf, tTest, tB, tNot, tAnd, tOr, tIfS, tNext, tCallR, rIsK, rEq, rNe, tDrop, L2.start, List.map_cons, List.map_nil, List.length_cons, List.length_nil, Nat.reduceAdd, Nat.reduceSub, Nat.sub_self, List.replicate_zero, List.replicate_succ, List.append_nil, List.cons_append, List.nil_append, List.getElem?_cons_zero, List.getElem?_cons_succ, List.set_cons_zero, List.set_cons_succ, Option.some.injEq, List.cons.injEq, and_true, true_and, exists_eq_left, exists_eq_left', exists_eq_right, V.ty.injEq, V.int.injEq, V.bl.injEq, V.str.injEq, V.ref.injEq, exists_and_left, exists_const, reduceIte, reduceCtorEq, false_and, and_false, exists_false, or_false, false_or, Bool.not_true, Bool.not_false, Bool.false_eq_true, String.reduceEq, true_or, or_true, rNotT, tNNew, tNNotIn, tNGet, sNPut, tLenSetN, tPar, tAug, ipI, tDNotIn, sDPut, tDGet, tTup, tLst, tBM, tBM0]
    obtain ⟨a0, b0, c0, rfl, j1, j2, j3⟩ := k2
    refine ⟨_, rfl, x, dx, _, rfl, k1, rfl, _, rfl, x, _, dx, _, .ref a0, rfl, k1, T.cl_Keeping, T.na_Keeping_one, rfl, _, .ref b0, j1, rfl, x, z, b0, rfl, hk, j2, fun bg Ha sa hbg => ⟨Nat.zero_le _, fun r hr => ?_⟩⟩
    have s1 := Same.trans sa (same_upd (o := .lst []) hr)
    have wr : (upd Ha r (.lst [])) r = some (.lst []) := upd_same
    have hbg2 := Same.sqT (same_upd (o := .lst []) hr) hbg
    refine while_none (fun R hR => ?_) ?_
    · exact ⟨_, rfl, [], .inl (.inl (.inl wr)), _, rfl, x, _, dx, _, .ref nb, rfl, s1 _ _ k1, T.cl_Keeping, T.na_Keeping_numbering, rfl, nb, ndx, _, rfl, s1 _ _ k4, rfl, nb, ndx, m, u, lo, d, rfl, s1 _ _ k4, s1 _ _ k5, 0, 0, rfl, rfl, false, rfl, hR⟩
    simp only [cxOf, tYes, eq_self, if_true, if_false, wipe, rLenQ, rIxTQ, rIxLQ, rIxSQ, rInt1Q, rTupQ, rAppQ, rPopQ, rPopAtQ, rRevQ, rListS, rReprP, tLenSetT, tChain, tRetN, tRet, tSeq, tAsg, gName, tVar, tC, tCons, tNil, tCB, tOp, rI0, rI, tAndV, tOrV, tNotV, tIf, tTest, tB, tNot, tAnd, tOr, tIfS, tNext, tCallR, rIsK, rEq, rNe, tDrop, L2.start, List.map_cons, List.map_nil, List.length_cons, List.length_nil, Nat.reduceAdd, Nat.reduceSub, Nat.sub_self, List.replicate_zero, List.replicate_succ, List.append_nil, List.cons_append, List.nil_append, List.getElem?_cons_zero, List.getElem?_cons_succ, List.set_cons_zero, List.set_cons_succ, Option.some.injEq, List.cons.injEq, and_true, true_and, exists_eq_left, exists_eq_left', exists_eq_right, V.ty.injEq, V.int.injEq, V.bl.injEq, V.str.injEq, V.ref.injEq, exists_and_left, exists_const, reduceIte, reduceCtorEq, false_and, and_false, exists_false, or_false, false_or, Bool.not_true, Bool.not_false, Bool.false_eq_true, String.reduceEq, true_or, or_true, rNotT, tNNew, tNNotIn, tNGet, sNPut, tLenSetN, tPar, tAug, ipI, tDNotIn, sDPut, tDGet, tTup, tLst, tBM, tBM0]
    refine ⟨_, rfl, x, _, dx, _, .ref a0, rfl, s1 _ _ k1, T.cl_Keeping, T.na_Keeping_one, rfl, _, Same.sqT s1 j1, .str z, rfl, [], .inl (.inl wr), fun l hl => ⟨szle (m := 3) (Nat.le_refl _), fun p hp => ?_⟩⟩
    have e1 := same_upd (o := .tup []) hl
    have e2 := same_upd (o := .tup [.str z, .ref bg, .ref l]) hp
    exact ⟨.ref p, z, rfl, ⟨p, bg, l, rfl, .inl (.inl upd_same), Same.sqT (Same.trans e1 e2) hbg2, .inl (.inl (e2 _ _ upd_same))⟩, fun v H' s hv => q v H' (Same.trans s1 (Same.trans (Same.trans e1 e2) s)) hv⟩
theorem sc_kept_on : FnScope ["writer", "states"] ["writer", "states"] (defScope (topS 62)) := ⟨rfl, rfl, rfl, by decide +kernel, rfl, by decide +kernel, by decide +kernel⟩
theorem bd_kept_on {K : PySem.W.Frag} {f : Addr} {fd : FuncData} (F : FnP K "kept_on" (topS 62) f fd) : Binds K fd ["writer", "states"] [] := F.bindsN fun _ _ _ _ _ _ us hl => match us, hl with | [_, _], _ => rfl
def spKo (K : PySem.W.Frag) : Sp := fun vs H Q _ => ∃ v z b n, vs = [v, .ref b] ∧ EWr K H v z ∧ RRows K H b (smR n) ∧ n ≤ 5 ∧ ∀ u H', Same H H' → EWr K H' u z → Q u H'
theorem ok_kept_on (T : Tx K mg) : Dk P w K mg base 6 "kept_on" ["writer", "states"] (spKo K) := by
  have D_Keeping_m___init__ := ok_Keeping_m___init__ (P := P) (w := w) (base := base) T
  have D_Keeping_m_writer := ok_Keeping_m_writer (P := P) (w := w) (base := base) T
  obtain ⟨fd, F⟩ := T.d_kept_on
  refine ⟨⟨fd, F.ok sc_kept_on (fun vs H Q E h => ?_) (fun cdv A outer s H vs Q E hr h => ?_), bd_kept_on F⟩, F.kp, T.g_kept_on⟩
  · obtain ⟨v, z, b, n, rfl, _⟩ := h
    rfl
  · obtain ⟨v, z, b, n, rfl, hv, hb, hn, q⟩ := h
    refine ⟨_, PSs.nox (pss_one (ps_ret (pe_methR0 (pe_makeR T.mk_Keeping T.g_Keeping D_Keeping_m___init__ (hr.mono (by decide)) (pa_cons (pv 0) (pa_cons (pv 1) pa_nil))) T.cl_Keeping T.m_Keeping_writer D_Keeping_m_writer (hr.mono (by decide))))), ?_⟩
    simp only [cxOf, tYes, eq_self, if_true, if_false, wipe, rLenQ, rIxTQ, rIxLQ, rIxSQ, rInt1Q, rTupQ, rAppQ, rPopQ, rPopAtQ, rRevQ, rListS, rReprP, tLenSetT, tChain, tRetN, tRet, tSeq, tAsg, gName, tVar, tC, tCons, tNil, tCB, tOp, rI0, rI, tAndV, tOrV, tNotV, tIf, tTest, tB, tNot, tAnd, tOr, tIfS, tNext, tCallR, rIsK, rEq, rNe, tDrop, L2.start, List.map_cons, List.map_nil, List.length_cons, List.length_nil, Nat.reduceAdd, Nat.reduceSub, Nat.sub_self, List.replicate_zero, List.replicate_succ, List.append_nil, List.cons_append, List.nil_append, List.getElem?_cons_zero, List.getElem?_cons_succ, List.set_cons_zero, List.set_cons_succ, Option.some.injEq, List.cons.injEq, and_true, true_and, exists_eq_left, exists_eq_left', exists_eq_right, V.ty.injEq, V.int.injEq, V.bl.injEq, V.str.injEq, V.ref.injEq, exists_and_left, exists_const, reduceIte, reduceCtorEq, false_and, and_false, exists_false, or_false, false_or, Bool.not_true, Bool.not_false, Bool.false_eq_true, String.reduceEq, true_or, or_true, rNotT, tNNew, tNNotIn, tNGet, sNPut, tLenSetN, tPar, tAug, ipI, tDNotIn, sDPut, tDGet, tTup, tLst, tBM, tBM0]
    refine ⟨_, rfl, _, rfl, fun x dx hx hdx hne => ?_⟩
    have s1 := Same.trans (same_upd (o := .own x) hdx) (same_upd (H := upd H dx (.own x)) (o := .ins (He.ga K "Keeping") dx []) (by rw [upd_ne (Ne.symm hne)]; exact hx))
    have hv1 := hv.mono (TK.of_same s1)
    have hb1 := hb.mono (TK.of_same s1)
    refine ⟨x, dx, v, z, b, n, rfl, upd_same, hv1, hb1, hn, fun H' keep hk => ⟨rfl, ?_⟩⟩
    have s2 : Same H H' := fun c o hc => keep c o (ne_of_none hc hx) (s1 _ _ hc)
    obtain ⟨kx, one, st, live, nb, ndx, m, u, lo, d, k1, k2, k3, k4, k5⟩ := id hk
    exact ⟨x, kx, _, rfl, k1, rfl, x, z, rfl, hk, fun v H2 s hv => q v H2 (Same.trans s2 s) hv⟩
theorem sc_only_on : FnScope ["writer", "looker"] ["writer", "looker"] (defScope (topS 64)) := ⟨rfl, rfl, rfl, by decide +kernel, rfl, by decide +kernel, by decide +kernel⟩
theorem bd_only_on {K : PySem.W.Frag} {f : Addr} {fd : FuncData} (F : FnP K "only_on" (topS 64) f fd) : Binds K fd ["writer", "looker"] [] := F.bindsN fun _ _ _ _ _ _ us hl => match us, hl with | [_, _], _ => rfl
def spOo (K : PySem.W.Frag) : Sp := fun vs H Q E => ∃ u v z, vs = [u, v] ∧ EWr K H u z ∧ SignsOk z ∧ ((∃ n, n ≤ 5 ∧ z.length = n ∧ RLk K H v z (smR n) ∧ ∀ y H', Same H H' → EWr K H' y z → Q y H') ∨ (BadK K H v ∧ E (.ref (He.ga K "BadLooker")) none H))
theorem smR_ok {n : Nat} : RowsOk n (smR n) where
  pos := Nat.le_refl 1
  top := (by decide : 1 ≤ 600)
  bit := fun r hr => by obtain rfl := List.mem_singleton.mp hr; exact .inr rfl
  wid := fun r hr => by obtain rfl := List.mem_singleton.mp hr; exact List.length_replicate
  to := fun r hr q hq => by
    obtain rfl := List.mem_singleton.mp hr
    rw [(List.mem_replicate.mp hq).2]
    exact ⟨Int.le_refl _, (by decide : (0 : Int) < 1)⟩
theorem ok_only_on (T : Tx K mg) : Dk P w K mg base 7 "only_on" ["writer", "looker"] (spOo K) := by
  have D_check_writer := ok_check_writer (P := P) (w := w) (base := base) T
  have D_check_looker := ok_check_looker (P := P) (w := w) (base := base) T
  have D_check_same_signs := ok_check_same_signs (P := P) (w := w) (base := base) T
  have D_kept_on := ok_kept_on (P := P) (w := w) (base := base) T
  obtain ⟨fd, F⟩ := T.d_only_on
  refine ⟨⟨fd, F.ok sc_only_on (fun vs H Q E h => ?_) (fun cdv A outer s H vs Q E hr h => ?_), bd_only_on F⟩, F.kp, T.g_only_on⟩
  · obtain ⟨u, v, z, rfl, _⟩ := h
    rfl
  · obtain ⟨u, v, z, rfl, hu, hz, h⟩ := h
    refine ⟨_, (pss_cons (ps_expr (pe_callR D_check_writer (hr.mono (by decide)) (takes_of rfl rfl rfl rfl) (pa_cons (pv 0) pa_nil)))
      (pss_cons (ps_expr (pe_callR D_check_looker (hr.mono (by decide)) (takes_of rfl rfl rfl rfl) (pa_cons (pv 1) pa_nil)))
      (pss_cons (ps_expr (pe_callR D_check_same_signs (hr.mono (by decide)) (takes_of rfl rfl rfl rfl) (pa_cons (pv 0) (pa_cons (pv 1) pa_nil))))
      (pss_one (ps_ret (pe_callR D_kept_on (hr.mono (by decide)) (takes_of rfl rfl rfl rfl) (pa_cons (pv 0) (pa_cons (pe_ix ix_tupQ (pv 1) pe_int (fun _ _ => rfl)) pa_nil)))))))), ?_⟩
    simp only [cxOf, tYes, eq_self, if_true, if_false, wipe, rLenQ, rIxTQ, rIxLQ, rIxSQ, rInt1Q, rTupQ, rAppQ, rPopQ, rPopAtQ, rRevQ, rListS, rReprP, tLenSetT, tChain, tRetN, tRet, tSeq, tAsg, gName, tVar, tC, tCons, tNil, tCB, tOp, rI0, rI, tAndV, tOrV, tNotV, tIf, tTest, tB, tNot, tAnd, tOr, tIfS, tNext, tCallR, rIsK, rEq, rNe, tDrop, L2.start, List.map_cons, List.map_nil, List.length_cons, List.length_nil, Nat.reduceAdd, Nat.reduceSub, Nat.sub_self, List.replicate_zero, List.replicate_succ, List.append_nil, List.cons_append, List.nil_append, List.getElem?_cons_zero, List.getElem?_cons_succ, List.set_cons_zero, List.set_cons_succ, Option.some.injEq, List.cons.injEq, and_true, true_and, exists_eq_left, exists_eq_left', exists_eq_right, V.ty.injEq, V.int.injEq, V.bl.injEq, V.str.injEq, V.ref.injEq, exists_and_left, exists_const, reduceIte, reduceCtorEq, false_and, and_false, exists_false, or_false, false_or, Bool.not_true, Bool.not_false, Bool.false_eq_true, String.reduceEq, true_or, or_true, rNotT, tNNew, tNNotIn, tNGet, sNPut, tLenSetN, tPar, tAug, ipI, tDNotIn, sDPut, tDGet, tTup, tLst, tBM, tBM0]
    refine ⟨u, z, rfl, hu, hz, v, rfl, ?_⟩
    rcases h with ⟨n, hn, hzn, hv, q⟩ | ⟨hb, q⟩
    · subst hzn
      refine .inl ⟨z, smR z.length, ⟨hv, hz, smR_ok⟩, ?_⟩
      obtain ⟨a0, b0, c0, rfl, j1, j2, j3⟩ := id hu
      obtain ⟨a, b, rfl, g1, g2⟩ := hv
      refine ⟨a0, a, z, _, _, rfl, j1, g1, ?_⟩
      exact ⟨_, g1, .ref b, rfl, .ref a0, z, b, z.length, rfl, hu, g2, hn, q⟩
    · exact .inr ⟨hb, q⟩
end
end K34

namespace K34
open PySem PySem.Spec PyProof.Rows L2 Sg
section
variable {P : Program} {w : World} {K : PySem.W.Frag} {mg : Str → Option Value} {base : Heap}
theorem sc__law_refused : FnScope ["which", "bad", "good", "writer", "e", "others"] ["which", "bad", "good"] (defScope (topS 73)) := ⟨rfl, rfl, rfl, by decide +kernel, rfl, by decide +kernel, by decide +kernel⟩
theorem bd__law_refused {K : PySem.W.Frag} {f : Addr} {fd : FuncData} (F : FnP K "_law_refused" (topS 73) f fd) : Binds K fd ["which", "bad", "good"] [] := F.bindsN fun _ _ _ _ _ _ us hl => match us, hl with | [_, _, _], _ => rfl
def spRf (K : PySem.W.Frag) : Sp := fun vs H Q _ => ∃ (k : Int) (u v : V) (z : Str), vs = [.int k, u, v] ∧ BadK K H u ∧ Sg.SignsOk z ∧ RLk K H v z (smR z.length) ∧ ∀ H', Same H H' → Q (.bl true) H'
theorem ok__law_refused (T : Tx K mg) : Dk P w K mg base 8 "_law_refused" ["which", "bad", "good"] (spRf K) := by
  have D_takes := ok_takes (P := P) (w := w) (base := base) T
  have D_least := ok_least (P := P) (w := w) (base := base) T
  have D_first_taken := ok_first_taken (P := P) (w := w) (base := base) T
  have D_alike := ok_alike (P := P) (w := w) (base := base) T
  have D_count_taken := ok_count_taken (P := P) (w := w) (base := base) T
  have D_only_on := ok_only_on (P := P) (w := w) (base := base) T
  obtain ⟨fd, F⟩ := T.d__law_refused
  refine ⟨⟨fd, F.ok sc__law_refused (fun vs H Q E h => ?_) (fun cdv A outer s H vs Q E hr h => ?_), bd__law_refused F⟩, F.kp, T.g__law_refused⟩
  · obtain ⟨k, u, v, z, rfl, _⟩ := h
    rfl
  · obtain ⟨k, u, v, z, rfl, hb, hz, hv, q⟩ := h
    refine ⟨_, PSs.nox (pss_cons (ps_set (i := 3) sc__law_refused.nd rfl (.inl rfl) (pe_tup (pa_cons (pe_ix ix_tupQ (pv 2) pe_int (fun _ _ => rfl)) (pa_cons (pe_tup pa_nil) (pa_cons (pe_tup pa_nil) pa_nil)))))
      (pss_one (ps_try_cl rfl rfl takes0 (fun W pn xe tk pz => (pss_cons (ps_if (pt_cmpR op_eq (pv 0) pe_int (nomark _)) (pss_one (ps_ret (pe_cmpR op_eq (pe_callB (show CallR _ _ (rLenQ K) by exact call_lenQ) (by rfl) T.f_len PySem.boot_len (pa_cons (pe_lst (pa_cons (pe_callR D_takes (hr.mono (by decide)) tk (pa_cons (pv 1) (pa_cons (pe_op op_add_str pe_str (pe_ix (show IxR _ (rIxTQ K) by exact ix_tupQ) (pv 2) pe_int (fun _ _ => rfl))) pa_nil))) pa_nil)) pa_nil)) pe_int (nomark _)))) pss_nil)
      (pss_cons (ps_if (pt_cmpR op_eq (pv 0) pe_int (nomark _)) (pss_one (ps_ret (pe_cmpR op_eq (pe_callB (show CallR _ _ (rLenQ K) by exact call_lenQ) (by rfl) T.f_len PySem.boot_len (pa_cons (pe_lst (pa_cons (pe_callR D_least (hr.mono (by decide)) tk (pa_cons (pv 1) pa_nil)) pa_nil)) pa_nil)) pe_int (nomark _)))) pss_nil)
      (pss_cons (ps_if (pt_cmpR op_eq (pv 0) pe_int (nomark _)) (pss_one (ps_ret (pe_cmpR op_eq (pe_callB (show CallR _ _ (rLenQ K) by exact call_lenQ) (by rfl) T.f_len PySem.boot_len (pa_cons (pe_lst (pa_cons (pe_callR D_first_taken (hr.mono (by decide)) tk (pa_cons (pv 1) pa_nil)) pa_nil)) pa_nil)) pe_int (nomark _)))) pss_nil)
      (pss_cons (ps_if (pt_cmpR op_eq (pv 0) pe_int (nomark _)) (pss_one (ps_ret (pe_cmpR op_eq (pe_callB (show CallR _ _ (rLenQ K) by exact call_lenQ) (by rfl) T.f_len PySem.boot_len (pa_cons (pe_lst (pa_cons (pe_callR D_alike (hr.mono (by decide)) tk (pa_cons (pv 1) (pa_cons (pv 2) pa_nil))) pa_nil)) pa_nil)) pe_int (nomark _)))) pss_nil)
      (pss_cons (ps_if (pt_cmpR op_eq (pv 0) pe_int (nomark _)) (pss_one (ps_ret (pe_cmpR op_eq (pe_callB (show CallR _ _ (rLenQ K) by exact call_lenQ) (by rfl) T.f_len PySem.boot_len (pa_cons (pe_lst (pa_cons (pe_callR D_alike (hr.mono (by decide)) tk (pa_cons (pv 2) (pa_cons (pv 1) pa_nil))) pa_nil)) pa_nil)) pe_int (nomark _)))) pss_nil)
      (pss_cons (ps_if (pt_cmpR op_eq (pv 0) pe_int (nomark _)) (pss_one (ps_ret (pe_cmpR op_eq (pe_callB (show CallR _ _ (rLenQ K) by exact call_lenQ) (by rfl) T.f_len PySem.boot_len (pa_cons (pe_lst (pa_cons (pe_callR D_count_taken (hr.mono (by decide)) tk (pa_cons (pv 1) (pa_cons (pe_un un_neg pe_int) pa_nil))) pa_nil)) pa_nil)) pe_int (nomark _)))) pss_nil)
      (pss_one (ps_ret (pe_cmpR op_eq (pe_callB (show CallR _ _ (rLenQ K) by exact call_lenQ) (by rfl) T.f_len PySem.boot_len (pa_cons (pe_lst (pa_cons (pe_callR D_only_on (hr.mono (by decide)) tk (pa_cons (pv 3) (pa_cons (pv 1) pa_nil))) pa_nil)) pa_nil)) pe_int (nomark _))))))))))) (ClOk.named ⟨rfl, by decide, .inl T.e_BadLooker.gm⟩ sc__law_refused.nd rfl rfl (i := 4) (fun a oe cls d pn hz hf => (pss_cons (ps_set (i := 5) sc__law_refused.nd rfl (.inl rfl) (pe_or (pe_callB (call_isX hz hf) (by rfl) T.f_isinstance PyProof.Rows.boot_isinstance (pa_cons (pv 4) (pa_cons (pe_glob (v := .ref (He.ga K "BadSigns")) (by rfl) T.e_BadSigns.gm rfl) pa_nil))) (pe_or (pe_callB (call_isX hz hf) (by rfl) T.f_isinstance PyProof.Rows.boot_isinstance (pa_cons (pv 4) (pa_cons (pe_glob (v := .ref (He.ga K "BadNumber")) (by rfl) T.e_BadNumber.gm rfl) pa_nil))) (pe_one (pe_callB (call_isX hz hf) (by rfl) T.f_isinstance PyProof.Rows.boot_isinstance (pa_cons (pv 4) (pa_cons (pe_glob (v := .ref (He.ga K "BadWriter")) (by rfl) T.e_BadWriter.gm rfl) pa_nil)))))))
      (pss_one (ps_ret (pe_and (pe_callB (call_isX hz hf) (by rfl) T.f_isinstance PyProof.Rows.boot_isinstance (pa_cons (pv 4) (pa_cons (pe_glob (v := .ref (He.ga K "SignError")) (by rfl) T.e_SignError.gm rfl) pa_nil))) (pe_and (pe_callB (call_isX hz hf) (by rfl) T.f_isinstance PyProof.Rows.boot_isinstance (pa_cons (pv 4) (pa_cons (pe_bltn (v := .ty "ValueError") (by rfl) T.f_ValueError (by decide +kernel) rfl) pa_nil))) (pe_one (pe_not (pv 5))))))))) (ClOk.one ⟨rfl, by decide, .inl T.e_SignError.gm⟩ (fun a oe cls d pn hz hf => (pss_one (ps_ret pe_bl))) ClOk.nil))))), ?_⟩
    obtain ⟨a, b, rfl, g1, g2⟩ := id hv
    have hz5 := hz.top
    simp only [cxOf, tYes, eq_self, if_true, if_false, wipe, rLenQ, rIxTQ, rIxLQ, rIxSQ, rInt1Q, rTupQ, rAppQ, rPopQ, rPopAtQ, rRevQ, rListS, rReprP, tLenSetT, tChain, tRetN, tRet, tSeq, tAsg, gName, tVar, tC, tCons, tNil, tCB, tOp, rI0, rI, tAndV, tOrV, tNotV, tIf, tTest, tB, tNot, tAnd, tOr, tIfS, tNext, tCallR, rIsK, rEq, rNe, tDrop, L2.start, List.map_cons, List.map_nil, List.length_cons, List.length_nil, Nat.reduceAdd, Nat.reduceSub, Nat.sub_self, List.replicate_zero, List.replicate_succ, List.append_nil, List.cons_append, List.nil_append, List.getElem?_cons_zero, List.getElem?_cons_succ, List.set_cons_zero, List.set_cons_succ, Option.some.injEq, List.cons.injEq, and_true, true_and, exists_eq_left, exists_eq_left', exists_eq_right, V.ty.injEq, V.int.injEq, V.bl.injEq, V.str.injEq, V.ref.injEq, exists_and_left, exists_const, reduceIte, reduceCtorEq, false_and, and_false, exists_false, or_false, false_or, Bool.not_true, Bool.not_false, Bool.false_eq_true, String.reduceEq, true_or, or_true, rNotT, tNNew, tNNotIn, tNGet, sNPut, tLenSetN, tPar, tAug, ipI, tDNotIn, sDPut, tDGet, tTup, tLst, tBM, tBM0]
    refine ⟨_, g1, .str z, rfl, Nat.zero_le _, fun p hp => ⟨Nat.zero_le _, fun p1 hp1 => ⟨szle (m := 3) (Nat.le_refl _), fun p2 hp2 => ⟨rfl, ?_⟩⟩⟩⟩
    have e1 := same_upd (o := .tup []) hp
    have e2 := same_upd (o := .tup []) hp1
    have e3 := same_upd (o := .tup [.str z, .ref p, .ref p1]) hp2
    have s1 := Same.trans e1 (Same.trans e2 e3)
    have hw : EWr K (upd (upd (upd H p (.tup [])) p1 (.tup [])) p2 (.tup [.str z, .ref p, .ref p1])) (.ref p2) z := ⟨p2, p, p1, rfl, .inl (.inl upd_same), .inl (.inl ((Same.trans e2 e3) _ _ upd_same)), .inl (.inl (e3 _ _ upd_same))⟩
    generalize upd (upd (upd H p (.tup [])) p1 (.tup [])) p2 (.tup [.str z, .ref p, .ref p1]) = H1 at *
    have hb1 := hb.mono (TK.of_same s1)
    have hv1 : GoodK K H1 (.ref a) z (smR z.length) := ⟨hv.mono (TK.of_same s1), hz, smR_ok⟩
    have q1 := q H1 s1
    by_cases c0 : k = 0
    · refine ifT (decide_eq_true c0) ⟨_, Same.sqT s1 g1, .str z, rfl, z, rfl, ?_, u, _, rfl, .inr ⟨hb1, ?_⟩⟩
      · exact szle (m := 10) (by show 1 + z.length ≤ 10; omega)
      · refine ⟨true, T.x_BadLooker_BadLooker, fun _ x _ => ?_, fun e => nomatch e⟩
        simp only [cxOf, tYes, eq_self, if_true, if_false, wipe, rLenQ, rIxTQ, rIxLQ, rIxSQ, rInt1Q, rTupQ, rAppQ, rPopQ, rPopAtQ, rRevQ, rListS, rReprP, tLenSetT, tChain, tRetN, tRet, tSeq, tAsg, gName, tVar, tC, tCons, tNil, tCB, tOp, rI0, rI, tAndV, tOrV, tNotV, tIf, tTest, tB, tNot, tAnd, tOr, tIfS, tNext, tCallR, rIsK, rEq, rNe, tDrop, L2.start, List.map_cons, List.map_nil, List.length_cons, List.length_nil, Nat.reduceAdd, Nat.reduceSub, Nat.sub_self, List.replicate_zero, List.replicate_succ, List.append_nil, List.cons_append, List.nil_append, List.getElem?_cons_zero, List.getElem?_cons_succ, List.set_cons_zero, List.set_cons_succ, Option.some.injEq, List.cons.injEq, and_true, true_and, exists_eq_left, exists_eq_left', exists_eq_right, V.ty.injEq, V.int.injEq, V.bl.injEq, V.str.injEq, V.ref.injEq, exists_and_left, exists_const, reduceIte, reduceCtorEq, false_and, and_false, exists_false, or_false, false_or, Bool.not_true, Bool.not_false, Bool.false_eq_true, String.reduceEq, true_or, or_true, rNotT, tNNew, tNNotIn, tNGet, sNPut, tLenSetN, tPar, tAug, ipI, tDNotIn, sDPut, tDGet, tTup, tLst, tBM, tBM0]
        exact ⟨_, _, _, false, rfl, rfl, T.q_BadLooker, rfl, (fun u hu => hu), T.k_BadLooker_BadSigns, false, rfl, ifF rfl ⟨_, _, _, false, rfl, rfl, T.q_BadLooker, rfl, (fun u hu => hu), T.k_BadLooker_BadNumber, false, rfl, ifF rfl ⟨_, _, _, false, rfl, rfl, T.q_BadLooker, rfl, (fun u hu => hu), T.k_BadLooker_BadWriter, _, _, _, true, rfl, rfl, T.q_BadLooker, rfl, (fun u hu => hu), T.k_BadLooker_SignError, true, rfl, ifT rfl ⟨_, _, _, true, rfl, rfl, T.q_BadLooker, rfl, (fun u hu => hu), T.k_BadLooker_ValueError, true, rfl, ifT rfl ⟨false, rfl, q1⟩⟩⟩⟩⟩
    refine ifF (decide_eq_false c0) ⟨rfl, ?_⟩
    by_cases c1 : k = 1
    · refine ifT (decide_eq_true c1) ⟨u, rfl, hb1, ?_⟩
      refine ⟨true, T.x_BadLooker_BadLooker, fun _ x _ => ?_, fun e => nomatch e⟩
      simp only [cxOf, tYes, eq_self, if_true, if_false, wipe, rLenQ, rIxTQ, rIxLQ, rIxSQ, rInt1Q, rTupQ, rAppQ, rPopQ, rPopAtQ, rRevQ, rListS, rReprP, tLenSetT, tChain, tRetN, tRet, tSeq, tAsg, gName, tVar, tC, tCons, tNil, tCB, tOp, rI0, rI, tAndV, tOrV, tNotV, tIf, tTest, tB, tNot, tAnd, tOr, tIfS, tNext, tCallR, rIsK, rEq, rNe, tDrop, L2.start, List.map_cons, List.map_nil, List.length_cons, List.length_nil, Nat.reduceAdd, Nat.reduceSub, Nat.sub_self, List.replicate_zero, List.replicate_succ, List.append_nil, List.cons_append, List.nil_append, List.getElem?_cons_zero, List.getElem?_cons_succ, List.set_cons_zero, List.set_cons_succ, Option.some.injEq, List.cons.injEq, and_true, true_and, exists_eq_left, exists_eq_left', exists_eq_right, V.ty.injEq, V.int.injEq, V.bl.injEq, V.str.injEq, V.ref.injEq, exists_and_left, exists_const, reduceIte, reduceCtorEq, false_and, and_false, exists_false, or_false, false_or, Bool.not_true, Bool.not_false, Bool.false_eq_true, String.reduceEq, true_or, or_true, rNotT, tNNew, tNNotIn, tNGet, sNPut, tLenSetN, tPar, tAug, ipI, tDNotIn, sDPut, tDGet, tTup, tLst, tBM, tBM0]
      exact ⟨_, _, _, false, rfl, rfl, T.q_BadLooker, rfl, (fun u hu => hu), T.k_BadLooker_BadSigns, false, rfl, ifF rfl ⟨_, _, _, false, rfl, rfl, T.q_BadLooker, rfl, (fun u hu => hu), T.k_BadLooker_BadNumber, false, rfl, ifF rfl ⟨_, _, _, false, rfl, rfl, T.q_BadLooker, rfl, (fun u hu => hu), T.k_BadLooker_BadWriter, _, _, _, true, rfl, rfl, T.q_BadLooker, rfl, (fun u hu => hu), T.k_BadLooker_SignError, true, rfl, ifT rfl ⟨_, _, _, true, rfl, rfl, T.q_BadLooker, rfl, (fun u hu => hu), T.k_BadLooker_ValueError, true, rfl, ifT rfl ⟨false, rfl, q1⟩⟩⟩⟩⟩
    refine ifF (decide_eq_false c1) ⟨rfl, ?_⟩
    by_cases c2 : k = 2
    · refine ifT (decide_eq_true c2) ⟨u, rfl, hb1, ?_⟩
      refine ⟨true, T.x_BadLooker_BadLooker, fun _ x _ => ?_, fun e => nomatch e⟩
      simp only [cxOf, tYes, eq_self, if_true, if_false, wipe, rLenQ, rIxTQ, rIxLQ, rIxSQ, rInt1Q, rTupQ, rAppQ, rPopQ, rPopAtQ, rRevQ, rListS, rReprP, tLenSetT, tChain, tRetN, tRet, tSeq, tAsg, gName, tVar, tC, tCons, tNil, tCB, tOp, rI0, rI, tAndV, tOrV, tNotV, tIf, tTest, tB, tNot, tAnd, tOr, tIfS, tNext, tCallR, rIsK, rEq, rNe, tDrop, L2.start, List.map_cons, List.map_nil, List.length_cons, List.length_nil, Nat.reduceAdd, Nat.reduceSub, Nat.sub_self, List.replicate_zero, List.replicate_succ, List.append_nil, List.cons_append, List.nil_append, List.getElem?_cons_zero, List.getElem?_cons_succ, List.set_cons_zero, List.set_cons_succ, Option.some.injEq, List.cons.injEq, and_true, true_and, exists_eq_left, exists_eq_left', exists_eq_right, V.ty.injEq, V.int.injEq, V.bl.injEq, V.str.injEq, V.ref.injEq, exists_and_left, exists_const, reduceIte, reduceCtorEq, false_and, and_false, exists_false, or_false, false_or, Bool.not_true, Bool.not_false, Bool.false_eq_true, String.reduceEq, true_or, or_true, rNotT, tNNew, tNNotIn, tNGet, sNPut, tLenSetN, tPar, tAug, ipI, tDNotIn, sDPut, tDGet, tTup, tLst, tBM, tBM0]
      exact ⟨_, _, _, false, rfl, rfl, T.q_BadLooker, rfl, (fun u hu => hu), T.k_BadLooker_BadSigns, false, rfl, ifF rfl ⟨_, _, _, false, rfl, rfl, T.q_BadLooker, rfl, (fun u hu => hu), T.k_BadLooker_BadNumber, false, rfl, ifF rfl ⟨_, _, _, false, rfl, rfl, T.q_BadLooker, rfl, (fun u hu => hu), T.k_BadLooker_BadWriter, _, _, _, true, rfl, rfl, T.q_BadLooker, rfl, (fun u hu => hu), T.k_BadLooker_SignError, true, rfl, ifT rfl ⟨_, _, _, true, rfl, rfl, T.q_BadLooker, rfl, (fun u hu => hu), T.k_BadLooker_ValueError, true, rfl, ifT rfl ⟨false, rfl, q1⟩⟩⟩⟩⟩
    refine ifF (decide_eq_false c2) ⟨rfl, ?_⟩
    by_cases c3 : k = 3
    · refine ifT (decide_eq_true c3) ⟨u, _, rfl, .inl hb1, ?_⟩
      refine ⟨true, T.x_BadLooker_BadLooker, fun _ x _ => ?_, fun e => nomatch e⟩
      simp only [cxOf, tYes, eq_self, if_true, if_false, wipe, rLenQ, rIxTQ, rIxLQ, rIxSQ, rInt1Q, rTupQ, rAppQ, rPopQ, rPopAtQ, rRevQ, rListS, rReprP, tLenSetT, tChain, tRetN, tRet, tSeq, tAsg, gName, tVar, tC, tCons, tNil, tCB, tOp, rI0, rI, tAndV, tOrV, tNotV, tIf, tTest, tB, tNot, tAnd, tOr, tIfS, tNext, tCallR, rIsK, rEq, rNe, tDrop, L2.start, List.map_cons, List.map_nil, List.length_cons, List.length_nil, Nat.reduceAdd, Nat.reduceSub, Nat.sub_self, List.replicate_zero, List.replicate_succ, List.append_nil, List.cons_append, List.nil_append, List.getElem?_cons_zero, List.getElem?_cons_succ, List.set_cons_zero, List.set_cons_succ, Option.some.injEq, List.cons.injEq, and_true, true_and, exists_eq_left, exists_eq_left', exists_eq_right, V.ty.injEq, V.int.injEq, V.bl.injEq, V.str.injEq, V.ref.injEq, exists_and_left, exists_const, reduceIte, reduceCtorEq, false_and, and_false, exists_false, or_false, false_or, Bool.not_true, Bool.not_false, Bool.false_eq_true, String.reduceEq, true_or, or_true, rNotT, tNNew, tNNotIn, tNGet, sNPut, tLenSetN, tPar, tAug, ipI, tDNotIn, sDPut, tDGet, tTup, tLst, tBM, tBM0]
      exact ⟨_, _, _, false, rfl, rfl, T.q_BadLooker, rfl, (fun u hu => hu), T.k_BadLooker_BadSigns, false, rfl, ifF rfl ⟨_, _, _, false, rfl, rfl, T.q_BadLooker, rfl, (fun u hu => hu), T.k_BadLooker_BadNumber, false, rfl, ifF rfl ⟨_, _, _, false, rfl, rfl, T.q_BadLooker, rfl, (fun u hu => hu), T.k_BadLooker_BadWriter, _, _, _, true, rfl, rfl, T.q_BadLooker, rfl, (fun u hu => hu), T.k_BadLooker_SignError, true, rfl, ifT rfl ⟨_, _, _, true, rfl, rfl, T.q_BadLooker, rfl, (fun u hu => hu), T.k_BadLooker_ValueError, true, rfl, ifT rfl ⟨false, rfl, q1⟩⟩⟩⟩⟩
    refine ifF (decide_eq_false c3) ⟨rfl, ?_⟩
    by_cases c4 : k = 4
    · refine ifT (decide_eq_true c4) ⟨_, u, rfl, .inr ⟨⟨z, _, hv1⟩, hb1⟩, ?_⟩
      refine ⟨true, T.x_BadLooker_BadLooker, fun _ x _ => ?_, fun e => nomatch e⟩
      simp only [cxOf, tYes, eq_self, if_true, if_false, wipe, rLenQ, rIxTQ, rIxLQ, rIxSQ, rInt1Q, rTupQ, rAppQ, rPopQ, rPopAtQ, rRevQ, rListS, rReprP, tLenSetT, tChain, tRetN, tRet, tSeq, tAsg, gName, tVar, tC, tCons, tNil, tCB, tOp, rI0, rI, tAndV, tOrV, tNotV, tIf, tTest, tB, tNot, tAnd, tOr, tIfS, tNext, tCallR, rIsK, rEq, rNe, tDrop, L2.start, List.map_cons, List.map_nil, List.length_cons, List.length_nil, Nat.reduceAdd, Nat.reduceSub, Nat.sub_self, List.replicate_zero, List.replicate_succ, List.append_nil, List.cons_append, List.nil_append, List.getElem?_cons_zero, List.getElem?_cons_succ, List.set_cons_zero, List.set_cons_succ, Option.some.injEq, List.cons.injEq, and_true, true_and, exists_eq_left, exists_eq_left', exists_eq_right, V.ty.injEq, V.int.injEq, V.bl.injEq, V.str.injEq, V.ref.injEq, exists_and_left, exists_const, reduceIte, reduceCtorEq, false_and, and_false, exists_false, or_false, false_or, Bool.not_true, Bool.not_false, Bool.false_eq_true, String.reduceEq, true_or, or_true, rNotT, tNNew, tNNotIn, tNGet, sNPut, tLenSetN, tPar, tAug, ipI, tDNotIn, sDPut, tDGet, tTup, tLst, tBM, tBM0]
      exact ⟨_, _, _, false, rfl, rfl, T.q_BadLooker, rfl, (fun u hu => hu), T.k_BadLooker_BadSigns, false, rfl, ifF rfl ⟨_, _, _, false, rfl, rfl, T.q_BadLooker, rfl, (fun u hu => hu), T.k_BadLooker_BadNumber, false, rfl, ifF rfl ⟨_, _, _, false, rfl, rfl, T.q_BadLooker, rfl, (fun u hu => hu), T.k_BadLooker_BadWriter, _, _, _, true, rfl, rfl, T.q_BadLooker, rfl, (fun u hu => hu), T.k_BadLooker_SignError, true, rfl, ifT rfl ⟨_, _, _, true, rfl, rfl, T.q_BadLooker, rfl, (fun u hu => hu), T.k_BadLooker_ValueError, true, rfl, ifT rfl ⟨false, rfl, q1⟩⟩⟩⟩⟩
    refine ifF (decide_eq_false c4) ⟨rfl, ?_⟩
    by_cases c5 : k = 5
    · refine ifT (decide_eq_true c5) ⟨1, rfl, u, -1, rfl, .inr ⟨hb1, ?_⟩⟩
      refine ⟨true, T.x_BadLooker_BadLooker, fun _ x _ => ?_, fun e => nomatch e⟩
      simp only [cxOf, tYes, eq_self, if_true, if_false, wipe, rLenQ, rIxTQ, rIxLQ, rIxSQ, rInt1Q, rTupQ, rAppQ, rPopQ, rPopAtQ, rRevQ, rListS, rReprP, tLenSetT, tChain, tRetN, tRet, tSeq, tAsg, gName, tVar, tC, tCons, tNil, tCB, tOp, rI0, rI, tAndV, tOrV, tNotV, tIf, tTest, tB, tNot, tAnd, tOr, tIfS, tNext, tCallR, rIsK, rEq, rNe, tDrop, L2.start, List.map_cons, List.map_nil, List.length_cons, List.length_nil, Nat.reduceAdd, Nat.reduceSub, Nat.sub_self, List.replicate_zero, List.replicate_succ, List.append_nil, List.cons_append, List.nil_append, List.getElem?_cons_zero, List.getElem?_cons_succ, List.set_cons_zero, List.set_cons_succ, Option.some.injEq, List.cons.injEq, and_true, true_and, exists_eq_left, exists_eq_left', exists_eq_right, V.ty.injEq, V.int.injEq, V.bl.injEq, V.str.injEq, V.ref.injEq, exists_and_left, exists_const, reduceIte, reduceCtorEq, false_and, and_false, exists_false, or_false, false_or, Bool.not_true, Bool.not_false, Bool.false_eq_true, String.reduceEq, true_or, or_true, rNotT, tNNew, tNNotIn, tNGet, sNPut, tLenSetN, tPar, tAug, ipI, tDNotIn, sDPut, tDGet, tTup, tLst, tBM, tBM0]
      exact ⟨_, _, _, false, rfl, rfl, T.q_BadLooker, rfl, (fun u hu => hu), T.k_BadLooker_BadSigns, false, rfl, ifF rfl ⟨_, _, _, false, rfl, rfl, T.q_BadLooker, rfl, (fun u hu => hu), T.k_BadLooker_BadNumber, false, rfl, ifF rfl ⟨_, _, _, false, rfl, rfl, T.q_BadLooker, rfl, (fun u hu => hu), T.k_BadLooker_BadWriter, _, _, _, true, rfl, rfl, T.q_BadLooker, rfl, (fun u hu => hu), T.k_BadLooker_SignError, true, rfl, ifT rfl ⟨_, _, _, true, rfl, rfl, T.q_BadLooker, rfl, (fun u hu => hu), T.k_BadLooker_ValueError, true, rfl, ifT rfl ⟨false, rfl, q1⟩⟩⟩⟩⟩
    refine ifF (decide_eq_false c5) ⟨_, u, z, rfl, hw, hz, .inr ⟨hb1, ?_⟩⟩
    refine ⟨true, T.x_BadLooker_BadLooker, fun _ x _ => ?_, fun e => nomatch e⟩
    simp only [cxOf, tYes, eq_self, if_true, if_false, wipe, rLenQ, rIxTQ, rIxLQ, rIxSQ, rInt1Q, rTupQ, rAppQ, rPopQ, rPopAtQ, rRevQ, rListS, rReprP, tLenSetT, tChain, tRetN, tRet, tSeq, tAsg, gName, tVar, tC, tCons, tNil, tCB, tOp, rI0, rI, tAndV, tOrV, tNotV, tIf, tTest, tB, tNot, tAnd, tOr, tIfS, tNext, tCallR, rIsK, rEq, rNe, tDrop, L2.start, List.map_cons, List.map_nil, List.length_cons, List.length_nil, Nat.reduceAdd, Nat.reduceSub, Nat.sub_self, List.replicate_zero, List.replicate_succ, List.append_nil, List.cons_append, List.nil_append, List.getElem?_cons_zero, List.getElem?_cons_succ, List.set_cons_zero, List.set_cons_succ, Option.some.injEq, List.cons.injEq, and_true, true_and, exists_eq_left, exists_eq_left', exists_eq_right, V.ty.injEq, V.int.injEq, V.bl.injEq, V.str.injEq, V.ref.injEq, exists_and_left, exists_const, reduceIte, reduceCtorEq, false_and, and_false, exists_false, or_false, false_or, Bool.not_true, Bool.not_false, Bool.false_eq_true, String.reduceEq, true_or, or_true, rNotT, tNNew, tNNotIn, tNGet, sNPut, tLenSetN, tPar, tAug, ipI, tDNotIn, sDPut, tDGet, tTup, tLst, tBM, tBM0]
    exact ⟨_, _, _, false, rfl, rfl, T.q_BadLooker, rfl, (fun u hu => hu), T.k_BadLooker_BadSigns, false, rfl, ifF rfl ⟨_, _, _, false, rfl, rfl, T.q_BadLooker, rfl, (fun u hu => hu), T.k_BadLooker_BadNumber, false, rfl, ifF rfl ⟨_, _, _, false, rfl, rfl, T.q_BadLooker, rfl, (fun u hu => hu), T.k_BadLooker_BadWriter, _, _, _, true, rfl, rfl, T.q_BadLooker, rfl, (fun u hu => hu), T.k_BadLooker_SignError, true, rfl, ifT rfl ⟨_, _, _, true, rfl, rfl, T.q_BadLooker, rfl, (fun u hu => hu), T.k_BadLooker_ValueError, true, rfl, ifT rfl ⟨false, rfl, q1⟩⟩⟩⟩⟩
end
end K34

namespace K34
open PySem PySem.Spec PyProof.Rows L2 Sg
section
variable {P : Program} {w : World} {K : PySem.W.Frag} {mg : Str → Option Value} {base : Heap}
def turnL (z : Str) : Str := cutS z (some 1) none ++ Str.ofString "\n"
theorem turnL_cps {z : Str} (h : 1 ≤ z.length) : (turnL z).cps.toList = z.cps.toList.drop 1 ++ [10] := by
  unfold turnL
  have e1 : HT.sIx z.length 0 (some 1) = 1 := by
    have := HT.sIx_nat z.length 0 1
    rw [show ((1 : Nat) : Int) = 1 from rfl] at this
    rw [this]
    omega
  have hl : z.cps.toList.length = z.length := Array.length_toList
  have e2 : (cutS z (some 1) none).cps.toList = z.cps.toList.drop 1 := by
    unfold cutS
    rw [e1, HT.sIx_none]
    show (z.cps.toList.drop 1).take (z.length - 1) = _
    rw [List.take_of_length_le (by rw [List.length_drop]; omega)]
  show ((cutS z (some 1) none).cps ++ (Str.ofString "\n").cps).toList = _
  rw [Array.toList_append, e2]
  rfl
theorem turnL_ok {z : Str} (hz : Sg.SignsOk z) (h10 : ∀ c ∈ z.cps.toList, c ≠ 10) : Sg.SignsOk (turnL z) := by
  have e := turnL_cps hz.pos
  have hl : z.cps.toList.length = z.length := Array.length_toList
  have hl2 : (turnL z).length = z.length := by
    have : (turnL z).cps.toList.length = (turnL z).length := Array.length_toList
    rw [← this, e, List.length_append, List.length_drop]
    have := hz.pos
    simp only [List.length_cons, List.length_nil]
    omega
  refine ⟨by rw [hl2]; exact hz.pos, by rw [hl2]; exact hz.top, ?_, fun c hc => ?_⟩
  · rw [e]
    refine List.nodup_append.mpr ⟨hz.nd.sublist (List.drop_sublist 1 _), by simp, fun a ha b hb => ?_⟩
    obtain rfl := List.mem_singleton.mp hb
    exact h10 a (List.mem_of_mem_drop ha)
  · rw [e] at hc
    rcases List.mem_append.mp hc with h | h
    · exact hz.low c (List.mem_of_mem_drop h)
    · obtain rfl := List.mem_singleton.mp h
      decide
theorem int_good {i : Int} (h0 : 0 ≤ i) (h1 : i < 600) : GoodD (.int i) := ⟨rfl, (int_ok h0 h1).2.2, Nat.zero_le _, szle (m := 8) (int_ok h0 h1).1⟩
def ewD (z : Str) : PyData := .tuple [.str z, .tuple [], .tuple []]
theorem EWr.dp {H : Hp} {v : V} {z : Str} (h : EWr K H v z) : Dp K H v (ewD z) := by
  obtain ⟨a, b, c, rfl, h1, h2, h3⟩ := h
  exact .tup h1 (.cons (.str z) (.cons (.tup h2 .nil) (.cons (.tup h3 .nil) .nil)))
theorem ew_good {z : Str} (hz : Sg.SignsOk z) : GoodD (ewD z) := by
  have hz1 : PyData.strOk z = true := by
    unfold PyData.strOk
    rw [Array.all_eq_true_iff_forall_mem]
    intro c hc
    have := hz.low c (Array.mem_toList_iff.mpr hc)
    exact decide_eq_true (Nat.lt_of_lt_of_le this (by decide))
  have hsh : (ewD z).leavesShort 8 = true := by
    show ((z.cps.toList.all fun c => decide (c < 16 ^ 8)) && (true && (true && true))) = true
    rw [List.all_eq_true.mpr fun c hc => decide_eq_true (Nat.lt_of_lt_of_le (hz.low c hc) (by decide))]
    rfl
  have hz5 := hz.top
  refine ⟨?_, rfl, (by decide : 2 ≤ 50), ?_⟩
  · show (PyData.strOk z && (true && (true && true))) = true
    rw [hz1]; rfl
  · refine PyData.shown_fits (B := 8) (Nat.le_refl _) (by decide) hsh ?_
    show z.cps.size + 1 + (0 + 1 + (0 + 1 + 0)) ≤ 2 ^ 20
    have : z.cps.size = z.length := rfl
    have e : (2 : Nat) ^ 20 = 1048576 := by decide
    omega
theorem sc_law : FnScope ["script", "pool", "signs", "late", "looker", "bad", "small", "which", "state", "told", "k", "q", "sign"] ["script"] (defScope (topS 74)) := ⟨rfl, rfl, rfl, by decide +kernel, rfl, by decide +kernel, by decide +kernel⟩
theorem bd_law {K : PySem.W.Frag} {f : Addr} {fd : FuncData} (F : FnP K "law" (topS 74) f fd) : Binds K fd ["script"] [] := F.bindsN fun _ _ _ _ _ _ us hl => match us, hl with | [_], _ => rfl
def st (l : List (Option V)) : L2.St := l ++ List.replicate (13 - l.length) none
def LwA (a : Addr) (σ : L2.St) (H' : Hp) : Prop := ∃ l, PoolL H' l ∧ σ = st [some (.ref a), some (.ref l)]
def LwB (a : Addr) (σ : L2.St) (H' : Hp) : Prop := ∃ (l : Addr) (z : Str), PoolL H' l ∧ Sg.SignsOk z ∧ (∀ c ∈ z.cps.toList, c ≠ 10) ∧ σ = st [some (.ref a), some (.ref l), some (.str z)]
def LwC (a : Addr) (σ : L2.St) (H' : Hp) : Prop := ∃ (l : Addr) (z : Str), PoolL H' l ∧ Sg.SignsOk z ∧ σ = st [some (.ref a), some (.ref l), some (.str z)]
def LwD (a : Addr) (z : Str) (σ : L2.St) (H' : Hp) : Prop := ∃ (l t : Addr), l ≠ t ∧ PoolL H' l ∧ PoolL H' t ∧ σ = st [some (.ref a), some (.ref l), some (.str z), some (.ref t)]
def LwE (K : PySem.W.Frag) (a : Addr) (z : Str) (σ : L2.St) (H' : Hp) : Prop := ∃ (l t : Addr) (v : V) (rs : List LRow), PoolL H' t ∧ GoodK K H' v z rs ∧ σ = st [some (.ref a), some (.ref l), some (.str z), some (.ref t), some v]
def LwF (K : PySem.W.Frag) (a l t : Addr) (z : Str) (v : V) (rs : List LRow) (u : V) (σ : L2.St) (H' : Hp) : Prop := GoodK K H' v z rs ∧ BadK K H' u ∧ σ = st [some (.ref a), some (.ref l), some (.str z), some (.ref t), some v, some u]
def LwG (K : PySem.W.Frag) (a l t : Addr) (z : Str) (v : V) (rs : List LRow) (u s : V) (x7 : Option V) (σ : L2.St) (H' : Hp) : Prop := GoodK K H' v z rs ∧ BadK K H' u ∧ RLk K H' s z (smR z.length) ∧ σ = st [some (.ref a), some (.ref l), some (.str z), some (.ref t), some v, some u, some s, x7]
def spLaw (K : PySem.W.Frag) : Sp := fun vs H Q _ => ∃ (a : Addr) (ns : List Int), vs = [.ref a] ∧ SqL K H a (ns.map V.int) ∧ ∀ H', Q (.bl true) H'
theorem fn_law (T : Tx K mg) {fd : FuncData} (F : FnP K "law" (topS 74) (He.ga K "law") fd) : FnQ P w K mg base L2.CX0 9 (He.ga K "law") fd ["script"] (spLaw K) := by
  have D__law_pool := ok__law_pool (P := P) (w := w) (base := base) T
  have D__law_signs := ok__law_signs (P := P) (w := w) (base := base) T
  have D__law_draw := ok__law_draw (P := P) (w := w) (base := base) T
  have D__law_drawn_looker := ok__law_drawn_looker (P := P) (w := w) (base := base) T
  have D__law_wrong := ok__law_wrong (P := P) (w := w) (base := base) T
  have D_is_looker := ok_is_looker (P := P) (w := w) (base := base) T
  have D__law_refused := ok__law_refused (P := P) (w := w) (base := base) T
  have D__law_same := ok__law_same (P := P) (w := w) (base := base) T
  have D_takes := ok_takes (P := P) (w := w) (base := base) T
  have D_count_taken := ok_count_taken (P := P) (w := w) (base := base) T
  have D_only_on := ok_only_on (P := P) (w := w) (base := base) T
  refine fnQ_of F sc_law (fun vs H Q E h => ?_) (fun cdv A outer s H vs Q E hA hr h => ?_)
  · obtain ⟨a, ns, rfl, _⟩ := h
    rfl
  · obtain ⟨a, ns, rfl, ha, q⟩ := h
    refine ⟨_, PSs.nox (pss_cons (ps_set (i := 1) sc_law.nd rfl (.inr rfl) (pe_callR D__law_pool (hr.mono (by decide)) takes0 (pa_cons (pv 0) pa_nil)))
      (pss_cons (ps_set (i := 2) sc_law.nd rfl (.inl rfl) (pe_callR D__law_signs (hr.mono (by decide)) takes0 (pa_cons (pv 1) (pa_cons (pe_op op_add pe_int (pe_callR D__law_draw (hr.mono (by decide)) takes0 (pa_cons (pv 1) (pa_cons pe_int pa_nil)))) pa_nil))))
      (pss_cons (ps_if (pt_cmpR op_eq (pe_callR D__law_draw (hr.mono (by decide)) takes0 (pa_cons (pv 1) (pa_cons pe_int pa_nil))) pe_int (nomark _)) (pss_one (ps_set (i := 2) sc_law.nd rfl (.inl rfl) (pe_op op_add_str (pe_slice sl_str (pv 2) (po_some pe_int) po_none) pe_str))) pss_nil)
      (pss_cons (ps_setLc (i := 3) (own := [("k", 10)]) rfl sc_law.nd rfl rfl (sw_true rfl rfl rfl (by decide +kernel)) (pi_range1 (by rfl) T.f_range (pa_cons pe_int pa_nil)) (blkOk_by (own := [("k", 10)]) (N := ["script", "pool", "signs", "late", "looker", "bad", "small", "which", "state", "told", "k", "q", "sign"]) (sc := defScope (topS 74)) (by decide +kernel)) (fun _ _ _ _ _ => (pg_name (i := 10) sc_law.nd rfl (.inl rfl))) (fun _ _ _ _ _ => pts_nil) (fun _ _ _ _ _ => (pe_callR D__law_draw (hr.mono (by decide)) takes0 (pa_cons (pv 1) (pa_cons pe_int pa_nil)))))
      (pss_cons (ps_set (i := 4) sc_law.nd rfl (.inr rfl) (pe_callR D__law_drawn_looker (hr.mono (by decide)) takes0 (pa_cons (pv 1) (pa_cons (pv 2) pa_nil))))
      (pss_cons (ps_set (i := 5) sc_law.nd rfl (.inl rfl) (pe_callR D__law_wrong (hr.mono (by decide)) takes0 (pa_cons (pv 3) (pa_cons (pv 2) (pa_cons (pe_ix ix_tupQ (pv 4) pe_int (fun _ _ => rfl)) pa_nil)))))
      (pss_cons (ps_if (PW.pt (pw_or (pt_cmpR op_isnotB (pe_callR D_is_looker (hr.mono (by decide)) takes0 (pa_cons (pv 4) pa_nil)) pe_bl (nomark _)) (pw_or1 (pt_cmpR op_isnotB (pe_callR D_is_looker (hr.mono (by decide)) takes0 (pa_cons (pv 5) pa_nil)) pe_bl (nomark _))))) (pss_one (ps_ret pe_bl)) pss_nil)
      (pss_cons (ps_set (i := 6) sc_law.nd rfl (.inl rfl) (pe_tup (pa_cons (pv 2) (pa_cons (pe_tup (pa_cons (pe_tup (pa_cons pe_int (pa_cons (pe_callTy call_tupQ (by rfl) T.f_tuple PyProof.Rows.boot_tuple (pa_cons (pe_lc (own := [("sign", 12)]) rfl sc_law.nd (pi_str (pv 2)) (blkOk_by (own := [("sign", 12)]) (N := ["script", "pool", "signs", "late", "looker", "bad", "small", "which", "state", "told", "k", "q", "sign"]) (sc := defScope (topS 74)) (by decide +kernel)) (fun _ _ _ _ _ => (pg_name (i := 12) sc_law.nd rfl (.inl rfl))) (fun _ _ _ _ _ => pts_nil) (fun _ _ _ _ _ => pe_int)) pa_nil)) pa_nil))) pa_nil)) pa_nil))))
      (pss_cons (ps_for PassesOwn.never rfl (pi_range1 (by rfl) T.f_range (pa_cons pe_int pa_nil)) (pg_name (i := 7) sc_law.nd rfl (.inl rfl)) (pss_one (ps_if (pt_not (pt_val (pe_callR D__law_refused (hr.mono (by decide)) takes0 (pa_cons (pv 7) (pa_cons (pv 5) (pa_cons (pv 6) pa_nil)))))) (pss_one (ps_ret pe_bl)) pss_nil)))
      (pss_cons (ps_if (PW.pt (pw_or (pt_not (pt_val (pe_callQ D__law_same hA (hr.mono (by decide)) takes0 (pa_cons (pe_callR D_takes (hr.mono (by decide)) takes0 (pa_cons (pv 4) (pa_cons pe_str pa_nil))) (pa_cons (pe_ix ix_tupQ (pe_ix ix_tupQ (pe_ix ix_tupQ (pv 4) pe_int (fun _ _ => rfl)) pe_int (fun _ _ => rfl)) pe_int (fun _ _ => rfl)) pa_nil))))) (pw_or1 (pt_not (pt_val (pe_callQ D__law_same hA (hr.mono (by decide)) takes0 (pa_cons (pe_callR D_count_taken (hr.mono (by decide)) takes0 (pa_cons (pv 4) (pa_cons pe_int pa_nil))) (pa_cons (pe_ix ix_tupQ (pe_ix ix_tupQ (pe_ix ix_tupQ (pv 4) pe_int (fun _ _ => rfl)) pe_int (fun _ _ => rfl)) pe_int (fun _ _ => rfl)) pa_nil)))))))) (pss_one (ps_ret pe_bl)) pss_nil)
      (pss_cons (ps_set (i := 8) sc_law.nd rfl (.inl rfl) (pe_ix ix_tupQ (pe_ix ix_tupQ (pv 4) pe_int (fun _ _ => rfl)) (pe_ix ix_tupQ (pe_ix ix_tupQ (pe_ix ix_tupQ (pe_ix ix_tupQ (pv 4) pe_int (fun _ _ => rfl)) pe_int (fun _ _ => rfl)) pe_int (fun _ _ => rfl)) pe_int (fun _ _ => rfl)) (fun _ _ => rfl)))
      (pss_cons (ps_if (pt_not (pt_val (pe_callQ D__law_same hA (hr.mono (by decide)) takes0 (pa_cons (pe_callR D_takes (hr.mono (by decide)) takes0 (pa_cons (pv 4) (pa_cons (pe_ix ix_strQ (pv 2) pe_int (fun _ _ => rfl)) pa_nil))) (pa_cons (pe_ix ix_tupQ (pv 8) pe_int (fun _ _ => rfl)) pa_nil))))) (pss_one (ps_ret pe_bl)) pss_nil)
      (pss_cons (ps_setLc (i := 9) (own := [("q", 11)]) rfl sc_law.nd rfl rfl (sw_true rfl rfl rfl (by decide +kernel)) (pi_tup (pe_ix ix_tupQ (pe_ix ix_tupQ (pe_ix ix_tupQ (pv 4) pe_int (fun _ _ => rfl)) pe_int (fun _ _ => rfl)) pe_int (fun _ _ => rfl))) (blkOk_by (own := [("q", 11)]) (N := ["script", "pool", "signs", "late", "looker", "bad", "small", "which", "state", "told", "k", "q", "sign"]) (sc := defScope (topS 74)) (by decide +kernel)) (fun _ _ _ _ _ => (pg_name (i := 11) sc_law.nd rfl (.inl rfl))) (fun _ _ _ _ _ => pts_nil) (fun _ _ _ _ _ => (pe_ix (show IxR _ (rIxTQ K) by exact ix_tupQ) (pe_ix (show IxR _ (rIxTQ K) by exact ix_tupQ) (pe_ix (show IxR _ (rIxTQ K) by exact ix_tupQ) (pv 4) pe_int (fun _ _ => rfl)) (pv 11) (fun _ _ => rfl)) pe_int (fun _ _ => rfl))))
      (pss_cons (ps_if (pt_not (pt_val (pe_callQ D__law_same hA (hr.mono (by decide)) takes0 (pa_cons (pe_callR D_only_on (hr.mono (by decide)) takes0 (pa_cons (pe_tup (pa_cons (pv 2) (pa_cons (pe_tup pa_nil) (pa_cons (pe_tup pa_nil) pa_nil)))) (pa_cons (pv 6) pa_nil))) (pa_cons (pe_tup (pa_cons (pv 2) (pa_cons (pe_tup pa_nil) (pa_cons (pe_tup pa_nil) pa_nil)))) pa_nil))))) (pss_one (ps_ret pe_bl)) pss_nil)
      (pss_one (ps_ret (pe_callQ D__law_same hA (hr.mono (by decide)) takes0 (pa_cons (pe_callR D_count_taken (hr.mono (by decide)) takes0 (pa_cons (pv 4) (pa_cons pe_int pa_nil))) (pa_cons (pe_callB (show CallR _ (.builtin "sum") (rSum K) by exact cr_sum rfl) (by rfl) T.f_sum (by decide +kernel) (pa_cons (pv 9) pa_nil)) pa_nil))))))))))))))))))), ?_⟩
    refine seq_with (LwA a) (fun N tail => ?_) ?_
    · simp only [st, List.append_assoc, cxOf, tYes, eq_self, if_true, if_false, wipe, rLenQ, rIxTQ, rIxLQ, rIxSQ, rInt1Q, rTupQ, rAppQ, rPopQ, rPopAtQ, rRevQ, rListS, rReprP, tLenSetT, tChain, tRetN, tRet, tSeq, tAsg, gName, tVar, tC, tCons, tNil, tCB, tOp, rI0, rI, tAndV, tOrV, tNotV, tIf, tTest, tB, tNot, tAnd, tOr, tIfS, tNext, tCallR, rIsK, rEq, rNe, tDrop, L2.start, List.map_cons, List.map_nil, List.length_cons, List.length_nil, Nat.reduceAdd, Nat.reduceSub, Nat.sub_self, List.replicate_zero, List.replicate_succ, List.append_nil, List.cons_append, List.nil_append, List.getElem?_cons_zero, List.getElem?_cons_succ, List.set_cons_zero, List.set_cons_succ, Option.some.injEq, List.cons.injEq, and_true, true_and, exists_eq_left, exists_eq_left', exists_eq_right, V.ty.injEq, V.int.injEq, V.bl.injEq, V.str.injEq, V.ref.injEq, exists_and_left, exists_const, reduceIte, reduceCtorEq, false_and, and_false, exists_false, or_false, false_or, Bool.not_true, Bool.not_false, Bool.false_eq_true, String.reduceEq, true_or, or_true, rNotT, tNNew, tNNotIn, tNGet, sNPut, tLenSetN, tPar, tAug, ipI, tDNotIn, sDPut, tDGet, tTup, tLst, tBM, tBM0]
      exact ⟨a, ns, rfl, ha, fun l H1 hl0 s1 p1 => tail _ _ ⟨l, p1, rfl⟩⟩
    rintro σ H1 ⟨l, p1, rfl⟩
    refine seq_with (LwB a) (fun N tail => ?_) ?_
    · simp only [st, List.append_assoc, cxOf, tYes, eq_self, if_true, if_false, wipe, rLenQ, rIxTQ, rIxLQ, rIxSQ, rInt1Q, rTupQ, rAppQ, rPopQ, rPopAtQ, rRevQ, rListS, rReprP, tLenSetT, tChain, tRetN, tRet, tSeq, tAsg, gName, tVar, tC, tCons, tNil, tCB, tOp, rI0, rI, tAndV, tOrV, tNotV, tIf, tTest, tB, tNot, tAnd, tOr, tIfS, tNext, tCallR, rIsK, rEq, rNe, tDrop, L2.start, List.map_cons, List.map_nil, List.length_cons, List.length_nil, Nat.reduceAdd, Nat.reduceSub, Nat.sub_self, List.replicate_zero, List.replicate_succ, List.append_nil, List.cons_append, List.nil_append, List.getElem?_cons_zero, List.getElem?_cons_succ, List.set_cons_zero, List.set_cons_succ, Option.some.injEq, List.cons.injEq, and_true, true_and, exists_eq_left, exists_eq_left', exists_eq_right, V.ty.injEq, V.int.injEq, V.bl.injEq, V.str.injEq, V.ref.injEq, exists_and_left, exists_const, reduceIte, reduceCtorEq, false_and, and_false, exists_false, or_false, false_or, Bool.not_true, Bool.not_false, Bool.false_eq_true, String.reduceEq, true_or, or_true, rNotT, tNNew, tNNotIn, tNGet, sNPut, tLenSetN, tPar, tAug, ipI, tDNotIn, sDPut, tDGet, tTup, tLst, tBM, tBM0]
      exact ⟨l, 5, rfl, p1, by decide, fun r H2 h0 h1 b2 p2 => ⟨r, rfl, l, _, rfl, p2, by omega, by omega, fun z H3 hz h10 _ b3 p3 => tail _ _ ⟨l, z, p3, hz, h10, rfl⟩⟩⟩
    rintro σ H1 ⟨l, z, p1, hz, h10, rfl⟩
    refine seq_with (LwC a) (fun N tail => ?_) ?_
    · simp only [st, List.append_assoc, cxOf, tYes, eq_self, if_true, if_false, wipe, rLenQ, rIxTQ, rIxLQ, rIxSQ, rInt1Q, rTupQ, rAppQ, rPopQ, rPopAtQ, rRevQ, rListS, rReprP, tLenSetT, tChain, tRetN, tRet, tSeq, tAsg, gName, tVar, tC, tCons, tNil, tCB, tOp, rI0, rI, tAndV, tOrV, tNotV, tIf, tTest, tB, tNot, tAnd, tOr, tIfS, tNext, tCallR, rIsK, rEq, rNe, tDrop, L2.start, List.map_cons, List.map_nil, List.length_cons, List.length_nil, Nat.reduceAdd, Nat.reduceSub, Nat.sub_self, List.replicate_zero, List.replicate_succ, List.append_nil, List.cons_append, List.nil_append, List.getElem?_cons_zero, List.getElem?_cons_succ, List.set_cons_zero, List.set_cons_succ, Option.some.injEq, List.cons.injEq, and_true, true_and, exists_eq_left, exists_eq_left', exists_eq_right, V.ty.injEq, V.int.injEq, V.bl.injEq, V.str.injEq, V.ref.injEq, exists_and_left, exists_const, reduceIte, reduceCtorEq, false_and, and_false, exists_false, or_false, false_or, Bool.not_true, Bool.not_false, Bool.false_eq_true, String.reduceEq, true_or, or_true, rNotT, tNNew, tNNotIn, tNGet, sNPut, tLenSetN, tPar, tAug, ipI, tDNotIn, sDPut, tDGet, tTup, tLst, tBM, tBM0]
      refine ⟨l, 4, rfl, p1, by decide, fun r H2 _ _ b2 p2 => ⟨rfl, ?_⟩⟩
      have hz5 := hz.top
      by_cases hr : r = 0
      · refine ifT (by simp [hr]) ⟨_, rfl, 1, rfl, z, rfl, szle (m := 5) hz5, ?_⟩
        have hcl := cutS_length z (some 1) none
        exact ⟨_, rfl, szle (m := 10) (by show _ + 1 ≤ 10; omega), tail _ _ ⟨l, turnL z, p2, turnL_ok hz h10, rfl⟩⟩
      · exact ifF (by simp [hr]) (tail _ _ ⟨l, z, p2, hz, rfl⟩)
    clear hz h10 p1
    rintro σ H1 ⟨l, z, p1, hz, rfl⟩
    have hz5 := hz.top
    have hz1 := hz.pos
    refine seq_with (LwD a z) (fun N tail => ?_) ?_
    · simp only [st, List.append_assoc, cxOf, tYes, eq_self, if_true, if_false, wipe, rLenQ, rIxTQ, rIxLQ, rIxSQ, rInt1Q, rTupQ, rAppQ, rPopQ, rPopAtQ, rRevQ, rListS, rReprP, tLenSetT, tChain, tRetN, tRet, tSeq, tAsg, gName, tVar, tC, tCons, tNil, tCB, tOp, rI0, rI, tAndV, tOrV, tNotV, tIf, tTest, tB, tNot, tAnd, tOr, tIfS, tNext, tCallR, rIsK, rEq, rNe, tDrop, L2.start, List.map_cons, List.map_nil, List.length_cons, List.length_nil, Nat.reduceAdd, Nat.reduceSub, Nat.sub_self, List.replicate_zero, List.replicate_succ, List.append_nil, List.cons_append, List.nil_append, List.getElem?_cons_zero, List.getElem?_cons_succ, List.set_cons_zero, List.set_cons_succ, Option.some.injEq, List.cons.injEq, and_true, true_and, exists_eq_left, exists_eq_left', exists_eq_right, V.ty.injEq, V.int.injEq, V.bl.injEq, V.str.injEq, V.ref.injEq, exists_and_left, exists_const, reduceIte, reduceCtorEq, false_and, and_false, exists_false, or_false, false_or, Bool.not_true, Bool.not_false, Bool.false_eq_true, String.reduceEq, true_or, or_true, rNotT, tNNew, tNNotIn, tNGet, sNPut, tLenSetN, tPar, tAug, ipI, tDNotIn, sDPut, tDGet, tTup, tLst, tBM, tBM0]
      refine ⟨9, rfl, by decide, by decide, fun D hD => ?_⟩
      obtain ⟨js, hl⟩ := id p1
      have hlD : l ≠ D := ne_of_none hl hD
      refine lc_gen (J := Itr 0 9) (n := 9) (fun i H' => But l H1 H' ∧ PoolL H' l ∧ ∃ acc : List Int, H' D = some (.lst (acc.map V.int)) ∧ acc.length ≤ i) ⟨But.of_same (same_upd hD), ⟨js, by rw [upd_ne hlD]; exact hl⟩, [], upd_same, Nat.le_refl _⟩ (fun i H' hi _ => hi) (fun H' _ => Nat.le_refl _) ?_ ?_
      · rintro i x H3 H4 hi ⟨b3, p3, acc, hacc, hal⟩ ⟨rfl, rfl⟩
        refine ⟨rfl, ?_⟩
        simp only [st, List.append_assoc, cxOf, tYes, eq_self, if_true, if_false, wipe, rLenQ, rIxTQ, rIxLQ, rIxSQ, rInt1Q, rTupQ, rAppQ, rPopQ, rPopAtQ, rRevQ, rListS, rReprP, tLenSetT, tChain, tRetN, tRet, tSeq, tAsg, gName, tVar, tC, tCons, tNil, tCB, tOp, rI0, rI, tAndV, tOrV, tNotV, tIf, tTest, tB, tNot, tAnd, tOr, tIfS, tNext, tCallR, rIsK, rEq, rNe, tDrop, L2.start, List.map_cons, List.map_nil, List.length_cons, List.length_nil, Nat.reduceAdd, Nat.reduceSub, Nat.sub_self, List.replicate_zero, List.replicate_succ, List.append_nil, List.cons_append, List.nil_append, List.getElem?_cons_zero, List.getElem?_cons_succ, List.set_cons_zero, List.set_cons_succ, Option.some.injEq, List.cons.injEq, and_true, true_and, exists_eq_left, exists_eq_left', exists_eq_right, V.ty.injEq, V.int.injEq, V.bl.injEq, V.str.injEq, V.ref.injEq, exists_and_left, exists_const, reduceIte, reduceCtorEq, false_and, and_false, exists_false, or_false, false_or, Bool.not_true, Bool.not_false, Bool.false_eq_true, String.reduceEq, true_or, or_true, rNotT, tNNew, tNNotIn, tNGet, sNPut, tLenSetN, tPar, tAug, ipI, tDNotIn, sDPut, tDGet, tTup, tLst, tBM, tBM0]
        refine ⟨l, 5040, rfl, p3, by decide, fun r H5 _ _ b5 p5 => ?_⟩
        have hac5 := b5 D _ (Ne.symm hlD) hacc
        refine ⟨_, hac5, by rw [List.length_map]; exact szlt (m := 10) (by omega), fun c o hc ho => ?_, ?_, acc ++ [r], by rw [upd_same, List.map_append]; rfl, by rw [List.length_append]; exact Nat.succ_le_succ hal⟩
        · rw [upd_ne (ne_of_none ho hD)]
          exact b5 c o hc (b3 c o hc ho)
        · obtain ⟨ks, hk⟩ := p5
          exact ⟨ks, by rw [upd_ne hlD]; exact hk⟩
      · rintro H3 ⟨b3, p3, acc, hacc, hal⟩
        exact tail _ _ ⟨l, D, hlD, p3, ⟨acc, hacc⟩, rfl⟩
    rintro σ H1 ⟨l, t, hlt, p1, pt, rfl⟩
    refine seq_with (LwE K a z) (fun N tail => ?_) ?_
    · simp only [st, List.append_assoc, cxOf, tYes, eq_self, if_true, if_false, wipe, rLenQ, rIxTQ, rIxLQ, rIxSQ, rInt1Q, rTupQ, rAppQ, rPopQ, rPopAtQ, rRevQ, rListS, rReprP, tLenSetT, tChain, tRetN, tRet, tSeq, tAsg, gName, tVar, tC, tCons, tNil, tCB, tOp, rI0, rI, tAndV, tOrV, tNotV, tIf, tTest, tB, tNot, tAnd, tOr, tIfS, tNext, tCallR, rIsK, rEq, rNe, tDrop, L2.start, List.map_cons, List.map_nil, List.length_cons, List.length_nil, Nat.reduceAdd, Nat.reduceSub, Nat.sub_self, List.replicate_zero, List.replicate_succ, List.append_nil, List.cons_append, List.nil_append, List.getElem?_cons_zero, List.getElem?_cons_succ, List.set_cons_zero, List.set_cons_succ, Option.some.injEq, List.cons.injEq, and_true, true_and, exists_eq_left, exists_eq_left', exists_eq_right, V.ty.injEq, V.int.injEq, V.bl.injEq, V.str.injEq, V.ref.injEq, exists_and_left, exists_const, reduceIte, reduceCtorEq, false_and, and_false, exists_false, or_false, false_or, Bool.not_true, Bool.not_false, Bool.false_eq_true, String.reduceEq, true_or, or_true, rNotT, tNNew, tNNotIn, tNGet, sNPut, tLenSetN, tPar, tAug, ipI, tDNotIn, sDPut, tDGet, tTup, tLst, tBM, tBM0]
      refine ⟨l, z, rfl, p1, hz, fun v rs H2 hg b2 p2 => tail _ _ ⟨l, t, v, rs, ?_, hg, rfl⟩⟩
      obtain ⟨ks, hk⟩ := pt
      exact ⟨ks, b2 t _ (Ne.symm hlt) hk⟩
    rintro σ H1 ⟨l, t, v, rs, pt, hg, rfl⟩
    refine seq_with (fun σ H' => ∃ u, LwF K a l t z v rs u σ H') (fun N tail => ?_) ?_
    · simp only [st, List.append_assoc, cxOf, tYes, eq_self, if_true, if_false, wipe, rLenQ, rIxTQ, rIxLQ, rIxSQ, rInt1Q, rTupQ, rAppQ, rPopQ, rPopAtQ, rRevQ, rListS, rReprP, tLenSetT, tChain, tRetN, tRet, tSeq, tAsg, gName, tVar, tC, tCons, tNil, tCB, tOp, rI0, rI, tAndV, tOrV, tNotV, tIf, tTest, tB, tNot, tAnd, tOr, tIfS, tNext, tCallR, rIsK, rEq, rNe, tDrop, L2.start, List.map_cons, List.map_nil, List.length_cons, List.length_nil, Nat.reduceAdd, Nat.reduceSub, Nat.sub_self, List.replicate_zero, List.replicate_succ, List.append_nil, List.cons_append, List.nil_append, List.getElem?_cons_zero, List.getElem?_cons_succ, List.set_cons_zero, List.set_cons_succ, Option.some.injEq, List.cons.injEq, and_true, true_and, exists_eq_left, exists_eq_left', exists_eq_right, V.ty.injEq, V.int.injEq, V.bl.injEq, V.str.injEq, V.ref.injEq, exists_and_left, exists_const, reduceIte, reduceCtorEq, false_and, and_false, exists_false, or_false, false_or, Bool.not_true, Bool.not_false, Bool.false_eq_true, String.reduceEq, true_or, or_true, rNotT, tNNew, tNNotIn, tNGet, sNPut, tLenSetN, tPar, tAug, ipI, tDNotIn, sDPut, tDGet, tTup, tLst, tBM, tBM0]
      obtain ⟨⟨c, b, rfl, g1, xs, gb, gpr⟩, _, ok⟩ := id hg
      exact ⟨_, g1, .ref b, rfl, t, b, z, xs, rs, rfl, pt, hz, gb, gpr, ok, fun u H2 hu b2 => tail _ _ ⟨u, hg.mono (TK.of_but b2 pt.choose_spec), hu, rfl⟩⟩
    rintro σ H1 ⟨u, hg, hb, rfl⟩
    refine seq_with (LwF K a l t z v rs u) (fun N tail => ?_) ?_
    · simp only [st, List.append_assoc, cxOf, tYes, eq_self, if_true, if_false, wipe, rLenQ, rIxTQ, rIxLQ, rIxSQ, rInt1Q, rTupQ, rAppQ, rPopQ, rPopAtQ, rRevQ, rListS, rReprP, tLenSetT, tChain, tRetN, tRet, tSeq, tAsg, gName, tVar, tC, tCons, tNil, tCB, tOp, rI0, rI, tAndV, tOrV, tNotV, tIf, tTest, tB, tNot, tAnd, tOr, tIfS, tNext, tCallR, rIsK, rEq, rNe, tDrop, L2.start, List.map_cons, List.map_nil, List.length_cons, List.length_nil, Nat.reduceAdd, Nat.reduceSub, Nat.sub_self, List.replicate_zero, List.replicate_succ, List.append_nil, List.cons_append, List.nil_append, List.getElem?_cons_zero, List.getElem?_cons_succ, List.set_cons_zero, List.set_cons_succ, Option.some.injEq, List.cons.injEq, and_true, true_and, exists_eq_left, exists_eq_left', exists_eq_right, V.ty.injEq, V.int.injEq, V.bl.injEq, V.str.injEq, V.ref.injEq, exists_and_left, exists_const, reduceIte, reduceCtorEq, false_and, and_false, exists_false, or_false, false_or, Bool.not_true, Bool.not_false, Bool.false_eq_true, String.reduceEq, true_or, or_true, rNotT, tNNew, tNNotIn, tNGet, sNPut, tLenSetN, tPar, tAug, ipI, tDNotIn, sDPut, tDGet, tTup, tLst, tBM, tBM0]
      exact ⟨v, rfl, .inl ⟨z, rs, hg, ifF rfl ⟨u, rfl, .inr ⟨hb, ifF rfl (tail _ _ ⟨hg, hb, rfl⟩)⟩⟩⟩⟩
    rintro σ H1 ⟨hg, hb, rfl⟩
    refine seq_with (fun σ H' => ∃ s, LwG K a l t z v rs u s none σ H') (fun N tail => ?_) ?_
    · simp only [st, List.append_assoc, cxOf, tYes, eq_self, if_true, if_false, wipe, rLenQ, rIxTQ, rIxLQ, rIxSQ, rInt1Q, rTupQ, rAppQ, rPopQ, rPopAtQ, rRevQ, rListS, rReprP, tLenSetT, tChain, tRetN, tRet, tSeq, tAsg, gName, tVar, tC, tCons, tNil, tCB, tOp, rI0, rI, tAndV, tOrV, tNotV, tIf, tTest, tB, tNot, tAnd, tOr, tIfS, tNext, tCallR, rIsK, rEq, rNe, tDrop, L2.start, List.map_cons, List.map_nil, List.length_cons, List.length_nil, Nat.reduceAdd, Nat.reduceSub, Nat.sub_self, List.replicate_zero, List.replicate_succ, List.append_nil, List.cons_append, List.nil_append, List.getElem?_cons_zero, List.getElem?_cons_succ, List.set_cons_zero, List.set_cons_succ, Option.some.injEq, List.cons.injEq, and_true, true_and, exists_eq_left, exists_eq_left', exists_eq_right, V.ty.injEq, V.int.injEq, V.bl.injEq, V.str.injEq, V.ref.injEq, exists_and_left, exists_const, reduceIte, reduceCtorEq, false_and, and_false, exists_false, or_false, false_or, Bool.not_true, Bool.not_false, Bool.false_eq_true, String.reduceEq, true_or, or_true, rNotT, tNNew, tNNotIn, tNGet, sNPut, tLenSetN, tPar, tAug, ipI, tDNotIn, sDPut, tDGet, tTup, tLst, tBM, tBM0]
      refine ⟨.str z, rfl, z, rfl, fun D hD => ?_⟩
      refine lc_gen (n := z.cps.size) (fun i H' => Same H1 H' ∧ H' D = some (.lst (List.replicate i (.int 0)))) ⟨same_upd hD, upd_same⟩ (fun i H' hi _ => hi) (fun H' _ => Nat.le_refl _) ?_ ?_
      · rintro i x H3 H4 hi ⟨s3, h3⟩ ⟨rfl, c, hc, rfl⟩
        refine ⟨rfl, ?_⟩
        simp only [st, List.append_assoc, cxOf, tYes, eq_self, if_true, if_false, wipe, rLenQ, rIxTQ, rIxLQ, rIxSQ, rInt1Q, rTupQ, rAppQ, rPopQ, rPopAtQ, rRevQ, rListS, rReprP, tLenSetT, tChain, tRetN, tRet, tSeq, tAsg, gName, tVar, tC, tCons, tNil, tCB, tOp, rI0, rI, tAndV, tOrV, tNotV, tIf, tTest, tB, tNot, tAnd, tOr, tIfS, tNext, tCallR, rIsK, rEq, rNe, tDrop, L2.start, List.map_cons, List.map_nil, List.length_cons, List.length_nil, Nat.reduceAdd, Nat.reduceSub, Nat.sub_self, List.replicate_zero, List.replicate_succ, List.append_nil, List.cons_append, List.nil_append, List.getElem?_cons_zero, List.getElem?_cons_succ, List.set_cons_zero, List.set_cons_succ, Option.some.injEq, List.cons.injEq, and_true, true_and, exists_eq_left, exists_eq_left', exists_eq_right, V.ty.injEq, V.int.injEq, V.bl.injEq, V.str.injEq, V.ref.injEq, exists_and_left, exists_const, reduceIte, reduceCtorEq, false_and, and_false, exists_false, or_false, false_or, Bool.not_true, Bool.not_false, Bool.false_eq_true, String.reduceEq, true_or, or_true, rNotT, tNNew, tNNotIn, tNGet, sNPut, tLenSetN, tPar, tAug, ipI, tDNotIn, sDPut, tDGet, tTup, tLst, tBM, tBM0]
        have size : z.cps.size = z.length := rfl
        refine ⟨_, h3, by rw [List.length_replicate]; exact szlt (m := 10) (by omega), snoc_same hD s3, ?_⟩
        rw [upd_same, ← List.replicate_succ', List.replicate_succ]
      · rintro H3 ⟨s3, h3⟩
        refine ⟨_, .inl (.inl h3), fun T1 hT1 => ⟨szle (m := 2) (Nat.le_refl _), fun T2 hT2 => ⟨szle (m := 1) (Nat.le_refl _), fun T3 hT3 => ⟨szle (m := 2) (Nat.le_refl _), fun T4 hT4 => ?_⟩⟩⟩⟩
        have e1 := same_upd (o := .tup (List.replicate z.cps.size (.int 0))) hT1
        have e2 := same_upd (o := .tup [.int 1, .ref T1]) hT2
        have e3 := same_upd (o := .tup [.ref T2]) hT3
        have e4 := same_upd (o := .tup [.str z, .ref T3]) hT4
        have sa := Same.trans s3 (Same.trans e1 (Same.trans e2 (Same.trans e3 e4)))
        refine tail _ _ ⟨.ref T4, hg.mono (TK.of_same sa), hb.mono (TK.of_same sa), ⟨T4, T3, rfl, .inl (.inl upd_same), [.ref T2], .inl (.inl (e4 _ _ upd_same)), .cons ⟨T2, T1, rfl, .inl (.inl ((Same.trans e3 e4) _ _ upd_same)), ?_⟩ .nil⟩, rfl⟩
        have : (List.replicate z.length (0 : Int)).map V.int = List.replicate z.cps.size (V.int 0) := List.map_replicate
        show SqT K _ T1 ((List.replicate z.length (0 : Int)).map V.int)
        rw [this]
        exact .inl (.inl ((Same.trans e2 (Same.trans e3 e4)) _ _ upd_same))
    rintro σ H1 ⟨s, hg, hb, hs, rfl⟩
    refine seq_with (fun σ H' => ∃ x7, LwG K a l t z v rs u s x7 σ H') (fun N tail => ?_) ?_
    · simp only [st, List.append_assoc, cxOf, tYes, eq_self, if_true, if_false, wipe, rLenQ, rIxTQ, rIxLQ, rIxSQ, rInt1Q, rTupQ, rAppQ, rPopQ, rPopAtQ, rRevQ, rListS, rReprP, tLenSetT, tChain, tRetN, tRet, tSeq, tAsg, gName, tVar, tC, tCons, tNil, tCB, tOp, rI0, rI, tAndV, tOrV, tNotV, tIf, tTest, tB, tNot, tAnd, tOr, tIfS, tNext, tCallR, rIsK, rEq, rNe, tDrop, L2.start, List.map_cons, List.map_nil, List.length_cons, List.length_nil, Nat.reduceAdd, Nat.reduceSub, Nat.sub_self, List.replicate_zero, List.replicate_succ, List.append_nil, List.cons_append, List.nil_append, List.getElem?_cons_zero, List.getElem?_cons_succ, List.set_cons_zero, List.set_cons_succ, Option.some.injEq, List.cons.injEq, and_true, true_and, exists_eq_left, exists_eq_left', exists_eq_right, V.ty.injEq, V.int.injEq, V.bl.injEq, V.str.injEq, V.ref.injEq, exists_and_left, exists_const, reduceIte, reduceCtorEq, false_and, and_false, exists_false, or_false, false_or, Bool.not_true, Bool.not_false, Bool.false_eq_true, String.reduceEq, true_or, or_true, rNotT, tNNew, tNNotIn, tNGet, sNPut, tLenSetN, tPar, tAug, ipI, tDNotIn, sDPut, tDGet, tTup, tLst, tBM, tBM0]
      refine ⟨7, rfl, by decide, by decide, ?_⟩
      rw [show (7 : Int).toNat = 7 from rfl]
      refine for_range (fun i σ H' => ∃ x7, LwG K a l t z v rs u s x7 σ H') ⟨none, hg, hb, hs, rfl⟩ ?_ (fun σ H' h => tail _ _ h)
      rintro i σ H2 hi ⟨x7, hg, hb, hs, rfl⟩
      simp only [st, List.append_assoc, cxOf, tYes, eq_self, if_true, if_false, wipe, rLenQ, rIxTQ, rIxLQ, rIxSQ, rInt1Q, rTupQ, rAppQ, rPopQ, rPopAtQ, rRevQ, rListS, rReprP, tLenSetT, tChain, tRetN, tRet, tSeq, tAsg, gName, tVar, tC, tCons, tNil, tCB, tOp, rI0, rI, tAndV, tOrV, tNotV, tIf, tTest, tB, tNot, tAnd, tOr, tIfS, tNext, tCallR, rIsK, rEq, rNe, tDrop, L2.start, List.map_cons, List.map_nil, List.length_cons, List.length_nil, Nat.reduceAdd, Nat.reduceSub, Nat.sub_self, List.replicate_zero, List.replicate_succ, List.append_nil, List.cons_append, List.nil_append, List.getElem?_cons_zero, List.getElem?_cons_succ, List.set_cons_zero, List.set_cons_succ, Option.some.injEq, List.cons.injEq, and_true, true_and, exists_eq_left, exists_eq_left', exists_eq_right, V.ty.injEq, V.int.injEq, V.bl.injEq, V.str.injEq, V.ref.injEq, exists_and_left, exists_const, reduceIte, reduceCtorEq, false_and, and_false, exists_false, or_false, false_or, Bool.not_true, Bool.not_false, Bool.false_eq_true, String.reduceEq, true_or, or_true, rNotT, tNNew, tNNotIn, tNGet, sNPut, tLenSetN, tPar, tAug, ipI, tDNotIn, sDPut, tDGet, tTup, tLst, tBM, tBM0]
      exact ⟨_, u, s, z, rfl, hb, hz, hs, fun H3 s3 => ⟨true, rfl, ifF rfl ⟨_, hg.mono (TK.of_same s3), hb.mono (TK.of_same s3), hs.mono (TK.of_same s3), rfl⟩⟩⟩
    rintro σ H1 ⟨x7, hg, hb, hs, rfl⟩
    refine seq_with (LwG K a l t z v rs u s x7) (fun N tail => ?_) ?_
    · simp only [st, List.append_assoc, cxOf, tYes, eq_self, if_true, if_false, wipe, rLenQ, rIxTQ, rIxLQ, rIxSQ, rInt1Q, rTupQ, rAppQ, rPopQ, rPopAtQ, rRevQ, rListS, rReprP, tLenSetT, tChain, tRetN, tRet, tSeq, tAsg, gName, tVar, tC, tCons, tNil, tCB, tOp, rI0, rI, tAndV, tOrV, tNotV, tIf, tTest, tB, tNot, tAnd, tOr, tIfS, tNext, tCallR, rIsK, rEq, rNe, tDrop, L2.start, List.map_cons, List.map_nil, List.length_cons, List.length_nil, Nat.reduceAdd, Nat.reduceSub, Nat.sub_self, List.replicate_zero, List.replicate_succ, List.append_nil, List.cons_append, List.nil_append, List.getElem?_cons_zero, List.getElem?_cons_succ, List.set_cons_zero, List.set_cons_succ, Option.some.injEq, List.cons.injEq, and_true, true_and, exists_eq_left, exists_eq_left', exists_eq_right, V.ty.injEq, V.int.injEq, V.bl.injEq, V.str.injEq, V.ref.injEq, exists_and_left, exists_const, reduceIte, reduceCtorEq, false_and, and_false, exists_false, or_false, false_or, Bool.not_true, Bool.not_false, Bool.false_eq_true, String.reduceEq, true_or, or_true, rNotT, tNNew, tNNotIn, tNGet, sNPut, tLenSetN, tPar, tAug, ipI, tDNotIn, sDPut, tDGet, tTup, tLst, tBM, tBM0]
      obtain ⟨⟨c, b, rfl, g1, gb⟩, _, ok⟩ := id hg
      have hin0 := in_zero ok
      have hbit := endAt_bit ok hin0
      have gd : GoodD (.int (endAt rs 0)) := int_good (by omega) (by omega)
      have look : ∀ {H'}, Same H1 H' → ∃ vs a1 b1, SqT K H' c [.str z, .ref b] ∧ SqT K H' b vs ∧ atI vs 0 = some (.ref a1) ∧ SqT K H' a1 [.int (endAt rs 0), .ref b1] := fun {H'} s => by
        obtain ⟨vs, a1, b1, k1, k2, k3, _⟩ := (gb.mono (TK.of_same s)).at hin0
        exact ⟨vs, a1, b1, Same.sqT s g1, k1, k2, k3⟩
      refine ⟨_, Str.ofString "", rfl, .inl ⟨z, rs, hg, by decide, rfl, fun H2 s2 => ?_⟩⟩
      obtain ⟨vs, a1, b1, k0, k1, k2, k3⟩ := look s2
      refine ⟨_, k0, .ref b, rfl, vs, k1, .ref a1, k2, _, k3, _, rfl, _, _, .int (endAt rs 0), rfl, .int _, .int _, gd, true, rfl, ifF rfl ?_⟩
      refine ⟨_, 0, rfl, .inl ⟨z, rs, hg.mono (TK.of_same s2), Int.le_refl _, by decide, fun H3 s3 => ?_⟩⟩
      have s23 := Same.trans s2 s3
      obtain ⟨vs, a1, b1, k0, k1, k2, k3⟩ := look s23
      exact ⟨_, k0, .ref b, rfl, vs, k1, .ref a1, k2, _, k3, _, rfl, _, _, .int (endAt rs 0), rfl, .int _, .int _, gd, true, rfl, ifF rfl (tail _ _ ⟨hg.mono (TK.of_same s23), hb.mono (TK.of_same s23), hs.mono (TK.of_same s23), rfl⟩)⟩
    rintro σ H1 ⟨hg, hb, hs, rfl⟩
    have ok := hg.2.2
    have hin0 := in_zero ok
    have hin1 := nxt_in ok hin0 hz1
    clear hb
    refine seq_with (fun σ H' => ∃ a2 b2, GoodK K H' v z rs ∧ RLk K H' s z (smR z.length) ∧ SqT K H' a2 [.int (endAt rs (nxt rs 0 0)), .ref b2] ∧ σ = st [some (.ref a), some (.ref l), some (.str z), some (.ref t), some v, some u, some s, x7, some (.ref a2)]) (fun N tail => ?_) ?_
    · simp only [st, List.append_assoc, cxOf, tYes, eq_self, if_true, if_false, wipe, rLenQ, rIxTQ, rIxLQ, rIxSQ, rInt1Q, rTupQ, rAppQ, rPopQ, rPopAtQ, rRevQ, rListS, rReprP, tLenSetT, tChain, tRetN, tRet, tSeq, tAsg, gName, tVar, tC, tCons, tNil, tCB, tOp, rI0, rI, tAndV, tOrV, tNotV, tIf, tTest, tB, tNot, tAnd, tOr, tIfS, tNext, tCallR, rIsK, rEq, rNe, tDrop, L2.start, List.map_cons, List.map_nil, List.length_cons, List.length_nil, Nat.reduceAdd, Nat.reduceSub, Nat.sub_self, List.replicate_zero, List.replicate_succ, List.append_nil, List.cons_append, List.nil_append, List.getElem?_cons_zero, List.getElem?_cons_succ, List.set_cons_zero, List.set_cons_succ, Option.some.injEq, List.cons.injEq, and_true, true_and, exists_eq_left, exists_eq_left', exists_eq_right, V.ty.injEq, V.int.injEq, V.bl.injEq, V.str.injEq, V.ref.injEq, exists_and_left, exists_const, reduceIte, reduceCtorEq, false_and, and_false, exists_false, or_false, false_or, Bool.not_true, Bool.not_false, Bool.false_eq_true, String.reduceEq, true_or, or_true, rNotT, tNNew, tNNotIn, tNGet, sNPut, tLenSetN, tPar, tAug, ipI, tDNotIn, sDPut, tDGet, tTup, tLst, tBM, tBM0]
      obtain ⟨⟨c, b, rfl, g1, gb⟩, _, _⟩ := id hg
      obtain ⟨vs, a1, b1, k1, k2, k3, k4⟩ := gb.at hin0
      obtain ⟨vs', a2, b2, m1, m2, m3, _⟩ := gb.at hin1
      exact ⟨_, g1, .ref b, rfl, _, g1, .ref b, rfl, vs, k1, .ref a1, k2, _, k3, .ref b1, rfl, _, k4, .int (nxt rs 0 0), row_at ok hin0 (x := 0) hz1, vs', m1, .ref a2, m2, tail _ _ ⟨a2, b2, hg, hs, m3, rfl⟩⟩
    rintro σ H1 ⟨a2, b2, hg, hs, ha2, rfl⟩
    refine seq_with (fun σ H' => GoodK K H' v z rs ∧ RLk K H' s z (smR z.length) ∧ σ = st [some (.ref a), some (.ref l), some (.str z), some (.ref t), some v, some u, some s, x7, some (.ref a2)]) (fun N tail => ?_) ?_
    · simp only [st, List.append_assoc, cxOf, tYes, eq_self, if_true, if_false, wipe, rLenQ, rIxTQ, rIxLQ, rIxSQ, rInt1Q, rTupQ, rAppQ, rPopQ, rPopAtQ, rRevQ, rListS, rReprP, tLenSetT, tChain, tRetN, tRet, tSeq, tAsg, gName, tVar, tC, tCons, tNil, tCB, tOp, rI0, rI, tAndV, tOrV, tNotV, tIf, tTest, tB, tNot, tAnd, tOr, tIfS, tNext, tCallR, rIsK, rEq, rNe, tDrop, L2.start, List.map_cons, List.map_nil, List.length_cons, List.length_nil, Nat.reduceAdd, Nat.reduceSub, Nat.sub_self, List.replicate_zero, List.replicate_succ, List.append_nil, List.cons_append, List.nil_append, List.getElem?_cons_zero, List.getElem?_cons_succ, List.set_cons_zero, List.set_cons_succ, Option.some.injEq, List.cons.injEq, and_true, true_and, exists_eq_left, exists_eq_left', exists_eq_right, V.ty.injEq, V.int.injEq, V.bl.injEq, V.str.injEq, V.ref.injEq, exists_and_left, exists_const, reduceIte, reduceCtorEq, false_and, and_false, exists_false, or_false, false_or, Bool.not_true, Bool.not_false, Bool.false_eq_true, String.reduceEq, true_or, or_true, rNotT, tNNew, tNNotIn, tNGet, sNPut, tLenSetN, tPar, tAug, ipI, tDNotIn, sDPut, tDGet, tTup, tLst, tBM, tBM0]
      have hl : z.cps.toList.length = z.length := Array.length_toList
      obtain ⟨c0, hc, hcm⟩ : ∃ c, z.cps.toList[0]? = some c ∧ c ∈ z.cps.toList := ⟨_, List.getElem?_eq_getElem (by omega), List.getElem_mem _⟩
      have hidx : z.cps.toList.idxOf c0 = 0 := by
        cases hzl : z.cps.toList with
        | nil => rw [hzl] at hc; cases hc
        | cons y r =>
          rw [hzl] at hc
          obtain rfl := Option.some.inj hc
          exact List.idxOf_cons_self
      have eB : endB z rs (sgn c0) = endAt rs (nxt rs 0 0) := by
        show endAt rs (nxt rs 0 (z.cps.toList.idxOf c0)) = _
        rw [hidx]
      have hbit := endAt_bit ok hin1
      have gd : GoodD (.int (endAt rs (nxt rs 0 0))) := int_good (by omega) (by omega)
      refine ⟨szle (m := 5) hz5, c0, atI_nat (j := 0) hc, v, sgn c0, rfl, .inl ⟨z, rs, hg, (by decide : 1 ≤ 100000), ?_, fun H2 s2 => ?_⟩⟩
      · show (([c0] : List Nat).all fun c => decide (c ∈ z.cps.toList)) = true
        simpa using hcm
      rw [eB]
      exact ⟨_, Same.sqT s2 ha2, .int (endAt rs (nxt rs 0 0)), rfl, _, _, _, rfl, .int _, .int _, gd, true, rfl, ifF rfl (tail _ _ ⟨hg.mono (TK.of_same s2), hs.mono (TK.of_same s2), rfl⟩)⟩
    rintro σ H1 ⟨hg, hs, rfl⟩
    refine seq_with (fun σ H' => ∃ D, GoodK K H' v z rs ∧ RLk K H' s z (smR z.length) ∧ H' D = some (.lst (((rowOf rs 0).2.map (endAt rs)).map V.int)) ∧ σ = st [some (.ref a), some (.ref l), some (.str z), some (.ref t), some v, some u, some s, x7, some (.ref a2), some (.ref D)]) (fun N tail => ?_) ?_
    · simp only [st, List.append_assoc, cxOf, tYes, eq_self, if_true, if_false, wipe, rLenQ, rIxTQ, rIxLQ, rIxSQ, rInt1Q, rTupQ, rAppQ, rPopQ, rPopAtQ, rRevQ, rListS, rReprP, tLenSetT, tChain, tRetN, tRet, tSeq, tAsg, gName, tVar, tC, tCons, tNil, tCB, tOp, rI0, rI, tAndV, tOrV, tNotV, tIf, tTest, tB, tNot, tAnd, tOr, tIfS, tNext, tCallR, rIsK, rEq, rNe, tDrop, L2.start, List.map_cons, List.map_nil, List.length_cons, List.length_nil, Nat.reduceAdd, Nat.reduceSub, Nat.sub_self, List.replicate_zero, List.replicate_succ, List.append_nil, List.cons_append, List.nil_append, List.getElem?_cons_zero, List.getElem?_cons_succ, List.set_cons_zero, List.set_cons_succ, Option.some.injEq, List.cons.injEq, and_true, true_and, exists_eq_left, exists_eq_left', exists_eq_right, V.ty.injEq, V.int.injEq, V.bl.injEq, V.str.injEq, V.ref.injEq, exists_and_left, exists_const, reduceIte, reduceCtorEq, false_and, and_false, exists_false, or_false, false_or, Bool.not_true, Bool.not_false, Bool.false_eq_true, String.reduceEq, true_or, or_true, rNotT, tNNew, tNNotIn, tNGet, sNPut, tLenSetN, tPar, tAug, ipI, tDNotIn, sDPut, tDGet, tTup, tLst, tBM, tBM0]
      obtain ⟨⟨c, b, rfl, g1, gb⟩, _, _⟩ := id hg
      obtain ⟨vs, a1, b1, k1, k2, k3, k4⟩ := gb.at hin0
      refine ⟨_, rfl, _, .ref b, g1, rfl, _, .ref a1, k1, k2, _, .ref b1, k3, rfl, b1, rfl, ⟨_, k4⟩, fun D hD => ?_⟩
      have hwid := ok.wid _ (rowOf_mem hin0)
      have sD : ∀ o, Same H1 (upd H1 D o) := fun o => same_upd hD
      refine lc_read (ys := ((rowOf rs 0).2.map (endAt rs)).map V.int) hD k4 (by simp) (by rw [List.length_map]; omega) (fun x => rfl) (fun i x y hx hy R hR => ?_) ?_
      · rw [List.getElem?_map] at hx
        obtain ⟨qv, hq, rfl⟩ := Option.map_eq_some_iff.mp hx
        have hto : InSt rs qv := ok.to _ (rowOf_mem hin0) qv (List.mem_of_getElem? hq)
        have e : y = .int (endAt rs qv) := by
          rw [List.getElem?_map, List.getElem?_map, hq] at hy
          exact (Option.some.inj hy).symm
        subst e
        obtain ⟨vs3, a3, b3, j1, j2, j3, _⟩ := (gb.mono (TK.of_same (sD (.lst ((((rowOf rs 0).2.map (endAt rs)).map V.int).take i))))).at hto
        exact ⟨_, rfl, _, .ref b, Same.sqT (sD _) g1, rfl, _, rfl, vs3, .ref a3, j1, j2, _, .int (endAt rs qv), j3, rfl, hR⟩
      · exact tail _ _ ⟨D, hg.mono (TK.of_same (sD _)), hs.mono (TK.of_same (sD _)), upd_same, rfl⟩
    rintro σ H1 ⟨D, hg, hs, hD, rfl⟩
    refine seq_with (fun σ H' => GoodK K H' v z rs ∧ H' D = some (.lst (((rowOf rs 0).2.map (endAt rs)).map V.int)) ∧ σ = st [some (.ref a), some (.ref l), some (.str z), some (.ref t), some v, some u, some s, x7, some (.ref a2), some (.ref D)]) (fun N tail => ?_) ?_
    · simp only [st, List.append_assoc, cxOf, tYes, eq_self, if_true, if_false, wipe, rLenQ, rIxTQ, rIxLQ, rIxSQ, rInt1Q, rTupQ, rAppQ, rPopQ, rPopAtQ, rRevQ, rListS, rReprP, tLenSetT, tChain, tRetN, tRet, tSeq, tAsg, gName, tVar, tC, tCons, tNil, tCB, tOp, rI0, rI, tAndV, tOrV, tNotV, tIf, tTest, tB, tNot, tAnd, tOr, tIfS, tNext, tCallR, rIsK, rEq, rNe, tDrop, L2.start, List.map_cons, List.map_nil, List.length_cons, List.length_nil, Nat.reduceAdd, Nat.reduceSub, Nat.sub_self, List.replicate_zero, List.replicate_succ, List.append_nil, List.cons_append, List.nil_append, List.getElem?_cons_zero, List.getElem?_cons_succ, List.set_cons_zero, List.set_cons_succ, Option.some.injEq, List.cons.injEq, and_true, true_and, exists_eq_left, exists_eq_left', exists_eq_right, V.ty.injEq, V.int.injEq, V.bl.injEq, V.str.injEq, V.ref.injEq, exists_and_left, exists_const, reduceIte, reduceCtorEq, false_and, and_false, exists_false, or_false, false_or, Bool.not_true, Bool.not_false, Bool.false_eq_true, String.reduceEq, true_or, or_true, rNotT, tNNew, tNNotIn, tNGet, sNPut, tLenSetN, tPar, tAug, ipI, tDNotIn, sDPut, tDGet, tTup, tLst, tBM, tBM0]
      refine ⟨Nat.zero_le _, fun p hp => ⟨Nat.zero_le _, fun p1 hp1 => ⟨szle (m := 3) (Nat.le_refl _), fun p2 hp2 => ?_⟩⟩⟩
      have e1 := same_upd (o := .tup []) hp
      have e2 := same_upd (o := .tup []) hp1
      have e3 := same_upd (o := .tup [.str z, .ref p, .ref p1]) hp2
      have s1 := Same.trans e1 (Same.trans e2 e3)
      refine ⟨.ref p2, s, z, rfl, ⟨p2, p, p1, rfl, .inl (.inl upd_same), .inl (.inl ((Same.trans e2 e3) _ _ upd_same)), .inl (.inl (e3 _ _ upd_same))⟩, hz, .inl ⟨z.length, hz5, rfl, hs.mono (TK.of_same s1), fun y H2 s2 hy => ?_⟩⟩
      refine ⟨Nat.zero_le _, fun r hr => ⟨Nat.zero_le _, fun r1 hr1 => ⟨szle (m := 3) (Nat.le_refl _), fun r2 hr2 => ?_⟩⟩⟩
      have f1 := same_upd (o := .tup []) hr
      have f2 := same_upd (o := .tup []) hr1
      have f3 := same_upd (o := .tup [.str z, .ref r, .ref r1]) hr2
      have s3 := Same.trans f1 (Same.trans f2 f3)
      have sall := Same.trans (Same.trans s1 s2) s3
      have hw : EWr K (upd (upd (upd H2 r (.tup [])) r1 (.tup [])) r2 (.tup [.str z, .ref r, .ref r1])) (.ref r2) z := ⟨r2, r, r1, rfl, .inl (.inl upd_same), .inl (.inl ((Same.trans f2 f3) _ _ upd_same)), .inl (.inl (f3 _ _ upd_same))⟩
      exact ⟨y, .ref r2, ewD z, rfl, (hy.mono (TK.of_same s3)).dp, hw.dp, ew_good hz, true, rfl, ifF rfl (tail _ _ ⟨hg.mono (TK.of_same sall), sall _ _ hD, rfl⟩)⟩
    rintro σ H1 ⟨hg, hD, rfl⟩
    simp only [st, List.append_assoc, cxOf, tYes, eq_self, if_true, if_false, wipe, rLenQ, rIxTQ, rIxLQ, rIxSQ, rInt1Q, rTupQ, rAppQ, rPopQ, rPopAtQ, rRevQ, rListS, rReprP, tLenSetT, tChain, tRetN, tRet, tSeq, tAsg, gName, tVar, tC, tCons, tNil, tCB, tOp, rI0, rI, tAndV, tOrV, tNotV, tIf, tTest, tB, tNot, tAnd, tOr, tIfS, tNext, tCallR, rIsK, rEq, rNe, tDrop, L2.start, List.map_cons, List.map_nil, List.length_cons, List.length_nil, Nat.reduceAdd, Nat.reduceSub, Nat.sub_self, List.replicate_zero, List.replicate_succ, List.append_nil, List.cons_append, List.nil_append, List.getElem?_cons_zero, List.getElem?_cons_succ, List.set_cons_zero, List.set_cons_succ, Option.some.injEq, List.cons.injEq, and_true, true_and, exists_eq_left, exists_eq_left', exists_eq_right, V.ty.injEq, V.int.injEq, V.bl.injEq, V.str.injEq, V.ref.injEq, exists_and_left, exists_const, reduceIte, reduceCtorEq, false_and, and_false, exists_false, or_false, false_or, Bool.not_true, Bool.not_false, Bool.false_eq_true, String.reduceEq, true_or, or_true, rNotT, tNNew, tNNotIn, tNGet, sNPut, tLenSetN, tPar, tAug, ipI, tDNotIn, sDPut, tDGet, tTup, tLst, tBM, tBM0]
    have bx := cnt_box ok 1 0 hin0
    have e5 : ((z.length : Int)) ^ 1 = z.length := Int.pow_one _
    have gd : GoodD (.int (cntAt z.length rs 1 0)) := int_good (by omega) (by omega)
    refine ⟨v, 1, rfl, .inl ⟨z, rs, hg, by decide, by decide, fun H2 s2 => ⟨D, _, rfl, .inl (.inl (s2 _ _ hD)), ?_⟩⟩⟩
    have es : ((rowOf rs 0).2.map (endAt rs)).sum = cntAt z.length rs 1 0 := (cnt_succ ok hin0 0).symm
    rw [es]
    exact ⟨_, _, _, rfl, .int _, .int _, gd, q _⟩
end
end K34

namespace K34
open PySem PySem.Spec PyProof.Rows L2 Sg
theorem facts {P : Program} {w : World} {K : PySem.W.Frag} {h : Heap} {mg : Str → Option Value} {f : Addr} (X : K.In h) (G : h.Ns mainGlobals mg) (hfa : mg ("law" : Str) = some (.ref f)) (c : SaysX exB fas fns K) :
    ∃ fd : FuncData, (∀ (s : Shared) (v : Value), BindsTo s fd ⟨[v], []⟩ [("script", v)]) ∧ ∀ base : Heap, K.In base → base.Ns mainGlobals mg → FnQ P w K mg base L2.CX0 9 f fd ["script"] (spLaw K) := by
  have T := tx_mk X G c.1 c.2
  obtain ⟨fd0, F0⟩ := T.d_law
  have same := hfa.symm.trans T.g_law
  cases same
  have bound := FunD.bindsA (ps := ["script"]) F0 fun _ _ _ _ _ _ us hl => match us, hl with | [_], _ => rfl
  exact ⟨fd0, fun s v => bound s [v] rfl, fun base _ _ => fn_law T F0⟩
end K34
open PySem PySem.W PySem.Calls PyProof.Rows
theorem PySem.Challenge.cw_signwright_k34_lookers_judged_and_refuse_holds : PySem.Challenge.rw_signwright_k34_lookers_judged_and_refuse.Holds := by
  w_on; o_law
  refine HandSHeadRun.head_any (r := OpenLaw.row PySem.Challenge.rw_signwright_k34_lookers_judged_and_refuse) (q := view (OpenLaw.row PySem.Challenge.rw_signwright_k34_lookers_judged_and_refuse).prog [74]) (H := K34.hk) (ob := K34.ob) (M := 4000) (loose := K34.loose) (d := HandSHeadRun.topDef (OpenLaw.row PySem.Challenge.rw_signwright_k34_lookers_judged_and_refuse).prog 74) (kwd := []) K34.ob_eq
    (by kernel_rfl) (fun s => by kernel_rfl) K34.run (by kernel_rfl) (by kernel_rfl) (by kernel_rfl) (by rfl) (by first | assumption | decide +kernel) (by decide +kernel) ⟨rfl, rfl, rfl, rfl, rfl, by decide +kernel⟩ ?hw ?hc
  case hw => w_witness2
  case hc =>
    refine Sg.walk_quiet (l := PySem.Challenge.rw_signwright_k34_lookers_judged_and_refuse) (n := 63) (k := 9) (x := "script") (C := L2.CX0) rfl (by decide) (by kernel_rfl) ⟨rfl, by decide, by decide⟩ ?F (fun _ _ _ _ z => z)
    intro w mg fa h Y G hmg0
    obtain ⟨K, KX, said⟩ := Y
    have hmg : mg ("law" : PySem.Str) = some (.ref fa) := by
      have name_is : (HandSHeadRun.topDef (OpenLaw.row PySem.Challenge.rw_signwright_k34_lookers_judged_and_refuse).prog 74).name = ("law" : PySem.Str) := by kernel_rfl
      rw [← name_is]
      exact hmg0
    obtain ⟨fd, hb, hF⟩ := K34.facts (P := (PySem.Challenge.rw_signwright_k34_lookers_judged_and_refuse).prog) (w := w) KX G hmg said
    exact ⟨K, fd, K34.spLaw K, KX, hb, fun H a xs _ _ hS => ⟨a, xs, rfl, hS, fun _ => rfl⟩, hF⟩
