import PyProof.Rows.All
import HandS.ForMost
import HandS.IsInst
import HandS.TupAny
import HandS.TupMul
import HandS.Zip
import HandS.Style
import HandS.DictComp
import HandS.SetKeys
import HandS.Strs
import HandS.Deep
import KE.KDictKeyed
import KE.KeyNested
import KE.SortData
import KE.DataCmp
import KE.GoesSet
import KE.KUnpackStar
import HandS.SetBool
import HandS.Sort
import KE.KDictDisplayH
import PySem.Challenge.RW_wordferry_k38_whole_each_rule_otherwise
set_option Elab.async false
set_option linter.all false
set_option maxRecDepth 100000
set_option maxHeartbeats 4000000
namespace Wf
open PySem PySem.Spec PyProof.Rows L2

/-! ### the texts of the program, as a small type -/
inductive W8 where | ack | back | brk | complete | fence | forth | offer | publish | received | release | run
namespace W8
def ix : W8 → Nat
  | .ack => 0 | .back => 1 | .brk => 2 | .complete => 3 | .fence => 4 | .forth => 5 | .offer => 6 | .publish => 7 | .received => 8 | .release => 9 | .run => 10
def txt : W8 → Str
  | .ack => "ack" | .back => "back" | .brk => "break" | .complete => "complete" | .fence => "fence" | .forth => "forth" | .offer => "offer" | .publish => "publish" | .received => "received" | .release => "release" | .run => "run"
def all : List W8 := [.ack, .back, .brk, .complete, .fence, .forth, .offer, .publish, .received, .release, .run]
theorem mem_all (a : W8) : a ∈ all := by cases a <;> simp [all]
theorem eq_tab : (all.all fun a => all.all fun b => (decide (a.txt = b.txt)) == (a.ix == b.ix)) = true := by decide +kernel
theorem lt_tab : (all.all fun a => all.all fun b => (decide (a.txt.cps.toList < b.txt.cps.toList)) == (decide (a.ix < b.ix))) = true := by decide +kernel
theorem txt_eq (a b : W8) : decide (a.txt = b.txt) = (a.ix == b.ix) := by
  have h := List.all_eq_true.mp (List.all_eq_true.mp eq_tab a (mem_all a)) b (mem_all b)
  exact beq_iff_eq.mp h
theorem txt_lt (a b : W8) : decide (a.txt.cps.toList < b.txt.cps.toList) = decide (a.ix < b.ix) := by
  have h := List.all_eq_true.mp (List.all_eq_true.mp lt_tab a (mem_all a)) b (mem_all b)
  exact beq_iff_eq.mp h
end W8

/-! ### plain data -/
inductive D where
  | non | bl (b : Bool) | int (i : Int) | str (x : W8) | tup (xs : List D)

mutual
def py : D → PyData
  | .non => .none
  | .bl b => .bool b
  | .int i => .int i
  | .str x => .str x.txt
  | .tup xs => .tuple (pyL xs)
def pyL : List D → List PyData
  | [] => []
  | x :: xs => py x :: pyL xs
end
def iq : Int → Int → Bool
  | .ofNat a, .ofNat b => Nat.beq a b
  | .negSucc a, .negSucc b => Nat.beq a b
  | _, _ => false
theorem iq_eq (a b : Int) : iq a b = (a == b) := by
  cases a with
  | ofNat a =>
    cases b with
    | ofNat b =>
      show Nat.beq a b = _
      rw [Bool.eq_iff_iff, Nat.beq_eq, beq_iff_eq]
      show a = b ↔ (a : Int) = (b : Int)
      omega
    | negSucc b => rfl
  | negSucc a =>
    cases b with
    | ofNat b => rfl
    | negSucc b =>
      show Nat.beq a b = _
      rw [Bool.eq_iff_iff, Nat.beq_eq]
      simp
def il : Int → Int → Bool
  | .ofNat a, .ofNat b => Nat.blt a b
  | .negSucc a, .negSucc b => Nat.blt b a
  | .negSucc _, .ofNat _ => true
  | .ofNat _, .negSucc _ => false
theorem il_eq (a b : Int) : il a b = decide (a < b) := by
  cases a with
  | ofNat a =>
    cases b with
    | ofNat b =>
      show Nat.blt a b = _
      rw [Bool.eq_iff_iff, Nat.blt_eq, decide_eq_true_eq]
      show a < b ↔ (a : Int) < (b : Int)
      omega
    | negSucc b =>
      show false = _
      symm
      rw [decide_eq_false_iff_not]
      show ¬ ((a : Int) < Int.negSucc b)
      omega
  | negSucc a =>
    cases b with
    | ofNat b =>
      show true = _
      symm
      rw [decide_eq_true_eq]
      show (Int.negSucc a < (b : Int))
      omega
    | negSucc b =>
      show Nat.blt b a = _
      rw [Bool.eq_iff_iff, Nat.blt_eq, decide_eq_true_eq]
      omega
def ib (b : Bool) : Int := match b with | true => .ofNat 1 | false => .ofNat 0
mutual
/-- == -/
def eqb : D → D → Bool
  | .non, .non => true
  | .bl a, .bl b => a == b
  | .bl a, .int j => iq (ib a) j
  | .int i, .bl b => iq i (ib b)
  | .int i, .int j => iq i j
  | .str x, .str y => Nat.beq x.ix y.ix
  | .tup xs, .tup ys => eqbL xs ys
  | _, _ => false
def eqbL : List D → List D → Bool
  | [], [] => true
  | x :: xs, y :: ys => eqb x y && eqbL xs ys
  | _, _ => false
end
theorem ib_eq (b : Bool) : ib b = (if b then 1 else 0) := by cases b <;> rfl
theorem bix (a b : W8) : Nat.beq a.ix b.ix = (a.txt == b.txt) := by
  rw [Bool.beq_eq_decide_eq a.txt b.txt, W8.txt_eq, Bool.eq_iff_iff, Nat.beq_eq, beq_iff_eq]
mutual
theorem eqv_py : ∀ a b : D, PyData.eqv (py a) (py b) = eqb a b
  | .non, .non => rfl
  | .bl a, .bl b => rfl
  | .bl a, .int j => by simp only [py, PyData.eqv, eqb, iq_eq, ib_eq]
  | .int i, .bl b => by simp only [py, PyData.eqv, eqb, iq_eq, ib_eq]
  | .int i, .int j => by simp only [py, PyData.eqv, eqb, iq_eq]
  | .str x, .str y => by simp only [py, PyData.eqv, eqb, bix]
  | .tup xs, .tup ys => by simp only [py, PyData.eqv, eqb]; exact eqv_pyL xs ys
  | .non, .bl _ => rfl
  | .non, .int _ => rfl
  | .non, .str _ => rfl
  | .non, .tup _ => rfl
  | .bl _, .non => rfl
  | .bl _, .str _ => rfl
  | .bl _, .tup _ => rfl
  | .int _, .non => rfl
  | .int _, .str _ => rfl
  | .int _, .tup _ => rfl
  | .str _, .non => rfl
  | .str _, .bl _ => rfl
  | .str _, .int _ => rfl
  | .str _, .tup _ => rfl
  | .tup _, .non => rfl
  | .tup _, .bl _ => rfl
  | .tup _, .int _ => rfl
  | .tup _, .str _ => rfl
theorem eqv_pyL : ∀ a b : List D, PyData.eqvAll (pyL a) (pyL b) = eqbL a b
  | [], [] => rfl
  | x :: xs, y :: ys => by simp only [pyL, PyData.eqvAll, eqbL]; rw [eqv_py x y, eqv_pyL xs ys]
  | [], _ :: _ => rfl
  | _ :: _, [] => rfl
end
theorem pyL_map : ∀ xs : List D, pyL xs = xs.map py
  | [] => rfl
  | x :: xs => by rw [pyL, pyL_map xs]; rfl
mutual
def dep : D → Nat
  | .tup xs => depL xs + 1
  | _ => 0
def depL : List D → Nat
  | [] => 0
  | x :: xs => max (dep x) (depL xs)
end
mutual
theorem dep_py : ∀ a : D, (py a).depth = dep a
  | .non => rfl
  | .bl _ => rfl
  | .int _ => rfl
  | .str _ => rfl
  | .tup xs => by simp only [py, PyData.depth, dep]; rw [dep_pyL xs]
theorem dep_pyL : ∀ a : List D, PyData.depthAll (pyL a) = depL a
  | [] => rfl
  | x :: xs => by simp only [pyL, PyData.depthAll, depL]; rw [dep_py x, dep_pyL xs]
end
theorem lay_str (x : W8) : PyData.canLay0 (.str x.txt) = true := by cases x <;> decide +kernel
mutual
theorem lay_py : ∀ a : D, (py a).canLay0 = true
  | .non => rfl
  | .bl _ => rfl
  | .int _ => rfl
  | .str x => lay_str x
  | .tup xs => by simp only [py, PyData.canLay0]; exact lay_pyL xs
theorem lay_pyL : ∀ a : List D, PyData.canLayAll0 (pyL a) = true
  | [] => rfl
  | x :: xs => by simp only [pyL, PyData.canLayAll0]; rw [lay_py x, lay_pyL xs]; rfl
end
theorem shaped_py {a : D} (h : dep a ≤ 60) : SeqAt.shaped (py a) = true := by
  show ((py a).canLay0 && decide ((py a).depth ≤ 64)) = true
  rw [lay_py, dep_py, Bool.true_and]
  exact decide_eq_true (by omega)
theorem shaped_pyL {a : List D} (h : depL a ≤ 60) : SeqAt.shaped (.list (pyL a)) = true := by
  show (PyData.canLay0 (.list (pyL a)) && decide (PyData.depth (.list (pyL a)) ≤ 64)) = true
  have e1 : PyData.canLay0 (.list (pyL a)) = true := by simp only [PyData.canLay0]; exact lay_pyL a
  have e2 : PyData.depth (.list (pyL a)) = depL a + 1 := by simp only [PyData.depth]; rw [dep_pyL]
  rw [e1, Bool.true_and]
  exact decide_eq_true (by omega)
/-! order -/
mutual
def alk : D → D → Bool
  | .non, .non => true
  | .bl _, .bl _ => true
  | .int _, .int _ => true
  | .str _, .str _ => true
  | .tup xs, .tup ys => alkL xs ys
  | _, _ => false
def alkL : List D → List D → Bool
  | x :: xs, y :: ys => alk x y && alkL xs ys
  | _, _ => true
end
mutual
theorem alk_py : ∀ a b : D, PySem.W.alike (py a) (py b) = alk a b
  | .non, .non => rfl
  | .bl a, .bl b => rfl
  | .int i, .int j => rfl
  | .str x, .str y => rfl
  | .tup xs, .tup ys => by simp only [py, PySem.W.alike, alk]; exact alk_pyL xs ys
  | .non, .bl _ => rfl
  | .non, .int _ => rfl
  | .non, .str _ => rfl
  | .non, .tup _ => rfl
  | .bl _, .non => rfl
  | .bl _, .int _ => rfl
  | .bl _, .str _ => rfl
  | .bl _, .tup _ => rfl
  | .int _, .non => rfl
  | .int _, .bl _ => rfl
  | .int _, .str _ => rfl
  | .int _, .tup _ => rfl
  | .str _, .non => rfl
  | .str _, .bl _ => rfl
  | .str _, .int _ => rfl
  | .str _, .tup _ => rfl
  | .tup _, .non => rfl
  | .tup _, .bl _ => rfl
  | .tup _, .int _ => rfl
  | .tup _, .str _ => rfl
theorem alk_pyL : ∀ a b : List D, PySem.W.alikeAll (pyL a) (pyL b) = alkL a b
  | [], [] => rfl
  | x :: xs, y :: ys => by simp only [pyL, PySem.W.alikeAll, alkL]; rw [alk_py x y, alk_pyL xs ys]
  | [], _ :: _ => rfl
  | _ :: _, [] => rfl
end
mutual
def ltb : D → D → Bool
  | .bl a, .bl b => !a && b
  | .int i, .int j => il i j
  | .str x, .str y => Nat.blt x.ix y.ix
  | .tup xs, .tup ys => ltbL xs ys
  | _, _ => false
def ltbL : List D → List D → Bool
  | [], _ :: _ => true
  | x :: xs, y :: ys => match eqb x y with | true => ltbL xs ys | false => ltb x y
  | _, _ => false
end
theorem blt_ix (a b : W8) : Nat.blt a.ix b.ix = decide (a.txt.cps.toList < b.txt.cps.toList) := by
  rw [W8.txt_lt, Bool.eq_iff_iff, Nat.blt_eq, decide_eq_true_eq]
mutual
theorem lt_py : ∀ a b : D, alk a b = true → PySem.W.dataLt (py a) (py b) = ltb a b
  | .non, .non, _ => lex_irrefl _
  | .bl a, .bl b, _ => by
    rw [py, py, PySem.W.dataLt_bool]
    cases a <;> cases b <;> rfl
  | .int i, .int j, _ => by rw [py, py, PySem.W.dataLt_int, ltb, il_eq]
  | .str x, .str y, _ => by rw [py, py, PySem.W.dataLt_str, ltb, blt_ix]
  | .tup xs, .tup ys, h => by
    rw [py, py, PySem.W.dataLt_tuple, ltb]
    exact lt_pyL xs ys (by rw [alk] at h; exact h)
  | .non, .bl _, h => by simp [alk] at h
  | .non, .int _, h => by simp [alk] at h
  | .non, .str _, h => by simp [alk] at h
  | .non, .tup _, h => by simp [alk] at h
  | .bl _, .non, h => by simp [alk] at h
  | .bl _, .int _, h => by simp [alk] at h
  | .bl _, .str _, h => by simp [alk] at h
  | .bl _, .tup _, h => by simp [alk] at h
  | .int _, .non, h => by simp [alk] at h
  | .int _, .bl _, h => by simp [alk] at h
  | .int _, .str _, h => by simp [alk] at h
  | .int _, .tup _, h => by simp [alk] at h
  | .str _, .non, h => by simp [alk] at h
  | .str _, .bl _, h => by simp [alk] at h
  | .str _, .int _, h => by simp [alk] at h
  | .str _, .tup _, h => by simp [alk] at h
  | .tup _, .non, h => by simp [alk] at h
  | .tup _, .bl _, h => by simp [alk] at h
  | .tup _, .int _, h => by simp [alk] at h
  | .tup _, .str _, h => by simp [alk] at h
theorem lt_pyL : ∀ a b : List D, alkL a b = true → PyProof.Rows.lexLt itemOrd (PySem.W.keyToksAll (pyL a)) (PySem.W.keyToksAll (pyL b)) = ltbL a b
  | [], [], _ => by
    show PyProof.Rows.lexLt itemOrd (PySem.W.keyToksAll []) (PySem.W.keyToksAll []) = false
    exact lex_irrefl _
  | x :: xs, y :: ys, h => by
    rw [alkL, Bool.and_eq_true] at h
    have ha : PySem.W.alike (py x) (py y) = true := by rw [alk_py]; exact h.1
    show PyProof.Rows.lexLt itemOrd (PySem.W.keyToksAll (py x :: pyL xs)) (PySem.W.keyToksAll (py y :: pyL ys)) = ltbL (x :: xs) (y :: ys)
    rw [ltbL]
    cases e : eqb x y with
    | true =>
      rw [PySem.W.dataLt_all_yes ha (by rw [eqv_py]; exact e)]
      exact lt_pyL xs ys h.2
    | false =>
      rw [PySem.W.dataLt_all_no ha (by rw [eqv_py]; exact e)]
      exact lt_py x y h.1
  | [], _ :: _, _ => by rfl
  | _ :: _, [], _ => by rfl
end
end Wf

namespace Wf
open PySem PySem.Spec PyProof.Rows L2

/-! ### what a value reads as -/
abbrev Rp (K : PySem.W.Frag) (H : Hp) (v : V) (d : D) : Prop := Dp K H v (py d)
abbrev RpL (K : PySem.W.Frag) (H : Hp) (vs : List V) (ds : List D) : Prop := DpAll K H vs (pyL ds)
section
variable {K : PySem.W.Frag} {H H' : Hp} {v : V} {vs ws : List V} {d : D} {ds es : List D}
theorem Rp.non_of (h : Rp K H v .non) : v = .non := by cases h; rfl
theorem Rp.bl_of {b : Bool} (h : Rp K H v (.bl b)) : v = .bl b := by cases h; rfl
theorem Rp.int_of {i : Int} (h : Rp K H v (.int i)) : v = .int i := by cases h; rfl
theorem Rp.str_of {x : W8} (h : Rp K H v (.str x)) : v = .str x.txt := by cases h; rfl
theorem Rp.tup_of (h : Rp K H v (.tup ds)) : ∃ a xs, v = .ref a ∧ SqT K H a xs ∧ RpL K H xs ds := by
  cases h with
  | tup h1 h2 => exact ⟨_, _, rfl, h1, h2⟩
theorem Rp.non : Rp K H .non .non := Dp.non
theorem Rp.bl (b : Bool) : Rp K H (.bl b) (.bl b) := Dp.bl b
theorem Rp.int (i : Int) : Rp K H (.int i) (.int i) := Dp.int i
theorem Rp.str (x : W8) : Rp K H (.str x.txt) (.str x) := Dp.str _
theorem Rp.tup {a : Addr} (h : SqT K H a vs) (r : RpL K H vs ds) : Rp K H (.ref a) (.tup ds) := Dp.tup h r
theorem RpL.length : ∀ {vs : List V} {ds : List D}, RpL K H vs ds → vs.length = ds.length
  | _, [], h => by
    cases (show DpAll K H _ [] from h)
    rfl
  | _, d :: ds, h => by
    cases (show DpAll K H _ (py d :: pyL ds) from h) with
    | cons h1 h2 => rw [List.length_cons, List.length_cons, RpL.length h2]
theorem RpL.nil : RpL K H [] [] := DpAll.nil
theorem RpL.cons (h : Rp K H v d) (t : RpL K H vs ds) : RpL K H (v :: vs) (d :: ds) := DpAll.cons h t
theorem RpL.uncons (h : RpL K H vs (d :: ds)) : ∃ v r, vs = v :: r ∧ Rp K H v d ∧ RpL K H r ds := by
  cases (show DpAll K H _ (py d :: pyL ds) from h) with
  | cons h1 h2 => exact ⟨_, _, rfl, h1, h2⟩
theorem RpL.unnil (h : RpL K H vs []) : vs = [] := by
  cases (show DpAll K H _ [] from h)
  rfl
theorem RpL.get : ∀ {ds : List D} {vs : List V} {i : Nat} {d : D}, RpL K H vs ds → ds[i]? = some d → ∃ v, vs[i]? = some v ∧ Rp K H v d
  | [], _, _, _, _, e => by simp at e
  | x :: xs, _, i, d, h, e => by
    obtain ⟨v, r, rfl, h1, h2⟩ := h.uncons
    cases i with
    | zero =>
      have q : x = d := by simpa using e
      subst q
      exact ⟨v, rfl, h1⟩
    | succ i => exact RpL.get (i := i) h2 (by simpa using e)
theorem RpL.app : ∀ {ds es : List D} {vs ws : List V}, RpL K H vs ds → RpL K H ws es → RpL K H (vs ++ ws) (ds ++ es)
  | [], _, _, _, h, t => by
    rw [h.unnil]
    exact t
  | x :: xs, _, _, _, h, t => by
    obtain ⟨v, r, rfl, h1, h2⟩ := h.uncons
    exact RpL.cons h1 (RpL.app h2 t)
theorem RpL.one (h : Rp K H v d) : RpL K H [v] [d] := RpL.cons h RpL.nil
theorem RpL.drop : ∀ {ds : List D} {vs : List V} (n : Nat), RpL K H vs ds → RpL K H (vs.drop n) (ds.drop n)
  | ds, vs, 0, h => h
  | [], _, n + 1, h => by
    rw [h.unnil]
    exact RpL.nil
  | x :: xs, _, n + 1, h => by
    obtain ⟨v, r, rfl, h1, h2⟩ := h.uncons
    exact RpL.drop n h2
theorem RpL.take : ∀ {ds : List D} {vs : List V} (n : Nat), RpL K H vs ds → RpL K H (vs.take n) (ds.take n)
  | ds, vs, 0, h => by
    rw [List.take_zero, List.take_zero]
    exact RpL.nil
  | [], _, n + 1, h => by
    rw [h.unnil]
    exact RpL.nil
  | x :: xs, _, n + 1, h => by
    obtain ⟨v, r, rfl, h1, h2⟩ := h.uncons
    exact RpL.cons h1 (RpL.take n h2)
theorem RpL.set : ∀ {ds : List D} {vs : List V} (n : Nat), RpL K H vs ds → Rp K H v d → RpL K H (vs.set n v) (ds.set n d)
  | [], _, n, h, _ => by
    rw [h.unnil]
    exact RpL.nil
  | x :: xs, _, 0, h, t => by
    obtain ⟨w, r, rfl, h1, h2⟩ := h.uncons
    exact RpL.cons t h2
  | x :: xs, _, n + 1, h, t => by
    obtain ⟨w, r, rfl, h1, h2⟩ := h.uncons
    exact RpL.cons h1 (RpL.set n h2 t)
theorem RpL.rep {n : Nat} (h : RpL K H vs ds) : RpL K H (List.replicate n vs).flatten (List.replicate n ds).flatten := by
  induction n with
  | zero => exact RpL.nil
  | succ n ih =>
    rw [List.replicate_succ, List.replicate_succ, List.flatten_cons, List.flatten_cons]
    exact RpL.app h ih
/-- tuples and what is frozen stay -/
structure Tk (H H' : Hp) : Prop where
  tup : ∀ b xs, H b = some (.tup xs) → H' b = some (.tup xs)
  frz : ∀ b o u, H b = some (.frz o u) → H' b = some (.frz o u)
theorem Tk.refl : Tk H H := ⟨fun _ _ h => h, fun _ _ _ h => h⟩
theorem Tk.trans {H'' : Hp} (a : Tk H H') (b : Tk H' H'') : Tk H H'' := ⟨fun c xs h => b.tup c xs (a.tup c xs h), fun c o u h => b.frz c o u (a.frz c o u h)⟩
theorem tk_same (h : Same H H') : Tk H H' := ⟨fun b _ e => h b _ e, fun b _ _ e => h b _ e⟩
def Soft : HO → Prop
  | .tup _ => False
  | .frz _ _ => False
  | _ => True
theorem tk_upd {a : Addr} {o u : HO} (h : H a = some o) (s : Soft o) : Tk H (upd H a u) := by
  refine ⟨fun b xs e => ?_, fun b o' u' e => ?_⟩
  · rw [upd_ne]
    · exact e
    · rintro rfl
      rw [h] at e
      cases e
      exact s
  · rw [upd_ne]
    · exact e
    · rintro rfl
      rw [h] at e
      cases e
      exact s
theorem SqT.tk {a : Addr} (t : Tk H H') (h : SqT K H a vs) : SqT K H' a vs := by
  rcases h with (h | ⟨o, h⟩) | h
  · exact .inl (.inl (t.tup _ _ h))
  · exact .inl (.inr ⟨o, t.frz _ _ _ h⟩)
  · exact .inr h
mutual
theorem Rp.tk (t : Tk H H') : ∀ {d : D} {v : V}, Rp K H v d → Rp K H' v d
  | .non, _, h => by rw [h.non_of]; exact Rp.non
  | .bl _, _, h => by rw [h.bl_of]; exact Rp.bl _
  | .int _, _, h => by rw [h.int_of]; exact Rp.int _
  | .str _, _, h => by rw [h.str_of]; exact Rp.str _
  | .tup xs, _, h => by
    obtain ⟨a, ws, rfl, h1, h2⟩ := h.tup_of
    exact Rp.tup (SqT.tk t h1) (RpL.tk t h2)
theorem RpL.tk (t : Tk H H') : ∀ {ds : List D} {vs : List V}, RpL K H vs ds → RpL K H' vs ds
  | [], _, h => by rw [h.unnil]; exact RpL.nil
  | d :: ds, _, h => by
    obtain ⟨v, r, rfl, h1, h2⟩ := h.uncons
    exact RpL.cons (Rp.tk t h1) (RpL.tk t h2)
end
theorem Rp.same (t : Same H H') (h : Rp K H v d) : Rp K H' v d := h.tk (tk_same t)
theorem RpL.same (t : Same H H') (h : RpL K H vs ds) : RpL K H' vs ds := h.tk (tk_same t)
end

/-! ### keys -/
mutual
def nk : D → NestedKey
  | .non => .none
  | .bl b => .num (ib b)
  | .int i => .num i
  | .str x => .text x.txt
  | .tup xs => .tup (nkL xs)
def nkL : List D → List NestedKey
  | [] => []
  | x :: xs => nk x :: nkL xs
end
mutual
theorem nk_beq : ∀ a b : D, NestedKey.beq (nk a) (nk b) = eqb a b
  | .non, .non => rfl
  | .bl a, .bl b => by cases a <;> cases b <;> rfl
  | .bl a, .int j => by simp only [nk, NestedKey.beq, eqb, iq_eq]; exact (Bool.beq_eq_decide_eq _ _).symm
  | .int i, .bl b => by simp only [nk, NestedKey.beq, eqb, iq_eq]; exact (Bool.beq_eq_decide_eq _ _).symm
  | .int i, .int j => by simp only [nk, NestedKey.beq, eqb, iq_eq]; exact (Bool.beq_eq_decide_eq _ _).symm
  | .str x, .str y => by simp only [nk, NestedKey.beq, eqb, bix]; exact (Bool.beq_eq_decide_eq _ _).symm
  | .tup xs, .tup ys => by simp only [nk, NestedKey.beq, eqb]; exact nk_beqL xs ys
  | .non, .bl _ => rfl
  | .non, .int _ => rfl
  | .non, .str _ => rfl
  | .non, .tup _ => rfl
  | .bl _, .non => rfl
  | .bl _, .str _ => rfl
  | .bl _, .tup _ => rfl
  | .int _, .non => rfl
  | .int _, .str _ => rfl
  | .int _, .tup _ => rfl
  | .str _, .non => rfl
  | .str _, .bl _ => rfl
  | .str _, .int _ => rfl
  | .str _, .tup _ => rfl
  | .tup _, .non => rfl
  | .tup _, .bl _ => rfl
  | .tup _, .int _ => rfl
  | .tup _, .str _ => rfl
theorem nk_beqL : ∀ a b : List D, NestedKey.beqAll (nkL a) (nkL b) = eqbL a b
  | [], [] => rfl
  | x :: xs, y :: ys => by simp only [nkL, NestedKey.beqAll, eqbL]; rw [nk_beq x y, nk_beqL xs ys]
  | [], _ :: _ => rfl
  | _ :: _, [] => rfl
end
theorem nk_dec (a b : D) : decide (nk a = nk b) = eqb a b := by rw [NestedKey.decide_eq, nk_beq]
mutual
theorem nk_dep : ∀ a : D, (nk a).depth = dep a
  | .non => rfl
  | .bl _ => rfl
  | .int _ => rfl
  | .str _ => rfl
  | .tup xs => by simp only [nk, NestedKey.depth, dep]; rw [nk_depL xs]
theorem nk_depL : ∀ a : List D, NestedKey.depthAll (nkL a) = depL a
  | [] => rfl
  | x :: xs => by simp only [nkL, NestedKey.depthAll, depL]; rw [nk_dep x, nk_depL xs]
end
section
variable {X : Cx} {pins : List (Addr × Obj)} {σ : L2.St} {H : Hp} {s : Shared}
mutual
theorem nk_is (I : Inv X pins σ H s) : ∀ {d : D} {v : V} {u : Value}, Rp X.K H v d → RelV v u → NestedIs s.heap (nk d) u
  | .non, _, _, h, r => by
    rw [h.non_of] at r
    cases r
    exact .none
  | .bl b, _, _, h, r => by
    rw [h.bl_of] at r
    cases r
    exact .bool (ib_eq b)
  | .int i, _, _, h, r => by
    rw [h.int_of] at r
    obtain ⟨t, rfl⟩ := r
    exact .int i t
  | .str x, _, _, h, r => by
    rw [h.str_of] at r
    obtain ⟨t, rfl⟩ := r
    exact .text _ t
  | .tup xs, _, _, h, r => by
    obtain ⟨a, ws, rfl, h1, h2⟩ := h.tup_of
    cases r
    obtain ⟨its, rv, ⟨o, ho, hc, n, hd⟩, _⟩ := I.tuple h1
    exact .tup ho hc hd (by simpa using nk_isL I h2 rv)
theorem nk_isL (I : Inv X pins σ H s) : ∀ {ds : List D} {vs : List V} {us : List Value}, RpL X.K H vs ds → Vals vs us → NestedAll s.heap (nkL ds) us
  | [], _, _, h, r => by
    rw [h.unnil] at r
    cases r
    exact .nil
  | d :: ds, _, _, h, r => by
    obtain ⟨v, t, rfl, h1, h2⟩ := h.uncons
    cases r with
    | cons r1 r2 => exact .cons (nk_is I h1 r1) (nk_isL I h2 r2)
end
end

/-! ### slots -/
inductive SV where
  | d (x : D) | l (xs : List D) | dk (kvs : List (D × D)) | dn (kvs : List (D × D))
def SV.own : SV → Bool
  | .d _ => false
  | _ => true
abbrev Ss := List (Option SV)
/-- a key that is an int or a text -/
def flatKey : D → Option Key
  | .int i => some (.inl i)
  | .str x => some (.inr x.txt)
  | _ => none
/-- a dict with keys that are tuples, by its entries -/
def DN (P : Program) (w : World) (a : Addr) (xs : List (NestedKey × Addr × Value)) : HO := .ext fun h =>
  xs.length ≤ sizeLine ∧ (a == sysModules) = false ∧ ∃ o es ep, h.get? a = some o ∧ o.ExactDict ∧ o.data = .dict es ep ∧ es.toList = xs.map (entryOfKey (nestedKind P w)) ∧ (xs.map (·.1)).Nodup
abbrev KR (K : PySem.W.Frag) (H : Hp) : List (D × D) → List (Key × V) → Prop := Paired fun p q => flatKey p.1 = some q.1 ∧ Rp K H q.2 p.2
abbrev NR (K : PySem.W.Frag) (H : Hp) : List (D × D) → List (NestedKey × Addr × Value) → Prop :=
  Paired fun p q => nk p.1 = q.1 ∧ Rp K H (.ref q.2.1) p.1 ∧ dep p.1 ≤ 7 ∧ ∃ v, RelV v q.2.2 ∧ Rp K H v p.2
section
variable (K : PySem.W.Frag) (P : Program) (w : World)
def SvR (H0 H : Hp) (v : V) : SV → Prop
  | .d d => Rp K H v d
  | .l xs => ∃ a vs, v = .ref a ∧ H0 a = none ∧ H a = some (.lst vs) ∧ RpL K H vs xs
  | .dk kvs => ∃ a ks, v = .ref a ∧ H0 a = none ∧ H a = some (.dK ks) ∧ KR K H kvs ks
  | .dn kvs => ∃ a xs, v = .ref a ∧ H0 a = none ∧ H a = some (DN P w a xs) ∧ NR K H kvs xs
/-- slot i holds something of the def's own at a -/
def OwnAt (σ : L2.St) (ss : Ss) (i : Nat) (a : Addr) : Prop := ∃ sv, ss[i]? = some (some sv) ∧ sv.own = true ∧ σ[i]? = some (some (.ref a))
structure SR (H0 H : Hp) (σ : L2.St) (ss : Ss) : Prop where
  same : Same H0 H
  len : ss.length ≤ σ.length
  at_ : ∀ (i : Nat) (sv : SV), ss[i]? = some (some sv) → ∃ v, σ[i]? = some (some v) ∧ SvR K P w H0 H v sv
  apart : ∀ (i j : Nat) (a : Addr), OwnAt σ ss i a → OwnAt σ ss j a → i = j
end
section
variable {K : PySem.W.Frag} {P : Program} {w : World} {H0 H H' : Hp} {σ : L2.St} {ss : Ss} {v : V} {sv : SV}
theorem KR.tk (t : Tk H H') {kvs : List (D × D)} {ks : List (Key × V)} (h : KR K H kvs ks) : KR K H' kvs ks := Paired.mapP h fun _ _ ⟨a, b⟩ => ⟨a, b.tk t⟩
theorem NR.tk (t : Tk H H') {kvs : List (D × D)} {xs : List (NestedKey × Addr × Value)} (h : NR K H kvs xs) : NR K H' kvs xs :=
  Paired.mapP h fun _ _ ⟨a, b, c, v, r, q⟩ => ⟨a, b.tk t, c, v, r, q.tk t⟩
/-- a slot's reading stays where its own object stays -/
theorem SvR.tk (t : Tk H H') (k : ∀ a o, v = .ref a → sv.own = true → H a = some o → H' a = some o) (h : SvR K P w H0 H v sv) : SvR K P w H0 H' v sv := by
  cases sv with
  | d x => exact Rp.tk t h
  | l xs =>
    obtain ⟨a, vs, e, n, q, r⟩ := h
    exact ⟨a, vs, e, n, k a _ e rfl q, r.tk t⟩
  | dk kvs =>
    obtain ⟨a, vs, e, n, q, r⟩ := h
    exact ⟨a, vs, e, n, k a _ e rfl q, r.tk t⟩
  | dn kvs =>
    obtain ⟨a, vs, e, n, q, r⟩ := h
    exact ⟨a, vs, e, n, k a _ e rfl q, r.tk t⟩
/-- the object of a slot of one's own -/
theorem SvR.own_at (h : SvR K P w H0 H v sv) (o : sv.own = true) : ∃ a u, v = .ref a ∧ H0 a = none ∧ H a = some u ∧ Soft u := by
  cases sv with
  | d x => cases o
  | l xs =>
    obtain ⟨a, vs, e, n, q, r⟩ := h
    exact ⟨a, _, e, n, q, trivial⟩
  | dk kvs =>
    obtain ⟨a, vs, e, n, q, r⟩ := h
    exact ⟨a, _, e, n, q, trivial⟩
  | dn kvs =>
    obtain ⟨a, vs, e, n, q, r⟩ := h
    exact ⟨a, _, e, n, q, trivial⟩
theorem SR.own_at (R : SR K P w H0 H σ ss) {i : Nat} {a : Addr} (o : OwnAt σ ss i a) : H0 a = none ∧ ∃ u, H a = some u ∧ Soft u := by
  obtain ⟨sv, e1, e2, e3⟩ := o
  obtain ⟨v, e4, r⟩ := R.at_ i sv e1
  rw [e3] at e4
  cases e4
  obtain ⟨b, u, e, n, q, sft⟩ := r.own_at e2
  cases e
  exact ⟨n, u, q, sft⟩
/-- the heap grows -/
theorem SR.grow (R : SR K P w H0 H σ ss) (g : Same H H') : SR K P w H0 H' σ ss :=
  ⟨R.same.trans g, R.len, fun i sv e => let ⟨v, e1, r⟩ := R.at_ i sv e; ⟨v, e1, r.tk (tk_same g) fun _ _ _ _ q => g _ _ q⟩, R.apart⟩
theorem same_new {a : Addr} {o : HO} (h : H a = none) : Same H (upd H a o) := fun b x e => by
  rw [upd_ne (ne_of_none e h)]
  exact e
/-- an object that no slot owns, and that was not there at the entry, is written -/
theorem SR.touch {a : Addr} {o u : HO} (R : SR K P w H0 H σ ss) (h : H a = some o) (s : Soft o) (n : H0 a = none) (no : ∀ i, ¬ OwnAt σ ss i a) : SR K P w H0 (upd H a u) σ ss := by
  refine ⟨fun b x e => ?_, R.len, fun i sv e => ?_, R.apart⟩
  · rw [upd_ne]
    · exact R.same b x e
    · rintro rfl
      rw [n] at e
      cases e
  · obtain ⟨v, e1, r⟩ := R.at_ i sv e
    refine ⟨v, e1, r.tk (tk_upd h s) fun b x ev eo q => ?_⟩
    rw [upd_ne]
    · exact q
    · rintro rfl
      exact no i ⟨sv, e, eo, by rw [← ev]; exact e1⟩
/-- what one's own slot i holds is changed -/
theorem SR.write {a : Addr} {o u : HO} {i : Nat} {sv sv' : SV} (R : SR K P w H0 H σ ss) (e : ss[i]? = some (some sv)) (ow : sv.own = true) (eσ : σ[i]? = some (some (.ref a))) (h : H a = some o) (s : Soft o)
    (new : SvR K P w H0 (upd H a u) (.ref a) sv') (ow' : sv'.own = true) : SR K P w H0 (upd H a u) σ (ss.set i (some sv')) := by
  have oi : OwnAt σ ss i a := ⟨sv, e, ow, eσ⟩
  have n := (R.own_at oi).1
  have li : i < ss.length := (List.getElem?_eq_some_iff.mp e).1
  have back : ∀ {j b}, OwnAt σ (ss.set i (some sv')) j b → OwnAt σ ss j b := fun {j b} ⟨sv2, e1, e2, e3⟩ => by
    by_cases hj : i = j
    · subst hj
      exact ⟨sv, e, ow, e3⟩
    · rw [List.getElem?_set_ne hj] at e1
      exact ⟨sv2, e1, e2, e3⟩
  refine ⟨fun b x q => ?_, by rw [List.length_set]; exact R.len, fun j sv2 q => ?_, fun j k b oj ok => R.apart j k b (back oj) (back ok)⟩
  · rw [upd_ne]
    · exact R.same b x q
    · rintro rfl
      rw [n] at q
      cases q
  · by_cases hj : i = j
    · subst hj
      rw [List.getElem?_set_self li] at q
      cases q
      exact ⟨_, eσ, new⟩
    · rw [List.getElem?_set_ne hj] at q
      obtain ⟨v, e1, r⟩ := R.at_ j sv2 q
      refine ⟨v, e1, r.tk (tk_upd h s) fun b x ev eo z => ?_⟩
      rw [upd_ne]
      · exact z
      · rintro rfl
        exact hj (R.apart i j b oi ⟨sv2, q, eo, by rw [← ev]; exact e1⟩)
/-- a name is stored: plain data -/
theorem SR.setD {i : Nat} {d : D} (R : SR K P w H0 H σ ss) (r : Rp K H v d) : SR K P w H0 H (σ.set i (some v)) (ss.set i (some (.d d))) := by
  have back : ∀ {j b}, OwnAt (σ.set i (some v)) (ss.set i (some (.d d))) j b → OwnAt σ ss j b := fun {j b} ⟨sv2, e1, e2, e3⟩ => by
    by_cases hj : i = j
    · subst hj
      have li : i < ss.length := by
        have := (List.getElem?_eq_some_iff.mp e1).1
        rwa [List.length_set] at this
      rw [List.getElem?_set_self li] at e1
      cases e1
      cases e2
    · rw [List.getElem?_set_ne hj] at e1 e3
      exact ⟨sv2, e1, e2, e3⟩
  refine ⟨R.same, by rw [List.length_set, List.length_set]; exact R.len, fun j sv2 q => ?_, fun j k b oj ok => R.apart j k b (back oj) (back ok)⟩
  by_cases hj : i = j
  · subst hj
    have li : i < ss.length := by
      have := (List.getElem?_eq_some_iff.mp q).1
      rwa [List.length_set] at this
    rw [List.getElem?_set_self li] at q
    cases q
    exact ⟨v, List.getElem?_set_self (Nat.lt_of_lt_of_le li R.len), r⟩
  · rw [List.getElem?_set_ne hj] at q
    obtain ⟨u, e1, r1⟩ := R.at_ j sv2 q
    exact ⟨u, by rw [List.getElem?_set_ne hj]; exact e1, r1⟩
/-- .. an object that no slot owns -/
theorem SR.setO {i : Nat} {sv : SV} {a : Addr} (R : SR K P w H0 H σ ss) (r : SvR K P w H0 H (.ref a) sv) (no : ∀ j, ¬ OwnAt σ ss j a) : SR K P w H0 H (σ.set i (some (.ref a))) (ss.set i (some sv)) := by
  have back : ∀ {j b}, OwnAt (σ.set i (some (.ref a))) (ss.set i (some sv)) j b → (j = i ∧ b = a) ∨ (j ≠ i ∧ OwnAt σ ss j b) := fun {j b} ⟨sv2, e1, e2, e3⟩ => by
    by_cases hj : i = j
    · subst hj
      have li : i < ss.length := by
        have := (List.getElem?_eq_some_iff.mp e1).1
        rwa [List.length_set] at this
      rw [List.getElem?_set_self (Nat.lt_of_lt_of_le li R.len)] at e3
      cases e3
      exact .inl ⟨rfl, rfl⟩
    · rw [List.getElem?_set_ne hj] at e1 e3
      exact .inr ⟨fun z => hj z.symm, sv2, e1, e2, e3⟩
  refine ⟨R.same, by rw [List.length_set, List.length_set]; exact R.len, fun j sv2 q => ?_, fun j k b oj ok => ?_⟩
  · by_cases hj : i = j
    · subst hj
      have li : i < ss.length := by
        have := (List.getElem?_eq_some_iff.mp q).1
        rwa [List.length_set] at this
      rw [List.getElem?_set_self li] at q
      cases q
      exact ⟨_, List.getElem?_set_self (Nat.lt_of_lt_of_le li R.len), r⟩
    · rw [List.getElem?_set_ne hj] at q
      obtain ⟨u, e1, r1⟩ := R.at_ j sv2 q
      exact ⟨u, by rw [List.getElem?_set_ne hj]; exact e1, r1⟩
  · rcases back oj with ⟨hj, hb⟩ | ⟨_, pj⟩
    · rcases back ok with ⟨hk, _⟩ | ⟨_, pk⟩
      · exact hj.trans hk.symm
      · exact absurd (hb ▸ pk) (no k)
    · rcases back ok with ⟨_, hb⟩ | ⟨_, pk⟩
      · exact absurd (hb ▸ pj) (no j)
      · exact R.apart j k b pj pk
/-- a new object is owned by no slot -/
theorem SR.no_own (R : SR K P w H0 H σ ss) {a : Addr} (h : H a = none) : ∀ j, ¬ OwnAt σ ss j a := fun j o => by
  obtain ⟨_, u, e, _⟩ := R.own_at o
  rw [h] at e
  cases e
/-- fewer slots are known -/
theorem SR.less {ss' : Ss} (R : SR K P w H0 H σ ss) (hl : ss'.length ≤ ss.length) (le : ∀ (i : Nat) (sv : SV), ss'[i]? = some (some sv) → ss[i]? = some (some sv)) : SR K P w H0 H σ ss' :=
  ⟨R.same, Nat.le_trans hl R.len, fun i sv e => R.at_ i sv (le i sv e), fun i j a ⟨s1, a1, b1, c1⟩ ⟨s2, a2, b2, c2⟩ => R.apart i j a ⟨s1, le _ _ a1, b1, c1⟩ ⟨s2, le _ _ a2, b2, c2⟩⟩
/-- a heap beside the entry's is guarded for a while -/
def join (H0 Hk : Hp) : Hp := fun b => match H0 b with
  | some o => some o
  | none => Hk b
theorem join_l {H0 Hk : Hp} : Same H0 (join H0 Hk) := fun b o e => by
  unfold join
  rw [e]
theorem join_r {H0 Hk H : Hp} (a : Same H0 H) (b : Same Hk H) : Same Hk (join H0 Hk) := fun c o e => by
  unfold join
  cases q : H0 c with
  | none => exact e
  | some u =>
    have h1 := a c u q
    rw [b c o e] at h1
    exact h1.symm
theorem join_none {H0 Hk : Hp} {a : Addr} (h : join H0 Hk a = none) : H0 a = none := by
  unfold join at h
  cases q : H0 a with
  | none => rfl
  | some u =>
    rw [q] at h
    cases h
theorem join_le {H0 Hk : Hp} (a : Same H0 H) (b : Same Hk H) : Same (join H0 Hk) H := fun c o e => by
  unfold join at e
  cases q : H0 c with
  | none =>
    rw [q] at e
    exact b c o e
  | some u =>
    rw [q] at e
    cases e
    exact a c _ q
theorem SvR.base {H1 : Hp} (h : SvR K P w H0 H v sv) (k : ∀ a, v = .ref a → sv.own = true → H0 a = none → H1 a = none) : SvR K P w H1 H v sv := by
  cases sv with
  | d x => exact h
  | l xs =>
    obtain ⟨a, vs, e, n, q⟩ := h
    exact ⟨a, vs, e, k a e rfl n, q⟩
  | dk kvs =>
    obtain ⟨a, vs, e, n, q⟩ := h
    exact ⟨a, vs, e, k a e rfl n, q⟩
  | dn kvs =>
    obtain ⟨a, vs, e, n, q⟩ := h
    exact ⟨a, vs, e, k a e rfl n, q⟩
theorem SR.guard {Hk : Hp} (R : SR K P w H0 H σ ss) (g : Same Hk H) (no : ∀ i a, OwnAt σ ss i a → Hk a = none) : SR K P w (join H0 Hk) H σ ss := by
  refine ⟨join_le R.same g, R.len, fun i sv e => ?_, R.apart⟩
  obtain ⟨v, e1, r⟩ := R.at_ i sv e
  refine ⟨v, e1, r.base fun a ev eo n => ?_⟩
  unfold join
  rw [n]
  exact no i a ⟨sv, e, eo, by rw [← ev]; exact e1⟩
theorem SR.unguard {Hk : Hp} (R : SR K P w (join H0 Hk) H σ ss) : SR K P w H0 H σ ss :=
  ⟨join_l.trans R.same, R.len, fun i sv e => let ⟨v, e1, r⟩ := R.at_ i sv e; ⟨v, e1, r.base fun _ _ _ n => join_none n⟩, R.apart⟩
/-- names forgotten -/
def wipeS (ss : Ss) : List Nat → Ss
  | [] => ss
  | i :: is => (wipeS ss is).set i none
theorem wipeS_len (ss : Ss) : ∀ is, (wipeS ss is).length = ss.length
  | [] => rfl
  | i :: is => by unfold wipeS; rw [List.length_set, wipeS_len ss is]
theorem wipeS_some {i : Nat} {sv : SV} : ∀ {is : List Nat}, (wipeS ss is)[i]? = some (some sv) → ss[i]? = some (some sv) ∧ i ∉ is
  | [], h => ⟨h, by simp⟩
  | j :: is, h => by
    unfold wipeS at h
    by_cases e : j = i
    · subst e
      by_cases hl : j < (wipeS ss is).length
      · rw [List.getElem?_set_self hl] at h
        cases h
      · rw [List.getElem?_eq_none (by rw [List.length_set]; omega)] at h
        cases h
    · rw [List.getElem?_set_ne e] at h
      obtain ⟨h1, h2⟩ := wipeS_some h
      exact ⟨h1, by simp only [List.mem_cons, not_or]; exact ⟨fun z => e z.symm, h2⟩⟩
theorem SR.wipe (R : SR K P w H0 H σ ss) (is : List Nat) : SR K P w H0 H (L2.wipe σ is) (wipeS ss is) := by
  have R1 := R.less (ss' := wipeS ss is) (by rw [wipeS_len]; exact Nat.le_refl _) fun i sv e => (wipeS_some e).1
  have un : ∀ {j b}, OwnAt (L2.wipe σ is) (wipeS ss is) j b → OwnAt σ (wipeS ss is) j b := fun {j b} ⟨sv2, e1, e2, e3⟩ => ⟨sv2, e1, e2, (wipe_some e3).1⟩
  refine ⟨R1.same, by rw [wipe_length]; exact R1.len, fun i sv e => ?_, fun i j a oi oj => R1.apart i j a (un oi) (un oj)⟩
  obtain ⟨v, e1, r⟩ := R1.at_ i sv e
  exact ⟨v, by rw [wipe_out (wipeS_some e).2]; exact e1, r⟩
end
end Wf

namespace Wf
open PySem PySem.Spec PyProof.Rows L2

/-! ### the readings -/
abbrev EF := Ss → Option D
abbrev TF := Ss → Option Bool
abbrev LF := Ss → Option (List D)
section
variable (K : PySem.W.Frag) (P : Program) (w : World)
def tD (f : EF) : TE := fun σ H Q => ∃ H0 ss d, SR K P w H0 H σ ss ∧ f ss = some d ∧ ∀ v H', Same H H' → Rp K H' v d → Q v H'
def tT (f : TF) : TT := fun σ H Q => ∃ H0 ss b, SR K P w H0 H σ ss ∧ f ss = some b ∧ ∀ H', Same H H' → Q b H'
/-- a list, perhaps a slot's own -/
def tL (f : LF) : TE := fun σ H Q => ∃ H0 ss ds, SR K P w H0 H σ ss ∧ f ss = some ds ∧ ∀ a vs H', Same H H' → H' a = some (.lst vs) → RpL K H' vs ds → Q (.ref a) H'
/-- a new list -/
def tN (f : LF) : TE := fun σ H Q => ∃ H0 ss ds, SR K P w H0 H σ ss ∧ f ss = some ds ∧ ∀ a vs H', Same H H' → H a = none → H' a = some (.lst vs) → RpL K H' vs ds → Q (.ref a) H'
def tA (f : LF) : TA := fun σ H Q => ∃ H0 ss ds, SR K P w H0 H σ ss ∧ f ss = some ds ∧ ∀ vs H', Same H H' → RpL K H' vs ds → Q vs H'
end
abbrev EJ (X : Cx) (e : Expr) (f : EF) : Prop := PE X e (tD X.K X.prog X.w f)
abbrev TJ (X : Cx) (e : Expr) (f : TF) : Prop := PT X e (tT X.K X.prog X.w f)
abbrev WJ (X : Cx) (e : Expr) (f : TF) : Prop := PW X e (tT X.K X.prog X.w f)
abbrev CJ (X : Cx) (op : CmpOp) (a b : Expr) (f : EF) : Prop := PC X op a b (tD X.K X.prog X.w f)
abbrev LJ (X : Cx) (e : Expr) (f : LF) : Prop := PE X e (tL X.K X.prog X.w f)
abbrev NJ (X : Cx) (e : Expr) (f : LF) : Prop := PE X e (tN X.K X.prog X.w f)
abbrev AJ (X : Cx) (es : List Expr) (f : LF) : Prop := PA X es (tA X.K X.prog X.w f)
section
variable {X : Cx} {e : Expr} {es : List Expr}
theorem PEimp {t u : TE} (h : PE X e t) (k : ∀ σ H Q, u σ H Q → t σ H Q) : PE X e u := ⟨fun pins s σ H Q I q => h.run pins s σ H Q I (k σ H Q q)⟩
theorem PTimp {t u : TT} (h : PT X e t) (k : ∀ σ H Q, u σ H Q → t σ H Q) : PT X e u := ⟨fun pins s σ H Q I q => h.run pins s σ H Q I (k σ H Q q)⟩
theorem PWimp {t u : TT} (h : PW X e t) (k : ∀ σ H Q, u σ H Q → t σ H Q) : PW X e u := ⟨fun wh pins s σ H Q I q => h.run wh pins s σ H Q I (k σ H Q q)⟩
theorem PAimp {t u : TA} (h : PA X es t) (k : ∀ σ H Q, u σ H Q → t σ H Q) : PA X es u := ⟨fun pos pins s σ H Q I q => h.run pos pins s σ H Q I (k σ H Q q)⟩
theorem PCimp {op : CmpOp} {a b : Expr} {t u : TE} (h : PC X op a b t) (k : ∀ σ H Q, u σ H Q → t σ H Q) : PC X op a b u := ⟨fun pins s σ H Q I q => h.run pins s σ H Q I (k σ H Q q)⟩
theorem lj_of {f : LF} (h : NJ X e f) : LJ X e f := PEimp h fun σ H Q ⟨H0, ss, ds, R, hf, q⟩ => ⟨H0, ss, ds, R, hf, fun a vs H' g _ ha r => q a vs H' g ha r⟩
theorem pc_op {op : CmpOp} {a b : Expr} {r : R2} {ta tb : TE} (ho : OpR X (compareOp op) r) (ha : PE X a ta) (hb : PE X b tb) : PC X op a b (tOp r ta tb) := by
  refine ⟨fun pins s σ H Q I h => ?_⟩
  exact bin ha hb I h fun v u s2 x y H2 I2 rx ry q => ho pins s2 σ H2 x y v u Q I2 rx ry q
end

/-! ### slots by number -/
def slot : Ss → Nat → Option SV
  | [], _ => none
  | x :: _, 0 => x
  | _ :: r, i + 1 => slot r i
theorem slot_at : ∀ {ss : Ss} {i : Nat} {sv : SV}, slot ss i = some sv → ss[i]? = some (some sv)
  | [], _, _, h => by cases h
  | x :: _, 0, sv, h => by
    have e : x = some sv := h
    rw [e]
    rfl
  | _ :: r, i + 1, sv, h => by
    have q := slot_at (ss := r) (i := i) (sv := sv) h
    simpa using q

/-! ### expressions -/
def eK (d : D) : EF := fun _ => some d
def eV (i : Nat) : EF := fun ss => match slot ss i with
  | some (.d x) => some x
  | _ => none
def lV (i : Nat) : LF := fun ss => match slot ss i with
  | some (.l x) => some x
  | _ => none
def eNot (f : TF) : EF := fun ss => match f ss with
  | some b => some (.bl (!b))
  | none => none
def eAnd (f g : EF) : EF := fun ss => match f ss with
  | some (.bl true) => g ss
  | some (.bl false) => some (.bl false)
  | _ => none
def eOr (f g : EF) : EF := fun ss => match f ss with
  | some (.bl true) => some (.bl true)
  | some (.bl false) => g ss
  | _ => none
def bAnd (f g : TF) : TF := fun ss => match f ss with
  | some true => g ss
  | some false => some false
  | none => none
def bOr (f g : TF) : TF := fun ss => match f ss with
  | some true => some true
  | some false => g ss
  | none => none
def bNot (f : TF) : TF := fun ss => match f ss with
  | some b => some (!b)
  | none => none
def bD (f : EF) : TF := fun ss => match f ss with
  | some (.bl b) => some b
  | _ => none
def eIf (c : TF) (f g : EF) : EF := fun ss => match c ss with
  | some true => f ss
  | some false => g ss
  | none => none
def lNil : LF := fun _ => some []
def lCons (f : EF) (g : LF) : LF := fun ss => match f ss with
  | some x => match g ss with
    | some xs => some (x :: xs)
    | none => none
  | none => none
def eTup (g : LF) : EF := fun ss => match g ss with
  | some xs => some (.tup xs)
  | none => none
def e2I (k : Int → Int → D) (f g : EF) : EF := fun ss => match f ss with
  | some (.int i) => match g ss with
    | some (.int j) => some (k i j)
    | _ => none
  | _ => none
def eAdd : EF → EF → EF := e2I fun i j => .int (i + j)
def eSub : EF → EF → EF := e2I fun i j => .int (i - j)
def eLt : EF → EF → EF := e2I fun i j => .bl (il i j)
def eLe : EF → EF → EF := e2I fun i j => .bl (!il j i)
def eGt : EF → EF → EF := e2I fun i j => .bl (il j i)
def eGe : EF → EF → EF := e2I fun i j => .bl (!il i j)
def eChain (k k' : Int → Int → Bool) (f g h : EF) : EF := fun ss => match f ss with
  | some (.int i) => match g ss with
    | some (.int j) => match k i j with
      | true => match h ss with
        | some (.int l) => some (.bl (k' j l))
        | _ => none
      | false => some (.bl false)
    | _ => none
  | _ => none
def okd (a : D) : Bool := Nat.ble (dep a) 7
def okdL (a : List D) : Bool := Nat.ble (depL a) 7
theorem okd_le {a : D} (h : okd a = true) : dep a ≤ 7 := Nat.le_of_ble_eq_true h
theorem okdL_le {a : List D} (h : okdL a = true) : depL a ≤ 7 := Nat.le_of_ble_eq_true h
def eEq (f g : EF) : EF := fun ss => match f ss with
  | some a => match g ss with
    | some b => match okd a && okd b with
      | true => some (.bl (eqb a b))
      | false => none
    | none => none
  | none => none
def eNe (f g : EF) : EF := fun ss => match f ss with
  | some a => match g ss with
    | some b => match okd a && okd b with
      | true => some (.bl (!eqb a b))
      | false => none
    | none => none
  | none => none
def eEqL (f g : LF) : EF := fun ss => match f ss with
  | some a => match g ss with
    | some b => match okdL a && okdL b with
      | true => some (.bl (eqbL a b))
      | false => none
    | none => none
  | none => none
inductive Ty where | int | bool | tup | str
def Ty.nm : Ty → Str
  | .int => "int" | .bool => "bool" | .tup => "tuple" | .str => "str"
def Ty.cl : Ty → String
  | .int => "int" | .bool => "bool" | .tup => "tuple" | .str => "str"
def isTy : Ty → D → Bool
  | .int, .int _ => true
  | .int, .bl _ => true
  | .bool, .bl _ => true
  | .tup, .tup _ => true
  | .str, .str _ => true
  | _, _ => false
def eIs (t : Ty) (f : EF) : EF := fun ss => match f ss with
  | some a => some (.bl (isTy t a))
  | none => none
def atI0 (xs : List D) : Int → Option D
  | .ofNat i => xs[i]?
  | _ => none
def eIx (f g : EF) : EF := fun ss => match f ss with
  | some (.tup xs) => match g ss with
    | some (.int i) => atI0 xs i
    | _ => none
  | _ => none
def eIxL (f : LF) (g : EF) : EF := fun ss => match f ss with
  | some xs => match g ss with
    | some (.int i) => atI0 xs i
    | _ => none
  | none => none
def flatD : D → Bool
  | .tup _ => false
  | _ => true
def anyEq (x : D) (xs : List D) : Bool := xs.any fun y => eqb y x
def inD (neg : Bool) (x : D) (xs : List D) : Option D := match flatD x && xs.all flatD with
  | true => some (.bl (match neg with | true => !anyEq x xs | false => anyEq x xs))
  | false => none
def eIn (neg : Bool) (f g : EF) : EF := fun ss => match f ss with
  | some x => match g ss with
    | some (.tup xs) => inD neg x xs
    | _ => none
  | none => none
def eInL (neg : Bool) (f : EF) (g : LF) : EF := fun ss => match f ss with
  | some x => match g ss with
    | some xs => inD neg x xs
    | none => none
  | none => none
def eLen (f : EF) : EF := fun ss => match f ss with
  | some (.tup xs) => some (.int (.ofNat xs.length))
  | _ => none
def eLenL (f : LF) : EF := fun ss => match f ss with
  | some xs => some (.int (.ofNat xs.length))
  | none => none
def bls : List D → Option (List Bool)
  | [] => some []
  | .bl b :: r => match bls r with
    | some bs => some (b :: bs)
    | none => none
  | _ :: _ => none
def eAll (f : LF) : EF := fun ss => match f ss with
  | some xs => match bls xs with
    | some bs => some (.bl (bs.all id))
    | none => none
  | none => none
def eAny (f : LF) : EF := fun ss => match f ss with
  | some xs => match bls xs with
    | some bs => some (.bl (bs.any id))
    | none => none
  | none => none
def eTupL (f : LF) : EF := fun ss => match f ss with
  | some xs => some (.tup xs)
  | none => none
def lOfT (f : EF) : LF := fun ss => match f ss with
  | some (.tup xs) => some xs
  | _ => none
def eInt (f : EF) : EF := fun ss => match f ss with
  | some (.bl b) => some (.int (ib b))
  | _ => none
def eCat (f g : EF) : EF := fun ss => match f ss with
  | some (.tup xs) => match g ss with
    | some (.tup ys) => match Nat.ble (xs.length + ys.length) 1000 with
      | true => some (.tup (xs ++ ys))
      | false => none
    | _ => none
  | _ => none
def lCat (f g : LF) : LF := fun ss => match f ss with
  | some xs => match g ss with
    | some ys => match Nat.ble (xs.length + ys.length) 1000 with
      | true => some (xs ++ ys)
      | false => none
    | _ => none
  | _ => none
def eMin (f g : EF) : EF := e2I (fun i j => .int (match il j i with | true => j | false => i)) f g
def intsOf : List D → Option (List Int)
  | [] => some []
  | .int i :: r => match intsOf r with
    | some is => some (i :: is)
    | none => none
  | _ :: _ => none
def maxI (a : Int) : List Int → Int
  | [] => a
  | b :: r => maxI (match il a b with | true => b | false => a) r
def eMaxL (f : LF) : EF := fun ss => match f ss with
  | some xs => match intsOf xs with
    | some (a :: r) => some (.int (maxI a r))
    | _ => none
  | none => none
def lFrom (f : LF) (g : EF) : LF := fun ss => match f ss with
  | some xs => match g ss with
    | some (.int (.ofNat i)) => some (xs.drop i)
    | _ => none
  | none => none
def eTo (n : Nat) (f : EF) : EF := fun ss => match f ss with
  | some (.tup xs) => some (.tup (xs.take n))
  | _ => none
def eInit (f : EF) : EF := fun ss => match f ss with
  | some (.tup xs) => some (.tup xs.dropLast)
  | _ => none
def eRep (f g : EF) : EF := fun ss => match f ss with
  | some (.tup xs) => match g ss with
    | some (.int (.ofNat n)) => match Nat.ble n 900 && Nat.ble xs.length 900 && Nat.ble 1 xs.length with
      | true => some (.tup (List.replicate n xs).flatten)
      | false => none
    | _ => none
  | _ => none
def eCall (m : List D → Option D) (g : LF) : EF := fun ss => match g ss with
  | some xs => m xs
  | none => none
def lCall (m : List D → Option (List D)) (g : LF) : LF := fun ss => match g ss with
  | some xs => m xs
  | none => none
def eIsNot (f g : EF) : EF := fun ss => match bD f ss with
  | some i => match bD g ss with
    | some j => some (.bl (!(i == j)))
    | none => none
  | none => none
/-! ### promises -/
section
variable (K : PySem.W.Frag)
/-- a def that gives plain data -/
def spD (n : Nat) (m : List D → Option D) : Sp := fun vs H Q _ => ∃ ds d, RpL K H vs ds ∧ ds.length = n ∧ m ds = some d ∧ ∀ v H', Same H H' → Rp K H' v d → Q v H'
/-- .. a new list -/
def spN (n : Nat) (m : List D → Option (List D)) : Sp := fun vs H Q _ => ∃ ds xs, RpL K H vs ds ∧ ds.length = n ∧ m ds = some xs ∧ ∀ a ws H', Same H H' → H a = none → H' a = some (.lst ws) → RpL K H' ws xs → Q (.ref a) H'
end
section
variable {X : Cx} {a b c : Expr} {es : List Expr} {pos p q : Pos} {f g h : EF} {fs gs : LF}

theorem ej_int {i : Int} {j : Nat} : EJ X (.Constant (.int i) j pos) (eK (.int i)) :=
  PEimp pe_int fun σ H Q ⟨H0, ss, d, R, e, k⟩ => by
    cases e
    exact k _ H (Same.refl H) (Rp.int i)
theorem ej_bl {i : Bool} {j : Nat} : EJ X (.Constant (.bool i) j pos) (eK (.bl i)) :=
  PEimp pe_bl fun σ H Q ⟨H0, ss, d, R, e, k⟩ => by
    cases e
    exact k _ H (Same.refl H) (Rp.bl i)
theorem ej_str {x : Str} {j : Nat} (t : W8) (hx : x = t.txt := by rfl) : EJ X (.Constant (.str x) j pos) (eK (.str t)) := by
  subst hx
  exact PEimp pe_str fun σ H Q ⟨H0, ss, d, R, e, k⟩ => by
    cases e
    exact k _ H (Same.refl H) (Rp.str t)
theorem ej_gi {x : Str} {i : Int} {t : Tok} (hg : Gl X x) (hm : X.mg x = some (.int i t)) (hd : (x == ("__debug__" : Str)) = false := by decide) : EJ X (.Name x pos) (eK (.int i)) :=
  PEimp (pe_glob (v := .int i) hg hm ⟨_, rfl⟩ hd) fun σ H Q ⟨H0, ss, d, R, e, k⟩ => by
    cases e
    exact k _ H (Same.refl H) (Rp.int i)
theorem ej_v {i : Nat} {x : Str} (h : PE X (.Name x pos) (tVar i)) : EJ X (.Name x pos) (eV i) :=
  PEimp h fun σ H Q ⟨H0, ss, d, R, e, k⟩ => by
    unfold eV at e
    split at e
    · rename_i y hs
      cases e
      obtain ⟨v, e1, r⟩ := R.at_ i _ (slot_at hs)
      exact ⟨v, e1, k v H (Same.refl H) r⟩
    · cases e
theorem lj_v {i : Nat} {x : Str} (h : PE X (.Name x pos) (tVar i)) : LJ X (.Name x pos) (lV i) :=
  PEimp h fun σ H Q ⟨H0, ss, d, R, e, k⟩ => by
    unfold lV at e
    split at e
    · rename_i y hs
      cases e
      obtain ⟨v, e1, r⟩ := R.at_ i _ (slot_at hs)
      obtain ⟨a, vs, rfl, _, e2, r2⟩ := r
      exact ⟨_, e1, k a vs H (Same.refl H) e2 r2⟩
    · cases e
/-! tests -/
theorem tj_d (h : EJ X a f) (he : ∀ whole, isTrue a X.env whole = (do let v ← whole; standAt a.pos; holding [v] (truthy v)) := by intro _; rfl) : TJ X a (bD f) :=
  PTimp (pt_val h he) fun σ H Q ⟨H0, ss, b, R, e, k⟩ => by
    unfold bD at e
    split at e
    · rename_i y hs
      cases e
      exact ⟨H0, ss, _, R, hs, fun v H' g r => ⟨b, r.bl_of, k H' g⟩⟩
    · cases e
theorem tj_c {op : CmpOp} (h : CJ X op a b f) (h1 : behindInMarks op b = false := by first | exact nobehind _ (by decide) (by decide) | rfl) : TJ X (.Compare a [op] [b] pos) (bD f) :=
  PTimp (pt_cmp h h1) fun σ H Q ⟨H0, ss, b, R, e, k⟩ => by
    unfold bD at e
    split at e
    · rename_i y hs
      cases e
      exact ⟨H0, ss, _, R, hs, fun v H' g r => ⟨b, r.bl_of, k H' g⟩⟩
    · cases e
theorem ej_c {op : CmpOp} (h : CJ X op a b f) (h1 : behindInMarks op b = false := by first | exact nobehind _ (by decide) (by decide) | rfl) : EJ X (.Compare a [op] [b] pos) f := pe_cmp h h1
theorem tj_not {f : TF} (h : TJ X a f) : TJ X (.UnaryOp .Not a pos) (bNot f) :=
  PTimp (pt_not h) fun σ H Q ⟨H0, ss, b, R, e, k⟩ => by
    unfold bNot at e
    split at e
    · rename_i y hs
      cases e
      exact ⟨H0, ss, _, R, hs, fun H' g => k H' g⟩
    · cases e
theorem wj_and1 {f : TF} (h : TJ X a f) : WJ X (.BoolOp .And [a] pos) f := pw_and1 h
theorem wj_or1 {f : TF} (h : TJ X a f) : WJ X (.BoolOp .Or [a] pos) f := pw_or1 h
theorem wj_and {f g : TF} (h : TJ X a f) (t : WJ X (.BoolOp .And (b :: es) pos) g) : WJ X (.BoolOp .And (a :: b :: es) pos) (bAnd f g) :=
  PWimp (pw_and h t) fun σ H Q ⟨H0, ss, b, R, e, k⟩ => by
    unfold bAnd at e
    split at e
    · rename_i hs
      refine ⟨H0, ss, _, R, hs, fun H' g => ?_⟩
      refine iteT ?_
      exact ⟨H0, ss, b, R.grow g, e, fun H2 g2 => k H2 (g.trans g2)⟩
    · rename_i hs
      cases e
      refine ⟨H0, ss, _, R, hs, fun H' g => ?_⟩
      refine iteF ?_
      exact k H' g
    · cases e
theorem wj_or {f g : TF} (h : TJ X a f) (t : WJ X (.BoolOp .Or (b :: es) pos) g) : WJ X (.BoolOp .Or (a :: b :: es) pos) (bOr f g) :=
  PWimp (pw_or h t) fun σ H Q ⟨H0, ss, b, R, e, k⟩ => by
    unfold bOr at e
    split at e
    · rename_i hs
      cases e
      refine ⟨H0, ss, _, R, hs, fun H' g => ?_⟩
      refine iteT ?_
      exact k H' g
    · rename_i hs
      refine ⟨H0, ss, _, R, hs, fun H' g => ?_⟩
      refine iteF ?_
      exact ⟨H0, ss, b, R.grow g, e, fun H2 g2 => k H2 (g.trans g2)⟩
    · cases e
theorem tj_w {f : TF} (h : WJ X a f) : TJ X a f := h.pt
/-! the same as values -/
theorem ej_one {op : BoolOp} (h : EJ X a f) : EJ X (.BoolOp op [a] pos) f := pe_one h
theorem ej_and (h : EJ X a f) (t : EJ X (.BoolOp .And (b :: es) pos) g) : EJ X (.BoolOp .And (a :: b :: es) pos) (eAnd f g) :=
  PEimp (pe_and h t) fun σ H Q ⟨H0, ss, d, R, e, k⟩ => by
    unfold eAnd at e
    split at e
    · rename_i hs
      refine ⟨H0, ss, _, R, hs, fun v H' g r => ⟨true, r.bl_of, ?_⟩⟩
      refine iteT ?_
      exact ⟨H0, ss, d, R.grow g, e, fun u H2 g2 r2 => k u H2 (g.trans g2) r2⟩
    · rename_i hs
      cases e
      refine ⟨H0, ss, _, R, hs, fun v H' g r => ⟨false, r.bl_of, ?_⟩⟩
      refine iteF ?_
      exact k _ H' g (Rp.bl false)
    · cases e
theorem ej_or (h : EJ X a f) (t : EJ X (.BoolOp .Or (b :: es) pos) g) : EJ X (.BoolOp .Or (a :: b :: es) pos) (eOr f g) :=
  PEimp (pe_or h t) fun σ H Q ⟨H0, ss, d, R, e, k⟩ => by
    unfold eOr at e
    split at e
    · rename_i hs
      cases e
      refine ⟨H0, ss, _, R, hs, fun v H' g r => ⟨true, r.bl_of, ?_⟩⟩
      refine iteT ?_
      exact k _ H' g (Rp.bl true)
    · rename_i hs
      refine ⟨H0, ss, _, R, hs, fun v H' g r => ⟨false, r.bl_of, ?_⟩⟩
      refine iteF ?_
      exact ⟨H0, ss, d, R.grow g, e, fun u H2 g2 r2 => k u H2 (g.trans g2) r2⟩
    · cases e
theorem ej_not (h : EJ X a f) : EJ X (.UnaryOp .Not a pos) (eNot (bD f)) :=
  PEimp (pe_not h) fun σ H Q ⟨H0, ss, d, R, e, k⟩ => by
    unfold eNot at e
    split at e
    · rename_i b hb
      cases e
      unfold bD at hb
      split at hb
      · rename_i b2 hs
        cases hb
        exact ⟨H0, ss, _, R, hs, fun v H' g r => ⟨b, r.bl_of, k _ H' g (Rp.bl (!b))⟩⟩
      · cases hb
    · cases e
theorem ej_if {t : TF} (hc : TJ X c t) (ha : EJ X a f) (hb : EJ X b g) : EJ X (.IfExp c a b pos) (eIf t f g) :=
  PEimp (pe_ifExp hc ha hb) fun σ H Q ⟨H0, ss, d, R, e, k⟩ => by
    unfold eIf at e
    split at e
    · rename_i hs
      refine ⟨H0, ss, _, R, hs, fun H' g => ?_⟩
      refine iteT ?_
      exact ⟨H0, ss, d, R.grow g, e, fun u H2 g2 r2 => k u H2 (g.trans g2) r2⟩
    · rename_i hs
      refine ⟨H0, ss, _, R, hs, fun H' g => ?_⟩
      refine iteF ?_
      exact ⟨H0, ss, d, R.grow g, e, fun u H2 g2 r2 => k u H2 (g.trans g2) r2⟩
    · cases e
/-! argument lists, displays -/
theorem aj_nil : AJ X [] lNil := PAimp pa_nil fun σ H Q ⟨H0, ss, ds, R, e, k⟩ => by
  cases e
  exact k [] H (Same.refl H) RpL.nil
theorem aj_cons (h : EJ X a f) (t : AJ X es fs) (hs : starEach (a :: es) X.env = (false, eval a X.env) :: starEach es X.env := by rfl) : AJ X (a :: es) (lCons f fs) :=
  PAimp (pa_cons h t hs) fun σ H Q ⟨H0, ss, ds, R, e, k⟩ => by
    unfold lCons at e
    split at e
    · rename_i x hx
      split at e
      · rename_i xs hxs
        cases e
        exact ⟨H0, ss, x, R, hx, fun v H1 g1 r1 => ⟨H0, ss, xs, R.grow g1, hxs, fun vs H2 g2 r2 => k _ H2 (g1.trans g2) (RpL.cons (r1.same g2) r2)⟩⟩
      · cases e
    · cases e
theorem len_line {n : Nat} (h : n ≤ 1000) : n ≤ sizeLine := Nat.le_of_lt (small1000 h)
theorem ej_tup {k : Nat} (h : AJ X es fs) (hl : es.length ≤ 20 := by decide) (hn : ∀ ss xs, fs ss = some xs → xs.length ≤ 20) : EJ X (.Tuple es k pos) (eTup fs) :=
  PEimp (pe_tup h) fun σ H Q ⟨H0, ss, d, R, e, k⟩ => by
    unfold eTup at e
    split at e
    · rename_i xs hxs
      cases e
      refine ⟨H0, ss, xs, R, hxs, fun vs H1 g1 r1 => ⟨?_, fun p hp => ?_⟩⟩
      · rw [r1.length]
        exact len_line (by have := hn ss xs hxs; omega)
      · exact k _ _ (g1.trans (same_new hp)) (Rp.tup (.inl (.inl upd_same)) (r1.same (same_new hp)))
    · cases e
theorem nj_lst (h : AJ X es fs) (hn : ∀ ss xs, fs ss = some xs → xs.length ≤ 20) : NJ X (.List es pos) fs :=
  PEimp (pe_lst h) fun σ H Q ⟨H0, ss, ds, R, e, k⟩ => by
    refine ⟨H0, ss, ds, R, e, fun vs H1 g1 r1 => ⟨?_, fun p hp => ?_⟩⟩
    · rw [r1.length]
      exact len_line (by have := hn ss ds e; omega)
    · exact k p vs _ (g1.trans (same_new hp)) (g1.free hp) upd_same (r1.same (same_new hp))
/-! arithmetic, comparisons -/
theorem t2 {k : Int → Int → D} {r : R2} (hr : ∀ i j H Q, Q (match k i j with | .int n => V.int n | .bl n => V.bl n | _ => V.non) H → r (.int i) (.int j) H Q) (hk : ∀ i j, (∃ n, k i j = .int n) ∨ ∃ n, k i j = .bl n)
    {K : PySem.W.Frag} {P : Program} {w : World} (σ : L2.St) (H : Hp) (Q : VK) (q : tD K P w (e2I k f g) σ H Q) : tOp r (tD K P w f) (tD K P w g) σ H Q := by
  obtain ⟨H0, ss, d, R, e, q⟩ := q
  unfold e2I at e
  split at e
  · rename_i i hi
    split at e
    · rename_i j hj
      cases e
      refine ⟨H0, ss, _, R, hi, fun v H1 g1 r1 => ⟨H0, ss, _, R.grow g1, hj, fun u H2 g2 r2 => ?_⟩⟩
      rw [r1.int_of, r2.int_of]
      refine hr i j H2 Q (q _ H2 (g1.trans g2) ?_)
      rcases hk i j with ⟨n, hn⟩ | ⟨n, hn⟩
      · rw [hn]
        exact Rp.int n
      · rw [hn]
        exact Rp.bl n
    · cases e
  · cases e
theorem ej_add (ha : EJ X a f) (hb : EJ X b g) : EJ X (.BinOp a .Add b pos) (eAdd f g) := PEimp (pe_op op_add ha hb) (t2 (fun i j H Q q => ⟨i, j, rfl, rfl, q⟩) fun i j => .inl ⟨_, rfl⟩)
theorem ej_sub (ha : EJ X a f) (hb : EJ X b g) : EJ X (.BinOp a .Sub b pos) (eSub f g) := PEimp (pe_op op_sub ha hb) (t2 (fun i j H Q q => ⟨i, j, rfl, rfl, q⟩) fun i j => .inl ⟨_, rfl⟩)
theorem not_il (i j : Int) : (!il j i) = decide (i ≤ j) := by
  rw [il_eq, Bool.eq_iff_iff]
  simp
theorem cj_lt (ha : EJ X a f) (hb : EJ X b g) : CJ X .Lt a b (eLt f g) := PCimp (pc_op op_lt ha hb) (t2 (fun i j H Q q => ⟨i, j, rfl, rfl, by show Q (V.bl (decide (i < j))) H; rw [← il_eq]; exact q⟩) fun i j => .inr ⟨_, rfl⟩)
theorem cj_gt (ha : EJ X a f) (hb : EJ X b g) : CJ X .Gt a b (eGt f g) := PCimp (pc_op op_gt ha hb) (t2 (fun i j H Q q => ⟨i, j, rfl, rfl, by show Q (V.bl (decide (j < i))) H; rw [← il_eq]; exact q⟩) fun i j => .inr ⟨_, rfl⟩)
theorem cj_le (ha : EJ X a f) (hb : EJ X b g) : CJ X .LtE a b (eLe f g) := PCimp (pc_op op_le ha hb) (t2 (fun i j H Q q => ⟨i, j, rfl, rfl, by show Q (V.bl (decide (i ≤ j))) H; rw [← not_il]; exact q⟩) fun i j => .inr ⟨_, rfl⟩)
theorem cj_ge (ha : EJ X a f) (hb : EJ X b g) : CJ X .GtE a b (eGe f g) := PCimp (pc_op op_ge ha hb) (t2 (fun i j H Q q => ⟨i, j, rfl, rfl, by show Q (V.bl (decide (j ≤ i))) H; rw [← not_il]; exact q⟩) fun i j => .inr ⟨_, rfl⟩)
def OpB (X : Cx) (op : CmpOp) (k : Int → Int → Bool) : Prop := OpR X (compareOp op) (rI0 fun i j => .bl (k i j))
theorem ob_lt : OpB X .Lt il := by
  intro pins s σ H x y v u Q I rx ry h
  obtain ⟨i, j, e1, e2, q⟩ := h
  exact op_lt pins s σ H x y v u Q I rx ry ⟨i, j, e1, e2, by show Q (V.bl (decide (i < j))) H; rw [← il_eq]; exact q⟩
theorem ob_le : OpB X .LtE (fun i j => !il j i) := by
  intro pins s σ H x y v u Q I rx ry h
  obtain ⟨i, j, e1, e2, q⟩ := h
  exact op_le pins s σ H x y v u Q I rx ry ⟨i, j, e1, e2, by show Q (V.bl (decide (i ≤ j))) H; rw [← not_il]; exact q⟩
theorem chain_of {k k' : Int → Int → Bool} {K : PySem.W.Frag} {P : Program} {w : World} (σ : L2.St) (H : Hp) (Q : VK) (q : tD K P w (eChain k k' f g h) σ H Q) :
    tChain (rI0 fun i j => .bl (k i j)) (rI0 fun i j => .bl (k' i j)) (tD K P w f) (tD K P w g) (tD K P w h) σ H Q := by
  obtain ⟨H0, ss, d, R, e, q⟩ := q
  unfold eChain at e
  split at e
  · rename_i i hi
    split at e
    · rename_i j hj
      refine ⟨H0, ss, _, R, hi, fun v H1 g1 r1 => ⟨H0, ss, _, R.grow g1, hj, fun u H2 g2 r2 => ⟨i, j, r1.int_of, r2.int_of, k i j, rfl, ?_⟩⟩⟩
      split at e
      · rename_i hk
        rw [hk, if_pos rfl]
        split at e
        · rename_i l hl
          cases e
          refine ⟨H0, ss, _, (R.grow g1).grow g2, hl, fun z H3 g3 r3 => ⟨j, l, r2.int_of, r3.int_of, q _ H3 ((g1.trans g2).trans g3) (Rp.bl _)⟩⟩
        · cases e
      · rename_i hk
        cases e
        rw [hk, if_neg Bool.false_ne_true]
        exact q _ H2 (g1.trans g2) (Rp.bl _)
    · cases e
  · cases e
theorem ej_chain {op op' : CmpOp} {k k' : Int → Int → Bool} (ho : OpB X op k) (ho' : OpB X op' k') (ha : EJ X a f) (hb : EJ X b g) (hc : EJ X c h) (hm : lastMarks [op, op'] [b, c] = false := by with_unfolding_all rfl) :
    EJ X (.Compare a [op, op'] [b, c] pos) (eChain k k' f g h) := PEimp (pe_chain ho ho' ha hb hc hm) chain_of
theorem tj_chain {op op' : CmpOp} {k k' : Int → Int → Bool} (ho : OpB X op k) (ho' : OpB X op' k') (ha : EJ X a f) (hb : EJ X b g) (hc : EJ X c h) (hm : lastMarks [op, op'] [b, c] = false := by with_unfolding_all rfl) :
    TJ X (.Compare a [op, op'] [b, c] pos) (bD (eChain k k' f g h)) :=
  PTimp (pt_chain ho ho' ha hb hc hm) fun σ H Q ⟨H0, ss, b, R, e, q⟩ => by
    unfold bD at e
    split at e
    · rename_i y hs
      cases e
      exact chain_of σ H _ ⟨H0, ss, _, R, hs, fun v H' g r => ⟨b, r.bl_of, q H' g⟩⟩
    · cases e
theorem two_ok {x y : Bool} (h : (x && y) = true) : x = true ∧ y = true := Bool.and_eq_true_iff.mp h
theorem cj_eq {k : Nat} (hr : Room k X.A) (ha : EJ X a f) (hb : EJ X b g) : CJ X .Eq a b (eEq f g) :=
  PCimp (pc_op (op_eqD hr.units) ha hb) fun σ H Q ⟨H0, ss, d, R, e, q⟩ => by
    unfold eEq at e
    split at e
    · rename_i x hx
      split at e
      · rename_i y hy
        split at e
        · rename_i ho
          cases e
          obtain ⟨o1, o2⟩ := two_ok ho
          have l1 := okd_le o1
          have l2 := okd_le o2
          refine ⟨H0, ss, _, R, hx, fun v H1 g1 r1 => ⟨H0, ss, _, R.grow g1, hy, fun u H2 g2 r2 => ⟨py x, py y, r1.same g2, r2, shaped_py (by omega), shaped_py (by omega), ?_⟩⟩⟩
          rw [eqv_py]
          exact q _ H2 (g1.trans g2) (Rp.bl _)
        · cases e
      · cases e
    · cases e
theorem cj_ne {k : Nat} (hr : Room k X.A) (ha : EJ X a f) (hb : EJ X b g) : CJ X .NotEq a b (eNe f g) :=
  PCimp (pc_op (op_neD hr.units) ha hb) fun σ H Q ⟨H0, ss, d, R, e, q⟩ => by
    unfold eNe at e
    split at e
    · rename_i x hx
      split at e
      · rename_i y hy
        split at e
        · rename_i ho
          cases e
          obtain ⟨o1, o2⟩ := two_ok ho
          have l1 := okd_le o1
          have l2 := okd_le o2
          refine ⟨H0, ss, _, R, hx, fun v H1 g1 r1 => ⟨H0, ss, _, R.grow g1, hy, fun u H2 g2 r2 => ⟨py x, py y, r1.same g2, r2, shaped_py (by omega), shaped_py (by omega), ?_⟩⟩⟩
          rw [eqv_py]
          exact q _ H2 (g1.trans g2) (Rp.bl _)
        · cases e
      · cases e
    · cases e
theorem cj_eqL {k : Nat} (hr : Room k X.A) (ha : LJ X a fs) (hb : LJ X b gs) : CJ X .Eq a b (eEqL fs gs) :=
  PCimp (pc_op (op_eqD hr.units) ha hb) fun σ H Q ⟨H0, ss, d, R, e, q⟩ => by
    unfold eEqL at e
    split at e
    · rename_i x hx
      split at e
      · rename_i y hy
        split at e
        · rename_i ho
          cases e
          obtain ⟨o1, o2⟩ := two_ok ho
          have l1 := okdL_le o1
          have l2 := okdL_le o2
          refine ⟨H0, ss, _, R, hx, fun v vs H1 g1 a1 r1 => ⟨H0, ss, _, R.grow g1, hy, fun u us H2 g2 a2 r2 => ⟨.list (pyL x), .list (pyL y), Dp.lst (.inl (.inl (g2 _ _ a1))) (r1.same g2), Dp.lst (.inl (.inl a2)) r2, shaped_pyL (by omega), shaped_pyL (by omega), ?_⟩⟩⟩
          rw [PyData.eqv, eqv_pyL]
          exact q _ H2 (g1.trans g2) (Rp.bl _)
        · cases e
      · cases e
    · cases e
theorem cj_isnot (ha : EJ X a f) (hb : EJ X b g) : CJ X .IsNot a b (eIsNot f g) :=
  PCimp (pc_op op_notBl ha hb) fun σ H Q ⟨H0, ss, d, R, e, q⟩ => by
    unfold eIsNot at e
    split at e
    · rename_i i hi
      split at e
      · rename_i j hj
        cases e
        unfold bD at hi hj
        split at hi
        · rename_i i2 hi2
          cases hi
          split at hj
          · rename_i j2 hj2
            cases hj
            refine ⟨H0, ss, _, R, hi2, fun v H1 g1 r1 => ⟨H0, ss, _, R.grow g1, hj2, fun u H2 g2 r2 => ⟨i, j, r1.bl_of, r2.bl_of, ?_⟩⟩⟩
            have q2 := q _ H2 (g1.trans g2) (Rp.bl _)
            rw [Bool.beq_eq_decide_eq] at q2
            exact q2
          · cases hj
        · cases hi
      · cases e
    · cases e
end
end Wf

namespace Wf
open PySem PySem.Spec PyProof.Rows L2

/-! ### isinstance -/
def tyNm : D → String
  | .non => "NoneType" | .bl _ => "bool" | .int _ => "int" | .str _ => "str" | .tup _ => "tuple"
theorem kt_non (t : Ty) : kitB "NoneType" t.cl = some false := by cases t <;> decide +kernel
theorem kt_bl (t : Ty) : kitB "bool" t.cl = some (isTy t (.bl true)) := by cases t <;> decide +kernel
theorem kt_int (t : Ty) : kitB "int" t.cl = some (isTy t (.int 0)) := by cases t <;> decide +kernel
theorem kt_str (t : Ty) : kitB "str" t.cl = some (isTy t (.str .ack)) := by cases t <;> decide +kernel
theorem kt_tup (t : Ty) : kitB "tuple" t.cl = some (isTy t (.tup [])) := by cases t <;> decide +kernel
theorem kt_all (t : Ty) (d : D) : kitB (tyNm d) t.cl = some (isTy t d) := by
  cases d with
  | non => rw [show isTy t .non = false by cases t <;> rfl]; exact kt_non t
  | bl b => rw [show isTy t (.bl b) = isTy t (.bl true) by cases t <;> rfl]; exact kt_bl t
  | int i => rw [show isTy t (.int i) = isTy t (.int 0) by cases t <;> rfl]; exact kt_int t
  | str x => rw [show isTy t (.str x) = isTy t (.str .ack) by cases t <;> rfl]; exact kt_str t
  | tup xs => rw [show isTy t (.tup xs) = isTy t (.tup []) by cases t <;> rfl]; exact kt_tup t
theorem ty_boot (t : Ty) : bootBuiltins t.nm = some (.type t.cl) := by cases t <;> decide +kernel
theorem ty_of {K : PySem.W.Frag} {H : Hp} {v : V} {d : D} (h : Rp K H v d) : TyX K H v (.type (tyNm d)) := by
  cases d with
  | non => rw [h.non_of]; exact .base .non
  | bl b => rw [h.bl_of]; exact .base (.bl b)
  | int i => rw [h.int_of]; exact .base (.int i)
  | str x => rw [h.str_of]; exact .base (.str _)
  | tup xs =>
    obtain ⟨a, ws, rfl, h1, _⟩ := h.tup_of
    rcases h1 with (h1 | ⟨o, h1⟩) | ⟨o, its, n, h1, h2, _⟩
    · exact .base (.tup h1)
    · exact .fTuple h1
    · exact .kTuple h1 h2
section
variable {X : Cx} {a b c e : Expr} {es : List Expr} {pos p q p2 : Pos} {f g h : EF} {fs gs : LF} {k : Nat}
/-- f(e), f built in -/
theorem one_call {id : String} {x : Str} {r : List V → Hp → VK → Prop} {t : TE} (hc : CallR X (.builtin id) r) (hg : Gl X x) (hm : X.mg x = none) (hv : bootBuiltins x = some (.builtin id)) (ha : PE X a t) (he : starEach [a] X.env = [(false, eval a X.env)]) (hn : x ≠ "__name__") (hd : (x == ("__debug__" : Str)) = false) :
    PE X (.Call (.Name x p) [a] [] pos) (fun σ H Q => t σ H fun v H1 => r [v] H1 Q) :=
  pe_callB hc hg hm hv (pa_cons ha pa_nil he) hn hd he
theorem one_type {T : String} {x : Str} {r : List V → Hp → VK → Prop} {t : TE} (hc : CallR X (.type T) r) (hg : Gl X x) (hm : X.mg x = none) (hv : bootBuiltins x = some (.type T)) (ha : PE X a t) (he : starEach [a] X.env = [(false, eval a X.env)]) (hn : x ≠ "__name__") (hd : (x == ("__debug__" : Str)) = false) :
    PE X (.Call (.Name x p) [a] [] pos) (fun σ H Q => t σ H fun v H1 => r [v] H1 Q) :=
  pe_callTy hc hg hm hv (pa_cons ha pa_nil he) hn hd he
theorem ej_is (t : Ty) {x : Str} (hx : x = t.nm) (hg : Gl X "isinstance") (hm : X.mg "isinstance" = none) (hg2 : Gl X x) (hm2 : X.mg x = none) (ha : EJ X a f) (hn : x ≠ "__name__" := by decide) (hd : (x == ("__debug__" : Str)) = false := by decide)
    (he : starEach [a, .Name x q] X.env = (false, eval a X.env) :: starEach [.Name x q] X.env := by rfl) :
    EJ X (.Call (.Name "isinstance" p) [a, .Name x q] [] pos) (eIs t f) := by
  subst hx
  refine PEimp (pe_callB call_isi hg hm (by decide +kernel) (pa_cons ha (pa_cons (pe_bltn (v := .ty t.cl) hg2 hm2 (ty_boot t) rfl hn hd) pa_nil) he) (by decide) (by decide) he) fun σ H Q ⟨H0, ss, d, R, e, q⟩ => ?_
  unfold eIs at e
  split at e
  · rename_i y hy
    cases e
    refine ⟨H0, ss, _, R, hy, fun v H1 g1 r1 => ?_⟩
    exact ⟨v, .ty t.cl, _, _, isTy t y, rfl, .ty _, ty_of r1, kit_ty (kt_all t y), q _ H1 g1 (Rp.bl _)⟩
  · cases e

/-! ### items -/
theorem atI0_some {xs : List D} {i : Int} {d : D} (h : atI0 xs i = some d) : ∃ j : Nat, i = (j : Int) ∧ xs[j]? = some d := by
  cases i with
  | ofNat j => exact ⟨j, rfl, h⟩
  | negSucc j => cases h
theorem ej_ix (ha : EJ X a f) (hb : EJ X b g) (hs : PlainIx b := by intro _ _; rfl) : EJ X (.Subscript a b pos) (eIx f g) :=
  PEimp (pe_ix ix_tup ha hb hs) fun σ H Q ⟨H0, ss, d, R, e, q⟩ => by
    unfold eIx at e
    split at e
    · rename_i xs hx
      split at e
      · rename_i i hi
        obtain ⟨j, rfl, hj⟩ := atI0_some e
        refine ⟨H0, ss, _, R, hx, fun v H1 g1 r1 => ⟨H0, ss, _, R.grow g1, hi, fun u H2 g2 r2 => ?_⟩⟩
        obtain ⟨p, vs, rfl, h1, h2⟩ := (r1.same g2).tup_of
        obtain ⟨z, hz, rz⟩ := h2.get hj
        exact ⟨p, vs, (j : Int), z, rfl, r2.int_of, h1, atI_nat hz, q z H2 (g1.trans g2) rz⟩
      · cases e
    · cases e
theorem ej_ixL (ha : LJ X a fs) (hb : EJ X b g) (hs : PlainIx b := by intro _ _; rfl) : EJ X (.Subscript a b pos) (eIxL fs g) :=
  PEimp (pe_ix ix_list ha hb hs) fun σ H Q ⟨H0, ss, d, R, e, q⟩ => by
    unfold eIxL at e
    split at e
    · rename_i xs hx
      split at e
      · rename_i i hi
        obtain ⟨j, rfl, hj⟩ := atI0_some e
        refine ⟨H0, ss, _, R, hx, fun a vs H1 g1 a1 r1 => ⟨H0, ss, _, R.grow g1, hi, fun u H2 g2 r2 => ?_⟩⟩
        obtain ⟨z, hz, rz⟩ := (r1.same g2).get hj
        exact ⟨a, vs, (j : Int), z, rfl, r2.int_of, .inl (.inl (g2 _ _ a1)), atI_nat hz, q z H2 (g1.trans g2) rz⟩
      · cases e
    · cases e

/-! ### in, not in -/
theorem flat_v {K : PySem.W.Frag} {H : Hp} {v : V} {d : D} (h : Rp K H v d) (fd : flatD d = true) : flatV v = true := by
  cases d with
  | non => rw [h.non_of]; rfl
  | bl b => rw [h.bl_of]; rfl
  | int i => rw [h.int_of]; rfl
  | str x => rw [h.str_of]; rfl
  | tup xs => cases fd
theorem flat_vs {K : PySem.W.Frag} {H : Hp} : ∀ {ds : List D} {vs : List V}, RpL K H vs ds → ds.all flatD = true → vs.all flatV = true
  | [], _, h, _ => by rw [h.unnil]; rfl
  | d :: ds, _, h, fd => by
    obtain ⟨v, r, rfl, h1, h2⟩ := h.uncons
    rw [List.all_cons, Bool.and_eq_true] at fd
    rw [List.all_cons, flat_v h1 fd.1, flat_vs h2 fd.2]
    rfl
theorem eqV_of {K : PySem.W.Frag} {H : Hp} {v u : V} {d e : D} (h : Rp K H v d) (h' : Rp K H u e) (fd : flatD d = true) (fe : flatD e = true) : eqV v u = eqb d e := by
  cases d with
  | tup xs => cases fd
  | non =>
    rw [h.non_of]
    cases e with
    | tup xs => cases fe
    | non => rw [h'.non_of]; rfl
    | bl b => rw [h'.bl_of]; rfl
    | int i => rw [h'.int_of]; rfl
    | str x => rw [h'.str_of]; rfl
  | bl b =>
    rw [h.bl_of]
    cases e with
    | tup xs => cases fe
    | non => rw [h'.non_of]; rfl
    | bl b => rw [h'.bl_of]; rfl
    | int i => rw [h'.int_of]; simp only [eqV, eqb, iq_eq, ib_eq]
    | str x => rw [h'.str_of]; rfl
  | int i =>
    rw [h.int_of]
    cases e with
    | tup xs => cases fe
    | non => rw [h'.non_of]; rfl
    | bl b => rw [h'.bl_of]; simp only [eqV, eqb, iq_eq, ib_eq]
    | int i => rw [h'.int_of]; simp only [eqV, eqb, iq_eq]
    | str x => rw [h'.str_of]; rfl
  | str x =>
    rw [h.str_of]
    cases e with
    | tup xs => cases fe
    | non => rw [h'.non_of]; rfl
    | bl b => rw [h'.bl_of]; rfl
    | int i => rw [h'.int_of]; rfl
    | str x => rw [h'.str_of]; simp only [eqV, eqb, bix]
theorem inV_of {K : PySem.W.Frag} {H : Hp} {v : V} {d : D} (h : Rp K H v d) (fd : flatD d = true) : ∀ {ds : List D} {vs : List V}, RpL K H vs ds → ds.all flatD = true → inV v vs = anyEq d ds
  | [], _, h, _ => by rw [h.unnil]; rfl
  | e :: ds, _, h2, fe => by
    obtain ⟨u, r, rfl, h3, h4⟩ := h2.uncons
    rw [List.all_cons, Bool.and_eq_true] at fe
    show (eqV u v || inV v r) = (eqb e d || anyEq d ds)
    rw [eqV_of h3 h fe.1 fd, inV_of h fd h4 fe.2]
theorem inD_ok {K : PySem.W.Frag} {H : Hp} {v : V} {vs : List V} {x d : D} {xs : List D} {neg : Bool} (e : inD neg x xs = some d) (h : Rp K H v x) (hs : RpL K H vs xs) :
    flatV v = true ∧ vs.all flatV = true ∧ d = .bl (if neg then !inV v vs else inV v vs) := by
  unfold inD at e
  split at e
  · rename_i hf
    obtain ⟨f1, f2⟩ := two_ok hf
    cases e
    refine ⟨flat_v h f1, flat_vs hs f2, ?_⟩
    rw [inV_of h f1 hs f2]
    cases neg <;> rfl
  · cases e
theorem cj_in (ha : EJ X a f) (hb : EJ X b g) : CJ X .In a b (eIn false f g) :=
  PCimp (pc_op op_in_seq ha hb) fun σ H Q ⟨H0, ss, d, R, e, q⟩ => by
    unfold eIn at e
    split at e
    · rename_i x hx
      split at e
      · rename_i xs hxs
        refine ⟨H0, ss, _, R, hx, fun v H1 g1 r1 => ⟨H0, ss, _, R.grow g1, hxs, fun u H2 g2 r2 => ?_⟩⟩
        obtain ⟨p, vs, rfl, h1, h2⟩ := r2.tup_of
        obtain ⟨f1, f2, rfl⟩ := inD_ok e (r1.same g2) h2
        exact ⟨p, vs, rfl, .inr h1, f1, f2, q _ H2 (g1.trans g2) (Rp.bl _)⟩
      · cases e
    · cases e
theorem cj_notin (ha : EJ X a f) (hb : EJ X b g) : CJ X .NotIn a b (eIn true f g) :=
  PCimp (pc_op op_notIn_seq ha hb) fun σ H Q ⟨H0, ss, d, R, e, q⟩ => by
    unfold eIn at e
    split at e
    · rename_i x hx
      split at e
      · rename_i xs hxs
        refine ⟨H0, ss, _, R, hx, fun v H1 g1 r1 => ⟨H0, ss, _, R.grow g1, hxs, fun u H2 g2 r2 => ?_⟩⟩
        obtain ⟨p, vs, rfl, h1, h2⟩ := r2.tup_of
        obtain ⟨f1, f2, rfl⟩ := inD_ok e (r1.same g2) h2
        exact ⟨p, vs, rfl, .inr h1, f1, f2, q _ H2 (g1.trans g2) (Rp.bl _)⟩
      · cases e
    · cases e
theorem cj_notinL (ha : EJ X a f) (hb : LJ X b gs) : CJ X .NotIn a b (eInL true f gs) :=
  PCimp (pc_op op_notIn_seq ha hb) fun σ H Q ⟨H0, ss, d, R, e, q⟩ => by
    unfold eInL at e
    split at e
    · rename_i x hx
      split at e
      · rename_i xs hxs
        refine ⟨H0, ss, _, R, hx, fun v H1 g1 r1 => ⟨H0, ss, _, R.grow g1, hxs, fun p vs H2 g2 a2 r2 => ?_⟩⟩
        obtain ⟨f1, f2, rfl⟩ := inD_ok e (r1.same g2) r2
        exact ⟨p, vs, rfl, .inl (.inl (.inl a2)), f1, f2, q _ H2 (g1.trans g2) (Rp.bl _)⟩
      · cases e
    · cases e

/-! ### len, all, any, tuple, list, int, min, max -/
theorem ej_len (hg : Gl X "len") (hm : X.mg "len" = none) (ha : EJ X a f) (he : starEach [a] X.env = [(false, eval a X.env)] := by rfl) : EJ X (.Call (.Name "len" p) [a] [] pos) (eLen f) :=
  PEimp (one_call call_len_seq hg hm PySem.boot_len ha he (by decide) (by decide)) fun σ H Q ⟨H0, ss, d, R, e, q⟩ => by
    unfold eLen at e
    split at e
    · rename_i xs hx
      cases e
      refine ⟨H0, ss, _, R, hx, fun v H1 g1 r1 => ?_⟩
      obtain ⟨p, vs, rfl, h1, h2⟩ := r1.tup_of
      refine ⟨p, vs, rfl, .inr h1, ?_⟩
      rw [h2.length]
      exact q _ H1 g1 (Rp.int _)
    · cases e
theorem ej_lenL (hg : Gl X "len") (hm : X.mg "len" = none) (ha : LJ X a fs) (he : starEach [a] X.env = [(false, eval a X.env)] := by rfl) : EJ X (.Call (.Name "len" p) [a] [] pos) (eLenL fs) :=
  PEimp (one_call call_len_seq hg hm PySem.boot_len ha he (by decide) (by decide)) fun σ H Q ⟨H0, ss, d, R, e, q⟩ => by
    unfold eLenL at e
    split at e
    · rename_i xs hx
      cases e
      refine ⟨H0, ss, _, R, hx, fun p vs H1 g1 a1 r1 => ?_⟩
      refine ⟨p, vs, rfl, .inl (.inl (.inl a1)), ?_⟩
      rw [r1.length]
      exact q _ H1 g1 (Rp.int _)
    · cases e
theorem bls_ok {K : PySem.W.Frag} {H : Hp} : ∀ {ds : List D} {vs : List V} {bs : List Bool}, bls ds = some bs → RpL K H vs ds → vs = bs.map V.bl
  | [], _, _, e, h => by
    cases e
    exact h.unnil
  | d :: ds, _, bs, e, h => by
    obtain ⟨v, r, rfl, h1, h2⟩ := h.uncons
    cases d with
    | bl b =>
      unfold bls at e
      split at e
      · rename_i bs2 hb
        cases e
        rw [h1.bl_of, bls_ok hb h2]
        rfl
      · cases e
    | _ => cases e
theorem ej_all (hc : X.calm = true) (hg : Gl X "all") (hm : X.mg "all" = none) (ha : LJ X a fs) (he : starEach [a] X.env = [(false, eval a X.env)] := by rfl) : EJ X (.Call (.Name "all" p) [a] [] pos) (eAll fs) :=
  PEimp (one_call (cr_all hc) hg hm (by decide +kernel) ha he (by decide) (by decide)) fun σ H Q ⟨H0, ss, d, R, e, q⟩ => by
    unfold eAll at e
    split at e
    · rename_i xs hx
      split at e
      · rename_i bs hb
        cases e
        refine ⟨H0, ss, _, R, hx, fun p vs H1 g1 a1 r1 => ⟨p, bs, rfl, .inl (.inl ?_), q _ H1 g1 (Rp.bl _)⟩⟩
        rw [← bls_ok hb r1]
        exact a1
      · cases e
    · cases e
theorem ej_any (hc : X.calm = true) (hg : Gl X "any") (hm : X.mg "any" = none) (ha : LJ X a fs) (he : starEach [a] X.env = [(false, eval a X.env)] := by rfl) : EJ X (.Call (.Name "any" p) [a] [] pos) (eAny fs) :=
  PEimp (one_call (cr_any hc) hg hm (by decide +kernel) ha he (by decide) (by decide)) fun σ H Q ⟨H0, ss, d, R, e, q⟩ => by
    unfold eAny at e
    split at e
    · rename_i xs hx
      split at e
      · rename_i bs hb
        cases e
        refine ⟨H0, ss, _, R, hx, fun p vs H1 g1 a1 r1 => ⟨p, bs, rfl, .inl (.inl ?_), q _ H1 g1 (Rp.bl _)⟩⟩
        rw [← bls_ok hb r1]
        exact a1
      · cases e
    · cases e
theorem ej_tupL (hg : Gl X "tuple") (hm : X.mg "tuple" = none) (ha : LJ X a fs) (he : starEach [a] X.env = [(false, eval a X.env)] := by rfl) : EJ X (.Call (.Name "tuple" p) [a] [] pos) (eTupL fs) :=
  PEimp (one_type call_tuple_of hg hm (ty_boot .tup) ha he (by decide) (by decide)) fun σ H Q ⟨H0, ss, d, R, e, q⟩ => by
    unfold eTupL at e
    split at e
    · rename_i xs hx
      cases e
      refine ⟨H0, ss, _, R, hx, fun p vs H1 g1 a1 r1 => ⟨p, vs, rfl, .inl ⟨.inl (.inl a1), fun l hl => ?_⟩⟩⟩
      exact q _ _ (g1.trans (same_new hl)) (Rp.tup (.inl (.inl upd_same)) (r1.same (same_new hl)))
    · cases e
theorem nj_ofT (hg : Gl X "list") (hm : X.mg "list" = none) (ha : EJ X a f) (he : starEach [a] X.env = [(false, eval a X.env)] := by rfl) : NJ X (.Call (.Name "list" p) [a] [] pos) (lOfT f) :=
  PEimp (one_type call_list_of hg hm (by decide +kernel) ha he (by decide) (by decide)) fun σ H Q ⟨H0, ss, d, R, e, q⟩ => by
    unfold lOfT at e
    split at e
    · rename_i xs hx
      cases e
      refine ⟨H0, ss, _, R, hx, fun v H1 g1 r1 => ?_⟩
      obtain ⟨p, vs, rfl, h1, h2⟩ := r1.tup_of
      refine ⟨p, vs, rfl, .inr h1, fun l hl => ?_⟩
      exact q l vs _ (g1.trans (same_new hl)) (g1.free hl) upd_same (h2.same (same_new hl))
    · cases e
theorem ej_toint (hg : Gl X "int") (hm : X.mg "int" = none) (ha : EJ X a f) (he : starEach [a] X.env = [(false, eval a X.env)] := by rfl) : EJ X (.Call (.Name "int" p) [a] [] pos) (eInt f) :=
  PEimp (one_type call_int1 hg hm (ty_boot .int) ha he (by decide) (by decide)) fun σ H Q ⟨H0, ss, d, R, e, q⟩ => by
    unfold eInt at e
    split at e
    · rename_i b hb
      cases e
      refine ⟨H0, ss, _, R, hb, fun v H1 g1 r1 => .inr ⟨b, by rw [r1.bl_of], ?_⟩⟩
      rw [← ib_eq]
      exact q _ H1 g1 (Rp.int _)
    · cases e
theorem ej_min (hc : X.calm = true) (hg : Gl X "min") (hm : X.mg "min" = none) (ha : EJ X a f) (hb : EJ X b g) (he : starEach [a, b] X.env = (false, eval a X.env) :: starEach [b] X.env := by rfl) (he2 : starEach [b] X.env = [(false, eval b X.env)] := by rfl) :
    EJ X (.Call (.Name "min" p) [a, b] [] pos) (eMin f g) :=
  PEimp (pe_callB (call_min2 hc) hg hm (by decide +kernel) (pa_cons ha (pa_cons hb pa_nil he2) he) (by decide) (by decide) he (by rw [he2]; rfl)) fun σ H Q ⟨H0, ss, d, R, e, q⟩ => by
    unfold eMin e2I at e
    split at e
    · rename_i i hi
      split at e
      · rename_i j hj
        cases e
        refine ⟨H0, ss, _, R, hi, fun v H1 g1 r1 => ⟨H0, ss, _, R.grow g1, hj, fun u H2 g2 r2 => ⟨i, j, by rw [r1.int_of, r2.int_of], ?_⟩⟩⟩
        have q2 := q _ H2 (g1.trans g2) (Rp.int _)
        rw [il_eq] at q2
        by_cases hij : j < i
        · rw [decide_eq_true hij] at q2
          rw [if_pos hij]
          exact q2
        · rw [decide_eq_false hij] at q2
          rw [if_neg hij]
          exact q2
      · cases e
    · cases e
theorem ints_ok {K : PySem.W.Frag} {H : Hp} : ∀ {ds : List D} {vs : List V} {bs : List Int}, intsOf ds = some bs → RpL K H vs ds → vs = bs.map V.int
  | [], _, _, e, h => by
    cases e
    exact h.unnil
  | d :: ds, _, bs, e, h => by
    obtain ⟨v, r, rfl, h1, h2⟩ := h.uncons
    cases d with
    | int b =>
      unfold intsOf at e
      split at e
      · rename_i bs2 hb
        cases e
        rw [h1.int_of, ints_ok hb h2]
        rfl
      · cases e
    | _ => cases e
theorem maxI_ok : ∀ (r : List Int) (a : Int), (maxI a r = a ∨ maxI a r ∈ r) ∧ a ≤ maxI a r ∧ ∀ y ∈ r, y ≤ maxI a r
  | [], a => ⟨.inl rfl, Int.le_refl _, fun y h => by cases h⟩
  | b :: r, a => by
    unfold maxI
    rw [il_eq]
    by_cases h : a < b
    · rw [decide_eq_true h]
      obtain ⟨h1, h2, h3⟩ := maxI_ok r b
      show (maxI b r = a ∨ maxI b r ∈ b :: r) ∧ a ≤ maxI b r ∧ ∀ y ∈ b :: r, y ≤ maxI b r
      refine ⟨.inr ?_, by omega, fun y hy => ?_⟩
      · rcases h1 with h1 | h1
        · rw [h1]
          exact List.mem_cons_self
        · exact List.mem_cons_of_mem _ h1
      · rcases List.mem_cons.mp hy with rfl | hy
        · exact h2
        · exact h3 y hy
    · rw [decide_eq_false h]
      obtain ⟨h1, h2, h3⟩ := maxI_ok r a
      show (maxI a r = a ∨ maxI a r ∈ b :: r) ∧ a ≤ maxI a r ∧ ∀ y ∈ b :: r, y ≤ maxI a r
      refine ⟨?_, h2, fun y hy => ?_⟩
      · rcases h1 with h1 | h1
        · exact .inl h1
        · exact .inr (List.mem_cons_of_mem _ h1)
      · rcases List.mem_cons.mp hy with rfl | hy
        · omega
        · exact h3 y hy
theorem ej_maxL (hc : X.calm = true) (hg : Gl X "max") (hm : X.mg "max" = none) (ha : LJ X a fs) (he : starEach [a] X.env = [(false, eval a X.env)] := by rfl) : EJ X (.Call (.Name "max" p) [a] [] pos) (eMaxL fs) :=
  PEimp (one_call (cr_max hc) hg hm (by decide +kernel) ha he (by decide) (by decide)) fun σ H Q ⟨H0, ss, d, R, e, q⟩ => by
    unfold eMaxL at e
    split at e
    · rename_i xs hx
      split at e
      · rename_i i r hi
        cases e
        refine ⟨H0, ss, _, R, hx, fun p vs H1 g1 a1 r1 => ⟨p, i :: r, rfl, .inl (.inl ?_), by simp, fun m hm1 hm2 => ?_⟩⟩
        · rw [← ints_ok hi r1]
          exact a1
        · obtain ⟨h1, h2, h3⟩ := maxI_ok r i
          have e1 : m = maxI i r := by
            have l1 : maxI i r ≤ m := hm2 _ (by
              rcases h1 with h1 | h1
              · rw [h1]
                exact List.mem_cons_self
              · exact List.mem_cons_of_mem _ h1)
            have l2 : m ≤ maxI i r := by
              rcases List.mem_cons.mp hm1 with rfl | h
              · exact h2
              · exact h3 m h
            omega
          rw [e1]
          exact q _ H1 g1 (Rp.int _)
      · cases e
    · cases e

/-! ### + and slices -/
theorem line_of {n : Nat} (h : Nat.ble n 1000 = true) : n ≤ sizeLine := len_line (Nat.le_of_ble_eq_true h)
theorem ej_cat (ha : EJ X a f) (hb : EJ X b g) : EJ X (.BinOp a .Add b pos) (eCat f g) :=
  PEimp (pe_op op_catA ha hb) fun σ H Q ⟨H0, ss, d, R, e, q⟩ => by
    unfold eCat at e
    split at e
    · rename_i xs hx
      split at e
      · rename_i ys hy
        split at e
        · rename_i hl
          cases e
          refine ⟨H0, ss, _, R, hx, fun v H1 g1 r1 => ⟨H0, ss, _, R.grow g1, hy, fun u H2 g2 r2 => ?_⟩⟩
          obtain ⟨a1, vs, rfl, h1, h2⟩ := (r1.same g2).tup_of
          obtain ⟨a2, us, rfl, h3, h4⟩ := r2.tup_of
          have l1 := h2.length
          have l2 := h4.length
          refine ⟨a1, a2, vs, us, rfl, rfl, h1, h3, by rw [l1, l2]; exact line_of hl, fun e1 => ?_, fun _ e2 => ?_, fun _ _ p hp => ?_⟩
          · have ex : xs = [] := by
              rw [e1] at l1
              exact List.eq_nil_of_length_eq_zero l1.symm
            subst ex
            exact q _ H2 (g1.trans g2) r2
          · have ey : ys = [] := by
              rw [e2] at l2
              exact List.eq_nil_of_length_eq_zero l2.symm
            subst ey
            rw [List.append_nil] at q
            exact q _ H2 (g1.trans g2) (r1.same g2)
          · exact q _ _ ((g1.trans g2).trans (same_new hp)) (Rp.tup (.inl (.inl upd_same)) (RpL.same (same_new hp) (h2.app h4)))
        · cases e
      · cases e
    · cases e
theorem nj_cat (ha : LJ X a fs) (hb : LJ X b gs) : NJ X (.BinOp a .Add b pos) (lCat fs gs) :=
  PEimp (pe_op op_cat ha hb) fun σ H Q ⟨H0, ss, d, R, e, q⟩ => by
    unfold lCat at e
    split at e
    · rename_i xs hx
      split at e
      · rename_i ys hy
        split at e
        · rename_i hl
          cases e
          refine ⟨H0, ss, _, R, hx, fun a1 vs H1 g1 h1 r1 => ⟨H0, ss, _, R.grow g1, hy, fun a2 us H2 g2 h2 r2 => ?_⟩⟩
          refine ⟨a1, a2, vs, us, rfl, rfl, g2 _ _ h1, h2, by rw [r1.length, r2.length]; exact line_of hl, fun p hp => ?_⟩
          exact q p _ _ ((g1.trans g2).trans (same_new hp)) ((g1.trans g2).free hp) upd_same (RpL.same (same_new hp) ((r1.same g2).app r2))
        · cases e
      · cases e
    · cases e
theorem cut_from (vs : List V) (i : Nat) : cutV vs (some (i : Int)) none = vs.drop i := by
  unfold cutV
  rw [HT.sIx_nat, HT.sIx_none]
  by_cases h : i ≤ vs.length
  · rw [Nat.min_eq_left h]
    exact List.take_of_length_le (by rw [List.length_drop]; exact Nat.le_refl _)
  · have h' : vs.length ≤ i := by omega
    rw [Nat.min_eq_right h', List.drop_of_length_le h', Nat.sub_self, List.take_zero]
theorem cut_to (vs : List V) (i : Nat) : cutV vs none (some (i : Int)) = vs.take i := by
  unfold cutV
  rw [HT.sIx_nat, HT.sIx_none, List.drop_zero, Nat.sub_zero]
  by_cases h : i ≤ vs.length
  · rw [Nat.min_eq_left h]
  · have h' : vs.length ≤ i := by omega
    rw [Nat.min_eq_right h', List.take_of_length_le (Nat.le_refl _), List.take_of_length_le h']
theorem six_m1 (n : Nat) : HT.sIx n n (some (-1)) = n - 1 := by
  show (if (-1 : Int) < 0 then ((-1 : Int) + (n : Int)).toNat else min (-1 : Int).toNat n) = n - 1
  rw [if_pos (by omega)]
  omega
theorem cut_init (vs : List V) : cutV vs none (some (-1)) = vs.dropLast := by
  unfold cutV
  rw [six_m1, HT.sIx_none, List.drop_zero, Nat.sub_zero, List.dropLast_eq_take]
theorem nj_from (ha : LJ X a fs) (hb : EJ X b g) : NJ X (.Subscript a (.Slice (some b) none none p2) pos) (lFrom fs g) :=
  PEimp (pe_slice sl_list ha (po_some hb) po_none) fun σ H Q ⟨H0, ss, d, R, e, q⟩ => by
    unfold lFrom at e
    split at e
    · rename_i xs hx
      split at e
      · rename_i i hi
        cases e
        refine ⟨H0, ss, _, R, hx, fun a1 vs H1 g1 h1 r1 => ⟨H0, ss, _, R.grow g1, hi, fun u H2 g2 r2 => ⟨(i : Int), r2.int_of, a1, vs, rfl, .inl (.inl (g2 _ _ h1)), fun p hp => ?_⟩⟩⟩
        rw [cut_from]
        exact q p _ _ ((g1.trans g2).trans (same_new hp)) ((g1.trans g2).free hp) upd_same (RpL.same (same_new hp) ((r1.same g2).drop i))
      · cases e
    · cases e
theorem ej_to {j : Nat} (n : Nat) {i : Int} (hi : i = (n : Int)) (ha : EJ X a f) : EJ X (.Subscript a (.Slice none (some (.Constant (.int i) j q)) none p2) pos) (eTo n f) := by
  subst hi
  refine PEimp (pe_slice sl_tupA ha po_none (po_some pe_int)) fun σ H Q ⟨H0, ss, d, R, e, q⟩ => ?_
  unfold eTo at e
  split at e
  · rename_i xs hx
    cases e
    refine ⟨H0, ss, _, R, hx, fun v H1 g1 r1 => ⟨(n : Int), rfl, ?_⟩⟩
    obtain ⟨a1, vs, rfl, h1, h2⟩ := r1.tup_of
    refine ⟨a1, vs, rfl, h1, fun ⟨_, e2⟩ => ?_, fun _ p hp => ?_⟩
    · rw [HT.sIx_nat] at e2
      have e3 : xs.take n = xs := List.take_of_length_le (by rw [← h2.length]; omega)
      rw [e3] at q
      exact q _ H1 g1 r1
    · rw [cut_to]
      exact q _ _ (g1.trans (same_new hp)) (Rp.tup (.inl (.inl upd_same)) (RpL.same (same_new hp) (h2.take n)))
  · cases e
theorem ej_init {j : Nat} {q2 : Pos} (ha : EJ X a f) : EJ X (.Subscript a (.Slice none (some (.UnaryOp .USub (.Constant (.int 1) j q) q2)) none p2) pos) (eInit f) := by
  refine PEimp (pe_slice sl_tupA ha po_none (po_some (pe_un un_neg pe_int))) fun σ H Q ⟨H0, ss, d, R, e, q⟩ => ?_
  unfold eInit at e
  split at e
  · rename_i xs hx
    cases e
    refine ⟨H0, ss, _, R, hx, fun v H1 g1 r1 => ⟨1, rfl, -1, rfl, ?_⟩⟩
    obtain ⟨a1, vs, rfl, h1, h2⟩ := r1.tup_of
    refine ⟨a1, vs, rfl, h1, fun ⟨_, e2⟩ => ?_, fun _ p hp => ?_⟩
    · rw [six_m1] at e2
      have l := h2.length
      have ex : xs = [] := List.eq_nil_of_length_eq_zero (by omega)
      subst ex
      exact q _ H1 g1 r1
    · rw [cut_init]
      have h3 : RpL X.K H1 vs.dropLast xs.dropLast := by
        rw [List.dropLast_eq_take, List.dropLast_eq_take, h2.length]
        exact h2.take _
      exact q _ _ (g1.trans (same_new hp)) (Rp.tup (.inl (.inl upd_same)) (RpL.same (same_new hp) h3))
  · cases e

/-! ### a call of a def of the text -/
theorem aj_len {f : LF} {ss : Ss} {ds : List D} : True := trivial
theorem ej_call {x : Str} {F : Addr} {fd : FuncData} {ps : List Str} {n : Nat} {m : List D → Option D} (G : FnOk X.prog X.w X.K X.mg X.base CX0 k F fd ps (spD X.K n m)) (hr : Room k X.A) (hg : Gl X x) (hm : X.mg x = some (.ref F)) (hk : PySem.W.keepIn X.K (.ref F) = true) (hb : Binds X.K fd ps [])
    (ha : AJ X (e :: es) fs) (hn : ∀ ss ds, fs ss = some ds → ds.length = n) (hd : (x == ("__debug__" : Str)) = false := by decide) (he : starEach (e :: es) X.env = (false, eval e X.env) :: starEach es X.env := by rfl) (hpl : (backTo pos (starEach es X.env)).any (·.1) = false := by rfl) :
    EJ X (.Call (.Name x p) (e :: es) [] pos) (eCall m fs) :=
  PEimp (pe_call (E := E0) G hr hg hm hk hb .nil pass0 ha hd he hpl) fun σ H Q ⟨H0, ss, d, R, h, q⟩ => by
    unfold eCall at h
    split at h
    · rename_i ds hds
      refine ⟨H0, ss, ds, R, hds, fun vs H1 g1 r1 => ⟨ds, d, ?_, hn ss ds hds, h, fun v H2 g2 r2 => q v H2 (g1.trans g2) r2⟩⟩
      rw [List.append_nil]
      exact r1
    · cases h
theorem nj_call {x : Str} {F : Addr} {fd : FuncData} {ps : List Str} {n : Nat} {m : List D → Option (List D)} (G : FnOk X.prog X.w X.K X.mg X.base CX0 k F fd ps (spN X.K n m)) (hr : Room k X.A) (hg : Gl X x) (hm : X.mg x = some (.ref F)) (hk : PySem.W.keepIn X.K (.ref F) = true) (hb : Binds X.K fd ps [])
    (ha : AJ X (e :: es) fs) (hn : ∀ ss ds, fs ss = some ds → ds.length = n) (hd : (x == ("__debug__" : Str)) = false := by decide) (he : starEach (e :: es) X.env = (false, eval e X.env) :: starEach es X.env := by rfl) (hpl : (backTo pos (starEach es X.env)).any (·.1) = false := by rfl) :
    NJ X (.Call (.Name x p) (e :: es) [] pos) (lCall m fs) :=
  PEimp (pe_call (E := E0) G hr hg hm hk hb .nil pass0 ha hd he hpl) fun σ H Q ⟨H0, ss, d, R, h, q⟩ => by
    unfold lCall at h
    split at h
    · rename_i ds hds
      refine ⟨H0, ss, ds, R, hds, fun vs H1 g1 r1 => ⟨ds, d, ?_, hn ss ds hds, h, fun a ws H2 g2 n2 h2 r2 => q a ws H2 (g1.trans g2) (g1.free n2) h2 r2⟩⟩
      rw [List.append_nil]
      exact r1
    · cases h
theorem cons_len {f : EF} {fs : LF} {n : Nat} (h : ∀ ss ds, fs ss = some ds → ds.length = n) : ∀ ss ds, lCons f fs ss = some ds → ds.length = n + 1 := fun ss ds e => by
  unfold lCons at e
  split at e
  · split at e
    · rename_i hxs
      cases e
      rw [List.length_cons, h ss _ hxs]
    · cases e
  · cases e
theorem nil_len : ∀ (ss : Ss) (ds : List D), lNil ss = some ds → ds.length = 0 := fun ss ds e => by
  cases e
  rfl
theorem len_le {fs : LF} {n : Nat} (h : ∀ ss ds, fs ss = some ds → ds.length = n) (hn : n ≤ 20 := by decide) : ∀ ss ds, fs ss = some ds → ds.length ≤ 20 := fun ss ds e => by
  rw [h ss ds e]
  exact hn
end
end Wf

namespace Wf
open PySem PySem.Spec PyProof.Rows L2

/-! ### statements -/
inductive Out where
  | nx (ss : Ss) | rt (d : D) | rl (xs : List D)
abbrev SF := Ss → Option Out
section
variable (K : PySem.W.Frag) (P : Program) (w : World)
def PostO (H0 : Hp) (En : Ends) : Out → Prop
  | .nx ss => ∀ σ H, SR K P w H0 H σ ss → En.nx σ H
  | .rt d => ∀ v H, Same H0 H → Rp K H v d → En.rt v H
  | .rl xs => ∀ a vs H, Same H0 H → H0 a = none → H a = some (.lst vs) → RpL K H vs xs → En.rt (.ref a) H
def tS (F : SF) : TS := fun En σ H => ∃ H0 ss o, SR K P w H0 H σ ss ∧ F ss = some o ∧ PostO K P w H0 En o
end
abbrev SJ (X : Cx) (st : Stmt) (F : SF) : Prop := PS X st (tS X.K X.prog X.w F)
abbrev SJs (X : Cx) (st : List Stmt) (F : SF) : Prop := PSs X st (tS X.K X.prog X.w F)
def sNx : SF := fun ss => some (.nx ss)
def sNever : SF := fun _ => none
def sSeq (F G : SF) : SF := fun ss => match F ss with
  | some (.nx s1) => G s1
  | r => r
def sIf (c : TF) (F G : SF) : SF := fun ss => match c ss with
  | some true => F ss
  | some false => G ss
  | none => none
def sRet (f : EF) : SF := fun ss => match f ss with
  | some d => some (.rt d)
  | none => none
def sRetN (f : LF) : SF := fun ss => match f ss with
  | some d => some (.rl d)
  | none => none
def sDrop (f : EF) : SF := fun ss => match f ss with
  | some _ => some (.nx ss)
  | none => none
def sSet (i : Nat) (f : EF) : SF := fun ss => match f ss with
  | some d => some (.nx (ss.set i (some (.d d))))
  | none => none
def sSetN (i : Nat) (f : LF) : SF := fun ss => match f ss with
  | some xs => some (.nx (ss.set i (some (.l xs))))
  | none => none
section
variable {X : Cx} {st : Stmt} {sts : List Stmt} {e a b : Expr} {pos pos' : Pos} {F G : SF} {f : EF} {fs : LF}
theorem PSimp {t u : TS} (h : PS X st t) (k : ∀ D σ H, u D σ H → t D σ H) : PS X st u := ⟨fun pins s σ H D I q => h.run pins s σ H D I (k D σ H q)⟩
theorem PSsimp {t u : TS} (h : PSs X sts t) (k : ∀ D σ H, u D σ H → t D σ H) : PSs X sts u := ⟨fun pins s σ H D I q => h.run pins s σ H D I (k D σ H q)⟩
theorem sjs_nil : SJs X [] sNx := PSsimp pss_nil fun D σ H ⟨H0, ss, o, R, e, q⟩ => by
  cases e
  exact q σ H R
theorem sjs_cons (h : SJ X st F) (t : SJs X sts G) : SJs X (st :: sts) (sSeq F G) := PSsimp (pss_cons h t) fun D σ H ⟨H0, ss, o, R, e, q⟩ => by
  unfold sSeq at e
  split at e
  · rename_i s1 hs
    exact ⟨H0, ss, _, R, hs, fun σ' H' R' => ⟨H0, s1, o, R', e, q⟩⟩
  · rename_i hn
    refine ⟨H0, ss, o, R, e, ?_⟩
    cases o with
    | nx s1 => exact absurd e (hn s1)
    | rt d => exact q
    | rl xs => exact q
theorem sjs_one (h : SJ X st F) : SJs X [st] F := pss_one h
theorem sjs_never : SJs X sts sNever := PSsimp pss_never fun D σ H ⟨H0, ss, o, R, e, q⟩ => by cases e
theorem sj_never : SJ X st sNever := PSimp ps_never fun D σ H ⟨H0, ss, o, R, e, q⟩ => by cases e
theorem sj_if {c : Expr} {ta tb : List Stmt} {t : TF} (hc : TJ X c t) (ha : SJs X ta F) (hb : SJs X tb G) : SJ X (.If c ta tb pos) (sIf t F G) := PSimp (ps_if hc ha hb) fun D σ H ⟨H0, ss, o, R, e, q⟩ => by
  unfold sIf at e
  split at e
  · rename_i hs
    refine ⟨H0, ss, _, R, hs, fun H' g => ?_⟩
    refine iteT ?_
    exact ⟨H0, ss, o, R.grow g, e, q⟩
  · rename_i hs
    refine ⟨H0, ss, _, R, hs, fun H' g => ?_⟩
    refine iteF ?_
    exact ⟨H0, ss, o, R.grow g, e, q⟩
  · cases e
theorem sj_ret (he : EJ X e f) : SJ X (.Return (some e) pos) (sRet f) := PSimp (ps_ret he) fun D σ H ⟨H0, ss, o, R, h, q⟩ => by
  unfold sRet at h
  split at h
  · rename_i d hd
    cases h
    exact ⟨H0, ss, d, R, hd, fun v H' g r => q v H' (R.same.trans g) r⟩
  · cases h
theorem sj_retN (he : NJ X e fs) : SJ X (.Return (some e) pos) (sRetN fs) := PSimp (ps_ret he) fun D σ H ⟨H0, ss, o, R, h, q⟩ => by
  unfold sRetN at h
  split at h
  · rename_i d hd
    cases h
    exact ⟨H0, ss, d, R, hd, fun a vs H' g n ha r => q a vs H' (R.same.trans g) (R.same.free n) ha r⟩
  · cases h
theorem sj_retV {i : Nat} {x : Str} {p : Pos} (h : PE X (.Name x p) (tVar i)) : SJ X (.Return (some (.Name x p)) pos) (sRetN (lV i)) := PSimp (ps_ret h) fun D σ H ⟨H0, ss, o, R, h, q⟩ => by
  unfold sRetN lV at h
  split at h
  · rename_i d hd
    cases h
    split at hd
    · rename_i y hs
      cases hd
      obtain ⟨v, e1, r⟩ := R.at_ i _ (slot_at hs)
      obtain ⟨a, vs, rfl, n, e2, r2⟩ := r
      exact ⟨_, e1, q a vs H R.same n e2 r2⟩
    · cases hd
  · cases h
theorem sj_drop (he : EJ X e f) (hs : swapsWith e none pos.line X.env = pure false := by rfl) : SJ X (.Expr e pos) (sDrop f) := PSimp (ps_expr he hs) fun D σ H ⟨H0, ss, o, R, h, q⟩ => by
  unfold sDrop at h
  split at h
  · rename_i d hd
    cases h
    exact ⟨H0, ss, d, R, hd, fun v H' g r => q σ H' (R.grow g)⟩
  · cases h
/-- name = e -/
theorem sj_set {i : Nat} (hp : ∀ te, PE X e te → PS X st (tAsg te (gName i))) (he : EJ X e f) : SJ X st (sSet i f) := PSimp (hp _ he) fun D σ H ⟨H0, ss, o, R, h, q⟩ => by
  unfold sSet at h
  split at h
  · rename_i d hd
    cases h
    exact ⟨H0, ss, d, R, hd, fun v H' g r => q _ H' ((R.grow g).setD r)⟩
  · cases h
theorem sj_setN {i : Nat} (hp : ∀ te, PE X e te → PS X st (tAsg te (gName i))) (he : NJ X e fs) : SJ X st (sSetN i fs) := PSimp (hp _ he) fun D σ H ⟨H0, ss, o, R, h, q⟩ => by
  unfold sSetN at h
  split at h
  · rename_i d hd
    cases h
    refine ⟨H0, ss, d, R, hd, fun a vs H' g n ha r => q _ H' ?_⟩
    have R' := R.grow g
    refine R'.setO ⟨a, vs, rfl, R.same.free n, ha, r⟩ fun j hj => ?_
    exact R.no_own n j hj
  · cases h
end

/-! ### targets -/
theorem wipe_get (σ : L2.St) (i : Nat) : ∀ vs : List Nat, (L2.wipe σ vs)[i]? = if i ∈ vs ∧ i < σ.length then some none else σ[i]?
  | [] => by simp [L2.wipe]
  | v :: vs => by
    unfold L2.wipe
    by_cases h : v = i
    · subst h
      by_cases hl : v < σ.length
      · rw [List.getElem?_set_self (by rw [wipe_length]; exact hl), if_pos ⟨List.mem_cons_self, hl⟩]
      · rw [List.getElem?_eq_none (by rw [List.length_set, wipe_length]; omega), if_neg (fun q => hl q.2), List.getElem?_eq_none (by omega)]
    · rw [List.getElem?_set_ne h, wipe_get σ i vs]
      have e : i ∈ v :: vs ↔ i ∈ vs := by
        rw [List.mem_cons]
        exact ⟨fun q => q.resolve_left fun z => h z.symm, .inr⟩
      simp only [e]
theorem wipe_set (σ : L2.St) {i : Nat} {x : Option V} {vs : List Nat} (h : i ∈ vs) : L2.wipe (σ.set i x) vs = L2.wipe σ vs := by
  apply List.ext_getElem?
  intro j
  rw [wipe_get, wipe_get, List.length_set]
  by_cases hj : j ∈ vs ∧ j < σ.length
  · rw [if_pos hj, if_pos hj]
  · rw [if_neg hj, if_neg hj]
    by_cases e : i = j
    · subst e
      have hl : ¬ i < σ.length := fun z => hj ⟨h, z⟩
      rw [List.getElem?_eq_none (by rw [List.length_set]; omega), List.getElem?_eq_none (by omega)]
    · rw [List.getElem?_set_ne e]
abbrev AG := D → Ss → Option Ss
def asgN (i : Nat) : AG := fun d ss => some (ss.set i (some (.d d)))
def setAll : List Nat → List D → Ss → Option Ss
  | [], [], ss => some ss
  | i :: is, x :: xs, ss => setAll is xs (ss.set i (some (.d x)))
  | _, _, _ => none
def asgT (is : List Nat) : AG := fun d ss => match d with
  | .tup xs => setAll is xs ss
  | _ => none
section
variable (K : PySem.W.Frag) (P : Program) (w : World)
def tG (is : List Nat) (G : AG) : TG := fun v σ H Q => ∃ H0 ss d ss', SR K P w H0 H σ ss ∧ Rp K H v d ∧ G d ss = some ss' ∧ ∀ σ', SR K P w H0 H σ' ss' → (∀ vs, (∀ i ∈ is, i ∈ vs) → L2.wipe σ' vs = L2.wipe σ vs) → Q σ' H
end
abbrev GJ (X : Cx) (tg : Expr) (is : List Nat) (G : AG) : Prop := PG X tg (tG X.K X.prog X.w is G)
def gNames : List Nat → TGs
  | [] => gNil
  | i :: is => gCons (gName i) (gNames is)
def sAsg (f : EF) (G : AG) : SF := fun ss => match f ss with
  | some d => match G d ss with
    | some s1 => some (.nx s1)
    | none => none
  | none => none
section
variable {X : Cx} {tg e : Expr} {es : List Expr} {pos : Pos} {is : List Nat} {G : AG} {f : EF}
theorem PGimp {t u : TG} (h : PG X tg t) (k : ∀ v σ H Q, u v σ H Q → t v σ H Q) : PG X tg u := ⟨fun pins s σ H v u' Q I r q => h.run pins s σ H v u' Q I r (k v σ H Q q)⟩
theorem gj_name {i : Nat} (h : PG X tg (gName i)) : GJ X tg [i] (asgN i) := PGimp h fun v σ H Q ⟨H0, ss, d, s1, R, r, e, q⟩ => by
  cases e
  exact q _ (R.setD r) fun vs hv => wipe_set σ (hv i List.mem_cons_self)
theorem names_ok {K : PySem.W.Frag} {P : Program} {w : World} {H0 H : Hp} : ∀ {is : List Nat} {xs : List D} {vs : List V} {σ : L2.St} {ss s1 : Ss} {Q : L2.St → Hp → Prop}, SR K P w H0 H σ ss → RpL K H vs xs → setAll is xs ss = some s1 →
    (∀ σ', SR K P w H0 H σ' s1 → (∀ us, (∀ i ∈ is, i ∈ us) → L2.wipe σ' us = L2.wipe σ us) → Q σ' H) → gNames is vs σ H Q
  | [], [], vs, σ, ss, s1, Q, R, r, e, q => by
    cases e
    exact ⟨r.unnil, q σ R fun _ _ => rfl⟩
  | i :: is, x :: xs, vs, σ, ss, s1, Q, R, r, e, q => by
    obtain ⟨v, t, rfl, h1, h2⟩ := r.uncons
    refine ⟨v, t, rfl, names_ok (R.setD h1) h2 e fun σ' R' hw => q σ' R' fun us hu => ?_⟩
    rw [hw us fun j hj => hu j (List.mem_cons_of_mem _ hj)]
    exact wipe_set σ (hu i List.mem_cons_self)
  | [], _ :: _, _, _, _, _, _, _, _, e, _ => by cases e
  | _ :: _, [], _, _, _, _, _, _, _, e, _ => by cases e
theorem setAll_len : ∀ {is : List Nat} {xs : List D} {ss s1 : Ss}, setAll is xs ss = some s1 → xs.length = is.length
  | [], [], _, _, _ => rfl
  | i :: is, x :: xs, _, _, e => by rw [List.length_cons, List.length_cons, setAll_len (is := is) (xs := xs) e]
  | [], _ :: _, _, _, e => by cases e
  | _ :: _, [], _, _, e => by cases e
theorem gj_tup {k n : Nat} (hc : X.calm = true) (h : PGs X es (gNames is)) (hl : is.length = n := by rfl) (hn : (assignEach es X.env).length = n := by rfl) (hst : (assignEach es X.env).findIdx? (·.1) = none := by rfl) : GJ X (.Tuple es k pos) is (asgT is) :=
  PGimp (pg_tup hc h hn hst) fun v σ H Q ⟨H0, ss, d, s1, R, r, e, q⟩ => by
    unfold asgT at e
    split at e
    · rename_i xs
      obtain ⟨a, vs, rfl, h1, h2⟩ := r.tup_of
      exact ⟨a, vs, rfl, h1, by rw [h2.length, setAll_len e, hl], names_ok R h2 e q⟩
    · cases e
/-- target = e -/
theorem sj_asg (he : EJ X e f) (hg : GJ X tg is G) (hs : swapsWithSole [tg] e pos.line X.env = pure false := by rfl) (hw : swappedStores [tg] e X.env = pure none := by rfl) (h1 : (assignEach [tg] X.env).map (·.2) = [assign tg X.env] := by rfl) :
    SJ X (.Assign [tg] e pos) (sAsg f G) := PSimp (ps_asg he hg hs hw h1) fun D σ H ⟨H0, ss, o, R, h, q⟩ => by
  unfold sAsg at h
  split at h
  · rename_i d hd
    split at h
    · rename_i s1 hs1
      cases h
      exact ⟨H0, ss, d, R, hd, fun v H' g r => ⟨H0, ss, d, s1, R.grow g, r, hs1, fun σ' R' _ => q σ' H' R'⟩⟩
    · cases h
  · cases h
end

/-! ### what is walked -/
structure ItR (K : PySem.W.Frag) (J : It) (Hk : Hp) (xs : List D) : Prop where
  go : ∀ (i : Nat) (H : Hp), Same Hk H → i < xs.length → J.go i H
  yld : ∀ (i : Nat) (H : Hp) (x : V) (H' : Hp), Same Hk H → i < xs.length → J.yld i H x H' → ∃ d, xs[i]? = some d ∧ H' = H ∧ Rp K H x d
  stop : ∀ (i : Nat) (H : Hp), Same Hk H → xs.length ≤ i → J.stop i H
theorem ItR.mono {K : PySem.W.Frag} {J : It} {Hk Hj : Hp} {xs : List D} (h : ItR K J Hk xs) (g : Same Hk Hj) : ItR K J Hj xs :=
  ⟨fun i H a b => h.go i H (g.trans a) b, fun i H x H' a b c => h.yld i H x H' (g.trans a) b c, fun i H a b => h.stop i H (g.trans a) b⟩
section
variable (K : PySem.W.Frag) (P : Program) (w : World)
/-- what is walked stays whatever a body of one's own does -/
def tI (src : LF) : TI := fun σ H Rt => ∃ H0 ss xs, SR K P w H0 H σ ss ∧ src ss = some xs ∧ ∀ J Hk H', Same H H' → Same Hk H' → (∀ b o, Hk b = some o → H b = none ∨ ¬ Soft o) → ItR K J Hk xs → Rt J H'
/-- .. while nothing is written -/
def tIa (src : LF) : TI := fun σ H Rt => ∃ H0 ss xs, SR K P w H0 H σ ss ∧ src ss = some xs ∧ ∀ J H', Same H H' → ItR K J H' xs → Rt J H'
end
abbrev IJ (X : Cx) (tg e : Expr) (src : LF) : Prop := PI X tg e (tI X.K X.prog X.w src)
abbrev IaJ (X : Cx) (tg e : Expr) (src : LF) : Prop := PI X tg e (tIa X.K X.prog X.w src)
/-- the part of a heap that is never written -/
def hard (H : Hp) : Hp := fun b => match H b with
  | some (.tup xs) => some (.tup xs)
  | some (.frz o u) => some (.frz o u)
  | _ => none
theorem hard_le (H : Hp) : Same (hard H) H := fun b o e => by
  unfold hard at e
  split at e
  · rename_i h
    rw [h]
    exact e
  · rename_i h
    rw [h]
    exact e
  · cases e
theorem hard_not {H : Hp} {b : Addr} {o : HO} (e : hard H b = some o) : ¬ Soft o := by
  unfold hard at e
  split at e
  · cases e
    exact fun h => h
  · cases e
    exact fun h => h
  · cases e
theorem hard_tk (H : Hp) : Tk H (hard H) := ⟨fun b xs e => by unfold hard; rw [e], fun b o u e => by unfold hard; rw [e]⟩
section
variable {X : Cx} {tg e a b : Expr} {pos p : Pos} {f g : EF} {fs : LF}
theorem PIimp {t u : TI} (h : PI X tg e t) (k : ∀ σ H Q, u σ H Q → t σ H Q) : PI X tg e u := ⟨fun pins s σ H R I q => h.run pins s σ H R I (k σ H R q)⟩
theorem iaj_of (h : IJ X tg e fs) : IaJ X tg e fs := PIimp h fun σ H Rt ⟨H0, ss, xs, R, hx, q⟩ => ⟨H0, ss, xs, R, hx, fun J Hk H' g g2 _ it => q J H' g (it.mono g2)⟩
theorem itr_tup {K : PySem.W.Frag} {H : Hp} {a : Addr} {vs : List V} {xs : List D} (h : SqT K H a vs) (r : RpL K H vs xs) : ItR K (Itt K a) (hard H) xs := by
  have at_ : ∀ {H' : Hp}, Same (hard H) H' → SqT K H' a vs ∧ RpL K H' vs xs := fun g => ⟨SqT.tk ((hard_tk H).trans (tk_same g)) h, RpL.tk ((hard_tk H).trans (tk_same g)) r⟩
  refine ⟨fun i H' g hi => ?_, fun i H' x H2 g hi y => ?_, fun i H' g hi => ⟨vs, (at_ g).1, by rw [r.length]; exact hi⟩⟩
  · obtain ⟨h1, h2⟩ := at_ g
    obtain ⟨v, hv, _⟩ := h2.get (List.getElem?_eq_getElem hi)
    exact ⟨vs, v, h1, hv⟩
  · obtain ⟨h1, h2⟩ := at_ g
    obtain ⟨v, hv, rv⟩ := h2.get (List.getElem?_eq_getElem hi)
    obtain ⟨e1, e2⟩ := y
    refine ⟨xs[i], List.getElem?_eq_getElem hi, e1, ?_⟩
    have e3 := e2 vs h1
    rw [hv] at e3
    cases e3
    exact rv
theorem itr_lst {K : PySem.W.Frag} {H Hk : Hp} {a : Addr} {vs : List V} {xs : List D} (h : Hk a = some (.lst vs)) (t : Tk H Hk) (r : RpL K H vs xs) : ItR K (Itl K a) Hk xs := by
  have at_ : ∀ {H' : Hp}, Same Hk H' → SqL K H' a vs ∧ RpL K H' vs xs := fun g => ⟨.inl (.inl (g _ _ h)), RpL.tk (t.trans (tk_same g)) r⟩
  refine ⟨fun i H' g hi => ?_, fun i H' x H2 g hi y => ?_, fun i H' g hi => ⟨vs, (at_ g).1, by rw [r.length]; exact hi⟩⟩
  · obtain ⟨h1, h2⟩ := at_ g
    obtain ⟨v, hv, _⟩ := h2.get (List.getElem?_eq_getElem hi)
    exact ⟨vs, v, h1, hv⟩
  · obtain ⟨h1, h2⟩ := at_ g
    obtain ⟨v, hv, rv⟩ := h2.get (List.getElem?_eq_getElem hi)
    obtain ⟨e1, e2⟩ := y
    refine ⟨xs[i], List.getElem?_eq_getElem hi, e1, ?_⟩
    have e3 := e2 vs h1
    rw [hv] at e3
    cases e3
    exact rv
theorem ij_tup (h : EJ X e f) : IJ X tg e (lOfT f) := PIimp (pi_tup h) fun σ H Rt ⟨H0, ss, xs, R, hx, q⟩ => by
  unfold lOfT at hx
  split at hx
  · rename_i ys hy
    cases hx
    refine ⟨H0, ss, _, R, hy, fun v H1 g1 r1 => ?_⟩
    obtain ⟨a, vs, rfl, h1, h2⟩ := r1.tup_of
    exact ⟨a, rfl, ⟨vs, h1⟩, q _ (hard H1) H1 g1 (hard_le H1) (fun b o eb => .inr (hard_not eb)) (itr_tup h1 h2)⟩
  · cases hx
theorem ij_new (h : NJ X e fs) : IJ X tg e fs := PIimp (pi_list h) fun σ H Rt ⟨H0, ss, xs, R, hx, q⟩ => by
  refine ⟨H0, ss, xs, R, hx, fun a vs H1 g1 n1 a1 r1 => ⟨a, rfl, ⟨vs, .inl (.inl a1)⟩, q _ (upd (hard H1) a (.lst vs)) H1 g1 (fun b o eb => ?_) (fun b o eb => ?_) (itr_lst (H := H1) upd_same ?_ r1)⟩⟩
  · by_cases hb : b = a
    · subst hb
      rw [upd_same] at eb
      cases eb
      exact a1
    · rw [upd_ne hb] at eb
      exact hard_le H1 b o eb
  · by_cases hb : b = a
    · subst hb
      exact .inl n1
    · rw [upd_ne hb] at eb
      exact .inr (hard_not eb)
  · have hn : hard H1 a = none := by
      unfold hard
      rw [a1]
    exact (hard_tk H1).trans (tk_same (same_new hn))
theorem iaj_lst (h : LJ X e fs) : IaJ X tg e fs := PIimp (pi_list h) fun σ H Rt ⟨H0, ss, xs, R, hx, q⟩ =>
  ⟨H0, ss, xs, R, hx, fun a vs H1 g1 a1 r1 => ⟨a, rfl, ⟨vs, .inl (.inl a1)⟩, q _ H1 g1 (itr_lst a1 Tk.refl r1)⟩⟩
def rngD (i : Int) : Nat → List D
  | 0 => []
  | n + 1 => .int i :: rngD (i + 1) n
theorem rngD_len (n : Nat) : ∀ i : Int, (rngD i n).length = n := by
  induction n with
  | zero => exact fun _ => rfl
  | succ n ih => exact fun i => by rw [rngD, List.length_cons, ih]
theorem rngD_get : ∀ (n j : Nat) (i : Int), j < n → (rngD i n)[j]? = some (.int (i + j))
  | n + 1, 0, i, _ => by
    rw [rngD]
    simp
  | n + 1, j + 1, i, h => by
    rw [rngD, List.getElem?_cons_succ, rngD_get n j (i + 1) (by omega)]
    have e : i + 1 + (j : Int) = i + ((j + 1 : Nat) : Int) := by omega
    rw [e]
def lRange (f g : EF) : LF := fun ss => match f ss with
  | some (.int (.ofNat i)) => match g ss with
    | some (.int (.ofNat j)) => match Nat.ble i 1000 && Nat.ble j 1000 with
      | true => some (rngD (.ofNat i) (j - i))
      | false => none
    | _ => none
  | _ => none
theorem itr_rng {K : PySem.W.Frag} {H : Hp} (i : Int) (n : Nat) : ItR K (Itr i n) H (rngD i n) := by
  refine ⟨fun j H' g hj => ?_, fun j H' x H2 g hj y => ?_, fun j H' g hj => ?_⟩
  · rw [rngD_len] at hj
    exact hj
  · rw [rngD_len] at hj
    obtain ⟨e1, rfl⟩ := y
    exact ⟨_, rngD_get n j i hj, e1, Rp.int _⟩
  · rw [rngD_len] at hj
    exact hj
theorem iaj_range (hg : Gl X "range") (hm : X.mg "range" = none) (ha : EJ X a f) (hb : EJ X b g) (hs : starEach [a, b] X.env = [(false, eval a X.env), (false, eval b X.env)] := by rfl) (hs2 : starEach [b] X.env = [(false, eval b X.env)] := by rfl) :
    IaJ X tg (.Call (.Name "range" p) [a, b] [] pos) (lRange f g) :=
  PIimp (pi_range2 hg hm (pa_cons ha (pa_cons hb pa_nil hs2) (by rw [hs, hs2])) hs hs2) fun σ H Rt ⟨H0, ss, xs, R, hx, q⟩ => by
    unfold lRange at hx
    split at hx
    · rename_i i hi
      split at hx
      · rename_i j hj
        split at hx
        · rename_i hb2
          cases hx
          obtain ⟨l1, l2⟩ := two_ok hb2
          have l1 := Nat.le_of_ble_eq_true l1
          have l2 := Nat.le_of_ble_eq_true l2
          refine ⟨H0, ss, _, R, hi, fun v H1 g1 r1 => ⟨H0, ss, _, R.grow g1, hj, fun u H2 g2 r2 => ⟨(i : Int), (j : Int), by rw [r1.int_of, r2.int_of]; rfl, ⟨by omega, by omega, by omega, by omega⟩, ?_⟩⟩⟩
          have e : ((j : Int) - (i : Int)).toNat = j - i := by omega
          rw [e]
          exact q _ H2 (g1.trans g2) (itr_rng _ _)
        · cases hx
      · cases hx
    · cases hx
end

/-! ### for -/
def forGo (G : AG) (F : SF) : List D → Ss → Option Out
  | [], ss => some (.nx ss)
  | x :: xs, ss => match G x ss with
    | some s1 => match F s1 with
      | some (.nx s2) => forGo G F xs s2
      | r => r
    | none => none
def sFor (src : LF) (G : AG) (F : SF) : SF := fun ss => match src ss with
  | some xs => forGo G F xs ss
  | none => none
section
variable {X : Cx} {tg e c : Expr} {body : List Stmt} {pos : Pos} {src : LF} {is : List Nat} {G : AG} {F : SF}
theorem PostO.guard {K : PySem.W.Frag} {P : Program} {w : World} {H0 Hk : Hp} {En : Ends} {o : Out} (q : PostO K P w H0 En o) : PostO K P w (join H0 Hk) En o := by
  cases o with
  | nx ss => exact fun σ H R => q σ H R.unguard
  | rt d => exact fun v H g r => q v H (join_l.trans g) r
  | rl xs => exact fun a vs H g n ha r => q a vs H (join_l.trans g) (join_none n) ha r
theorem sj_for (hc : X.calm = true) (hi : IJ X tg e src) (hg : GJ X tg is G) (hb : SJs X body F) (hp : PassesOwn (model X.prog X.w) X.A X.env X.xe := by exact PassesOwn.never) (hs : ∀ x, foldedSetIterable e X.env x = pure x := by intro _; rfl) : SJ X (.For tg e body [] pos) (sFor src G F) :=
  PSimp (ps_for hp hc hi hg hb hs) fun En σ H ⟨H0, ss, o, R, h, q⟩ => by
    unfold sFor at h
    split at h
    · rename_i xs hxs
      refine ⟨H0, ss, xs, R, hxs, fun J Hk H1 g1 g2 cl it => ?_⟩
      have R1 : SR X.K X.prog X.w (join H0 Hk) H1 σ ss := (R.grow g1).guard g2 fun i a oa => by
        cases hk : Hk a with
        | none => rfl
        | some u =>
          obtain ⟨_, u0, e0, s0⟩ := R.own_at oa
          rcases cl a u hk with n | n
          · rw [n] at e0
            cases e0
          · have e1 := g1 a u0 e0
            rw [g2 a u hk] at e1
            cases e1
            exact absurd s0 n
      have kj : ∀ {H' : Hp} {σ' : L2.St} {s' : Ss}, SR X.K X.prog X.w (join H0 Hk) H' σ' s' → Same Hk H' := fun {H' σ' s'} R' => (join_r (R.same.trans g1) g2).trans R'.same
      refine ⟨fun i m σ' H' => m = xs.length - i ∧ i ≤ xs.length ∧ ∃ s', SR X.K X.prog X.w (join H0 Hk) H' σ' s' ∧ forGo G F (xs.drop i) s' = some o, ⟨xs.length, by omega, Nat.zero_le _, ss, R1, h⟩, ?_⟩
      rintro i m σ' H' ⟨rfl, hi, s', R', h'⟩
      by_cases hlt : i < xs.length
      · rw [List.drop_eq_getElem_cons hlt] at h'
        unfold forGo at h'
        split at h'
        · rename_i s1 hs1
          refine .inr ⟨it.go i H' (kj R') hlt, fun σ2 H2 => ∃ s2, SR X.K X.prog X.w (join H0 Hk) H2 σ2 s2 ∧ forGo G F (xs.drop (i + 1)) s2 = some o, fun σ2 H2 ⟨s2, R2, h2⟩ => ⟨xs.length - (i + 1), by omega, rfl, hlt, s2, R2, h2⟩, fun x H2 y => ?_⟩
          obtain ⟨d, hd, rfl, rd⟩ := it.yld i H' x H2 (kj R') hlt y
          rw [List.getElem?_eq_getElem hlt] at hd
          cases hd
          refine ⟨_, s', _, s1, R', rd, hs1, fun σ2 R2 _ => ?_⟩
          split at h'
          · rename_i s2 hs2
            exact ⟨_, s1, _, R2, hs2, fun σ3 H3 R3 => ⟨s2, R3, h'⟩⟩
          · rename_i hn
            refine ⟨_, s1, o, R2, h', ?_⟩
            have q2 := q.guard (Hk := Hk)
            cases o with
            | nx s2 => exact absurd h' (hn s2)
            | rt d => exact q2
            | rl ys => exact q2
        · cases h'
      · have e : i = xs.length := by omega
        subst e
        rw [List.drop_length] at h'
        unfold forGo at h'
        cases h'
        exact .inl ⟨it.stop _ H' (kj R') (Nat.le_refl _), q.guard σ' H' R'⟩
    · cases h
/-! while -/
def whileGo (c : TF) (F : SF) : Nat → Ss → Option Out
  | 0, _ => none
  | n + 1, ss => match c ss with
    | some true => match F ss with
      | some (.nx s1) => whileGo c F n s1
      | r => r
    | some false => some (.nx ss)
    | none => none
def sWhile (n : Nat) (c : TF) (F : SF) : SF := whileGo c F n
theorem sj_while {t : TF} (n : Nat) (hc : TJ X c t) (hb : SJs X body F) (hp : PassesOwn (model X.prog X.w) X.A X.env X.xe := by exact PassesOwn.never) : SJ X (.While c body [] pos) (sWhile n t F) :=
  PSimp (ps_while hp hc hb) fun En σ H ⟨H0, ss, o, R, h, q⟩ => by
    refine ⟨fun m σ' H' => ∃ s', SR X.K X.prog X.w H0 H' σ' s' ∧ whileGo t F m s' = some o, ⟨n, ss, R, h⟩, ?_⟩
    rintro m σ' H' ⟨s', R', h'⟩
    cases m with
    | zero => cases h'
    | succ m =>
      unfold whileGo at h'
      split at h'
      · rename_i hs
        refine ⟨H0, s', _, R', hs, fun H2 g2 => ?_⟩
        refine iteT ?_
        refine ⟨fun σ3 H3 => ∃ s3, SR X.K X.prog X.w H0 H3 σ3 s3 ∧ whileGo t F m s3 = some o, fun σ3 H3 z => ⟨m, Nat.lt_succ_self m, z⟩, ?_⟩
        split at h'
        · rename_i s1 hs1
          exact ⟨H0, s', _, R'.grow g2, hs1, fun σ3 H3 R3 => ⟨s1, R3, h'⟩⟩
        · rename_i hn
          refine ⟨H0, s', o, R'.grow g2, h', ?_⟩
          cases o with
          | nx s2 => exact absurd h' (hn s2)
          | rt d => exact q
          | rl ys => exact q
      · rename_i hs
        cases h'
        refine ⟨H0, s', _, R', hs, fun H2 g2 => ?_⟩
        refine iteF ?_
        exact q σ' H2 (R'.grow g2)
      · cases h'
end

/-! ### comprehensions -/
def compGo (base : Ss) (G : AG) (t : TF) (f : EF) : List D → Option (List D)
  | [] => some []
  | x :: xs => match G x base with
    | some s1 => match t s1 with
      | some true => match f s1 with
        | some d => match compGo base G t f xs with
          | some ds => some (d :: ds)
          | none => none
        | none => none
      | some false => compGo base G t f xs
      | none => none
    | none => none
def lComp (src : LF) (vs : List Nat) (G : AG) (t : TF) (f : EF) : LF := fun ss => match src ss with
  | some xs => match Nat.ble xs.length 900 with
    | true => compGo (wipeS ss vs) G t f xs
    | false => none
  | none => none
def bYes : TF := fun _ => some true
section
variable {X : Cx} {tg iter elt c : Expr} {ifs : List Expr} {scope : Scope} {own : List (Str × Nat)} {pos : Pos} {src : LF} {is : List Nat} {G : AG} {t : TF} {f : EF}
theorem ptj_nil : PTs X [] (tT X.K X.prog X.w bYes) := ⟨fun pins s σ H Q I ⟨H0, ss, b, R, e, q⟩ => by
  cases e
  exact pts_nil.run pins s σ H Q I (q H (Same.refl H))⟩
theorem ptj_one (h : TJ X c t) : PTs X [c] (tT X.K X.prog X.w t) := pts_one h
theorem same_put {H H' : Hp} {a : Addr} {o : HO} (g : Same H H') (n : H a = none) : Same H (upd H' a o) := fun b x e => by
  rw [upd_ne (ne_of_none e n)]
  exact g b x e
theorem nj_comp (hc : X.calm = true) (hN : X.N.Nodup) (hi : IaJ X tg iter src) (ok : BlkOk X.N X.env.scope scope own) (sub : ∀ i ∈ is, i ∈ own.map (·.2))
    (hg : ∀ (s : Shared) (H : Hp) (C : Addr) (cl : List (Str × Addr)) (fp : List Addr), GJ (X.blk s H scope (compEnvC scope cl C X.env) fp) tg is G)
    (ht : ∀ (s : Shared) (H : Hp) (C : Addr) (cl : List (Str × Addr)) (fp : List Addr), PTs (X.blk s H scope (compEnvC scope cl C X.env) fp) ifs (tT X.K X.prog X.w t))
    (he : ∀ (s : Shared) (H : Hp) (C : Addr) (cl : List (Str × Addr)) (fp : List Addr), EJ (X.blk s H scope (compEnvC scope cl C X.env) fp) elt f) (hs : ∀ x, foldedSetIterable iter X.env x = pure x := by intro _; rfl) :
    NJ X (.ListComp elt [⟨tg, iter, ifs, 0⟩] scope pos) (lComp src (own.map (·.2)) G t f) :=
  PEimp (pe_lc (te := tD X.K X.prog X.w f) (g := tG X.K X.prog X.w is G) hc hN hi ok hg ht he hs) fun σ H Q ⟨H0, ss, ds, R, h, q⟩ => by
    unfold lComp at h
    split at h
    · rename_i xs hxs
      split at h
      · rename_i hl
        have hl := Nat.le_of_ble_eq_true hl
        refine ⟨H0, ss, xs, R, hxs, fun J H1 g1 it D hD => ?_⟩
        refine ⟨fun i m H' => m = xs.length - i ∧ i ≤ xs.length ∧ ∃ ws acc rest, Same H1 H' ∧ H' D = some (.lst ws) ∧ RpL X.K H' ws acc ∧ acc.length ≤ i ∧ compGo (wipeS ss (own.map (·.2))) G t f (xs.drop i) = some rest ∧ acc ++ rest = ds,
          ⟨xs.length, by omega, Nat.zero_le _, [], [], ds, same_new hD, upd_same, RpL.nil, Nat.le_refl _, h, rfl⟩, ?_⟩
        rintro i m H' ⟨rfl, hi, ws, acc, rest, gk, eD, ra, la, hr, ea⟩
        by_cases hlt : i < xs.length
        · rw [List.drop_eq_getElem_cons hlt] at hr
          unfold compGo at hr
          split at hr
          · rename_i s1 hs1
            refine .inr ⟨it.go i H' gk hlt, fun H2 => ∃ ws acc rest, Same H1 H2 ∧ H2 D = some (.lst ws) ∧ RpL X.K H2 ws acc ∧ acc.length ≤ i + 1 ∧ compGo (wipeS ss (own.map (·.2))) G t f (xs.drop (i + 1)) = some rest ∧ acc ++ rest = ds,
              fun H2 z => ⟨xs.length - (i + 1), by omega, rfl, hlt, z⟩, fun x H2 y => ?_⟩
            obtain ⟨d, hd, rfl, rd⟩ := it.yld i H' x H2 gk hlt y
            rw [List.getElem?_eq_getElem hlt] at hd
            cases hd
            refine ⟨H0, wipeS ss (own.map (·.2)), _, s1, (R.grow (g1.trans gk)).wipe _, rd, hs1, fun σ2 R2 hw => ⟨?_, ?_⟩⟩
            · rw [hw _ sub]
              apply List.ext_getElem?
              intro j
              rw [wipe_get, wipe_get, wipe_length]
              by_cases hj : j ∈ own.map (·.2) ∧ j < σ.length
              · rw [if_pos hj, if_pos hj]
              · rw [if_neg hj]
            · split at hr
              · rename_i ht1
                refine ⟨H0, s1, true, R2, ht1, fun H3 g3 => ?_⟩
                refine iteT ?_
                split at hr
                · rename_i y2 hy2
                  split at hr
                  · rename_i r2 hr2
                    cases hr
                    refine ⟨H0, s1, y2, R2.grow g3, hy2, fun v H4 g4 r4 => ⟨ws, g4 _ _ (g3 _ _ eD), by rw [ra.length]; exact small1000 (by omega), ws ++ [v], acc ++ [y2], r2, same_put ((gk.trans g3).trans g4) hD, upd_same, ?_, ?_, hr2, ?_⟩⟩
                    · refine RpL.tk (tk_upd (g4 _ _ (g3 _ _ eD)) trivial) ((RpL.same (g3.trans g4) ra).app (RpL.one r4))
                    · rw [List.length_append]
                      show acc.length + 1 ≤ i + 1
                      omega
                    · rw [List.append_assoc]
                      exact ea
                  · cases hr
                · cases hr
              · rename_i ht1
                refine ⟨H0, s1, false, R2, ht1, fun H3 g3 => ?_⟩
                refine iteF ?_
                exact ⟨ws, acc, rest, gk.trans g3, g3 _ _ eD, ra.same g3, by omega, hr, ea⟩
              · cases hr
          · cases hr
        · have e : i = xs.length := by omega
          subst e
          rw [List.drop_length] at hr
          unfold compGo at hr
          cases hr
          rw [List.append_nil] at ea
          subst ea
          exact .inl ⟨it.stop _ H' gk (Nat.le_refl _), q D ws H' (g1.trans gk) (g1.free hD) eD ra⟩
      · cases h
    · cases h
end
end Wf

namespace Wf
open PySem PySem.Spec PyProof.Rows L2

/-! ### dicts: look-ups and new keys -/
def lookD : List (D × D) → D → Option D
  | [], _ => none
  | (a, d) :: r, k => match eqb a k with
    | true => some d
    | false => lookD r k
def newD (kvs : List (D × D)) (k d : D) : Option (List (D × D)) := match lookD kvs k with
  | none => match Nat.ble kvs.length 900 with
    | true => some (kvs ++ [(k, d)])
    | false => none
  | some _ => none
section
variable {K : PySem.W.Frag} {H : Hp}
theorem nr_len : ∀ {kvs : List (D × D)} {xs : List (NestedKey × Addr × Value)}, NR K H kvs xs → kvs.length = xs.length
  | _, _, .nil => rfl
  | _, _, .cons _ t => by rw [List.length_cons, List.length_cons, nr_len t]
theorem atKey_cons (x : NestedKey × Addr × Value) (r : List (NestedKey × Addr × Value)) (k : NestedKey) : atKey (x :: r) k = if decide (x.1 = k) = true then some x.2 else atKey r k := by
  unfold atKey
  rw [List.find?_cons]
  cases h : decide (x.1 = k) <;> simp
theorem nr_look (k : D) : ∀ {kvs : List (D × D)} {xs : List (NestedKey × Addr × Value)}, NR K H kvs xs →
    match lookD kvs k with
    | none => atKey xs (nk k) = none
    | some d => ∃ p, atKey xs (nk k) = some p ∧ ∃ v, RelV v p.2 ∧ Rp K H v d
  | _, _, .nil => rfl
  | (a, d) :: kvs, x :: xs, .cons ⟨h1, h2, h3, v, h4, h5⟩ t => by
    have ih := nr_look k t
    have e : decide (x.1 = nk k) = eqb a k := by
      rw [← h1]
      exact nk_dec a k
    unfold lookD
    cases q : eqb a k with
    | true =>
      refine ⟨x.2, ?_, v, h4, h5⟩
      rw [atKey_cons, e, q]
      rfl
    | false =>
      rw [atKey_cons, e, q]
      exact ih
theorem nr_keys : ∀ {kvs : List (D × D)} {xs : List (NestedKey × Addr × Value)}, NR K H kvs xs → ∀ x ∈ xs, ∃ d, nk d = x.1 ∧ Rp K H (.ref x.2.1) d ∧ dep d ≤ 7
  | _, _, .nil, x, hx => by cases hx
  | _, _, .cons ⟨h1, h2, h3, _⟩ t, x, hx => by
    rcases List.mem_cons.mp hx with rfl | hx
    · exact ⟨_, h1, h2, h3⟩
    · exact nr_keys t x hx
theorem paired_app {α β : Type} {R : α → β → Prop} : ∀ {as as' : List α} {bs bs' : List β}, Paired R as bs → Paired R as' bs' → Paired R (as ++ as') (bs ++ bs')
  | _, _, _, _, .nil, s => s
  | _, _, _, _, .cons h t, s => .cons h (paired_app t s)
/-! keys that are ints and texts -/
theorem flat_dec {a b : D} {x y : Key} (ha : flatKey a = some x) (hb : flatKey b = some y) : decide (x = y) = eqb a b := by
  cases a with
  | int i =>
    cases ha
    cases b with
    | int j =>
      cases hb
      rw [key_ll]
      exact (iq_eq i j).symm
    | str t =>
      cases hb
      exact key_lr _ _
    | _ => cases hb
  | str s =>
    cases ha
    cases b with
    | int j =>
      cases hb
      exact key_rl _ _
    | str t =>
      cases hb
      rw [key_rr]
      show _ = Nat.beq s.ix t.ix
      rw [bix]
      exact (Bool.beq_eq_decide_eq _ _).symm
    | _ => cases hb
  | _ => cases ha
theorem flat_kv {d : D} {k : Key} {v : V} (h : flatKey d = some k) (r : Rp K H v d) : v = kV k := by
  cases d with
  | int i =>
    cases h
    exact r.int_of
  | str s =>
    cases h
    exact r.str_of
  | _ => cases h
theorem kr_len : ∀ {kvs : List (D × D)} {xs : List (Key × V)}, KR K H kvs xs → kvs.length = xs.length
  | _, _, .nil => rfl
  | _, _, .cons _ t => by rw [List.length_cons, List.length_cons, kr_len t]
theorem kr_look {k : D} {key : Key} (hk : flatKey k = some key) : ∀ {kvs : List (D × D)} {xs : List (Key × V)}, KR K H kvs xs →
    match lookD kvs k with
    | none => valV xs key = none
    | some d => ∃ v, valV xs key = some v ∧ Rp K H v d
  | _, _, .nil => rfl
  | (a, d) :: kvs, x :: xs, .cons ⟨h1, h2⟩ t => by
    have ih := kr_look hk t
    have e : decide (x.1 = key) = eqb a k := flat_dec h1 hk
    unfold lookD
    cases q : eqb a k with
    | true =>
      rw [q] at e
      exact ⟨x.2, valV_pos (of_decide_eq_true e), h2⟩
    | false =>
      rw [q] at e
      show match lookD kvs k with
        | none => valV (x :: xs) key = none
        | some d => ∃ v, valV (x :: xs) key = some v ∧ Rp K H v d
      rw [valV_neg (of_decide_eq_false e)]
      exact ih
end

/-! ### dicts with tuple keys -/
section
variable {X : Cx} {pins : List (Addr × Obj)} {σ : L2.St} {H : Hp} {s : Shared} {a : Addr} {kvs : List (D × D)} {xs : List (NestedKey × Addr × Value)}
theorem dn_at (I : Inv X pins σ H s) (e : H a = some (DN X.prog X.w a xs)) (r : NR X.K H kvs xs) : xs.length ≤ sizeLine ∧ (a == sysModules) = false ∧ s.heap.DictOfH (nestedKind X.prog X.w) a xs := by
  obtain ⟨⟨z, y, o, es, ep, ho, hc, hd, he, hn⟩, _⟩ := (show ObjOk X.prog X.w H s.heap a (DN X.prog X.w a xs) from I.hok a _ e)
  refine ⟨z, y, o, es, ep, ho, hc, hd, he, fun x hx => ?_, hn⟩
  obtain ⟨d, h1, h2, h3⟩ := nr_keys r x hx
  refine ⟨?_, ?_⟩
  · rw [← h1]
    exact nk_is I h2 rfl
  · rw [← h1, nk_dep]
    omega
theorem dn_ok {P : Program} {w : World} {H' : Hp} {h' : Heap} (z : xs.length ≤ sizeLine) (y : (a == sysModules) = false) (m : h'.DictOfH (nestedKind P w) a xs) : ObjOk P w H' h' a (DN P w a xs) := by
  obtain ⟨o, es, ep, ho, hc, hd, he, _, hn⟩ := m
  refine ⟨⟨z, y, o, es, ep, ho, hc, hd, he, hn⟩, ⟨o, ho⟩, fun h1 h2 q k => ?_⟩
  obtain ⟨z, y, o, es, ep, ho, hc, hd, he, hn⟩ := q
  exact ⟨z, y, o, es, ep, k o ho, hc, hd, he, hn⟩
theorem key_at (I : Inv X pins σ H s) {k : D} {p : Addr} (r : Rp X.K H (.ref p) k) (h : dep k ≤ 7) : (nestedKind X.prog X.w).is s.heap (nk k) p := by
  refine ⟨nk_is I r rfl, ?_⟩
  rw [nk_dep]
  omega
theorem room_n {k : Nat} (hr : Room k X.A) : (nestedKind X.prog X.w).room X.A.in1 := by
  have h := hr.units
  show X.A.units + 1 + 8 < cLine
  omega
/-- what is asked of a key and of the dict -/
def AtN (K : PySem.W.Frag) (P : Program) (w : World) (H : Hp) (x y : V) (k : D) (kvs : List (D × D)) : Prop :=
  ∃ p a xs, x = .ref p ∧ y = .ref a ∧ H a = some (DN P w a xs) ∧ NR K H kvs xs ∧ Rp K H (.ref p) k ∧ dep k ≤ 7
def rInN (K : PySem.W.Frag) (P : Program) (w : World) (neg : Bool) : R2 := fun x y H Q => ∃ k kvs, AtN K P w H x y k kvs ∧ Q (.bl (match neg with | true => !(lookD kvs k).isSome | false => (lookD kvs k).isSome)) H
theorem look_some {K : PySem.W.Frag} {H : Hp} {k : D} {kvs : List (D × D)} {xs : List (NestedKey × Addr × Value)} (r : NR K H kvs xs) : (atKey xs (nk k)).isSome = (lookD kvs k).isSome := by
  have q := nr_look k r
  cases e : lookD kvs k with
  | none =>
    rw [e] at q
    rw [q]
    rfl
  | some d =>
    rw [e] at q
    obtain ⟨p, hp, _⟩ := q
    rw [hp]
    rfl
theorem op_in_n {k : Nat} (hr : Room k X.A) : OpR X (compareOp .In) (rInN X.K X.prog X.w false) := by
  intro pins s σ H x y v u Q I rx ry h
  obtain ⟨k, kvs, ⟨p, a, xs, rfl, rfl, e, r, rk, dk⟩, q⟩ := h
  cases rx
  cases ry
  obtain ⟨z, y, m⟩ := dn_at I e r
  refine wpAny_in_heap (room_n hr) (key_at I rk dk) y m ?_
  rw [look_some r]
  exact ⟨.bl _, H, I.tok _, rfl, q⟩
theorem op_notin_n {k : Nat} (hr : Room k X.A) : OpR X (compareOp .NotIn) (rInN X.K X.prog X.w true) := by
  intro pins s σ H x y v u Q I rx ry h
  obtain ⟨k, kvs, ⟨p, a, xs, rfl, rfl, e, r, rk, dk⟩, q⟩ := h
  cases rx
  cases ry
  obtain ⟨z, y, m⟩ := dn_at I e r
  refine notIn_keyed (kvs := pairsH xs) (room_n hr) (key_at I rk dk) y ⟨xs, m, rfl⟩ ?_
  rw [valueAt_pairsH, Option.isSome_map, look_some r]
  exact ⟨.bl _, H, I.tok _, rfl, q⟩
def rIxN (K : PySem.W.Frag) (P : Program) (w : World) : R2 := fun x y H Q => ∃ k kvs d, AtN K P w H y x k kvs ∧ lookD kvs k = some d ∧ ∀ v, Rp K H v d → Q v H
theorem ix_n {k : Nat} (hr : Room k X.A) : IxR X (rIxN X.K X.prog X.w) := by
  intro value slice pins s σ H x y v u Q I rx ry h hs
  obtain ⟨k, kvs, d, ⟨p, a, xs, rfl, rfl, e, r, rk, dk⟩, hl, q⟩ := h
  cases rx
  cases ry
  obtain ⟨z, y, m⟩ := dn_at I e r
  have hq := nr_look k r
  rw [hl] at hq
  obtain ⟨pv, hp, w1, rw1, rp1⟩ := hq
  exact tail_any m.typeIs PySem.F.slot_dict_getitem.lookup (wpAny_getItem_heap (room_n hr) (key_at I rk dk) m hp ⟨w1, H, I.tok _, rw1, q w1 rp1⟩) hs
def rSetN (K : PySem.W.Frag) (P : Program) (w : World) : V → V → V → Hp → (Hp → Prop) → Prop := fun o i v H Q => ∃ p a xs k kvs, i = .ref p ∧ o = .ref a ∧ H a = some (DN P w a xs) ∧ NR K H kvs xs ∧ Rp K H (.ref p) k ∧ dep k ≤ 7 ∧ lookD kvs k = none ∧ kvs.length ≤ 900 ∧
  ∀ u, RelV v u → Q (upd H a (DN P w a (xs ++ [(nk k, p, u)])))
theorem set_n {k : Nat} (hr : Room k X.A) : PSet X (rSetN X.K X.prog X.w) := by
  intro pins s σ H o i v ov iv u Q I ro ri rv h
  obtain ⟨p, a, xs, k, kvs, rfl, rfl, e, r, rk, dk, hl, hz, q⟩ := h
  cases ro
  cases ri
  obtain ⟨z, y, m⟩ := dn_at I e r
  have hq := nr_look k r
  rw [hl] at hq
  have hlen := nr_len r
  refine wpAny_setItem_heap (room_n hr) (key_at I rk dk) m (fun h' m' sb => ?_) z
  rw [storedH_new hq] at m'
  refine ⟨_, d_write (t' := s.toks + (nestedKind X.prog X.w).draws (nk k)) I (by rw [e]; exact trivial) sb ?_ (dn_ok ?_ y m'), q u rv⟩
  · obtain ⟨o, _, _, ho, _⟩ := m'
    exact ⟨o, ho⟩
  · rw [List.length_append]
    show xs.length + 1 ≤ sizeLine
    exact len_line (by omega)
end
def eInN (neg : Bool) (f : EF) (i : Nat) : EF := fun ss => match f ss with
  | some (.tup ys) => match slot ss i with
    | some (.dn kvs) => match okd (.tup ys) with
      | true => some (.bl (match neg with | true => !(lookD kvs (.tup ys)).isSome | false => (lookD kvs (.tup ys)).isSome))
      | false => none
    | _ => none
  | _ => none
def eIxN (i : Nat) (f : EF) : EF := fun ss => match f ss with
  | some (.tup ys) => match slot ss i with
    | some (.dn kvs) => match okd (.tup ys) with
      | true => lookD kvs (.tup ys)
      | false => none
    | _ => none
  | _ => none
def sPutN (i : Nat) (fk fv : EF) : SF := fun ss => match fv ss with
  | some d => match fk ss with
    | some (.tup ys) => match slot ss i with
      | some (.dn kvs) => match okd (.tup ys) with
        | true => match newD kvs (.tup ys) d with
          | some kvs' => some (.nx (ss.set i (some (.dn kvs'))))
          | none => none
        | false => none
      | _ => none
    | _ => none
  | none => none
section
variable {X : Cx} {a b e : Expr} {st : Stmt} {pos p : Pos} {f g : EF} {i k : Nat} {x : Str}
theorem slot_dn {K : PySem.W.Frag} {P : Program} {w : World} {H0 H : Hp} {σ : L2.St} {ss : Ss} {i : Nat} {kvs : List (D × D)} (R : SR K P w H0 H σ ss) (h : slot ss i = some (.dn kvs)) : ∃ a xs, σ[i]? = some (some (.ref a)) ∧ H a = some (DN P w a xs) ∧ NR K H kvs xs := by
  obtain ⟨v, e1, r⟩ := R.at_ i _ (slot_at h)
  obtain ⟨a, xs, rfl, _, e2, r2⟩ := r
  exact ⟨a, xs, e1, e2, r2⟩
theorem in_n_core {neg : Bool} {K : PySem.W.Frag} {P : Program} {w : World} (σ : L2.St) (H : Hp) (Q : VK) (h : tD K P w (eInN neg f i) σ H Q) : tOp (rInN K P w neg) (tD K P w f) (tVar i) σ H Q := by
  obtain ⟨H0, ss, d, R, h, q⟩ := h
  unfold eInN at h
  split at h
  · rename_i ys hy
    split at h
    · rename_i kvs hk
      split at h
      · rename_i ho
        cases h
        refine ⟨H0, ss, _, R, hy, fun v H1 g1 r1 => ?_⟩
        obtain ⟨a, xs, e1, e2, r2⟩ := slot_dn (R.grow g1) hk
        obtain ⟨c, _, rfl, _, _⟩ := id r1.tup_of
        exact ⟨_, e1, _, kvs, ⟨c, a, xs, rfl, rfl, e2, r2, r1, okd_le ho⟩, q _ H1 g1 (Rp.bl _)⟩
      · cases h
    · cases h
  · cases h
theorem cj_in_n (hr : Room k X.A) (ha : EJ X a f) (hb : PE X (.Name x p) (tVar i)) : CJ X .In a (.Name x p) (eInN false f i) := PCimp (pc_op (op_in_n hr) ha hb) in_n_core
theorem cj_notin_n (hr : Room k X.A) (ha : EJ X a f) (hb : PE X (.Name x p) (tVar i)) : CJ X .NotIn a (.Name x p) (eInN true f i) := PCimp (pc_op (op_notin_n hr) ha hb) in_n_core
theorem ej_ix_n (hr : Room k X.A) (hb : PE X (.Name x p) (tVar i)) (ha : EJ X a f) (hs : PlainIx a := by intro _ _; rfl) : EJ X (.Subscript (.Name x p) a pos) (eIxN i f) :=
  PEimp (pe_ix (ix_n hr) hb ha hs) fun σ H Q ⟨H0, ss, d, R, h, q⟩ => by
    unfold eIxN at h
    split at h
    · rename_i ys hy
      split at h
      · rename_i kvs hk
        split at h
        · rename_i ho
          obtain ⟨a, xs, e1, e2, r2⟩ := slot_dn R hk
          refine ⟨_, e1, H0, ss, _, R, hy, fun v H1 g1 r1 => ?_⟩
          obtain ⟨c, _, rfl, _, _⟩ := id r1.tup_of
          exact ⟨_, kvs, d, ⟨c, a, xs, rfl, rfl, g1 _ _ e2, NR.tk (tk_same g1) r2, r1, okd_le ho⟩, h, fun v r => q v H1 g1 r⟩
        · cases h
      · cases h
    · cases h
theorem nr_app {K : PySem.W.Frag} {H : Hp} {kvs : List (D × D)} {xs : List (NestedKey × Addr × Value)} (r : NR K H kvs xs) {kd d : D} {p : Addr} {v : V} {u : Value} (h1 : Rp K H (.ref p) kd) (h2 : dep kd ≤ 7) (h3 : RelV v u) (h4 : Rp K H v d) :
    NR K H (kvs ++ [(kd, d)]) (xs ++ [(nk kd, p, u)]) := paired_app r (.cons ⟨rfl, h1, h2, v, h3, h4⟩ .nil)
/-- d[k] = v, k new -/
theorem sj_put_n (hp : ∀ te ti, PE X e te → PE X a ti → PS X st (tAsg te (gSub (tVar i) ti (rSetN X.K X.prog X.w)))) (he : EJ X e g) (ha : EJ X a f) : SJ X st (sPutN i f g) := PSimp (hp _ _ he ha) fun En σ H ⟨H0, ss, o, R, h, q⟩ => by
  unfold sPutN at h
  split at h
  · rename_i d hd
    split at h
    · rename_i ys hy
      split at h
      · rename_i kvs hk
        split at h
        · rename_i ho
          split at h
          · rename_i kvs' hn
            cases h
            unfold newD at hn
            split at hn
            · rename_i hl
              split at hn
              · rename_i hz
                cases hn
                refine ⟨H0, ss, d, R, hd, fun v H1 g1 r1 => ?_⟩
                have R1 := R.grow g1
                obtain ⟨a1, xs, e1, _, _⟩ := slot_dn R1 hk
                refine ⟨_, e1, H0, ss, _, R1, hy, fun kv H2 g2 r2 => ?_⟩
                have R2 := R1.grow g2
                obtain ⟨a2, xs, e1', e2, nr⟩ := slot_dn R2 hk
                rw [e1] at e1'
                cases e1'
                obtain ⟨c, _, rfl, _, _⟩ := id r2.tup_of
                refine ⟨c, a1, xs, _, kvs, rfl, rfl, e2, nr, r2, okd_le ho, hl, Nat.le_of_ble_eq_true hz, fun u ru => q σ _ ?_⟩
                have t := tk_upd (u := DN X.prog X.w a1 (xs ++ [(nk (.tup ys), c, u)])) e2 trivial
                refine R2.write (slot_at hk) rfl e1 e2 trivial ?_ rfl
                obtain ⟨v0, e3, b, xs0, ev, n0, _⟩ := R2.at_ i _ (slot_at hk)
                rw [e1] at e3
                cases e3
                cases ev
                exact ⟨a1, _, rfl, n0, upd_same, NR.tk t (nr_app nr r2 (okd_le ho) ru (r1.same g2))⟩
              · cases hn
            · cases hn
          · cases h
        · cases h
      · cases h
    · cases h
  · cases h
end

/-! ### dicts with int and text keys -/
def keyOk (k : D) : Bool := match k with
  | .int _ => true
  | .str _ => true
  | _ => false
theorem keyOk_some {k : D} (h : keyOk k = true) : ∃ key, flatKey k = some key := by
  cases k with
  | int i => exact ⟨_, rfl⟩
  | str x => exact ⟨_, rfl⟩
  | _ => cases h
def eInK (neg : Bool) (f : EF) (i : Nat) : EF := fun ss => match f ss with
  | some k => match slot ss i with
    | some (.dk kvs) => match keyOk k with
      | true => some (.bl (match neg with | true => !(lookD kvs k).isSome | false => (lookD kvs k).isSome))
      | false => none
    | _ => none
  | _ => none
def eIxK (i : Nat) (f : EF) : EF := fun ss => match f ss with
  | some k => match slot ss i with
    | some (.dk kvs) => match keyOk k with
      | true => lookD kvs k
      | false => none
    | _ => none
  | _ => none
def sPutK (i : Nat) (fk fv : EF) : SF := fun ss => match fv ss with
  | some d => match fk ss with
    | some k => match slot ss i with
      | some (.dk kvs) => match keyOk k with
        | true => match newD kvs k d with
          | some kvs' => some (.nx (ss.set i (some (.dk kvs'))))
          | none => none
        | false => none
      | _ => none
    | _ => none
  | none => none
/-- d.setdefault(k, v) as a statement -/
def sSetdK (i : Nat) (fk fv : EF) : SF := fun ss => match fk ss with
  | some k => match fv ss with
    | some d => match slot ss i with
      | some (.dk kvs) => match keyOk k && Nat.ble kvs.length 900 with
        | true => match lookD kvs k with
          | some _ => some (.nx ss)
          | none => some (.nx (ss.set i (some (.dk (kvs ++ [(k, d)])))))
        | false => none
      | _ => none
    | _ => none
  | none => none
def dropD : List (D × D) → D → List (D × D)
  | [], _ => []
  | (a, d) :: r, k => match eqb a k with
    | true => dropD r k
    | false => (a, d) :: dropD r k
/-- j = d.pop(k) -/
def sPopK (j i : Nat) (fk : EF) : SF := fun ss => match fk ss with
  | some k => match slot ss i with
    | some (.dk kvs) => match keyOk k with
      | true => match lookD kvs k with
        | some d => some (.nx ((ss.set i (some (.dk (dropD kvs k)))).set j (some (.d d))))
        | none => none
      | false => none
    | _ => none
  | none => none
section
variable {X : Cx} {a b e : Expr} {st : Stmt} {pos p : Pos} {f g : EF} {i j k : Nat} {x : Str}
theorem slot_dk {K : PySem.W.Frag} {P : Program} {w : World} {H0 H : Hp} {σ : L2.St} {ss : Ss} {i : Nat} {kvs : List (D × D)} (R : SR K P w H0 H σ ss) (h : slot ss i = some (.dk kvs)) : ∃ a xs, σ[i]? = some (some (.ref a)) ∧ H0 a = none ∧ H a = some (.dK xs) ∧ KR K H kvs xs := by
  obtain ⟨v, e1, r⟩ := R.at_ i _ (slot_at h)
  obtain ⟨a, xs, rfl, e0, e2, r2⟩ := r
  exact ⟨a, xs, e1, e0, e2, r2⟩
theorem kr_some {K : PySem.W.Frag} {H : Hp} {k : D} {key : Key} {kvs : List (D × D)} {xs : List (Key × V)} (hk : flatKey k = some key) (r : KR K H kvs xs) : (valV xs key).isSome = (lookD kvs k).isSome := by
  have q := kr_look hk r
  cases e : lookD kvs k with
  | none =>
    rw [e] at q
    rw [q]
    rfl
  | some d =>
    rw [e] at q
    obtain ⟨p, hp, _⟩ := q
    rw [hp]
    rfl
theorem cj_in_k (hr : Room k X.A) (ha : EJ X a f) (hb : PE X (.Name x p) (tVar i)) : CJ X .In a (.Name x p) (eInK false f i) := PCimp (pc_din (hu_of hr) ha hb) fun σ H Q ⟨H0, ss, d, R, h, q⟩ => by
  unfold eInK at h
  split at h
  · rename_i kd hy
    split at h
    · rename_i kvs hk
      split at h
      · rename_i ho
        cases h
        refine ⟨H0, ss, _, R, hy, fun v H1 g1 r1 => ?_⟩
        obtain ⟨a, xs, e1, _, e2, r2⟩ := slot_dk (R.grow g1) hk
        obtain ⟨key, hkey⟩ := keyOk_some ho
        refine ⟨_, e1, a, valV xs key, rfl, ?_, ?_⟩
        · rw [flat_kv hkey r1]
          exact DGet.k e2
        · rw [kr_some hkey r2]
          exact q _ H1 g1 (Rp.bl _)
      · cases h
    · cases h
  · cases h
theorem cj_notin_k (hr : Room k X.A) (ha : EJ X a f) (hb : PE X (.Name x p) (tVar i)) : CJ X .NotIn a (.Name x p) (eInK true f i) := PCimp (pc_dnotin (hu_of hr) ha hb) fun σ H Q ⟨H0, ss, d, R, h, q⟩ => by
  unfold eInK at h
  split at h
  · rename_i kd hy
    split at h
    · rename_i kvs hk
      split at h
      · rename_i ho
        cases h
        refine ⟨H0, ss, _, R, hy, fun v H1 g1 r1 => ?_⟩
        obtain ⟨a, xs, e1, _, e2, r2⟩ := slot_dk (R.grow g1) hk
        obtain ⟨key, hkey⟩ := keyOk_some ho
        refine ⟨_, e1, a, valV xs key, rfl, ?_, ?_⟩
        · rw [flat_kv hkey r1]
          exact DGet.k e2
        · rw [kr_some hkey r2]
          exact q _ H1 g1 (Rp.bl _)
      · cases h
    · cases h
  · cases h
theorem ej_ix_k (hr : Room k X.A) (hb : PE X (.Name x p) (tVar i)) (ha : EJ X a f) (hs : NoSl a := by intro _ _; rfl) : EJ X (.Subscript (.Name x p) a pos) (eIxK i f) :=
  PEimp (pe_dget (hu_of hr) hb ha hs) fun σ H Q ⟨H0, ss, d, R, h, q⟩ => by
    unfold eIxK at h
    split at h
    · rename_i kd hy
      split at h
      · rename_i kvs hk
        split at h
        · rename_i ho
          obtain ⟨a, xs, e1, _, e2, r2⟩ := slot_dk R hk
          obtain ⟨key, hkey⟩ := keyOk_some ho
          refine ⟨_, e1, H0, ss, _, R, hy, fun v H1 g1 r1 => ?_⟩
          have hl := kr_look hkey r2
          rw [h] at hl
          obtain ⟨v2, hv, rv⟩ := hl
          refine ⟨a, v2, rfl, ?_, q v2 H1 g1 (rv.same g1)⟩
          rw [flat_kv hkey r1, ← hv]
          exact DGet.k (g1 _ _ e2)
        · cases h
      · cases h
    · cases h
theorem kr_app {K : PySem.W.Frag} {H : Hp} {kvs : List (D × D)} {xs : List (Key × V)} (r : KR K H kvs xs) {kd d : D} {key : Key} {v : V} (h1 : flatKey kd = some key) (h4 : Rp K H v d) : KR K H (kvs ++ [(kd, d)]) (xs ++ [(key, v)]) := paired_app r (.cons ⟨h1, h4⟩ .nil)
theorem sj_put_k (hp : ∀ te ti, PE X e te → PE X a ti → PS X st (sDPut (tVar i) ti te)) (he : EJ X e g) (ha : EJ X a f) : SJ X st (sPutK i f g) := PSimp (hp _ _ he ha) fun En σ H ⟨H0, ss, o, R, h, q⟩ => by
  unfold sPutK at h
  split at h
  · rename_i d hd
    split at h
    · rename_i kd hy
      split at h
      · rename_i kvs hk
        split at h
        · rename_i ho
          split at h
          · rename_i kvs' hn
            cases h
            obtain ⟨key, hkey⟩ := keyOk_some ho
            unfold newD at hn
            split at hn
            · rename_i hl
              split at hn
              · rename_i hz
                cases hn
                have hz := Nat.le_of_ble_eq_true hz
                refine ⟨H0, ss, d, R, hd, fun v H1 g1 r1 => ?_⟩
                have R1 := R.grow g1
                obtain ⟨a1, xs, e1, n0, e2, kr⟩ := slot_dk R1 hk
                refine ⟨_, e1, H0, ss, _, R1, hy, fun kv H2 g2 r2 => ?_⟩
                have R2 := R1.grow g2
                have e3 := g2 _ _ e2
                have kr := KR.tk (tk_same g2) kr
                have hlen := kr_len kr
                have hv : valV xs key = none := by
                  have z := kr_look hkey kr
                  rw [hl] at z
                  exact z
                refine ⟨a1, upd H2 a1 (.dK (xs ++ [(key, v)])), rfl, ?_, q σ _ ?_⟩
                · rw [flat_kv hkey r2, ← putK_new v hv]
                  exact DPut.k e3 (small1000 (by omega))
                · have t := tk_upd (u := .dK (xs ++ [(key, v)])) e3 trivial
                  exact R2.write (slot_at hk) rfl e1 e3 trivial ⟨a1, _, rfl, n0, upd_same, KR.tk t (kr_app kr hkey (r1.same g2))⟩ rfl
              · cases hn
            · cases hn
          · cases h
        · cases h
      · cases h
    · cases h
  · cases h
theorem sj_setd_k (hp : ∀ ty tx, PE X a ty → PE X e tx → PS X st (tDrop (tDSetd (tVar i) ty tx))) (ha : EJ X a f) (he : EJ X e g) : SJ X st (sSetdK i f g) := PSimp (hp _ _ ha he) fun En σ H ⟨H0, ss, o, R, h, q⟩ => by
  unfold sSetdK at h
  split at h
  · rename_i kd hy
    split at h
    · rename_i d hd
      split at h
      · rename_i kvs hk
        split at h
        · rename_i ho
          obtain ⟨ho, hz⟩ := two_ok ho
          have hz := Nat.le_of_ble_eq_true hz
          obtain ⟨key, hkey⟩ := keyOk_some ho
          obtain ⟨a1, xs, e1, n0, e2, kr⟩ := slot_dk R hk
          refine ⟨_, e1, a1, rfl, .inl ⟨xs, .inl e2⟩, H0, ss, _, R, hy, fun kv H1 g1 r1 => ⟨H0, ss, _, R.grow g1, hd, fun v H2 g2 r2 => ?_⟩⟩
          have g := g1.trans g2
          have R2 := R.grow g
          have e3 := g _ _ e2
          have kr := KR.tk (tk_same g) kr
          have hlen := kr_len kr
          have z := kr_look hkey kr
          split at h
          · rename_i d0 hl
            cases h
            rw [hl] at z
            obtain ⟨v0, hv0, _⟩ := z
            refine ⟨xs, key, e3, flat_kv hkey r1, small1000 (by omega), fun v' hv' => q σ H2 R2, fun hn => ?_⟩
            rw [hv0] at hn
            cases hn
          · rename_i hl
            cases h
            rw [hl] at z
            have z : valV xs key = none := z
            refine ⟨xs, key, e3, flat_kv hkey r1, small1000 (by omega), fun v' hv' => ?_, fun hn => q σ _ ?_⟩
            · rw [z] at hv'
              cases hv'
            · rw [putK_new v z]
              have t := tk_upd (u := .dK (xs ++ [(key, v)])) e3 trivial
              exact R2.write (slot_at hk) rfl e1 e3 trivial ⟨a1, _, rfl, n0, upd_same, KR.tk t (kr_app kr hkey r2)⟩ rfl
        · cases h
      · cases h
    · cases h
  · cases h
theorem kr_drop {K : PySem.W.Frag} {H : Hp} {k : D} {key : Key} (hk : flatKey k = some key) : ∀ {kvs : List (D × D)} {xs : List (Key × V)}, KR K H kvs xs → KR K H (dropD kvs k) (dropK xs key)
  | _, _, .nil => .nil
  | (a, d) :: kvs, x :: xs, .cons ⟨h1, h2⟩ t => by
    have ih := kr_drop hk t
    have e : decide (x.1 = key) = eqb a k := flat_dec h1 hk
    unfold dropD
    cases q : eqb a k with
    | true =>
      rw [q] at e
      have e2 : dropK (x :: xs) key = dropK xs key := by
        unfold dropK
        rw [List.filter_cons_of_neg]
        simpa using of_decide_eq_true e
      rw [e2]
      exact ih
    | false =>
      rw [q] at e
      have e2 : dropK (x :: xs) key = x :: dropK xs key := by
        unfold dropK
        rw [List.filter_cons_of_pos]
        simpa using of_decide_eq_false e
      rw [e2]
      exact .cons ⟨h1, h2⟩ ih
theorem sj_pop_k (hij : j ≠ i) (hp : ∀ ty, PE X a ty → PS X st (tAsg (tDPop1 (tVar i) ty) (gName j))) (ha : EJ X a f) : SJ X st (sPopK j i f) := PSimp (hp _ ha) fun En σ H ⟨H0, ss, o, R, h, q⟩ => by
  unfold sPopK at h
  split at h
  · rename_i kd hy
    split at h
    · rename_i kvs hk
      split at h
      · rename_i ho
        split at h
        · rename_i d hl
          cases h
          obtain ⟨key, hkey⟩ := keyOk_some ho
          obtain ⟨a1, xs, e1, n0, e2, kr⟩ := slot_dk R hk
          refine ⟨_, e1, a1, rfl, .inl ⟨xs, .inl e2⟩, H0, ss, _, R, hy, fun kv H1 g1 r1 => ?_⟩
          have R1 := R.grow g1
          have e3 := g1 _ _ e2
          have kr := KR.tk (tk_same g1) kr
          have z := kr_look hkey kr
          rw [hl] at z
          obtain ⟨v, hv, rv⟩ := z
          refine ⟨xs, key, v, e3, flat_kv hkey r1, hv, q _ _ ?_⟩
          have t := tk_upd (u := .dK (dropK xs key)) e3 trivial
          have R2 := R1.write (slot_at hk) rfl e1 e3 trivial (sv' := .dk (dropD kvs kd)) ⟨a1, _, rfl, n0, upd_same, KR.tk t (kr_drop hkey kr)⟩ rfl
          exact R2.setD (rv.tk t)
        · cases h
      · cases h
    · cases h
  · cases h
end
end Wf

namespace Wf
open PySem PySem.Spec PyProof.Rows L2

/-! ### a tuple times a small number -/
theorem tup_once (l : Addr) (items : Array Value) (n : Nat) (dd : Option Addr) (sl : Array (Option Value)) (u : Tok) :
    Meets (Builtin.«tuple.__mul__» ⟨[.ref l, .int 1 u], []⟩) (fun _ R s => s.heap.get? l = some { cls := .type "tuple", dict := dd, data := .seq items n, slots := sl } ∧ R (.ok (.ret (Value.ref l))) s) :=
  .of_wp fun prog w A R s ⟨hl, h⟩ => by
    obtain ⟨hp, g, d, tk, os⟩ := s
    have f1 := AutoSeq1.idx_int
    wp_walk using wpAny_loadPart' hl
    exact ⟨_, rfl, h⟩
theorem tup_not (l : Addr) (items : Array Value) (n : Nat) (dd : Option Addr) (sl : Array (Option Value)) (u : Tok) (h0 : items.isEmpty = false) :
    Meets (Builtin.«tuple.__mul__» ⟨[.ref l, .int 0 u], []⟩) (fun _ R s => s.heap.get? l = some { cls := .type "tuple", dict := dd, data := .seq items n, slots := sl } ∧ R (.ok (.ret (Value.ref s.heap.objs.size))) { s with heap := s.heap.push { cls := Value.type "tuple", data := Data.seq #[] } }) :=
  .of_wp fun prog w A R s ⟨hl, h⟩ => by
    obtain ⟨hp, g, d, tk, os⟩ := s
    have f1 := AutoSeq1.idx_int
    wp_walk using wpAny_loadPart' hl
    exact ⟨_, rfl, h⟩
def rRep3 (K : PySem.W.Frag) : R2 := fun x y H Q => ∃ l xs, x = .ref l ∧ SqT K H l xs ∧ xs ≠ [] ∧ xs.length ≤ 1000 ∧
  ((y = .int 0 ∧ ∀ p, H p = none → Q (.ref p) (upd H p (.tup []))) ∨ (y = .int 1 ∧ Q (.ref l) H) ∨ ∃ k : Int, y = .int k ∧ 2 ≤ k ∧ k ≤ 1000 ∧ ∀ p, H p = none → Q (.ref p) (upd H p (.tup (List.replicate k.toNat xs).flatten)))
section
variable {X : Cx}
theorem op_rep3 : OpR X (binaryOp .Mult) (rRep3 X.K) := by
  intro pins s σ H x y v u Q I rx ry h
  obtain ⟨l, xs, rfl, hT, hne, hz, h⟩ := h
  rcases h with ⟨rfl, q⟩ | ⟨rfl, q⟩ | ⟨k, rfl, h1, h2, q⟩
  · cases rx
    obtain ⟨t, rfl⟩ := ry
    obtain ⟨its, r, ⟨⟨cls, dd, data, sl⟩, ho, hc, n, hd⟩, hs⟩ := I.tuple hT
    simp only at hc hd
    subst hc hd
    have h0 : its.toArray.isEmpty = false := by
      cases r with
      | nil => exact absurd rfl hne
      | cons a b => rfl
    refine wpAny_binaryOp_repeat_ref (T := "tuple") (U := "int") (by decide) ⟨_, ho, rfl⟩ (fun s' => typeIs_int s' 0 t) noFill_tuple_mul F.fills_int_mul F.slot_int_rmul repeat_tuple F.slot_int_index.lookup
      (call_meets F.slot_int_rmul (typeIs_int s 0 t) F.entry_int_rmul (F.args_int_rmul_2 _ _) (int_rmul_tuple 0 t l its.toArray n dd sl) ⟨ho, rfl, ⟨_, ho, rfl⟩, ?_⟩)
    refine call_meets F.slot_tuple_mul ⟨_, ho, rfl⟩ F.entry_tuple_mul (F.args_tuple_mul_2 _ _) (tup_not l its.toArray n dd sl t h0) ⟨ho, ?_⟩
    exact ⟨.ref s.heap.objs.size, _, I.laid (t' := s.toks) (o := .tup []) (fun b ob z => Heap.get?_push_of_some _ z) (Nat.le_refl _) ⟨Nat.zero_le _, [], .nil, IsTup.new _ _⟩, rfl, q _ (I.hok.fresh (Nat.le_refl _))⟩
  · cases rx
    obtain ⟨t, rfl⟩ := ry
    obtain ⟨its, r, ⟨⟨cls, dd, data, sl⟩, ho, hc, n, hd⟩, hs⟩ := I.tuple hT
    simp only at hc hd
    subst hc hd
    refine wpAny_binaryOp_repeat_ref (T := "tuple") (U := "int") (by decide) ⟨_, ho, rfl⟩ (fun s' => typeIs_int s' 1 t) noFill_tuple_mul F.fills_int_mul F.slot_int_rmul repeat_tuple F.slot_int_index.lookup
      (call_meets F.slot_int_rmul (typeIs_int s 1 t) F.entry_int_rmul (F.args_int_rmul_2 _ _) (int_rmul_tuple 1 t l its.toArray n dd sl) ⟨ho, rfl, ⟨_, ho, rfl⟩, ?_⟩)
    refine call_meets F.slot_tuple_mul ⟨_, ho, rfl⟩ F.entry_tuple_mul (F.args_tuple_mul_2 _ _) (tup_once l its.toArray n dd sl t) ⟨ho, ?_⟩
    exact ⟨.ref l, H, I, rfl, q⟩
  · exact op_repT pins s σ H _ _ v u Q I rx ry ⟨l, k, xs, rfl, rfl, hT, hne, h1, h2, hz, q⟩
theorem ej_rep {a b : Expr} {pos : Pos} {f g : EF} (ha : EJ X a f) (hb : EJ X b g) : EJ X (.BinOp a .Mult b pos) (eRep f g) :=
  PEimp (pe_op op_rep3 ha hb) fun σ H Q ⟨H0, ss, d, R, e, q⟩ => by
    unfold eRep at e
    split at e
    · rename_i xs hx
      split at e
      · rename_i n hn
        split at e
        · rename_i hl
          cases e
          obtain ⟨hl, l3⟩ := two_ok hl
          obtain ⟨l1, l2⟩ := two_ok hl
          have l1 := Nat.le_of_ble_eq_true l1
          have l2 := Nat.le_of_ble_eq_true l2
          have l3 := Nat.le_of_ble_eq_true l3
          refine ⟨H0, ss, _, R, hx, fun v H1 g1 r1 => ⟨H0, ss, _, R.grow g1, hn, fun u H2 g2 r2 => ?_⟩⟩
          obtain ⟨a1, vs, rfl, h1, h2⟩ := (r1.same g2).tup_of
          have hlen := h2.length
          refine ⟨a1, vs, rfl, h1, fun e1 => ?_, by omega, ?_⟩
          · rw [e1] at hlen
            have : xs.length = 0 := hlen.symm
            omega
          · have hu := r2.int_of
            by_cases n0 : n = 0
            · subst n0
              exact .inl ⟨hu, fun p hp => q _ _ ((g1.trans g2).trans (same_new hp)) (Rp.tup (.inl (.inl upd_same)) RpL.nil)⟩
            · by_cases n1 : n = 1
              · subst n1
                refine .inr (.inl ⟨hu, ?_⟩)
                have q2 := q (.ref a1) H2 (g1.trans g2)
                rw [List.replicate_one, List.flatten_singleton] at q2
                exact q2 (r1.same g2)
              · refine .inr (.inr ⟨(n : Int), hu, by omega, by omega, fun p hp => ?_⟩)
                exact q _ _ ((g1.trans g2).trans (same_new hp)) (Rp.tup (.inl (.inl upd_same)) (RpL.same (same_new hp) (RpL.rep h2)))
        · cases e
      · cases e
    · cases e
end

/-! ### a, .., *r = a tuple, a list -/
section
variable {X : Cx} {pins : List (Addr × Obj)} {σ : L2.St} {H : Hp} {s : Shared} {t : Addr} {vs : List V} {its : List Value} {E : Value → Shared → Prop}
/-- the end of both: the rest's new list -/
theorem star_end (I : Inv X pins σ H s) (rv : Vals vs its) (i : Nat) (hi : i ≤ vs.length) (hz : vs.length ≤ 1000) {h' : Heap} {tk : Nat} (k : ∀ b o, s.heap.get? b = some o → h'.get? b = some o) {Q : List Value → Shared → Prop}
    (q : ∀ p s', H p = none → Inv X pins σ (upd H p (.lst (vs.drop i))) s' → Q (its.take i ++ [.ref p]) s') :
    wpAny (model X.prog X.w) X.A (newList ((its.drop i).take ((its.drop i).length - (i + 1 - 1 - i))) >>= fun d => pure (its.take i ++ [d] ++ (its.drop i).drop ((its.drop i).length - (i + 1 - 1 - i)))) Q E { s with heap := h', toks := tk } := by
  have e0 : (its.drop i).length - (i + 1 - 1 - i) = (its.drop i).length := by omega
  rw [e0, List.take_length, List.drop_length]
  have hl := rv.length
  refine wpAny_bind (wpAny_newList (wpAny_pure ?_) (by rw [List.length_drop]; exact len_line (by omega)))
  rw [List.append_nil]
  have I1 : Inv X pins σ H { s with heap := h', toks := tk } := I.kept k
  have hn : H h'.objs.size = none := I1.hok.fresh (Nat.le_refl _)
  refine q h'.objs.size _ hn (I1.laid (t' := tk) (fun b o z => Heap.get?_push_of_some _ z) (Nat.le_refl _) ⟨?_, its.drop i, 0, rv.drop i, Heap.get?_push_size _ rfl⟩)
  rw [List.length_drop]
  exact len_line (by omega)
theorem star_tup (I : Inv X pins σ H s) (hc : X.calm = true) (ht : IsTup s.heap t its.toArray) (rv : Vals vs its) (i : Nat) (hi : i ≤ vs.length) (hz : vs.length ≤ 1000) {Q : List Value → Shared → Prop}
    (q : ∀ p s', H p = none → Inv X pins σ (upd H p (.lst (vs.drop i))) s' → Q (its.take i ++ [.ref p]) s') : wpAny (model X.prog X.w) X.A (unpackItems (.ref t) (i + 1) (some i)) Q E s := by
  have hl := rv.length
  have hsz : its.toArray.size = its.length := List.size_toArray
  have hne : t ≠ s.heap.objs.size := by
    obtain ⟨o, ho, _⟩ := ht
    exact Nat.ne_of_lt (Heap.lt_size ho)
  unfold unpackItems
  refine wpAny_bind ?_
  unfold notIterableAtAll
  refine wpAny_bind (wpAny_specialOf ht.typeIs slot_tuple_iter.lookup (wpAny_pure ?_))
  simp only [Bool.false_eq_true, if_false]
  refine wpAny_bind (wpAny_holding (iter_tuple ht (wpAny_bind (wpAny_holding ?_))))
  refine draw_tuple hne i 0 _ _ ⟨_, Heap.get?_push_size _ rfl, rfl, rfl⟩ (ht.push _) (by omega) fun h1 it1 sb1 => ?_
  rw [Nat.zero_add] at it1
  have ht1 : IsTup h1 t its.toArray := (ht.push _).extBut sb1.extBut hne
  obtain ⟨oi, hoi, _⟩ := id it1
  obtain ⟨ot, hot, _⟩ := id ht1
  rw [List.drop_zero]
  have hfl : (its.take i).length = i := by
    rw [List.length_take]
    omega
  rw [if_neg (show ¬ ((its.take i).length < i) by omega)]
  refine wpAny_bind (wpAny_holding ?_)
  refine PySem.W.kun_collect (s := { s with heap := h1 }) (T := "tuple_iterator") (.inr (.inr (.inr rfl))) (Walks.tuple (A := X.A.in1) (I.ok.hd hc) s.heap.objs.size t hne its.toArray) (fun j u st => st.1.typeIs) (k := i) (by omega) ⟨it1, ht1⟩ (Heap.lt_size hoi) (Heap.lt_size hot) (fun h2 tk k2 => ?_) (by rw [hsz]; exact len_line (by omega))
  show wpAny _ _ (if (its.drop i).length < i + 1 - 1 - i then _ else _) _ _ _
  rw [if_neg (by omega)]
  refine star_end I rv i hi hz (fun b o e => ?_) q
  exact k2 b o (Nat.ne_of_lt (Heap.lt_size e)) (sb1.extBut b o (Nat.ne_of_lt (Heap.lt_size e)) (Heap.get?_push_of_some _ e))
theorem star_lst (I : Inv X pins σ H s) (hc : X.calm = true) (ht : s.heap.IsList t its.toArray) (rv : Vals vs its) (i : Nat) (hi : i ≤ vs.length) (hz : vs.length ≤ 1000) {Q : List Value → Shared → Prop}
    (q : ∀ p s', H p = none → Inv X pins σ (upd H p (.lst (vs.drop i))) s' → Q (its.take i ++ [.ref p]) s') : wpAny (model X.prog X.w) X.A (unpackItems (.ref t) (i + 1) (some i)) Q E s := by
  have hl := rv.length
  have hsz : its.toArray.size = its.length := List.size_toArray
  have hne : t ≠ s.heap.objs.size := by
    obtain ⟨o, ho, _⟩ := ht
    exact Nat.ne_of_lt (Heap.lt_size ho)
  unfold unpackItems
  refine wpAny_bind ?_
  unfold notIterableAtAll
  refine wpAny_bind (wpAny_specialOf ht.typeIs slot_list_iter.lookup (wpAny_pure ?_))
  simp only [Bool.false_eq_true, if_false]
  refine wpAny_bind (wpAny_holding (wpAny_pyIter_list ht (wpAny_bind (wpAny_holding ?_))))
  refine PySem.W.kun_draw hne i 0 _ _ ⟨_, Heap.get?_push_size _ rfl, rfl, rfl⟩ (ht.push _) (by omega) fun h1 it1 sb1 => ?_
  rw [Nat.zero_add] at it1
  have ht1 : h1.IsList t its.toArray := (ht.push _).extBut sb1.extBut hne
  obtain ⟨oi, hoi, _⟩ := id it1
  obtain ⟨ot, hot, _⟩ := id ht1
  rw [List.drop_zero]
  have hfl : (its.take i).length = i := by
    rw [List.length_take]
    omega
  rw [if_neg (show ¬ ((its.take i).length < i) by omega)]
  refine wpAny_bind (wpAny_holding ?_)
  refine PySem.W.kun_collect (s := { s with heap := h1 }) (T := "list_iterator") (.inr (.inr (.inl rfl))) (Walks.list (A := X.A.in1) (I.ok.hd hc) s.heap.objs.size t hne its.toArray) (fun j u st => st.1.typeIs) (k := i) (by omega) ⟨it1, ht1⟩ (Heap.lt_size hoi) (Heap.lt_size hot) (fun h2 tk k2 => ?_) (by rw [hsz]; exact len_line (by omega))
  show wpAny _ _ (if (its.drop i).length < i + 1 - 1 - i then _ else _) _ _ _
  rw [if_neg (by omega)]
  refine star_end I rv i hi hz (fun b o e => ?_) q
  exact k2 b o (Nat.ne_of_lt (Heap.lt_size e)) (sb1.extBut b o (Nat.ne_of_lt (Heap.lt_size e)) (Heap.get?_push_of_some _ e))
end
def gStar (K : PySem.W.Frag) (i : Nat) (t : TGs) : TG := fun v σ H Q => ∃ a vs, v = .ref a ∧ (SqT K H a vs ∨ SqL K H a vs) ∧ i ≤ vs.length ∧ vs.length ≤ 1000 ∧ ∀ p, H p = none → t (vs.take i ++ [.ref p]) σ (upd H p (.lst (vs.drop i))) Q
section
variable {X : Cx} {es es' : List Expr} {e : Expr} {pos pos' : Pos} {f : EF} {fs : LF}
theorem pg_star {i k : Nat} {t : TGs} (hc : X.calm = true) (h : PGs X es' t) (heq : (assignEach es X.env).map (·.2) = (assignEach es' X.env).map (·.2) := by rfl) (hl : (assignEach es X.env).length = i + 1 := by rfl) (hst : (assignEach es X.env).findIdx? (·.1) = some i := by rfl) :
    PG X (.Tuple es k pos) (gStar X.K i t) := by
  refine ⟨fun pins s σ H v u Q I r hw => ?_⟩
  obtain ⟨a, vs, rfl, hq, hi, hz, hw⟩ := hw
  cases r
  rw [PyProof.Rows.assign_Tuple]
  refine wpAny_bind (wpAny_standAt ?_)
  unfold unpack
  rw [hl, hst, heq]
  have fin : ∀ (its : List Value), Vals vs its → ∀ p s', H p = none → Inv X pins σ (upd H p (.lst (vs.drop i))) s' → wpAny (model X.prog X.w) X.A (assignInOrder ((assignEach es' X.env).map (·.2)) (its.take i ++ [.ref p])) (fun _ s' => ∃ σ' H', Inv X pins σ' H' s' ∧ Q σ' H') X.xe s' := fun its rv p s' hp I' =>
    h.run pins s' σ _ _ _ Q I' (Vals.append (Vals.take i rv) (.cons (show RelV (V.ref p) (Value.ref p) from rfl) .nil)) (hw p hp)
  rcases hq with hq | hq
  · obtain ⟨its, rv, ht, _⟩ := I.tuple hq
    exact wpAny_bind (wpAny_holding (star_tup I hc ht rv i hi hz (fin its rv)))
  · obtain ⟨its, rv, pl, _⟩ := I.list hq
    exact wpAny_bind (wpAny_holding (star_lst I hc pl.isList rv i hi hz (fin its rv)))
theorem names_star {K : PySem.W.Frag} {P : Program} {w : World} {H0 Hb H : Hp} {p : Addr} {ws : List V} {ys : List D} {r : Nat} (hp : Hb p = none) (g : Same Hb H) (hl : H p = some (.lst ws)) (rl : RpL K H ws ys) : ∀ {is : List Nat} {xs : List D} {vs : List V} {σ : L2.St} {ss s1 : Ss} {Q : L2.St → Hp → Prop},
    SR K P w H0 Hb σ ss → RpL K Hb vs xs → setAll is xs ss = some s1 → (∀ σ', SR K P w H0 H σ' (s1.set r (some (.l ys))) → Q σ' H) → gNames (is ++ [r]) (vs ++ [.ref p]) σ H Q
  | [], [], vs, σ, ss, s1, Q, R, rr, e, q => by
    cases e
    rw [rr.unnil]
    refine ⟨_, _, rfl, rfl, q _ ?_⟩
    exact (R.grow g).setO ⟨p, ws, rfl, R.same.free hp, hl, rl⟩ fun j hj => R.no_own hp j hj
  | i :: is, x :: xs, vs, σ, ss, s1, Q, R, rr, e, q => by
    obtain ⟨v, t, rfl, h1, h2⟩ := rr.uncons
    refine ⟨v, t ++ [.ref p], rfl, ?_⟩
    exact (show gNames (is ++ [r]) (t ++ [.ref p]) (σ.set i (some v)) H Q from names_star hp g hl rl (R.setD h1) h2 e q)
  | [], _ :: _, _, _, _, _, _, _, _, e, _ => by cases e
  | _ :: _, [], _, _, _, _, _, _, _, e, _ => by cases e
def starGo (is : List Nat) (r : Nat) (xs : List D) (ss : Ss) : Option Out := match Nat.ble is.length xs.length && Nat.ble xs.length 900 with
  | true => match setAll is (xs.take is.length) ss with
    | some s1 => some (.nx (s1.set r (some (.l (xs.drop is.length)))))
    | none => none
  | false => none
def sStar (is : List Nat) (r : Nat) (f : EF) : SF := fun ss => match f ss with
  | some (.tup xs) => starGo is r xs ss
  | _ => none
def sStarL (is : List Nat) (r : Nat) (f : LF) : SF := fun ss => match f ss with
  | some xs => starGo is r xs ss
  | none => none
theorem star_core {K : PySem.W.Frag} {P : Program} {w : World} {H0 H1 : Hp} {En : Ends} {σ : L2.St} {ss : Ss} {o : Out} {is : List Nat} {r n : Nat} {a : Addr} {vs : List V} {xs : List D} (hn : is.length = n) (R : SR K P w H0 H1 σ ss) (h : starGo is r xs ss = some o) (hq : SqT K H1 a vs ∨ SqL K H1 a vs) (rx : RpL K H1 vs xs)
    (q : PostO K P w H0 En o) : gStar K n (gNames (is ++ [r])) (.ref a) σ H1 En.nx := by
  subst hn
  unfold starGo at h
  split at h
  · rename_i hb
    obtain ⟨l1, l2⟩ := two_ok hb
    have l1 := Nat.le_of_ble_eq_true l1
    have l2 := Nat.le_of_ble_eq_true l2
    split at h
    · rename_i s1 hs
      cases h
      have hl := rx.length
      exact ⟨a, vs, rfl, hq, by omega, by omega, fun p hp => names_star hp (same_new hp) upd_same (RpL.same (same_new hp) (rx.drop _)) R (rx.take _) hs fun σ' R' => q σ' _ R'⟩
    · cases h
  · cases h
theorem sj_star {tg : Expr} {is : List Nat} {r n : Nat} (hg : PG X tg (gStar X.K n (gNames (is ++ [r])))) (he : EJ X e f) (hn : is.length = n := by rfl) (hs : swapsWithSole [tg] e pos.line X.env = pure false := by rfl) (hw : swappedStores [tg] e X.env = pure none := by rfl) (h1 : (assignEach [tg] X.env).map (·.2) = [assign tg X.env] := by rfl) :
    SJ X (.Assign [tg] e pos) (sStar is r f) := PSimp (ps_asg he hg hs hw h1) fun D σ H ⟨H0, ss, o, R, h, q⟩ => by
  unfold sStar at h
  split at h
  · rename_i xs hx
    refine ⟨H0, ss, _, R, hx, fun v H1 g1 r1 => ?_⟩
    obtain ⟨a, vs, rfl, h1, h2⟩ := r1.tup_of
    exact star_core hn (R.grow g1) h (.inl h1) h2 q
  · cases h
theorem sj_starL {tg : Expr} {is : List Nat} {r n : Nat} (hg : PG X tg (gStar X.K n (gNames (is ++ [r])))) (he : LJ X e fs) (hn : is.length = n := by rfl) (hs : swapsWithSole [tg] e pos.line X.env = pure false := by rfl) (hw : swappedStores [tg] e X.env = pure none := by rfl) (h1 : (assignEach [tg] X.env).map (·.2) = [assign tg X.env] := by rfl) :
    SJ X (.Assign [tg] e pos) (sStarL is r fs) := PSimp (ps_asg he hg hs hw h1) fun D σ H ⟨H0, ss, o, R, h, q⟩ => by
  unfold sStarL at h
  split at h
  · rename_i xs hx
    exact ⟨H0, ss, _, R, hx, fun a vs H1 g1 a1 r1 => star_core hn (R.grow g1) h (.inr (.inl (.inl a1))) r1 q⟩
  · cases h
end

/-! ### lists that are written -/
def sAppend (i : Nat) (f : EF) : SF := fun ss => match slot ss i with
  | some (.l xs) => match f ss with
    | some d => match Nat.ble xs.length 900 with
      | true => some (.nx (ss.set i (some (.l (xs ++ [d])))))
      | false => none
    | none => none
  | _ => none
def sPutL (i : Nat) (fi fv : EF) : SF := fun ss => match fv ss with
  | some d => match slot ss i with
    | some (.l xs) => match fi ss with
      | some (.int (.ofNat j)) => match Nat.blt j xs.length with
        | true => some (.nx (ss.set i (some (.l (xs.set j d)))))
        | false => none
      | _ => none
    | _ => none
  | none => none
section
variable {X : Cx} {a e : Expr} {st : Stmt} {f g : EF} {i : Nat}
theorem slot_l {K : PySem.W.Frag} {P : Program} {w : World} {H0 H : Hp} {σ : L2.St} {ss : Ss} {i : Nat} {xs : List D} (R : SR K P w H0 H σ ss) (h : slot ss i = some (.l xs)) : ∃ a vs, σ[i]? = some (some (.ref a)) ∧ H0 a = none ∧ H a = some (.lst vs) ∧ RpL K H vs xs := by
  obtain ⟨v, e1, r⟩ := R.at_ i _ (slot_at h)
  obtain ⟨a, vs, rfl, e0, e2, r2⟩ := r
  exact ⟨a, vs, e1, e0, e2, r2⟩
theorem sj_append (hp : ∀ te, PE X e te → PS X st (tDrop (tBM X.K "list" rAppend (tVar i) (tCons te tNil)))) (he : EJ X e f) : SJ X st (sAppend i f) := PSimp (hp _ he) fun En σ H ⟨H0, ss, o, R, h, q⟩ => by
  unfold sAppend at h
  split at h
  · rename_i xs hx
    split at h
    · rename_i d hd
      split at h
      · rename_i hz
        cases h
        have hz := Nat.le_of_ble_eq_true hz
        obtain ⟨a, vs, e1, n0, e2, rl⟩ := slot_l R hx
        refine ⟨_, e1, .inl ⟨rfl, _, .inl (.inl e2)⟩, H0, ss, _, R, hd, fun v H1 g1 r1 => ?_⟩
        have e3 := g1 _ _ e2
        refine ⟨a, vs, v, rfl, rfl, e3, ?_, q σ _ ?_⟩
        · rw [rl.length]
          exact small1000 (by omega)
        · have t := tk_upd (u := .lst (vs ++ [v])) e3 trivial
          exact (R.grow g1).write (slot_at hx) rfl e1 e3 trivial ⟨a, _, rfl, n0, upd_same, RpL.tk t ((rl.same g1).app (RpL.one r1))⟩ rfl
      · cases h
    · cases h
  · cases h
theorem ix_small {n j : Nat} (h : j < n) : ixN n (j : Int) = some j := by
  unfold ixN
  rw [if_pos (by omega), if_pos (by omega), Int.toNat_natCast]
theorem sj_putL (hp : ∀ te ti, PE X e te → PE X a ti → PS X st (tAsg te (gSub (tVar i) ti rSetL))) (he : EJ X e g) (ha : EJ X a f) : SJ X st (sPutL i f g) := PSimp (hp _ _ he ha) fun En σ H ⟨H0, ss, o, R, h, q⟩ => by
  unfold sPutL at h
  split at h
  · rename_i d hd
    split at h
    · rename_i xs hx
      split at h
      · rename_i j hj
        split at h
        · rename_i hz
          cases h
          have hz : j < xs.length := by
            rw [Nat.blt_eq] at hz
            exact hz
          refine ⟨H0, ss, _, R, hd, fun v H1 g1 r1 => ?_⟩
          have R1 := R.grow g1
          obtain ⟨a, vs, e1, n0, e2, rl⟩ := slot_l R1 hx
          refine ⟨_, e1, H0, ss, _, R1, hj, fun u H2 g2 r2 => ?_⟩
          have e3 := g2 _ _ e2
          refine ⟨a, vs, (j : Int), j, rfl, r2.int_of, e3, ix_small (by rw [rl.length]; exact hz), q σ _ ?_⟩
          have t := tk_upd (u := .lst (vs.set j v)) e3 trivial
          exact (R1.grow g2).write (slot_at hx) rfl e1 e3 trivial ⟨a, _, rfl, n0, upd_same, RpL.tk t (RpL.set j (rl.same g2) (r1.same g2))⟩ rfl
        · cases h
      · cases h
    · cases h
  · cases h
end
end Wf

namespace Wf
open PySem PySem.Spec PyProof.Rows L2

/-! ### a comprehension of any kind: what is made stands at one new address, and each turn puts something into it -/
/-- the turn of such a block -/
def Turns (e target iter : Expr) (ifs : List Expr) (put : Env → Addr → Sem Unit) : Prop := ∀ (it : Value) (A : Addr) (env : Env), compTurn e 0 it (.ref A) env = (do
  standAt iter.pos
  match ← pyNext it with
  | none => pure (.done .next)
  | some v =>
    letOwnedTupleGo target it v
    assign target env v
    let mut ok := true
    for c in ifs do
      if ok then ok ← isTrue c env (eval c env)
    if ok then put env A
    again (.compLoop e 0 it (.ref A) env))
abbrev tests (ifs : List Expr) (env : Env) : Sem Bool := forIn ifs true fun c r => if r = true then do let ok ← isTrue c env (eval c env); pure (ForInStep.yield ok) else pure (ForInStep.yield r)
section
variable {prog : Program} {w : World} {A : Around} {R : Result → Shared → Prop} {s : Shared} {e target iter : Expr} {ifs : List Expr} {put : Env → Addr → Sem Unit} {it : Value} {D : Addr} {env : Env}
theorem turns_loop (hT : Turns e target iter ifs put) (hq : (Code.compLoop e 0 it (.ref D) env).quiet = true) (hden : (model prog w).den (.compLoop e 0 it (.ref D) env) = (compTurn e 0 it (.ref D) env).onRaise (fun x => do noteFrame x env; theTreesLotGoes x)) (hA : A.under (.compLoop e 0 it (.ref D) env) = A)
    (G : Nat → Shared → Prop) (turn : ∀ n s, G n s → wpAny (model prog w) A (pyNext it) (fun r s1 => match r with
      | none => R (.ok .next) s1
      | some v => wpAny (model prog w) A (letOwnedTupleGo target it v) (fun _ s2 => wpAny (model prog w) A (assign target env v) (fun _ s3 => wpAny (model prog w) A (tests ifs env) (fun ok s4 =>
          if ok = true then wpAny (model prog w) A (put env D) (fun _ s5 => ∃ m, m < n ∧ G m s5) (notedBy (model prog w) A env fun x s' => R (.error x) s') s4 else ∃ m, m < n ∧ G m s4)
          (notedBy (model prog w) A env fun x s' => R (.error x) s') s3) (notedBy (model prog w) A env fun x s' => R (.error x) s') s2) (notedBy (model prog w) A env fun x s' => R (.error x) s') s1) (notedBy (model prog w) A env fun x s' => R (.error x) s') s)
    (n : Nat) (h : G n s) : codeAny (model prog w) A (.compLoop e 0 it (.ref D) env) R s := by
  refine codeAny_loop hq G (fun n s hG => ?_) n h
  rw [hden, hA]
  refine wpAny_noted ?_
  rw [hT it D env]
  have up : ∀ {α : Type} {t : Sem α} {Q Q' : α → Shared → Prop} {E : Value → Shared → Prop} {s : Shared}, wpAny (model prog w) A t Q E s → (∀ a s, Q a s → Q' a s) → wpAny (model prog w) A t Q' E s := fun h k => wpAny_mono h k fun _ _ z => z
  refine wpAny_bind (wpAny_standAt (wpAny_bind (up (turn n s hG) fun r s1 h1 => ?_)))
  cases r with
  | none => exact wpAny_pure h1
  | some v =>
    refine wpAny_bind (up h1 fun _ s2 h2 => wpAny_bind (up h2 fun _ s3 h3 => wpAny_bind (up h3 fun ok s4 h4 => ?_)))
    cases ok with
    | false => exact wpAny_pure ⟨rfl, h4⟩
    | true => exact wpAny_bind (up h4 fun _ s5 h5 => wpAny_pure ⟨rfl, h5⟩)
end
/-- what a comprehension's kind must give: how its object is made, and how the block begins -/
structure Kind (prog : Program) (w : World) (e target iter : Expr) (ifs : List Expr) (put : Env → Addr → Sem Unit) (mk : Sem Value) (ob : Obj) (o0 : Addr → HO) : Prop where
  turns : Turns e target iter ifs put
  quiet : ∀ it D env, (Code.compLoop e 0 it (.ref D) env).quiet = true
  den : ∀ it D env, (model prog w).den (.compLoop e 0 it (.ref D) env) = (compTurn e 0 it (.ref D) env).onRaise (fun x => do noteFrame x env; theTreesLotGoes x)
  under : ∀ (A : Around) it D env, A.under (.compLoop e 0 it (.ref D) env) = A
  made : ∀ {A : Around} {E : Value → Shared → Prop} {s : Shared} {Q : Value → Shared → Prop}, Q (.ref s.heap.objs.size) { s with heap := s.heap.push ob } → wpAny (model prog w) A mk Q E s
  isNew : ∀ {h : Heap}, sysModules < h.objs.size → ∀ H : Hp, ObjOk prog w H (h.push ob) h.objs.size (o0 h.objs.size)
  start : ∀ {A : Around} {R : Result → Shared → Prop} {s : Shared} {it : Value} {D : Addr} {env : Env}, codeAny (model prog w) A (.compLoop e 0 it (.ref D) env) R s →
    wpAny (model prog w) A (pyIter it) (fun it' s' => codeAny (model prog w) A (.compLoop e 0 it' (.ref D) env) R s') (notedBy (model prog w) A env fun x s' => R (.error x) s') s → codeAny (model prog w) A (.compStart e 0 it (.ref D) env) R s
  clauses : clausesOf e = [⟨target, iter, ifs, 0⟩]
/-- .. and its reading: tq says what a put reaches -/
def tKind (o0 : Addr → HO) (wi : TI) (g : TG) (tt : TT) (tq : Addr → L2.St → Hp → (Hp → Prop) → Prop) (us : List Nat) : TE := fun σ H Q => wi σ H fun J H1 => ∀ D, H1 D = none → ∃ W : Nat → Nat → Hp → Prop, (∃ m, W 0 m (upd H1 D (o0 D))) ∧ ∀ i m H, W i m H →
  (J.stop i H ∧ Q (.ref D) H) ∨ (J.go i H ∧ ∃ Nx : Hp → Prop, (∀ H', Nx H' → ∃ m', m' < m ∧ W (i + 1) m' H') ∧ ∀ x H', J.yld i H x H' → g x (L2.wipe σ us) H' fun σ2 H2 => L2.wipe σ2 us = L2.wipe σ us ∧ tt σ2 H2 fun b H3 => if b = true then tq D σ2 H3 Nx else Nx H3)
section
variable {X : Cx} {pins : List (Addr × Obj)} {s : Shared} {σ : L2.St} {H : Hp} {Q : VK} {e tg iter : Expr} {ifs : List Expr} {scope : Scope} {own : List (Str × Nat)} {pos pos' : Pos} {wi : TI} {g : TG} {tt : TT} {put : Env → Addr → Sem Unit} {mk : Sem Value} {ob : Obj} {o0 : Addr → HO} {tq : Addr → L2.St → Hp → (Hp → Prop) → Prop}
theorem kind_core {use : Option (Value → Sem Unit)} {Qf : Value → Shared → Prop} (hc : X.calm = true) (hN : X.N.Nodup) (I : Inv X pins σ H s) (Kd : Kind X.prog X.w e tg iter ifs put mk ob o0) (hi : PI X tg iter wi) (ok : BlkOk X.N X.env.scope scope own)
    (hg : ∀ (s : Shared) (H : Hp) (C : Addr) (cl : List (Str × Addr)) (fp : List Addr), PG (X.blk s H scope (compEnvC scope cl C X.env) fp) tg g)
    (ht : ∀ (s : Shared) (H : Hp) (C : Addr) (cl : List (Str × Addr)) (fp : List Addr), PTs (X.blk s H scope (compEnvC scope cl C X.env) fp) ifs tt)
    (hput : ∀ (s : Shared) (H : Hp) (C : Addr) (cl : List (Str × Addr)) (fp : List Addr) (pn : List (Addr × Obj)) (s1 : Shared) (σ1 : L2.St) (H1 : Hp) (D : Addr) (Nx : Hp → Prop), Inv (X.blk s H scope (compEnvC scope cl C X.env) fp) pn σ1 H1 s1 → tq D σ1 H1 Nx →
      wpAny (model X.prog X.w) X.A (put (compEnvC scope cl C X.env) D) (fun _ s2 => ∃ H2, Inv (X.blk s H scope (compEnvC scope cl C X.env) fp) pn σ1 H2 s2 ∧ Nx H2) (fun _ _ => False) s1)
    (hs : ∀ x, foldedSetIterable iter X.env x = pure x) (h : tKind o0 wi g tt tq (own.map (·.2)) σ H Q)
    (hR : ∀ D C s' m H', Inv X pins σ H' s' → Q (.ref D) H' → s'.heap.Ns C m → FpOk X pins H' C → compPost (model X.prog X.w) X.A X.xe use Qf (.ref D) C (.ok .next) s') :
    wpAny (model X.prog X.w) X.A (comprehension e scope X.env pos' mk false (eval iter X.env) use) Qf X.xe s := by
  have caught : ∀ y ∈ scope.names, y.2 = .free → ∃ c, X.env.cells.lookup y.1 = some c := fun y hy z => (ok.free y hy z).elim (fun k => I.ok.has _ (.inl k)) fun k => I.ok.has _ (.inr k)
  refine wpAny_comprehension_free (use := use) Kd.clauses hs (closure_ok caught) ok.kind (fun y hy z => by rw [ok.uniq y hy, z]) ?_
  refine thn (hi.run pins s σ H _ I h) fun xv sa ha => thn ha fun itv sb hb => ?_
  obtain ⟨it, fp, tn, J, Hb, rfl, Ib, T, tn0, fpb, q⟩ := hb
  refine Kd.made (newEnv_comp ?_)
  generalize eD : sb.heap.objs.size = D
  have freeD : Hb D = none := Ib.hok.fresh (Nat.le_of_eq eD)
  obtain ⟨W, ⟨m0, w0⟩, turn⟩ := q D freeD
  generalize ec : ({ sb with heap := sb.heap.push ob } : Shared) = sc
  have hcs : sc.heap = sb.heap.push ob := by rw [← ec]
  have Ic : Inv X pins σ (upd Hb D (o0 D)) sc := by
    rw [← ec]
    refine Ib.laid (t' := sb.toks) (fun b o z => Heap.get?_push_of_some _ z) (Nat.le_of_eq eD) ?_
    rw [← eD]
    exact Kd.isNew Ib.big _
  have small : ∀ b ∈ fp, b < sb.heap.objs.size := fun b hb => let ⟨o, z, _⟩ := T.obj _ _ tn0 b hb; Heap.lt_size z
  have fpc : ∀ b ∈ fp, FpOk X pins (upd Hb D (o0 D)) b ∧ b < sc.heap.objs.size := fun b hb => by
    have lt := small b hb
    refine ⟨⟨?_, (fpb b hb).2⟩, ?_⟩
    · rw [upd_ne (by rw [← eD]; exact Nat.ne_of_lt lt)]
      exact (fpb b hb).1
    · rw [hcs, Heap.size_push]
      exact Nat.lt_succ_of_lt lt
  have tnc : tn 0 sc.heap := T.keep _ _ _ tn0 fun b _ o z => by rw [hcs]; exact Heap.get?_push_of_some _ z
  have Id := block_start Ic ok hN fpc
  generalize ecl : cellsFrom (sc.heap.objs.size + 1) scope.names (cloFrom X.env.cells scope.names []) = cl at Id
  generalize eC : sc.heap.objs.size = C at Id
  have pg := hg sc (upd Hb D (o0 D)) C cl fp
  have pt := ht sc (upd Hb D (o0 D)) C cl fp
  have pq := hput sc (upd Hb D (o0 D)) C cl fp
  show codeAny _ _ (.compStart e 0 (.ref it) (.ref D) (compEnvC scope cl C X.env)) (compPost (model X.prog X.w) X.A X.xe use Qf (.ref D) C) { sc with heap := pushCells (sc.heap.push { cls := .type "dict", data := .dict #[] }) scope.names }
  have away : ∀ b ∈ fp, (upd Hb D (o0 D)) b = none := fun b hb => (fpc b hb).1.1
  generalize ece : compEnvC scope cl C X.env = ce at Id pg pt pq ⊢
  have locC : ce.locals = C := by rw [← ece]; rfl
  generalize eHc : upd Hb D (o0 D) = Hc at Ic Id pg pt pq w0 away fpc
  generalize ed : ({ sc with heap := pushCells (sc.heap.push { cls := .type "dict", data := .dict #[] }) scope.names } : Shared) = sd at Id ⊢
  have tnd : tn 0 sd.heap := T.keep _ _ _ tnc fun b _ o z => by rw [← ed]; exact pushCells_keeps _ _ _ _ (Heap.get?_push_of_some _ z)
  have still : ∀ {σ' : L2.St} {H' : Hp} {s' : Shared}, Inv (X.blk sc Hc scope ce fp) [] σ' H' s' → (∀ b ∈ fp, H' b = none) → ∀ b ∈ fp, FpOk (X.blk sc Hc scope ce fp) [] H' b := fun {σ' H' s'} I' hn b hb =>
    ⟨hn b hb, (I'.ok.exf b hb).1, I'.ok.exfs b hb, .inl hb, fun x c z => (I'.ok.exf b hb).2 x c z, fun p hp => nomatch (show p ∈ ([] : List (Addr × Obj)) ++ [] from hp)⟩
  have loop : codeAny (model X.prog X.w) X.A (.compLoop e 0 (.ref it) (.ref D) ce) (compPost (model X.prog X.w) X.A X.xe use Qf (.ref D) C) sd := by
    refine turns_loop Kd.turns (Kd.quiet _ _ _) (Kd.den _ _ _) (Kd.under _ _ _ _) (fun n s' => ∃ i H', Inv (X.blk sc Hc scope ce fp) [] (L2.wipe σ (own.map (·.2))) H' s' ∧ tn i s'.heap ∧ (∀ b ∈ fp, H' b = none) ∧ W i n H') ?_ m0 ⟨0, Hc, Id, tnd, away, w0⟩
    rintro n se ⟨i, He, Ie, tne, ne, we⟩
    rcases turn i n He we with ⟨stop, done⟩ | ⟨go, Nx, hNx, step⟩
    · refine thnF (T.done (X.blk sc Hc scope ce fp) rfl rfl rfl hc i [] se _ He (fun _ _ => False) Ie (still Ie ne) tne stop) fun r sf hf => ?_
      obtain ⟨hr, If⟩ := hf
      subst hr
      have Ig : Inv X pins σ He sf := Ic.call' (ch := fp) If.os If.base If.hok If.bare fun b hb => let z := (fpc b hb).1; ⟨z.2.2.2.1, z.2.1, z.2.2.2.2.1, z.2.2.2.2.2⟩
      have noC : He C = none := by
        have z : He ce.locals = none := If.free
        rwa [locC] at z
      obtain ⟨m, hm, _⟩ := If.loc
      have hm : sf.heap.Ns ce.locals m := hm
      rw [locC] at hm
      exact hR D C sf m He Ig done hm (Ic.fpOk (Nat.le_of_eq eC) noC)
    · refine thnF (T.item (X.blk sc Hc scope ce fp) rfl rfl rfl hc i [] se _ He (fun _ _ => False) Ie (still Ie ne) tne go) fun r sf hf => ?_
      obtain ⟨u, hr, hf⟩ := hf
      subst hr
      refine thnF hf fun _ sg hgg => ?_
      obtain ⟨x, Hg, Ig, rg, yg, tng, ng⟩ := hgg
      refine thnF (pg.run _ sg _ Hg x u _ (Ig.pinned (still Ig ng) (T.obj _ _ tng)) rg (step x Hg yg)) fun _ sh hh => ?_
      obtain ⟨σh, Hh, Ih, wh, qh⟩ := hh
      refine thnF (pt.run _ sh σh Hh _ Ih qh) fun b sk hk => ?_
      obtain ⟨Hk, Ik, qk⟩ := hk
      have back : ∀ {s' : Shared} {H' : Hp}, Inv (X.blk sc Hc scope ce fp) ([] ++ pinsAt fp sg.heap) σh H' s' → Nx H' → ∃ m, m < n ∧ ∃ i H', Inv (X.blk sc Hc scope ce fp) [] (L2.wipe σ (own.map (·.2))) H' s' ∧ tn i s'.heap ∧ (∀ b ∈ fp, H' b = none) ∧ W i m H' := fun {s' H'} I' nx => by
        obtain ⟨m', lt, w'⟩ := hNx H' nx
        have stay : ∀ b ∈ fp, ∀ o, sg.heap.get? b = some o → s'.heap.get? b = some o ∧ H' b = none := fun b hb o z =>
          let y := I'.pin (b, o) (List.mem_append_right _ (List.mem_append_right _ (mem_pinsAt hb z)))
          ⟨y.1, y.2.1⟩
        have len : (L2.wipe σ (own.map (·.2))).length = σh.length := by rw [← wh, wipe_length]
        refine ⟨m', lt, i + 1, H', (I'.unpinned (pins := [])).weak len (fun j v z => (wipe_some (by rw [wh]; exact z)).1), T.keep _ _ _ tng fun b hb o z => (stay b hb o z).1, fun b hb => ?_, w'⟩
        obtain ⟨o, z, _⟩ := T.obj _ _ tng b hb
        exact (stay b hb o z).2
      cases b with
      | false =>
        simp only [Bool.false_eq_true, if_false] at qk ⊢
        exact back Ik qk
      | true =>
        simp only [if_true] at qk ⊢
        refine thnF (pq _ sk σh Hk D Nx Ik qk) fun _ sl hl => ?_
        obtain ⟨Hl, Il, nl⟩ := hl
        exact back Il nl
  exact Kd.start loop (T.self X.A 0 _ _ _ tnd loop)
end
end Wf

namespace Wf
open PySem PySem.Spec PyProof.Rows L2

/-! ### new dicts -/
abbrev KF := Ss → Option (List (D × D))
def svK (nt : Bool) (kvs : List (D × D)) : SV := match nt with
  | true => .dn kvs
  | false => .dk kvs
theorem svK_own (nt : Bool) (kvs : List (D × D)) : (svK nt kvs).own = true := by cases nt <;> rfl
def tM (K : PySem.W.Frag) (P : Program) (w : World) (nt : Bool) (f : KF) : TE := fun σ H Q => ∃ H0 ss kvs, SR K P w H0 H σ ss ∧ f ss = some kvs ∧ ∀ v H', Same H H' → SvR K P w H H' v (svK nt kvs) → Q v H'
abbrev MJ (X : Cx) (nt : Bool) (e : Expr) (f : KF) : Prop := PE X e (tM X.K X.prog X.w nt f)
def sSetM (nt : Bool) (i : Nat) (f : KF) : SF := fun ss => match f ss with
  | some kvs => some (.nx (ss.set i (some (svK nt kvs))))
  | none => none
theorem setM_of {K : PySem.W.Frag} {P : Program} {w : World} {X : Cx} {st : Stmt} {nt : Bool} {f : KF} {i : Nat} {te : TE} (hK : X.K = K) (hP : X.prog = P) (hw : X.w = w) (hp : PS X st (tAsg te (gName i))) (k : ∀ σ H Q, tM K P w nt f σ H Q → te σ H Q) : SJ X st (sSetM nt i f) :=
  PSimp hp fun En σ H ⟨H0, ss, o, R, h, q⟩ => by
    subst hK hP hw
    unfold sSetM at h
    split at h
    · rename_i kvs hk
      cases h
      refine k σ H _ ⟨H0, ss, kvs, R, hk, fun v H' g r => ?_⟩
      obtain ⟨a, u, ev, n, _, _⟩ := r.own_at (svK_own nt kvs)
      have r2 : SvR X.K X.prog X.w H0 H' v (svK nt kvs) := r.base fun b _ _ nb => R.same.free nb
      subst ev
      exact q _ H' ((R.grow g).setO r2 fun j hj => R.no_own n j (by
        obtain ⟨sv, e1, e2, e3⟩ := hj
        exact ⟨sv, e1, e2, e3⟩))
    · cases h
theorem sj_setM {X : Cx} {st : Stmt} {e : Expr} {nt : Bool} {f : KF} {i : Nat} (hp : ∀ te, PE X e te → PS X st (tAsg te (gName i))) (he : MJ X nt e f) : SJ X st (sSetM nt i f) := setM_of rfl rfl rfl (hp _ he) fun _ _ _ q => q

/-! ### dict comprehensions -/
def keyT (k : D) : Bool := match k with
  | .tup ys => okd (.tup ys)
  | _ => false
def kGo (ok : D → Bool) (base : Ss) (G : AG) (fk fv : EF) : List D → List (D × D) → Option (List (D × D))
  | [], acc => some acc
  | x :: xs, acc => match G x base with
    | some s1 => match fk s1 with
      | some k => match ok k with
        | true => match fv s1 with
          | some d => match newD acc k d with
            | some acc' => kGo ok base G fk fv xs acc'
            | none => none
          | none => none
        | false => none
      | none => none
    | none => none
def keyBy (nt : Bool) : D → Bool := match nt with
  | true => keyT
  | false => keyOk
def kComp (nt : Bool) (src : LF) (vs : List Nat) (G : AG) (fk fv : EF) : KF := fun ss => match src ss with
  | some xs => kGo (keyBy nt) (wipeS ss vs) G fk fv xs []
  | none => none
theorem newD_ok {kvs kvs' : List (D × D)} {k d : D} (h : newD kvs k d = some kvs') : lookD kvs k = none ∧ kvs.length ≤ 900 ∧ kvs' = kvs ++ [(k, d)] := by
  unfold newD at h
  split at h
  · rename_i hl
    split at h
    · rename_i hz
      cases h
      exact ⟨hl, Nat.le_of_ble_eq_true hz, rfl⟩
    · cases h
  · cases h
theorem wipe_wipe (σ : L2.St) (us : List Nat) : L2.wipe (L2.wipe σ us) us = L2.wipe σ us := by
  apply List.ext_getElem?
  intro j
  rw [wipe_get, wipe_get, wipe_length]
  by_cases hj : j ∈ us ∧ j < σ.length
  · rw [if_pos hj, if_pos hj]
  · rw [if_neg hj]
section
variable {K : PySem.W.Frag} {P : Program} {w : World} {src : LF} {us is : List Nat} {G : AG} {fk fv : EF}
/-- keys that are ints or texts -/
theorem dc_ok (sub : ∀ i ∈ is, i ∈ us) (σ : L2.St) (H : Hp) (Q : VK) (h : tM K P w false (kComp false src us G fk fv) σ H Q) : tDc (tIa K P w src) (tG K P w is G) (tT K P w bYes) (tD K P w fk) (tD K P w fv) us σ H Q := by
  obtain ⟨H0, ss, ds, R, h, q⟩ := h
  unfold kComp at h
  split at h
  · rename_i xs hxs
    refine ⟨H0, ss, xs, R, hxs, fun J H1 g1 it D hD => ?_⟩
    refine ⟨fun i m H' => m = xs.length - i ∧ i ≤ xs.length ∧ ∃ ks acc, Same H1 H' ∧ H' D = some (.dK ks) ∧ KR K H' acc ks ∧ kGo keyOk (wipeS ss us) G fk fv (xs.drop i) acc = some ds,
      ⟨xs.length, by omega, Nat.zero_le _, [], [], same_new hD, upd_same, .nil, h⟩, ?_⟩
    rintro i m H' ⟨rfl, hi, ks, acc, gk, eD, ra, hr⟩
    by_cases hlt : i < xs.length
    · rw [List.drop_eq_getElem_cons hlt] at hr
      unfold kGo at hr
      split at hr
      · rename_i s1 hs1
        split at hr
        · rename_i k hk
          split at hr
          · rename_i hok
            split at hr
            · rename_i d hd
              split at hr
              · rename_i acc' hn
                refine .inr ⟨it.go i H' gk hlt, fun H2 => ∃ ks acc, Same H1 H2 ∧ H2 D = some (.dK ks) ∧ KR K H2 acc ks ∧ kGo keyOk (wipeS ss us) G fk fv (xs.drop (i + 1)) acc = some ds,
                  fun H2 z => ⟨xs.length - (i + 1), by omega, rfl, hlt, z⟩, fun x H2 y => ?_⟩
                obtain ⟨d0, hd0, rfl, rd⟩ := it.yld i H' x H2 gk hlt y
                rw [List.getElem?_eq_getElem hlt] at hd0
                cases hd0
                obtain ⟨hl, hz, rfl⟩ := newD_ok hn
                obtain ⟨key, hkey⟩ := keyOk_some hok
                refine ⟨H0, wipeS ss us, _, s1, (R.grow (g1.trans gk)).wipe _, rd, hs1, fun σ2 R2 hw => ⟨by rw [hw _ sub, wipe_wipe], H0, s1, true, R2, rfl, fun H3 g3 => ?_⟩⟩
                refine iteT ?_
                refine ⟨H0, s1, k, R2.grow g3, hk, fun v H4 g4 r4 => ⟨H0, s1, d, (R2.grow g3).grow g4, hd, fun u H5 g5 r5 => ?_⟩⟩
                have g := (g3.trans g4).trans g5
                have e5 := g _ _ eD
                have ra := KR.tk (tk_same g) ra
                have hv : valV ks key = none := by
                  have z := kr_look hkey ra
                  rw [hl] at z
                  exact z
                have hlen := kr_len ra
                refine ⟨ks, key, flat_kv hkey r4, e5, small1000 (by omega), _, acc ++ [(k, d)], same_put (gk.trans g) hD, upd_same, ?_, hr⟩
                rw [putK_new u hv]
                exact KR.tk (tk_upd e5 trivial) (kr_app ra hkey r5)
              · cases hr
            · cases hr
          · cases hr
        · cases hr
      · cases hr
    · have e : i = xs.length := by omega
      subst e
      rw [List.drop_length] at hr
      unfold kGo at hr
      cases hr
      exact .inl ⟨it.stop _ H' gk (Nat.le_refl _), q _ H' (g1.trans gk) ⟨D, ks, rfl, g1.free hD, eD, ra⟩⟩
  · cases h
/-- keys that are tuples -/
def putDict (kx vx : Expr) : Env → Addr → Sem Unit := fun env D => do
  let kv ← eval kx env
  let vv ← holding [kv] (eval vx env)
  standAt { kx.pos with endLine := vx.pos.endLine, endCol := vx.pos.endCol }
  holding [kv, vv] (dictSet D kv vv)
def tqN (K : PySem.W.Frag) (P : Program) (w : World) (tk tv : TE) : Addr → L2.St → Hp → (Hp → Prop) → Prop := fun D σ H Nx => tk σ H fun y H4 => tv σ H4 fun z H5 => ∃ p xs k kvs, y = .ref p ∧ H5 D = some (DN P w D xs) ∧ NR K H5 kvs xs ∧ Rp K H5 (.ref p) k ∧ dep k ≤ 7 ∧ lookD kvs k = none ∧ kvs.length ≤ 900 ∧
  ∀ u, RelV z u → Nx (upd H5 D (DN P w D (xs ++ [(nk k, p, u)])))
theorem room_n0 {X : Cx} {k : Nat} (hr : Room k X.A) : (nestedKind X.prog X.w).room X.A := by
  have h := hr.units
  show X.A.units + 8 < cLine
  omega
theorem putN_ok {X : Cx} {pins : List (Addr × Obj)} {σ : L2.St} {H : Hp} {s : Shared} {kx vx : Expr} {tk tv : TE} {D : Addr} {Nx : Hp → Prop} {n : Nat} (hr : Room n X.A) (hk : PE X kx tk) (hv : PE X vx tv) (I : Inv X pins σ H s) (h : tqN X.K X.prog X.w tk tv D σ H Nx) :
    wpAny (model X.prog X.w) X.A (putDict kx vx X.env D) (fun _ s2 => ∃ H2, Inv X pins σ H2 s2 ∧ Nx H2) X.xe s := by
  refine wpAny_bind (thn (hk.run pins s σ H _ I h) fun ku s1 h1 => ?_)
  obtain ⟨y, H1, I1, r1, q1⟩ := h1
  refine wpAny_bind (wpAny_holding (thn (hv.run pins s1 σ H1 _ I1 q1) fun vu s2 h2 => ?_))
  obtain ⟨z, H2, I2, r2, p, xs, k, kvs, rfl, e, nr, rk, dk, hl, hz, q⟩ := h2
  cases r1
  obtain ⟨zz, yy, m⟩ := dn_at I2 e nr
  have hq := nr_look k nr
  rw [hl] at hq
  have hlen := nr_len nr
  refine wpAny_bind (wpAny_standAt (wpAny_holding ?_))
  refine wpAny_dictSet_heap (hsz := zz) (room_n0 hr) (key_at I2 rk dk) m fun h' m' sb => ?_
  rw [storedH_new hq] at m'
  refine ⟨_, d_write (t' := s2.toks + (nestedKind X.prog X.w).draws (nk k)) I2 (by rw [e]; exact trivial) sb ?_ (dn_ok ?_ yy m'), q vu r2⟩
  · obtain ⟨o, _, _, ho, _⟩ := m'
    exact ⟨o, ho⟩
  · rw [List.length_append]
    show xs.length + 1 ≤ sizeLine
    exact len_line (by omega)
theorem kind_dn {prog : Program} {w : World} {kx vx target iter : Expr} {ifs : List Expr} {scope : Scope} {pos : Pos} : Kind prog w (.DictComp kx vx [⟨target, iter, ifs, 0⟩] scope pos) target iter ifs (putDict kx vx) newDict { cls := .type "dict", data := .dict #[] } (fun a => DN prog w a []) where
  turns := fun it A env => compTurn_dict kx vx target iter ifs scope pos it A env
  quiet := fun _ _ _ => rfl
  den := fun _ _ _ => rfl
  under := fun _ _ _ _ => rfl
  made := fun h => wpAny_newObj_type h
  isNew := fun {h} hb H => dn_ok (Nat.zero_le _) (beq_eq_false_iff_ne.mpr (Ne.symm (Nat.ne_of_lt hb))) ⟨_, #[], 0, Heap.get?_push_size _ rfl, ⟨rfl, rfl, rfl⟩, rfl, rfl, (fun x hx => by cases hx), List.nodup_nil⟩
  start := fun h0 h => codeAny_compStart_dict h0 h
  clauses := rfl
theorem dn_comp_ok (sub : ∀ i ∈ is, i ∈ us) (σ : L2.St) (H : Hp) (Q : VK) (h : tM K P w true (kComp true src us G fk fv) σ H Q) : tKind (fun a => DN P w a []) (tIa K P w src) (tG K P w is G) (tT K P w bYes) (tqN K P w (tD K P w fk) (tD K P w fv)) us σ H Q := by
  obtain ⟨H0, ss, ds, R, h, q⟩ := h
  unfold kComp at h
  split at h
  · rename_i xs hxs
    refine ⟨H0, ss, xs, R, hxs, fun J H1 g1 it D hD => ?_⟩
    refine ⟨fun i m H' => m = xs.length - i ∧ i ≤ xs.length ∧ ∃ ks acc, Same H1 H' ∧ H' D = some (DN P w D ks) ∧ NR K H' acc ks ∧ kGo keyT (wipeS ss us) G fk fv (xs.drop i) acc = some ds,
      ⟨xs.length, by omega, Nat.zero_le _, [], [], same_new hD, upd_same, .nil, h⟩, ?_⟩
    rintro i m H' ⟨rfl, hi, ks, acc, gk, eD, ra, hr⟩
    by_cases hlt : i < xs.length
    · rw [List.drop_eq_getElem_cons hlt] at hr
      unfold kGo at hr
      split at hr
      · rename_i s1 hs1
        split at hr
        · rename_i k hk
          split at hr
          · rename_i hok
            split at hr
            · rename_i d hd
              split at hr
              · rename_i acc' hn
                refine .inr ⟨it.go i H' gk hlt, fun H2 => ∃ ks acc, Same H1 H2 ∧ H2 D = some (DN P w D ks) ∧ NR K H2 acc ks ∧ kGo keyT (wipeS ss us) G fk fv (xs.drop (i + 1)) acc = some ds,
                  fun H2 z => ⟨xs.length - (i + 1), by omega, rfl, hlt, z⟩, fun x H2 y => ?_⟩
                obtain ⟨d0, hd0, rfl, rd⟩ := it.yld i H' x H2 gk hlt y
                rw [List.getElem?_eq_getElem hlt] at hd0
                cases hd0
                obtain ⟨hl, hz, rfl⟩ := newD_ok hn
                refine ⟨H0, wipeS ss us, _, s1, (R.grow (g1.trans gk)).wipe _, rd, hs1, fun σ2 R2 hw => ⟨by rw [hw _ sub, wipe_wipe], H0, s1, true, R2, rfl, fun H3 g3 => ?_⟩⟩
                refine iteT ?_
                refine ⟨H0, s1, k, R2.grow g3, hk, fun v H4 g4 r4 => ⟨H0, s1, d, (R2.grow g3).grow g4, hd, fun u H5 g5 r5 => ?_⟩⟩
                have g := (g3.trans g4).trans g5
                have e5 := g _ _ eD
                have ra := NR.tk (tk_same g) ra
                unfold keyT at hok
                split at hok
                · rename_i ys
                  obtain ⟨c, _, rfl, _, _⟩ := id r4.tup_of
                  refine ⟨c, ks, _, acc, rfl, e5, ra, r4.same g5, okd_le hok, hl, hz, fun uu ru => ⟨_, acc ++ [(_, d)], same_put (gk.trans g) hD, upd_same, ?_, hr⟩⟩
                  exact NR.tk (tk_upd e5 trivial) (nr_app ra (r4.same g5) (okd_le hok) ru r5)
                · cases hok
              · cases hr
            · cases hr
          · cases hr
        · cases hr
      · cases hr
    · have e : i = xs.length := by omega
      subst e
      rw [List.drop_length] at hr
      unfold kGo at hr
      cases hr
      exact .inl ⟨it.stop _ H' gk (Nat.le_refl _), q _ H' (g1.trans gk) ⟨D, ks, rfl, g1.free hD, eD, ra⟩⟩
  · cases h
end
section
variable {X : Cx} {tg iter kx vx : Expr} {scope : Scope} {own : List (Str × Nat)} {pos spos py : Pos} {src : LF} {is : List Nat} {G : AG} {fk fv : EF} {i n : Nat} {y : Str}
theorem sw_dict {gs : List Comprehension} {l : Nat} {env : Env} (hk : env.scope.kind = .function) (hy : env.scope.names.lookup y = some .local) (hl : (py.line == pos.line) = true)
    (ha : (scope.names.any fun (n, k) => n == y && (k == .local || k == .cell)) = false) : swapsWith (.DictComp kx vx gs scope pos) (some (.Name y py)) l env = pure true := by
  have ky : env.kindOf y = some .local := hy
  have hb : env.blockKind = .function := by unfold Env.blockKind; rw [hk]; rfl
  unfold swapsWith
  simp only [hb, ky, ha, Expr.pos, hl]
  rfl
/-- name = {k: v for ..} on one line, keys ints or texts, the name a local -/
theorem sj_setDc (hc : X.calm = true) (hN : X.N.Nodup) (hy : X.N[i]? = some y) (hyl : X.env.scope.names.lookup y = some .local)
    (hsw : swapsWith (.DictComp kx vx [⟨tg, iter, [], 0⟩] scope pos) (some (.Name y py)) spos.line X.env = pure true) (hi : IaJ X tg iter src) (ok : BlkOk X.N X.env.scope scope own) (sub : ∀ i ∈ is, i ∈ own.map (·.2))
    (hg : ∀ (s : Shared) (H : Hp) (C : Addr) (cl : List (Str × Addr)) (fp : List Addr), GJ (X.blk s H scope (compEnvC scope cl C X.env) fp) tg is G)
    (hk : ∀ (s : Shared) (H : Hp) (C : Addr) (cl : List (Str × Addr)) (fp : List Addr), EJ (X.blk s H scope (compEnvC scope cl C X.env) fp) kx fk)
    (he : ∀ (s : Shared) (H : Hp) (C : Addr) (cl : List (Str × Addr)) (fp : List Addr), EJ (X.blk s H scope (compEnvC scope cl C X.env) fp) vx fv) (hs : ∀ x, foldedSetIterable iter X.env x = pure x := by intro _; rfl) :
    SJ X (.Assign [.Name y py] (.DictComp kx vx [⟨tg, iter, [], 0⟩] scope pos) spos) (sSetM false i (kComp false src (own.map (·.2)) G fk fv)) := by
  refine setM_of rfl rfl rfl (te := tDc (tIa X.K X.prog X.w src) (tG X.K X.prog X.w is G) (tT X.K X.prog X.w bYes) (tD X.K X.prog X.w fk) (tD X.K X.prog X.w fv) (own.map (·.2))) ?_ (dc_ok sub)
  refine ⟨fun pins s σ H En I h => ?_⟩
  rw [exec_Assign_Name_used _ _ _ _ hsw]
  refine wpAny_bind (wpAny_standAt (wpAny_bind ?_))
  show wpAny _ X.A (do let _ ← comprehension (.DictComp kx vx [⟨tg, iter, [], 0⟩] scope pos) scope X.env (firstIterPos [⟨tg, iter, [], 0⟩] pos) newDict false (eval iter X.env) (some (assign (.Name y py) X.env))) _ _ s
  have h : tDc (tIa X.K X.prog X.w src) (tG X.K X.prog X.w is G) (tT X.K X.prog X.w bYes) (tD X.K X.prog X.w fk) (tD X.K X.prog X.w fv) (own.map (·.2)) σ H (fun x H1 => gName i x σ H1 En.nx) := h
  refine wpAny_bind (thn (dc_core (Qf := fun _ s' => SP X pins En .next s') hc hN I hi ok hg (fun _ _ _ _ _ => ptj_nil) hk he hs h fun L C s' m H' I' q hn f => ?_) fun _ s' hq => wpAny_pure (wpAny_pure hq))
  show wpAny _ _ (assign (.Name y py) X.env (.ref L)) _ _ _
  refine wpAny_assign_Name (store_ok2 (v := V.ref L) I' hN hy (.inl hyl) rfl (fun s2 I2 z => ?_) (.inr hyl))
  obtain ⟨a, sb, ha⟩ := z
  obtain ⟨f0, f1, f2, f3, f4, f5⟩ := f
  have ne : C ≠ a := by
    rcases ha with z | z
    · rw [z]
      exact f1
    · exact fun e => f4 y a z e.symm
  refine ⟨m, hn.sameBut sb ne, fun h3 sb3 => ?_⟩
  exact ⟨_, H', I2.turned (t' := s2.toks) (fun b o hb e => (sb3.2 b hb).trans e) f0 f1 f3 f4 f5, q⟩
/-- {k: v for ..} as a value, keys tuples -/
theorem mj_compN (hr : Room n X.A) (hc : X.calm = true) (hN : X.N.Nodup) (hi : IaJ X tg iter src) (ok : BlkOk X.N X.env.scope scope own) (sub : ∀ i ∈ is, i ∈ own.map (·.2))
    (hg : ∀ (s : Shared) (H : Hp) (C : Addr) (cl : List (Str × Addr)) (fp : List Addr), GJ (X.blk s H scope (compEnvC scope cl C X.env) fp) tg is G)
    (hk : ∀ (s : Shared) (H : Hp) (C : Addr) (cl : List (Str × Addr)) (fp : List Addr), EJ (X.blk s H scope (compEnvC scope cl C X.env) fp) kx fk)
    (he : ∀ (s : Shared) (H : Hp) (C : Addr) (cl : List (Str × Addr)) (fp : List Addr), EJ (X.blk s H scope (compEnvC scope cl C X.env) fp) vx fv) (hs : ∀ x, foldedSetIterable iter X.env x = pure x := by intro _; rfl) :
    MJ X true (.DictComp kx vx [⟨tg, iter, [], 0⟩] scope pos) (kComp true src (own.map (·.2)) G fk fv) := by
  refine ⟨fun pins s σ H Q I h => ?_⟩
  rw [arm_eval_DictComp]
  refine kind_core hc hN I kind_dn hi ok hg (fun _ _ _ _ _ => ptj_nil) (fun s H C cl fp pn s1 σ1 H1 D Nx I1 h1 => ?_) hs (dn_comp_ok sub σ H Q h) fun D C s' m H' I' q hn f => ⟨m, hn, fun h'' sb => ?_⟩
  · exact putN_ok (X := X.blk s H scope (compEnvC scope cl C X.env) fp) hr (hk s H C cl fp) (he s H C cl fp) I1 h1
  · obtain ⟨f0, f1, f2, f3, f4, f5⟩ := f
    exact ⟨.ref D, H', I'.turned (t' := s'.toks) (fun b o hb e => (sb.2 b hb).trans e) f0 f1 f3 f4 f5, rfl, q⟩
end
end Wf

namespace Wf
open PySem PySem.Spec PyProof.Rows L2

/-! ### how many ints a comprehension's set has -/
def setGo (base : Ss) (G : AG) (f : EF) : List D → List Int → Option (List Int)
  | [], acc => some acc
  | x :: xs, acc => match G x base with
    | some s1 => match f s1 with
      | some (.int j) => setGo base G f xs (match acc.any (iq j) with | true => acc | false => j :: acc)
      | _ => none
    | none => none
def eLenS (src : LF) (vs : List Nat) (G : AG) (f : EF) : EF := fun ss => match src ss with
  | some xs => match Nat.ble xs.length 900 with
    | true => match setGo (wipeS ss vs) G f xs [] with
      | some acc => some (.int (.ofNat acc.length))
      | none => none
    | false => none
  | none => none
def putSet (elt : Expr) : Env → Addr → Sem Unit := fun env D => do
  let v ← eval elt env
  standAt elt.pos
  let _ ← call (.builtin "set.add") [.ref D, v]
def tqS (w : World) (te : TE) : Addr → L2.St → Hp → (Hp → Prop) → Prop := fun D σ H Nx => te σ H fun y H4 => ∃ k S n, y = .int k ∧ H4 D = some (SetO w D S n) ∧ n + 1 < scanBound ∧ Nx (upd H4 D (SetO w D (fun j => S j || decide (j = k)) (if S k = true then n else n + 1)))
theorem putS_ok {X : Cx} {pins : List (Addr × Obj)} {σ : L2.St} {H : Hp} {s : Shared} {elt : Expr} {te : TE} {D : Addr} {Nx : Hp → Prop} (he : PE X elt te) (I : Inv X pins σ H s) (h : tqS X.w te D σ H Nx) :
    wpAny (model X.prog X.w) X.A (putSet elt X.env D) (fun _ s2 => ∃ H2, Inv X pins σ H2 s2 ∧ Nx H2) X.xe s := by
  refine wpAny_bind (thn (he.run pins s σ H _ I h) fun u s1 h1 => ?_)
  obtain ⟨y, H1, I1, r1, k, S, n, rfl, e, room, q⟩ := h1
  obtain ⟨tk, rfl⟩ := r1
  refine wpAny_bind (wpAny_standAt (wpAny_bind ?_))
  have R := setO_get I1 e
  refine setR_add R room fun h' sb new => ?_
  have ex : ∃ u, h'.get? D = some u := by
    obtain ⟨o, _, _, _, ho, _⟩ := id new
    exact ⟨o, ho⟩
  exact wpAny_pure ⟨_, I1.write (e := D) (t' := s1.toks + 1) (by rw [e]; trivial) (.inl rfl) (fun b u hb hu => (sb.2 b hb).trans hu) ex (setO_new new), q⟩
def emptySet (w : World) : Obj := { cls := .type "set", dict := none, data := .set #[] 0 (.fresh 0 0 (!w.params.followText "set-order")) }
theorem kind_set {prog : Program} {w : World} {elt target iter : Expr} {ifs : List Expr} {scope : Scope} {pos : Pos} : Kind prog w (.SetComp elt [⟨target, iter, ifs, 0⟩] scope pos) target iter ifs (putSet elt) (newSet (.type "set")) (emptySet w) (fun a => SetO w a (fun _ => false) 0) where
  turns := fun it A env => PpSet.compTurn_set elt target iter ifs scope pos it (.ref A) env
  quiet := fun _ _ _ => rfl
  den := fun _ _ _ => rfl
  under := fun _ _ _ _ => rfl
  made := fun h => PpSet.newSet_ok h
  isNew := fun {h} hb H => setO_new (setR_fresh w)
  start := fun h0 h => PpSet.codeAny_compStart_set h0 h
  clauses := rfl
def tSetI (K : PySem.W.Frag) (P : Program) (w : World) (f : EF) : TE := fun σ H Q => ∃ H0 ss n, SR K P w H0 H σ ss ∧ f ss = some (.int (.ofNat n)) ∧ ∀ a S H', Same H H' → H' a = some (SetO w a S n) → Q (.ref a) H'
section
variable {K : PySem.W.Frag} {P : Program} {w : World} {src : LF} {us is : List Nat} {G : AG} {f : EF}
theorem set_comp_ok (sub : ∀ i ∈ is, i ∈ us) (σ : L2.St) (H : Hp) (Q : VK) (h : tSetI K P w (eLenS src us G f) σ H Q) : tKind (fun a => SetO w a (fun _ => false) 0) (tIa K P w src) (tG K P w is G) (tT K P w bYes) (tqS w (tD K P w f)) us σ H Q := by
  obtain ⟨H0, ss, n, R, h, q⟩ := h
  unfold eLenS at h
  split at h
  · rename_i xs hxs
    split at h
    · rename_i hz
      split at h
      · rename_i ds hds
        have hn : ds.length = n := by
          cases h
          rfl
        refine ⟨H0, ss, xs, R, hxs, fun J H1 g1 it D hD => ?_⟩
        refine ⟨fun i m H' => m = xs.length - i ∧ i ≤ xs.length ∧ ∃ S acc, Same H1 H' ∧ H' D = some (SetO w D S acc.length) ∧ (∀ j, S j = acc.any (iq j)) ∧ acc.length ≤ i ∧ setGo (wipeS ss us) G f (xs.drop i) acc = some ds,
          ⟨xs.length, by omega, Nat.zero_le _, _, [], same_new hD, upd_same, fun _ => rfl, Nat.le_refl _, hds⟩, ?_⟩
        rintro i m H' ⟨rfl, hi, S, acc, gk, eD, hS, la, hr⟩
        have hz := Nat.le_of_ble_eq_true hz
        by_cases hlt : i < xs.length
        · rw [List.drop_eq_getElem_cons hlt] at hr
          unfold setGo at hr
          split at hr
          · rename_i s1 hs1
            split at hr
            · rename_i k hk
              refine .inr ⟨it.go i H' gk hlt, fun H2 => ∃ S acc, Same H1 H2 ∧ H2 D = some (SetO w D S acc.length) ∧ (∀ j, S j = acc.any (iq j)) ∧ acc.length ≤ i + 1 ∧ setGo (wipeS ss us) G f (xs.drop (i + 1)) acc = some ds,
                fun H2 z => ⟨xs.length - (i + 1), by omega, rfl, hlt, z⟩, fun x H2 y => ?_⟩
              obtain ⟨d0, hd0, rfl, rd⟩ := it.yld i H' x H2 gk hlt y
              rw [List.getElem?_eq_getElem hlt] at hd0
              cases hd0
              refine ⟨H0, wipeS ss us, _, s1, (R.grow (g1.trans gk)).wipe _, rd, hs1, fun σ2 R2 hw => ⟨by rw [hw _ sub, wipe_wipe], H0, s1, true, R2, rfl, fun H3 g3 => ?_⟩⟩
              refine iteT ?_
              refine ⟨H0, s1, _, R2.grow g3, hk, fun v H4 g4 r4 => ?_⟩
              have e4 := g4 _ _ (g3 _ _ eD)
              have sb : scanBound = 4096 := rfl
              refine ⟨k, S, acc.length, r4.int_of, e4, by omega, ?_⟩
              cases hm : acc.any (iq k) with
              | true =>
                rw [hm] at hr
                rw [if_pos (by rw [hS, hm])]
                refine ⟨_, acc, same_put ((gk.trans g3).trans g4) hD, upd_same, fun j => ?_, by omega, hr⟩
                show (S j || decide (j = k)) = _
                rw [hS j]
                by_cases hj : j = k
                · subst hj
                  rw [hm]
                  rfl
                · rw [decide_eq_false hj, Bool.or_false]
              | false =>
                rw [hm] at hr
                rw [if_neg (by rw [hS, hm]; exact Bool.false_ne_true)]
                refine ⟨_, k :: acc, same_put ((gk.trans g3).trans g4) hD, upd_same, fun j => ?_, by rw [List.length_cons]; omega, hr⟩
                show (S j || decide (j = k)) = _
                rw [hS j, List.any_cons, iq_eq, Bool.or_comm]
                rfl
            · cases hr
          · cases hr
        · have e : i = xs.length := by omega
          subst e
          rw [List.drop_length] at hr
          unfold setGo at hr
          cases hr
          exact .inl ⟨it.stop _ H' gk (Nat.le_refl _), q D S H' (g1.trans gk) (by rw [eD, hn])⟩
      · cases h
    · cases h
  · cases h
end
def rLenI (w : World) : List V → Hp → VK → Prop := fun xs H Q => ∃ (p : Addr) (S : Int → Bool) (n : Nat), xs = [.ref p] ∧ H p = some (SetO w p S n) ∧ Q (.int ((n : Nat) : Int)) H
theorem call_len_setI {X : Cx} : CallR X (.builtin "len") (rLenI X.w) := by
  intro pins s σ H xs us Q I r h
  obtain ⟨p, S, n, rfl, hp, q⟩ := h
  obtain ⟨u, rfl, rx⟩ := vals1 r
  obtain rfl : u = .ref p := rx
  obtain ⟨o, es, ep, t, ho, hex, hd, _, _, _, hb, hf, hn, _⟩ := setO_get I hp
  have sb : scanBound = 4096 := rfl
  refine call_len_set ho hex hd hf (by omega) ?_
  rw [hn]
  exact ⟨.int ((n : Nat) : Int), H, I.tok _, ⟨_, rfl⟩, q⟩
section
variable {X : Cx} {tg iter elt : Expr} {scope : Scope} {own : List (Str × Nat)} {pos spos p : Pos} {src : LF} {is : List Nat} {G : AG} {f : EF}
/-- len({elt for ..}) -/
theorem ej_lenS (hc : X.calm = true) (hN : X.N.Nodup) (hg1 : Gl X "len") (hm : X.mg "len" = none) (hi : IaJ X tg iter src) (ok : BlkOk X.N X.env.scope scope own) (sub : ∀ i ∈ is, i ∈ own.map (·.2))
    (hg : ∀ (s : Shared) (H : Hp) (C : Addr) (cl : List (Str × Addr)) (fp : List Addr), GJ (X.blk s H scope (compEnvC scope cl C X.env) fp) tg is G)
    (he : ∀ (s : Shared) (H : Hp) (C : Addr) (cl : List (Str × Addr)) (fp : List Addr), EJ (X.blk s H scope (compEnvC scope cl C X.env) fp) elt f) (hs : ∀ x, foldedSetIterable iter X.env x = pure x := by intro _; rfl)
    (hst : starEach [.SetComp elt [⟨tg, iter, [], 0⟩] scope spos] X.env = [(false, eval (.SetComp elt [⟨tg, iter, [], 0⟩] scope spos) X.env)] := by rfl) :
    EJ X (.Call (.Name "len" p) [.SetComp elt [⟨tg, iter, [], 0⟩] scope spos] [] pos) (eLenS src (own.map (·.2)) G f) := by
  have hset : PE X (.SetComp elt [⟨tg, iter, [], 0⟩] scope spos) (tSetI X.K X.prog X.w (eLenS src (own.map (·.2)) G f)) := by
    refine ⟨fun pins s σ H Q I h => ?_⟩
    rw [PpSet.eval_SetComp]
    refine kind_core hc hN I kind_set hi ok hg (fun _ _ _ _ _ => ptj_nil) (fun s H C cl fp pn s1 σ1 H1 D Nx I1 h1 => ?_) hs (set_comp_ok sub σ H Q h) fun D C s' m H' I' q hn f => ⟨m, hn, fun h'' sb => ?_⟩
    · exact putS_ok (X := X.blk s H scope (compEnvC scope cl C X.env) fp) (he s H C cl fp) I1 h1
    · obtain ⟨f0, f1, f2, f3, f4, f5⟩ := f
      exact ⟨.ref D, H', I'.turned (t' := s'.toks) (fun b o hb e => (sb.2 b hb).trans e) f0 f1 f3 f4 f5, rfl, q⟩
  refine PEimp (one_call call_len_setI hg1 hm PySem.boot_len hset hst (by decide) (by decide)) fun σ H Q h => ?_
  obtain ⟨H0, ss, d, R, e, q⟩ := h
  have e2 : ∃ n, d = .int (.ofNat n) := by
    unfold eLenS at e
    split at e
    · split at e
      · split at e
        · cases e
          exact ⟨_, rfl⟩
        · cases e
      · cases e
    · cases e
  obtain ⟨n, rfl⟩ := e2
  exact ⟨H0, ss, n, R, e, fun a S H' g ha => ⟨a, S, n, rfl, ha, q _ H' g (Rp.int _)⟩⟩
end

/-! ### sorted -/
section
variable {α : Type}
def insB (lt : α → α → Bool) (x : α) : List α → List α
  | [] => [x]
  | y :: ys => match lt y x with
    | true => y :: insB lt x ys
    | false => x :: y :: ys
def srtB (lt : α → α → Bool) : List α → List α
  | [] => []
  | x :: xs => insB lt x (srtB lt xs)
theorem insB_perm (lt : α → α → Bool) (x : α) : ∀ ys, (insB lt x ys).Perm (x :: ys)
  | [] => List.Perm.refl _
  | y :: ys => by
    unfold insB
    split
    · exact ((insB_perm lt x ys).cons y).trans (List.Perm.swap x y ys)
    · exact List.Perm.refl _
theorem srtB_perm (lt : α → α → Bool) : ∀ xs, (srtB lt xs).Perm xs
  | [] => List.Perm.refl _
  | x :: xs => (insB_perm lt x _).trans ((srtB_perm lt xs).cons x)
/-- each before the next -/
def upB (lt : α → α → Bool) : List α → Bool
  | x :: y :: r => lt x y && upB lt (y :: r)
  | _ => true
theorem upB_pair {lt : α → α → Bool} {R : α → α → Prop} (ht : ∀ a b c, R a b → R b c → R a c) : ∀ {xs : List α}, (∀ a ∈ xs, ∀ b ∈ xs, lt a b = true → R a b) → upB lt xs = true → xs.Pairwise R
  | [], _, _ => List.Pairwise.nil
  | [x], _, _ => List.pairwise_singleton _ _
  | x :: y :: r, hR, h => by
    unfold upB at h
    obtain ⟨h1, h2⟩ := Bool.and_eq_true_iff.mp h
    have p := upB_pair ht (xs := y :: r) (fun a ha b hb => hR a (List.mem_cons_of_mem _ ha) b (List.mem_cons_of_mem _ hb)) h2
    have xy := hR x List.mem_cons_self y (List.mem_cons_of_mem _ List.mem_cons_self) h1
    refine List.Pairwise.cons (fun z hz => ?_) p
    rcases List.mem_cons.mp hz with rfl | hz
    · exact xy
    · exact ht x y z xy ((List.pairwise_cons.mp p).1 z hz)
end
inductive Sch where
  | i | b | s | t (ss : List Sch) | l (x : Sch)
mutual
def fits : Sch → D → Bool
  | .i, .int _ => true
  | .b, .bl _ => true
  | .s, .str _ => true
  | .t ss, .tup xs => fitsT ss xs
  | .l x, .tup xs => fitsA x xs
  | _, _ => false
def fitsT : List Sch → List D → Bool
  | _, [] => true
  | s :: ss, x :: xs => fits s x && fitsT ss xs
  | [], _ :: _ => false
def fitsA : Sch → List D → Bool
  | _, [] => true
  | s, x :: xs => fits s x && fitsA s xs
end
mutual
theorem fits_alk : ∀ (s : Sch) (a b : D), fits s a = true → fits s b = true → alk a b = true
  | .i, .int _, .int _, _, _ => rfl
  | .b, .bl _, .bl _, _, _ => rfl
  | .s, .str _, .str _, _, _ => rfl
  | .t ss, .tup xs, .tup ys, h1, h2 => fitsT_alk ss xs ys h1 h2
  | .l x, .tup xs, .tup ys, h1, h2 => fitsA_alk x xs ys h1 h2
  | .i, .non, _, h, _ => by cases h
  | .i, .bl _, _, h, _ => by cases h
  | .i, .str _, _, h, _ => by cases h
  | .i, .tup _, _, h, _ => by cases h
  | .i, .int _, .non, _, h => by cases h
  | .i, .int _, .bl _, _, h => by cases h
  | .i, .int _, .str _, _, h => by cases h
  | .i, .int _, .tup _, _, h => by cases h
  | .b, .non, _, h, _ => by cases h
  | .b, .int _, _, h, _ => by cases h
  | .b, .str _, _, h, _ => by cases h
  | .b, .tup _, _, h, _ => by cases h
  | .b, .bl _, .non, _, h => by cases h
  | .b, .bl _, .int _, _, h => by cases h
  | .b, .bl _, .str _, _, h => by cases h
  | .b, .bl _, .tup _, _, h => by cases h
  | .s, .non, _, h, _ => by cases h
  | .s, .int _, _, h, _ => by cases h
  | .s, .bl _, _, h, _ => by cases h
  | .s, .tup _, _, h, _ => by cases h
  | .s, .str _, .non, _, h => by cases h
  | .s, .str _, .bl _, _, h => by cases h
  | .s, .str _, .int _, _, h => by cases h
  | .s, .str _, .tup _, _, h => by cases h
  | .t _, .non, _, h, _ => by cases h
  | .t _, .int _, _, h, _ => by cases h
  | .t _, .bl _, _, h, _ => by cases h
  | .t _, .str _, _, h, _ => by cases h
  | .t _, .tup _, .non, _, h => by cases h
  | .t _, .tup _, .int _, _, h => by cases h
  | .t _, .tup _, .bl _, _, h => by cases h
  | .t _, .tup _, .str _, _, h => by cases h
  | .l _, .non, _, h, _ => by cases h
  | .l _, .int _, _, h, _ => by cases h
  | .l _, .bl _, _, h, _ => by cases h
  | .l _, .str _, _, h, _ => by cases h
  | .l _, .tup _, .non, _, h => by cases h
  | .l _, .tup _, .int _, _, h => by cases h
  | .l _, .tup _, .bl _, _, h => by cases h
  | .l _, .tup _, .str _, _, h => by cases h
theorem fitsT_alk : ∀ (ss : List Sch) (a b : List D), fitsT ss a = true → fitsT ss b = true → alkL a b = true
  | _, [], _, _, _ => rfl
  | _, _ :: _, [], _, _ => rfl
  | s :: ss, x :: xs, y :: ys, h1, h2 => by
    unfold fitsT at h1 h2
    obtain ⟨a1, a2⟩ := Bool.and_eq_true_iff.mp h1
    obtain ⟨b1, b2⟩ := Bool.and_eq_true_iff.mp h2
    unfold alkL
    rw [fits_alk s x y a1 b1, fitsT_alk ss xs ys a2 b2]
    rfl
  | [], _ :: _, _, h, _ => by cases h
theorem fitsA_alk : ∀ (s : Sch) (a b : List D), fitsA s a = true → fitsA s b = true → alkL a b = true
  | _, [], _, _, _ => rfl
  | _, _ :: _, [], _, _ => rfl
  | s, x :: xs, y :: ys, h1, h2 => by
    unfold fitsA at h1 h2
    obtain ⟨a1, a2⟩ := Bool.and_eq_true_iff.mp h1
    obtain ⟨b1, b2⟩ := Bool.and_eq_true_iff.mp h2
    unfold alkL
    rw [fits_alk s x y a1 b1, fitsA_alk s xs ys a2 b2]
    rfl
end
def tupNe (d : D) : Bool := match d with
  | .tup (_ :: _) => true
  | _ => false
def sortOk (sch : Sch) (xs : List D) : Bool := xs.all fun d => fits sch d && tupNe d && okd d
def lSort (sch : Sch) (f : LF) : LF := fun ss => match f ss with
  | some xs => match sortOk sch xs && Nat.ble xs.length 900 with
    | true => match upB ltb (srtB ltb xs) with
      | true => some (srtB ltb xs)
      | false => none
    | false => none
  | none => none
theorem sort_is {sch : Sch} {xs : List D} (h1 : sortOk sch xs = true) (h2 : upB ltb (srtB ltb xs) = true) : xs.mergeSort (PySem.W.dataLe false py) = srtB ltb xs := by
  have T := PySem.W.sortLe_total (PyProof.Rows.listOrd PyProof.Rows.itemOrd) false fun b : D => PySem.W.keyToks (py b)
  have pm := srtB_perm ltb xs
  have all : ∀ a ∈ xs, ∀ b ∈ xs, alk a b = true := fun a ha b hb => by
    have qa := (List.all_eq_true.mp h1) a ha
    have qb := (List.all_eq_true.mp h1) b hb
    simp only [Bool.and_eq_true] at qa qb
    exact fits_alk sch a b qa.1.1 qb.1.1
  have le_of : ∀ a ∈ xs, ∀ b ∈ xs, PySem.W.dataLe false py a b = !ltb b a := fun a ha b hb => by
    show (!PySem.W.dataLt (py b) (py a)) = _
    rw [lt_py b a (all b hb a ha)]
  -- strictly: no equal ranks
  have str : (srtB ltb xs).Pairwise fun a b => PySem.W.dataLe false py a b = true ∧ PySem.W.dataLe false py b a = false := by
    have tr : ∀ a b c : D, (PySem.W.dataLe false py a b = true ∧ PySem.W.dataLe false py b a = false) → (PySem.W.dataLe false py b c = true ∧ PySem.W.dataLe false py c b = false) → PySem.W.dataLe false py a c = true ∧ PySem.W.dataLe false py c a = false := fun a b c p q => by
      refine ⟨T.trans a b c p.1 q.1, ?_⟩
      cases h : PySem.W.dataLe false py c a with
      | false => rfl
      | true =>
        have e : PySem.W.dataLe false py b a = true := T.trans b c a q.1 h
        rw [p.2] at e
        cases e
    refine upB_pair tr (fun a ha b hb lt => ?_) h2
    have ha := pm.mem_iff.mp ha
    have hb := pm.mem_iff.mp hb
    have e2 : PySem.W.dataLe false py b a = false := by rw [le_of b hb a ha, lt]; rfl
    refine ⟨?_, e2⟩
    rcases T.total a b with z | z
    · exact z
    · have z : PySem.W.dataLe false py b a = true := z
      rw [e2] at z
      cases z
  have nd : ∀ a ∈ srtB ltb xs, ∀ b ∈ srtB ltb xs, PySem.W.dataLe false py a b = true → PySem.W.dataLe false py b a = true → a = b := fun a ha b hb p q => by
    obtain ⟨i, hi, rfl⟩ := List.getElem_of_mem ha
    obtain ⟨j, hj, rfl⟩ := List.getElem_of_mem hb
    rw [List.pairwise_iff_getElem] at str
    rcases Nat.lt_trichotomy i j with l | l | l
    · have := (str i j hi hj l).2
      rw [q] at this
      cases this
    · subst l
      rfl
    · have := (str j i hj hi l).2
      rw [p] at this
      cases this
  refine List.Perm.eq_of_pairwise (le := fun a b => PySem.W.dataLe false py a b = true) (fun a b ha hb p q => nd a ?_ b hb p q) (PySem.W.sort_pairwise T xs) (str.imp fun z => z.1) ?_
  · exact pm.mem_iff.mpr ((List.mergeSort_perm xs _).mem_iff.mp ha)
  · exact (List.mergeSort_perm xs _).trans pm.symm
theorem each_of {K : PySem.W.Frag} {H : Hp} : ∀ {ds : List D} {vs : List V} {us : List Value}, RpL K H vs ds → Vals vs us → PySem.W.EachIs (fun u d => ∃ v, RelV v u ∧ Rp K H v d) us ds
  | [], _, _, h, r => by
    rw [h.unnil] at r
    cases r
    exact .nil
  | d :: ds, _, _, h, r => by
    obtain ⟨v, t, rfl, h1, h2⟩ := h.uncons
    cases r with
    | cons r1 r2 => exact .cons ⟨v, r1, h1⟩ (each_of h2 r2)
theorem each_back {K : PySem.W.Frag} {H : Hp} : ∀ {ds : List D} {us : List Value}, PySem.W.EachIs (fun u d => ∃ v, RelV v u ∧ Rp K H v d) us ds → ∃ vs, Vals vs us ∧ RpL K H vs ds
  | _, _, .nil => ⟨[], .nil, RpL.nil⟩
  | _, _, .cons ⟨v, r, q⟩ t => by
    obtain ⟨vs, a, b⟩ := each_back t
    exact ⟨v :: vs, .cons r a, RpL.cons q b⟩
section
variable {X : Cx}
def rSortD (K : PySem.W.Frag) (sch : Sch) : List V → Hp → VK → Prop := fun vs H Q => ∃ (a : Addr) (ws : List V) (xs : List D), vs = [V.ref a] ∧ SqL K H a ws ∧ RpL K H ws xs ∧ sortOk sch xs = true ∧ upB ltb (srtB ltb xs) = true ∧
  ∀ (p : Addr) (ys : List V), H p = none → RpL K H ys (srtB ltb xs) → Q (.ref p) (upd H p (.lst ys))
theorem cr_sortD {k : Nat} (hr : Room k X.A) (sch : Sch) : CallR X (.builtin "sorted") (rSortD X.K sch) := by
  intro pins s σ H vs us Q I r h
  obtain ⟨a, ws, xs, rfl, hs, rx, h1, h2, q⟩ := h
  obtain ⟨its, rv, hl, hz⟩ := I.list hs
  rw [Vals.ref1 r]
  have ei := each_of rx rv
  have hz2 : xs.length ≤ sizeLine := by rw [← rx.length]; exact hz
  have mem : ∀ d ∈ xs, fits sch d = true ∧ tupNe d = true ∧ dep d ≤ 7 := fun d hd => by
    have z := (List.all_eq_true.mp h1) d hd
    simp only [Bool.and_eq_true] at z
    exact ⟨z.1.1, z.1.2, okd_le z.2⟩
  refine PySem.W.sorted_data (enc := py) (R := fun u d => ∃ v, RelV v u ∧ Rp X.K H v d) hl.isList ei (ei.mono fun u d z => ?_) (fun d hd e he => ?_) (.inl fun d hd => ?_) hz2 (fun b hb => ?_) fun out hlen ho => ?_
  · obtain ⟨v, r1, r2⟩ := z
    exact Dp.reads I _ v u r2 r1
  · obtain ⟨x, hx, rfl⟩ := List.mem_map.mp hd
    obtain ⟨y, hy, rfl⟩ := List.mem_map.mp he
    rw [alk_py]
    exact fits_alk sch x y (mem x hx).1 (mem y hy).1
  · obtain ⟨x, hx, rfl⟩ := List.mem_map.mp hd
    have z := (mem x hx).2.1
    unfold tupNe at z
    split at z
    · exact ⟨_, _, rfl⟩
    · cases z
  · have := (mem b hb).2.2
    rw [dep_py]
    have hu := hr.units
    omega
  · rw [sort_is h1 h2] at ho
    obtain ⟨ys, v1, v2⟩ := each_back ho
    obtain ⟨ep, he'⟩ := PyProof.Rows.sortedAll_at s.heap its out.toArray
    have hy : ys.length ≤ sizeLine := by rw [v2.length, (srtB_perm ltb xs).length_eq]; exact hz2
    exact ⟨.ref _, upd H (s.heap.objs.size + 1) (.lst ys), I.laid (t' := s.toks) (fun _ _ => PyProof.Rows.sortedAll_old) (Nat.le_succ _) ⟨hy, out, ep, v1, he'⟩, rfl, q _ ys (I.hok.fresh (Nat.le_succ _)) v2⟩
end
/-- the int keys of a dict -/
def intKeys : List (D × D) → Option (List Int)
  | [] => some []
  | (.int i, _) :: r => match intKeys r with
    | some is => some (i :: is)
    | none => none
  | _ :: _ => none
def lei (i j : Int) : Bool := !il j i
def lSortK (i : Nat) : LF := fun ss => match slot ss i with
  | some (.dk kvs) => match intKeys kvs with
    | some ks => match Nat.ble ks.length 60 && upB lei (srtB il ks) with
      | true => some ((srtB il ks).map .int)
      | false => none
    | none => none
  | _ => none
theorem keys_are {K : PySem.W.Frag} {H : Hp} : ∀ {kvs : List (D × D)} {xs : List (Key × V)} {ks : List Int}, intKeys kvs = some ks → KR K H kvs xs → xs.map (·.1) = ks.map Sum.inl
  | [], _, ks, h, .nil => by
    cases h
    rfl
  | (k, d) :: kvs, _, ks, h, .cons (b := b) ⟨h1, h2⟩ t => by
    unfold intKeys at h
    split at h
    · rename_i e
      cases e
    · rename_i e
      cases e
      split at h
      · rename_i is hi
        cases h
        rw [List.map_cons, List.map_cons, keys_are hi t]
        have e : Sum.inl _ = b.1 := Option.some.inj h1
        rw [← e]
      · cases h
    · cases h
theorem ints_rpl {K : PySem.W.Frag} {H : Hp} : ∀ ks : List Int, RpL K H (ks.map V.int) (ks.map D.int)
  | [] => RpL.nil
  | k :: ks => RpL.cons (Rp.int k) (ints_rpl ks)
section
variable {X : Cx} {e : Expr} {pos p : Pos} {f : LF} {x : Str} {i k : Nat}
theorem nj_sort (hr : Room k X.A) (sch : Sch) (hg : Gl X "sorted") (hm : X.mg "sorted" = none) (ha : LJ X e f) (he : starEach [e] X.env = [(false, eval e X.env)] := by rfl) : NJ X (.Call (.Name "sorted" p) [e] [] pos) (lSort sch f) :=
  PEimp (one_call (cr_sortD hr sch) hg hm PyProof.Rows.boot_sorted ha he (by decide) (by decide)) fun σ H Q ⟨H0, ss, d, R, h, q⟩ => by
    unfold lSort at h
    split at h
    · rename_i xs hx
      split at h
      · rename_i h1
        split at h
        · rename_i h2
          cases h
          obtain ⟨h1, _⟩ := two_ok h1
          refine ⟨H0, ss, xs, R, hx, fun a vs H1 g1 a1 r1 => ⟨a, vs, xs, rfl, .inl (.inl a1), r1, h1, h2, fun pp ys hp ry => ?_⟩⟩
          exact q pp ys _ (g1.trans (same_new hp)) (g1.free hp) upd_same (ry.same (same_new hp))
        · cases h
      · cases h
    · cases h
theorem nj_sortK (hc : X.calm = true) (hg : Gl X "sorted") (hm : X.mg "sorted" = none) {y : Str} {py : Pos} (ha : PE X (.Name y py) (tVar i)) (he : starEach [.Name y py] X.env = [(false, eval (.Name y py) X.env)] := by rfl) : NJ X (.Call (.Name "sorted" p) [.Name y py] [] pos) (lSortK i) :=
  PEimp (one_call (call_sortedDI hc) hg hm PyProof.Rows.boot_sorted ha he (by decide) (by decide)) fun σ H Q ⟨H0, ss, d, R, h, q⟩ => by
    unfold lSortK at h
    split at h
    · rename_i kvs hk
      split at h
      · rename_i ks hks
        split at h
        · rename_i h1
          cases h
          obtain ⟨hz, hu⟩ := two_ok h1
          have hz := Nat.le_of_ble_eq_true hz
          obtain ⟨a1, xs, e1, n0, e2, kr⟩ := slot_dk R hk
          refine ⟨_, e1, a1, xs, ks, rfl, .inl e2, keys_are hks kr, by omega, fun ys pp pm pw hp => ?_⟩
          have pm2 := srtB_perm il ks
          have pw2 : (srtB il ks).Pairwise (· ≤ ·) := upB_pair (R := fun a b : Int => a ≤ b) (fun a b c p q => Int.le_trans p q) (fun a _ b _ h => by
            unfold lei at h
            rw [not_il] at h
            exact of_decide_eq_true h) hu
          have ey : ys = srtB il ks := List.Perm.eq_of_pairwise (fun a b _ _ => Int.le_antisymm) pw pw2 (pm.trans pm2.symm)
          subst ey
          exact q pp _ _ (same_new hp) hp upd_same (ints_rpl _)
        · cases h
      · cases h
    · cases h
end
end Wf

namespace Wf
open PySem PySem.Spec PyProof.Rows L2

/-! ### two clauses -/
def comp2Go (base : Ss) (vs1 : List Nat) (G : AG) (src1 : LF) (G1 : AG) (f : EF) : List D → Option (List D)
  | [] => some []
  | x :: xs => match G x base with
    | some s1 => match src1 s1 with
      | some ys => match compGo (wipeS s1 vs1) G1 bYes f ys with
        | some ds => match comp2Go base vs1 G src1 G1 f xs with
          | some es => some (ds ++ es)
          | none => none
        | none => none
      | none => none
    | none => none
def lComp2 (src : LF) (vs vs1 : List Nat) (G : AG) (src1 : LF) (G1 : AG) (f : EF) : LF := fun ss => match src ss with
  | some xs => match comp2Go (wipeS ss vs) vs1 G src1 G1 f xs with
    | some ds => match Nat.ble ds.length 900 with
      | true => some ds
      | false => none
    | none => none
  | none => none
theorem nlst {Hk H H' : Hp} {D : Addr} {ws : List V} (eD : H D = some (.lst ws)) (cl : ∀ b o, Hk b = some o → H b = none ∨ ¬ Soft o) (k : Same Hk H') (g : Same H H') : Hk D = none := by
  cases h : Hk D with
  | none => rfl
  | some o =>
    rcases cl D o h with n | n
    · rw [n] at eD
      cases eD
    · have e1 := k D o h
      rw [g D _ eD] at e1
      cases e1
      exact absurd trivial n
/-- one object alone -/
def only (D : Addr) (o : HO) : Hp := fun b => if b = D then some o else none
theorem only_le {H : Hp} {D : Addr} {o : HO} (e : H D = some o) : Same (only D o) H := fun b u h => by
  unfold only at h
  split at h
  · rename_i hb
    subst hb
    rw [e]
    exact h
  · cases h
theorem only_ne {D b : Addr} {o : HO} (h : b ≠ D) : only D o b = none := if_neg h
theorem join_only {H0 : Hp} {D : Addr} {o : HO} (h : join H0 (only D o) D = none) : False := by
  unfold join only at h
  split at h
  · cases h
  · rw [if_pos rfl] at h
    cases h
section
variable {X : Cx} {tg tg1 iter iter1 elt : Expr} {scope : Scope} {own : List (Str × Nat)} {pos : Pos} {src src1 : LF} {vs1 is is1 : List Nat} {G G1 : AG} {f : EF}
theorem nj_comp2 (hc : X.calm = true) (hN : X.N.Nodup) (hi : IaJ X tg iter src) (ok : BlkOk X.N X.env.scope scope own) (hv : ∀ i ∈ vs1, i ∈ own.map (·.2)) (sub : ∀ i ∈ is, i ∈ own.map (·.2)) (sub1 : ∀ i ∈ is1, i ∈ vs1)
    (hg : ∀ (s : Shared) (H : Hp) (C : Addr) (cl : List (Str × Addr)) (fp : List Addr), GJ (X.blk s H scope (compEnvC scope cl C X.env) fp) tg is G)
    (hi1 : ∀ (s : Shared) (H : Hp) (C : Addr) (cl : List (Str × Addr)) (fp : List Addr), IJ (X.blk s H scope (compEnvC scope cl C X.env) fp) tg1 iter1 src1)
    (hg1 : ∀ (s : Shared) (H : Hp) (C : Addr) (cl : List (Str × Addr)) (fp : List Addr), GJ (X.blk s H scope (compEnvC scope cl C X.env) fp) tg1 is1 G1)
    (he : ∀ (s : Shared) (H : Hp) (C : Addr) (cl : List (Str × Addr)) (fp : List Addr), EJ (X.blk s H scope (compEnvC scope cl C X.env) fp) elt f) (hs : ∀ x, foldedSetIterable iter X.env x = pure x := by intro _; rfl) (hs1 : ∀ env x, foldedSetIterable iter1 env x = pure x := by intro _ _; rfl) :
    NJ X (.ListComp elt [⟨tg, iter, [], 0⟩, ⟨tg1, iter1, [], 0⟩] scope pos) (lComp2 src (own.map (·.2)) vs1 G src1 G1 f) :=
  PEimp (pe_lc2 (te := tD X.K X.prog X.w f) (g := tG X.K X.prog X.w is G) (g1 := tG X.K X.prog X.w is1 G1) (wi1 := tI X.K X.prog X.w src1) (tt := tT X.K X.prog X.w bYes) (tt1 := tT X.K X.prog X.w bYes) hc hN hi ok hv hg (fun s H C cl fp => ptj_nil (X := X.blk s H scope (compEnvC scope cl C X.env) fp)) hi1 hg1 (fun s H C cl fp => ptj_nil (X := X.blk s H scope (compEnvC scope cl C X.env) fp)) he hs hs1) fun σ H Q ⟨H0, ss, ds, R, h, q⟩ => by
    unfold lComp2 at h
    split at h
    · rename_i xs hxs
      split at h
      · rename_i ds0 hgo
        split at h
        · rename_i hz
          cases h
          have hz := Nat.le_of_ble_eq_true hz
          refine ⟨H0, ss, xs, R, hxs, fun J H1 g1 it D hD => ?_⟩
          refine ⟨fun i m H' => m = xs.length - i ∧ i ≤ xs.length ∧ ∃ ws acc rest, Same H1 H' ∧ H' D = some (.lst ws) ∧ RpL X.K H' ws acc ∧ comp2Go (wipeS ss (own.map (·.2))) vs1 G src1 G1 f (xs.drop i) = some rest ∧ acc ++ rest = ds,
            ⟨xs.length, by omega, Nat.zero_le _, [], [], ds, same_new hD, upd_same, RpL.nil, hgo, rfl⟩, ?_⟩
          rintro i m H' ⟨rfl, hi, ws, acc, rest, gk, eD, ra, hr, ea⟩
          by_cases hlt : i < xs.length
          · rw [List.drop_eq_getElem_cons hlt] at hr
            unfold comp2Go at hr
            split at hr
            · rename_i s1 hs1
              split at hr
              · rename_i ys hys
                split at hr
                · rename_i es hes
                  split at hr
                  · rename_i r2 hr2
                    cases hr
                    refine .inr ⟨it.go i H' gk hlt, fun H2 => ∃ ws acc rest, Same H1 H2 ∧ H2 D = some (.lst ws) ∧ RpL X.K H2 ws acc ∧ comp2Go (wipeS ss (own.map (·.2))) vs1 G src1 G1 f (xs.drop (i + 1)) = some rest ∧ acc ++ rest = ds,
                      fun H2 z => ⟨xs.length - (i + 1), by omega, rfl, hlt, z⟩, fun x H2 y => ?_⟩
                    obtain ⟨d, hd, rfl, rd⟩ := it.yld i H' x H2 gk hlt y
                    rw [List.getElem?_eq_getElem hlt] at hd
                    cases hd
                    have no0 : ∀ j, ¬ OwnAt σ ss j D := (R.grow g1).no_own hD
                    have Rg := (R.grow (g1.trans gk)).guard (Hk := only D (.lst ws)) (only_le eD) fun j a oa => only_ne fun e => no0 j (e ▸ oa)
                    refine ⟨_, wipeS ss (own.map (·.2)), _, s1, Rg.wipe _, rd, hs1, fun σ2 R2 hw => ⟨by rw [hw _ sub, wipe_wipe], ?_⟩⟩
                    have no2 : ∀ j, ¬ OwnAt σ2 s1 j D := fun j oj => join_only (R2.own_at oj).1
                    have R2 : SR X.K X.prog X.w H0 _ σ2 s1 := R2.unguard
                    refine ⟨H0, s1, true, R2, rfl, fun H3 g3 => ?_⟩
                    refine iteT ?_
                    have R3 := R2.grow g3
                    refine ⟨H0, s1, ys, R3, hys, fun J1 Hk H4 g4 g5 cl it1 => ?_⟩
                    have e3 := g3 _ _ eD
                    have e4 := g4 _ _ e3
                    have kD : Hk D = none := nlst e3 cl g5 g4
                    have R4 := R3.grow g4
                    refine ⟨fun j k H5 => k = ys.length - j ∧ j ≤ ys.length ∧ ∃ ws acc rest, Same H1 H5 ∧ Same Hk H5 ∧ SR X.K X.prog X.w H0 H5 σ2 s1 ∧ H5 D = some (.lst ws) ∧ RpL X.K H5 ws acc ∧ compGo (wipeS s1 vs1) G1 bYes f (ys.drop j) = some rest ∧ (acc ++ rest) ++ r2 = ds,
                      ⟨ys.length, by omega, Nat.zero_le _, ws, acc, es, (gk.trans g3).trans g4, g5, R4, e4, ra.same (g3.trans g4), hes, by rw [← ea, List.append_assoc]⟩, ?_⟩
                    rintro j k H5 ⟨rfl, hj, ws, acc, rest, gk5, kk5, R5, eD5, ra5, hr5, ea5⟩
                    by_cases hlt1 : j < ys.length
                    · rw [List.drop_eq_getElem_cons hlt1] at hr5
                      unfold compGo at hr5
                      split at hr5
                      · rename_i s2 hs2
                        simp only [bYes] at hr5
                        split at hr5
                        · rename_i d2 hd2
                          split at hr5
                          · rename_i r3 hr3
                            cases hr5
                            refine .inr ⟨it1.go j H5 kk5 hlt1, fun H6 => ∃ ws acc rest, Same H1 H6 ∧ Same Hk H6 ∧ SR X.K X.prog X.w H0 H6 σ2 s1 ∧ H6 D = some (.lst ws) ∧ RpL X.K H6 ws acc ∧ compGo (wipeS s1 vs1) G1 bYes f (ys.drop (j + 1)) = some rest ∧ (acc ++ rest) ++ r2 = ds,
                              fun H6 z => ⟨ys.length - (j + 1), by omega, rfl, hlt1, z⟩, fun x1 H6 y1 => ?_⟩
                            obtain ⟨d1, hd1, rfl, rd1⟩ := it1.yld j H5 x1 H6 kk5 hlt1 y1
                            rw [List.getElem?_eq_getElem hlt1] at hd1
                            cases hd1
                            refine ⟨H0, wipeS s1 vs1, _, s2, R5.wipe _, rd1, hs2, fun σ3 R6 hw1 => ⟨by rw [hw1 _ sub1, wipe_wipe], H0, s2, true, R6, rfl, fun H7 g7 => ?_⟩⟩
                            refine iteT ?_
                            refine ⟨H0, s2, d2, R6.grow g7, hd2, fun v H8 g8 r8 => ?_⟩
                            have g := g7.trans g8
                            have e8 := g _ _ eD5
                            have t := tk_upd (u := .lst (ws ++ [v])) e8 trivial
                            refine ⟨ws, e8, ?_, ws ++ [v], acc ++ [d2], r3, same_put (gk5.trans g) hD, same_put (kk5.trans g) kD, ?_, upd_same, RpL.tk t ((ra5.same g).app (RpL.one r8)), hr3, ?_⟩
                            · rw [ra5.length]
                              have := congrArg List.length ea5
                              rw [List.length_append, List.length_append] at this
                              exact small1000 (by omega)
                            · refine (R5.grow g).touch e8 trivial ?_ no2
                              cases h0 : H0 D with
                              | none => rfl
                              | some o =>
                                have := g1 _ _ (R.same _ _ h0)
                                rw [hD] at this
                                cases this
                            · rw [← ea5]
                              simp only [List.append_assoc, List.cons_append, List.nil_append]
                          · cases hr5
                        · cases hr5
                      · cases hr5
                    · have e : j = ys.length := by omega
                      subst e
                      rw [List.drop_length] at hr5
                      unfold compGo at hr5
                      cases hr5
                      rw [List.append_nil] at ea5
                      exact .inl ⟨it1.stop _ H5 kk5 (Nat.le_refl _), ws, acc, r2, gk5, eD5, ra5, hr2, ea5⟩
                  · cases hr
                · cases hr
              · cases hr
            · cases hr
          · have e : i = xs.length := by omega
            subst e
            rw [List.drop_length] at hr
            unfold comp2Go at hr
            cases hr
            rw [List.append_nil] at ea
            subst ea
            exact .inl ⟨it.stop _ H' gk (Nat.le_refl _), q D ws H' (g1.trans gk) (g1.free hD) eD ra⟩
        · cases h
      · cases h
    · cases h
end
end Wf

namespace Wf
open PySem PySem.Spec PyProof.Rows L2

/-! ### what makes its items as it goes -/
structure ItS (K : PySem.W.Frag) (J : It) (Hk : Hp) (xs : List D) : Prop where
  go : ∀ (i : Nat) (H : Hp), Same Hk H → i < xs.length → J.go i H
  yld : ∀ (i : Nat) (H : Hp) (x : V) (H' : Hp), Same Hk H → i < xs.length → J.yld i H x H' → ∃ d, xs[i]? = some d ∧ Same H H' ∧ Rp K H' x d
  stop : ∀ (i : Nat) (H : Hp), Same Hk H → xs.length ≤ i → J.stop i H
def tIs (K : PySem.W.Frag) (P : Program) (w : World) (src : LF) : TI := fun σ H Rt => ∃ H0 ss xs, SR K P w H0 H σ ss ∧ src ss = some xs ∧ ∀ J H', Same H H' → ItS K J H' xs → Rt J H'
section
variable {X : Cx} {tg iter elt c : Expr} {scope : Scope} {own : List (Str × Nat)} {pos : Pos} {src : LF} {is : List Nat} {G : AG} {f : EF}
theorem nj_compS (hc : X.calm = true) (hN : X.N.Nodup) (hi : PI X tg iter (tIs X.K X.prog X.w src)) (ok : BlkOk X.N X.env.scope scope own) (sub : ∀ i ∈ is, i ∈ own.map (·.2))
    (hg : ∀ (s : Shared) (H : Hp) (C : Addr) (cl : List (Str × Addr)) (fp : List Addr), GJ (X.blk s H scope (compEnvC scope cl C X.env) fp) tg is G)
    (he : ∀ (s : Shared) (H : Hp) (C : Addr) (cl : List (Str × Addr)) (fp : List Addr), EJ (X.blk s H scope (compEnvC scope cl C X.env) fp) elt f) (hs : ∀ x, foldedSetIterable iter X.env x = pure x := by intro _; rfl) :
    NJ X (.ListComp elt [⟨tg, iter, [], 0⟩] scope pos) (lComp src (own.map (·.2)) G bYes f) :=
  PEimp (pe_lc (te := tD X.K X.prog X.w f) (g := tG X.K X.prog X.w is G) (tt := tT X.K X.prog X.w bYes) hc hN hi ok hg (fun s H C cl fp => ptj_nil (X := X.blk s H scope (compEnvC scope cl C X.env) fp)) he hs) fun σ H Q ⟨H0, ss, ds, R, h, q⟩ => by
    unfold lComp at h
    split at h
    · rename_i xs hxs
      split at h
      · rename_i hl
        have hl := Nat.le_of_ble_eq_true hl
        refine ⟨H0, ss, xs, R, hxs, fun J H1 g1 it D hD => ?_⟩
        refine ⟨fun i m H' => m = xs.length - i ∧ i ≤ xs.length ∧ ∃ ws acc rest, Same H1 H' ∧ H' D = some (.lst ws) ∧ RpL X.K H' ws acc ∧ acc.length ≤ i ∧ compGo (wipeS ss (own.map (·.2))) G bYes f (xs.drop i) = some rest ∧ acc ++ rest = ds,
          ⟨xs.length, by omega, Nat.zero_le _, [], [], ds, same_new hD, upd_same, RpL.nil, Nat.le_refl _, h, rfl⟩, ?_⟩
        rintro i m H' ⟨rfl, hi, ws, acc, rest, gk, eD, ra, la, hr, ea⟩
        by_cases hlt : i < xs.length
        · rw [List.drop_eq_getElem_cons hlt] at hr
          unfold compGo at hr
          split at hr
          · rename_i s1 hs1
            simp only [bYes] at hr
            split at hr
            · rename_i y2 hy2
              split at hr
              · rename_i r2 hr2
                cases hr
                refine .inr ⟨it.go i H' gk hlt, fun H2 => ∃ ws acc rest, Same H1 H2 ∧ H2 D = some (.lst ws) ∧ RpL X.K H2 ws acc ∧ acc.length ≤ i + 1 ∧ compGo (wipeS ss (own.map (·.2))) G bYes f (xs.drop (i + 1)) = some rest ∧ acc ++ rest = ds,
                  fun H2 z => ⟨xs.length - (i + 1), by omega, rfl, hlt, z⟩, fun x H2 y => ?_⟩
                obtain ⟨d, hd, gn, rd⟩ := it.yld i H' x H2 gk hlt y
                rw [List.getElem?_eq_getElem hlt] at hd
                cases hd
                refine ⟨H0, wipeS ss (own.map (·.2)), _, s1, (R.grow ((g1.trans gk).trans gn)).wipe _, rd, hs1, fun σ2 R2 hw => ⟨by rw [hw _ sub, wipe_wipe], H0, s1, true, R2, rfl, fun H3 g3 => ?_⟩⟩
                refine iteT ?_
                refine ⟨H0, s1, y2, R2.grow g3, hy2, fun v H4 g4 r4 => ?_⟩
                have g := (gn.trans g3).trans g4
                have e4 := g _ _ eD
                refine ⟨ws, e4, by rw [ra.length]; exact small1000 (by omega), ws ++ [v], acc ++ [y2], r2, same_put (gk.trans g) hD, upd_same, ?_, ?_, hr2, ?_⟩
                · exact RpL.tk (tk_upd e4 trivial) ((RpL.same g ra).app (RpL.one r4))
                · rw [List.length_append]
                  show acc.length + 1 ≤ i + 1
                  omega
                · rw [List.append_assoc]
                  exact ea
              · cases hr
            · cases hr
          · cases hr
        · have e : i = xs.length := by omega
          subst e
          rw [List.drop_length] at hr
          unfold compGo at hr
          cases hr
          rw [List.append_nil] at ea
          subst ea
          exact .inl ⟨it.stop _ H' gk (Nat.le_refl _), q D ws H' (g1.trans gk) (g1.free hD) eD ra⟩
      · cases h
    · cases h
end

/-! ### zip of a row and of its rest -/
def zipD : List D → List D → List D
  | x :: xs, y :: ys => .tup [x, y] :: zipD xs ys
  | _, _ => []
theorem zipD_len : ∀ xs ys : List D, (zipD xs ys).length = min xs.length ys.length
  | [], _ => by rw [zipD.eq_2 _ _ (fun _ _ _ _ h => by cases h)]; simp
  | _ :: _, [] => by rw [zipD.eq_2 _ _ (fun _ _ _ _ _ h => by cases h)]; simp
  | x :: xs, y :: ys => by
    rw [zipD, List.length_cons, List.length_cons, List.length_cons, zipD_len xs ys]
    omega
theorem zipD_get : ∀ (xs ys : List D) (i : Nat) (x y : D), xs[i]? = some x → ys[i]? = some y → (zipD xs ys)[i]? = some (.tup [x, y])
  | [], _, _, _, _, h, _ => by simp at h
  | _ :: _, [], _, _, _, _, h => by simp at h
  | a :: xs, b :: ys, 0, x, y, h1, h2 => by
    have e1 : a = x := by simpa using h1
    have e2 : b = y := by simpa using h2
    rw [e1, e2]
    rfl
  | a :: xs, b :: ys, i + 1, x, y, h1, h2 => by
    rw [zipD, List.getElem?_cons_succ]
    exact zipD_get xs ys i x y (by simpa using h1) (by simpa using h2)
def rowOf (i : Nat) : LF := fun ss => match slot ss i with
  | some (.d (.tup xs)) => some xs
  | some (.l xs) => some xs
  | _ => none
def lZip (i : Nat) : LF := fun ss => match rowOf i ss with
  | some xs => some (zipD xs (xs.drop 1))
  | none => none
def rSlB (K : PySem.W.Frag) : V → Option Int → Option Int → Hp → VK → Prop := fun x lo hi H Q => rSlA K x lo hi H Q ∨ rSlL K x lo hi H Q
section
variable {X : Cx}
theorem sl_both : SlR X (rSlB X.K) := by
  intro pins s σ H x v vl vu lo hi sl Q I rx hs pl pu h
  rcases h with h | h
  · exact sl_tupA pins s σ H x v vl vu lo hi sl Q I rx hs pl pu h
  · exact sl_list pins s σ H x v vl vu lo hi sl Q I rx hs pl pu h
theorem its_zipT {K : PySem.W.Frag} {H : Hp} {a b : Addr} {us vs : List V} {xs ys : List D} (ha : SqT K H a us) (hb : SqT K H b vs) (ra : RpL K H us xs) (rb : RpL K H vs ys) : ItS K (RZ.ItzT K a b) H (zipD xs ys) := by
  have two : ∀ {i : Nat}, i < (zipD xs ys).length → i < xs.length ∧ i < ys.length := fun h => by
    rw [zipD_len] at h
    omega
  refine ⟨fun i H' g hi => ?_, fun i H' x H2 g hi y => ?_, fun i H' g hi => ?_⟩
  · obtain ⟨h1, h2⟩ := two hi
    obtain ⟨u, e1, _⟩ := ra.get (List.getElem?_eq_getElem h1)
    obtain ⟨v, e2, _⟩ := rb.get (List.getElem?_eq_getElem h2)
    exact ⟨us, vs, u, v, SqT.tk (tk_same g) ha, SqT.tk (tk_same g) hb, e1, e2⟩
  · obtain ⟨h1, h2⟩ := two hi
    obtain ⟨u, e1, r1⟩ := ra.get (List.getElem?_eq_getElem h1)
    obtain ⟨v, e2, r2⟩ := rb.get (List.getElem?_eq_getElem h2)
    obtain ⟨T, p, q, rfl, nT, rfl, f1, f2⟩ := y
    have z1 := f1 _ (SqT.tk (tk_same g) ha)
    have z2 := f2 _ (SqT.tk (tk_same g) hb)
    rw [e1] at z1
    rw [e2] at z2
    cases z1
    cases z2
    have g2 := same_new (o := .tup [u, v]) nT
    exact ⟨_, zipD_get xs ys i _ _ (List.getElem?_eq_getElem h1) (List.getElem?_eq_getElem h2), g2, Rp.tup (.inl (.inl upd_same)) (RpL.cons (r1.same (g.trans g2)) (RpL.one (r2.same (g.trans g2))))⟩
  · refine ⟨us, vs, SqT.tk (tk_same g) ha, SqT.tk (tk_same g) hb, ?_⟩
    rw [zipD_len] at hi
    rw [ra.length, rb.length]
    omega
theorem SqL.gr {K : PySem.W.Frag} {H H' : Hp} {a : Addr} {vs : List V} (g : Same H H') (h : SqL K H a vs) : SqL K H' a vs := by
  rcases h with (h | ⟨o, h⟩) | h
  · exact .inl (.inl (g _ _ h))
  · exact .inl (.inr ⟨o, g _ _ h⟩)
  · exact .inr h
theorem its_zipL {K : PySem.W.Frag} {H : Hp} {a b : Addr} {us vs : List V} {xs ys : List D} (ha : SqL K H a us) (hb : SqL K H b vs) (ra : RpL K H us xs) (rb : RpL K H vs ys) : ItS K (Itz K a b) H (zipD xs ys) := by
  have two : ∀ {i : Nat}, i < (zipD xs ys).length → i < xs.length ∧ i < ys.length := fun h => by
    rw [zipD_len] at h
    omega
  refine ⟨fun i H' g hi => ?_, fun i H' x H2 g hi y => ?_, fun i H' g hi => ?_⟩
  · obtain ⟨h1, h2⟩ := two hi
    obtain ⟨u, e1, _⟩ := ra.get (List.getElem?_eq_getElem h1)
    obtain ⟨v, e2, _⟩ := rb.get (List.getElem?_eq_getElem h2)
    exact ⟨us, vs, u, v, SqL.gr g ha, SqL.gr g hb, e1, e2⟩
  · obtain ⟨h1, h2⟩ := two hi
    obtain ⟨u, e1, r1⟩ := ra.get (List.getElem?_eq_getElem h1)
    obtain ⟨v, e2, r2⟩ := rb.get (List.getElem?_eq_getElem h2)
    obtain ⟨T, p, q, rfl, nT, rfl, f1, f2⟩ := y
    have z1 := f1 _ (SqL.gr g ha)
    have z2 := f2 _ (SqL.gr g hb)
    rw [e1] at z1
    rw [e2] at z2
    cases z1
    cases z2
    have g2 := same_new (o := .tup [u, v]) nT
    exact ⟨_, zipD_get xs ys i _ _ (List.getElem?_eq_getElem h1) (List.getElem?_eq_getElem h2), g2, Rp.tup (.inl (.inl upd_same)) (RpL.cons (r1.same (g.trans g2)) (RpL.one (r2.same (g.trans g2))))⟩
  · refine ⟨us, vs, SqL.gr g ha, SqL.gr g hb, ?_⟩
    rw [zipD_len] at hi
    rw [ra.length, rb.length]
    omega
/-- zip(row, row[1:]) -/
theorem pi_zipRow {i j kk : Nat} {x : Str} {p1 p2 p3 p4 p5 pos q : Pos} {elts : List Expr} {tpos : Pos} (hg : Gl X "zip") (hm : X.mg "zip" = none) (h1 : PE X (.Name x p1) (tVar i)) (h2 : PE X (.Name x p2) (tVar i))
    (hs : starEach [.Name x p1, .Subscript (.Name x p2) (.Slice (some (.Constant (.int 1) j p3)) none none p4) p5] X.env = (false, eval (.Name x p1) X.env) :: starEach [.Subscript (.Name x p2) (.Slice (some (.Constant (.int 1) j p3)) none none p4) p5] X.env := by rfl)
    (hs2 : starEach [.Subscript (.Name x p2) (.Slice (some (.Constant (.int 1) j p3)) none none p4) p5] X.env = [(false, eval (.Subscript (.Name x p2) (.Slice (some (.Constant (.int 1) j p3)) none none p4) p5) X.env)] := by rfl)
    (hpl : (backTo pos (starEach [.Subscript (.Name x p2) (.Slice (some (.Constant (.int 1) j p3)) none none p4) p5] X.env)).any (·.1) = false := by rfl) :
    PI X (.Tuple elts kk tpos) (.Call (.Name "zip" q) [.Name x p1, .Subscript (.Name x p2) (.Slice (some (.Constant (.int 1) j p3)) none none p4) p5] [] pos) (tIs X.K X.prog X.w (lZip i)) := by
  refine PIimp (RZ.pi_zipA hg hm (pa_cons h1 (pa_cons (pe_slice sl_both h2 (po_some pe_int) po_none) pa_nil hs2) hs) hs hpl) fun σ H Rt ⟨H0, ss, zs, R, hz, q⟩ => ?_
  unfold lZip at hz
  split at hz
  · rename_i xs hx
    cases hz
    unfold rowOf at hx
    split at hx
    · rename_i xs' hsl
      cases hx
      obtain ⟨v, e1, r⟩ := R.at_ i _ (slot_at hsl)
      obtain ⟨a, vs, rfl, h3, h4⟩ := Rp.tup_of r
      refine ⟨_, e1, _, e1, 1, rfl, .inl ⟨a, vs, rfl, h3, fun ⟨e2, e3⟩ => ?_, fun _ p hp => ?_⟩⟩
      · refine ⟨a, a, vs, vs, rfl, .inr ⟨h3, h3, q _ H (Same.refl H) ?_⟩⟩
        have e4 : HT.sIx vs.length 0 (some ((1 : Nat) : Int)) = min 1 vs.length := HT.sIx_nat vs.length 0 1
        have e5 : HT.sIx vs.length 0 (some ((1 : Nat) : Int)) = 0 := e2
        have hl := h4.length
        have ex : xs = [] := List.eq_nil_of_length_eq_zero (by omega)
        subst ex
        exact its_zipT h3 h3 h4 (h4.drop 1 |> fun _ => h4)
      · have e6 : cutV vs (some (1 : Int)) none = vs.drop 1 := cut_from vs 1
        rw [e6]
        have g := same_new (o := .tup (vs.drop 1)) hp
        exact ⟨a, p, vs, vs.drop 1, rfl, .inr ⟨SqT.tk (tk_same g) h3, .inl (.inl upd_same), q _ _ g (its_zipT (SqT.tk (tk_same g) h3) (.inl (.inl upd_same)) (h4.same g) ((h4.drop 1).same g))⟩⟩
    · rename_i xs' hsl
      cases hx
      obtain ⟨v, e1, a, vs, rfl, _, h3, h4⟩ := R.at_ i _ (slot_at hsl)
      refine ⟨_, e1, _, e1, 1, rfl, .inr ⟨a, vs, rfl, .inl (.inl h3), fun p hp => ?_⟩⟩
      have e6 : cutV vs (some (1 : Int)) none = vs.drop 1 := cut_from vs 1
      rw [e6]
      have g := same_new (o := .lst (vs.drop 1)) hp
      exact ⟨a, p, vs, vs.drop 1, rfl, .inl ⟨.inl (.inl (g _ _ h3)), .inl (.inl upd_same), q _ _ g (its_zipL (.inl (.inl (g _ _ h3))) (.inl (.inl upd_same)) (h4.same g) ((h4.drop 1).same g))⟩⟩
    · cases hx
  · cases hz
end
/-- any data before another -/
def notNon (a : D) : Bool := match a with
  | .non => false
  | _ => true
def eLtD (f g : EF) : EF := fun ss => match f ss with
  | some a => match g ss with
    | some b => match alk a b && (okd a && notNon a) with
      | true => some (.bl (ltb a b))
      | false => none
    | none => none
  | none => none
def rLtD (K : PySem.W.Frag) : R2 := fun x y H Q => ∃ a b, Rp K H x a ∧ Rp K H y b ∧ alk a b = true ∧ dep a ≤ 7 ∧ notNon a = true ∧ Q (.bl (ltb a b)) H
section
variable {X : Cx} {a b : Expr} {f g : EF} {k : Nat}
theorem op_ltD (hr : Room k X.A) : OpR X (compareOp .Lt) (rLtD X.K) := by
  intro pins s σ H x y v u Q I rx ry h
  obtain ⟨c, d, hc, hd, h1, h2, h3, q⟩ := h
  obtain ⟨as, r1⟩ := Dp.reads I _ x v hc rx
  obtain ⟨bs, r2⟩ := Dp.reads I _ y u hd ry
  have hu := hr.units
  refine PySem.W.lt_data r1 r2 (by rw [alk_py]; exact h1) (fun e => ?_) ?_ ?_
  · cases c with
    | non => cases h3
    | _ => cases e
  · have := dep_py c
    omega
  · rw [lt_py c d h1]
    exact ⟨.bl _, H, I, rfl, q⟩
theorem cj_ltD (hr : Room k X.A) (ha : EJ X a f) (hb : EJ X b g) : CJ X .Lt a b (eLtD f g) :=
  PCimp (pc_op (op_ltD hr) ha hb) fun σ H Q ⟨H0, ss, d, R, e, q⟩ => by
    unfold eLtD at e
    split at e
    · rename_i x hx
      split at e
      · rename_i y hy
        split at e
        · rename_i ho
          cases e
          obtain ⟨o1, o2⟩ := two_ok ho
          obtain ⟨o2, o3⟩ := two_ok o2
          exact ⟨H0, ss, _, R, hx, fun v H1 g1 r1 => ⟨H0, ss, _, R.grow g1, hy, fun u H2 g2 r2 => ⟨x, y, r1.same g2, r2, o1, okd_le o2, o3, q _ H2 (g1.trans g2) (Rp.bl _)⟩⟩⟩
        · cases e
      · cases e
    · cases e
end
end Wf

namespace Wf
open PySem PySem.Spec PyProof.Rows L2

/-! ### {k: v} with a tuple as its key -/
def tDisp1 (K : PySem.W.Frag) (P : Program) (w : World) (tk tv : TE) : TE := fun σ H Q => ∀ D, H D = none → tk σ (upd H D (DN P w D [])) fun y H1 => tv σ H1 fun z H2 => ∃ p k, y = .ref p ∧ H2 D = some (DN P w D []) ∧ Rp K H2 (.ref p) k ∧ dep k ≤ 7 ∧
  ∀ u, RelV z u → Q (.ref D) (upd H2 D (DN P w D [(nk k, p, u)]))
section
variable {X : Cx} {kx vx : Expr} {tk tv : TE} {pos : Pos} {n : Nat}
theorem pe_disp1 (hr : Room n X.A) (hk : PE X kx tk) (hv : PE X vx tv) : PE X (.Dict [some kx] [vx] pos) (tDisp1 X.K X.prog X.w tk tv) := by
  refine ⟨fun pins s σ H Q I h => ?_⟩
  rw [arm_eval_Dict, zip_pairTrees [some kx] [vx] X.env pos rfl rfl, dictDisplay_pairs _ (by simp [pairTrees]) (by simp [pairTrees])]
  refine wpAny_bind (wpAny_standAt (wpAny_bind (PySem.wpAny_subDictH (knd := nestedKind X.prog X.w) (room_n0 hr) (by simp [pairTrees]) ?_)))
  have hD : H s.heap.objs.size = none := I.hok.fresh (Nat.le_refl _)
  have new : ∀ Hx : Hp, ObjOk X.prog X.w Hx (s.heap.push { cls := .type "dict", data := .dict #[] }) s.heap.objs.size (DN X.prog X.w s.heap.objs.size []) := fun _ =>
    dn_ok (Nat.zero_le _) (beq_eq_false_iff_ne.mpr (Ne.symm (Nat.ne_of_lt I.big))) ⟨_, #[], 0, Heap.get?_push_size _ rfl, ⟨rfl, rfl, rfl⟩, rfl, rfl, (fun x hx => by cases hx), List.nodup_nil⟩
  have I0 := I.laid (a := s.heap.objs.size) (t' := s.toks) (fun b o z => Heap.get?_push_of_some _ z) (Nat.le_refl _) (new _)
  refine pairTrees_cons_walk (thn (hk.run pins _ σ _ _ I0 (h _ hD)) fun ku s1 h1 => ?_)
  obtain ⟨y, H1, I1, r1, q1⟩ := h1
  refine thn (hv.run pins s1 σ H1 _ I1 q1) fun vu s2 h2 => ?_
  obtain ⟨z, H2, I2, r2, p, k, rfl, e, rk, dk, q⟩ := h2
  cases r1
  refine pairTrees_nil_walk ?_
  have nr : NR X.K H2 [] [] := .nil
  obtain ⟨zz, yy, m⟩ := dn_at I2 e nr
  refine ⟨[(nk k, p, vu)], ⟨rfl, rfl, key_at I2 rk dk, trivial⟩, m, fun h' tk' m' sb => ?_⟩
  have m2 : h'.DictOfH (nestedKind X.prog X.w) s.heap.objs.size [(nk k, p, vu)] := m'
  refine wpAny_pure ⟨.ref s.heap.objs.size, _, d_write (t' := tk') I2 (by rw [e]; exact trivial) sb ?_ (dn_ok (len_line (by simp)) yy m2), rfl, q vu r2⟩
  obtain ⟨o, _, _, ho, _⟩ := m'
  exact ⟨o, ho⟩
end
/-- a, b = {k: v}, [..] -/
def sPar (i j : Nat) (fk fv : EF) (fl : LF) : SF := fun ss => match fk ss with
  | some (.tup ys) => match fv ss with
    | some d => match fl ss with
      | some xs => match okd (.tup ys) with
        | true => some (.nx ((ss.set i (some (.dn [(.tup ys, d)]))).set j (some (.l xs))))
        | false => none
      | none => none
    | none => none
  | _ => none
section
variable {X : Cx} {kx vx le : Expr} {pos p2 px py pt pt2 : Pos} {n i j kt k2 : Nat} {x y : Str} {fk fv : EF} {fl : LF}
theorem sj_par (hr : Room n X.A) (hc : X.calm = true) (hN : X.N.Nodup) (hi : X.N[i]? = some x) (hj : X.N[j]? = some y) (hij : i ≠ j)
    (hx : X.env.scope.names.lookup x = some .local) (hy : X.env.scope.names.lookup y = some .local) (hk : EJ X kx fk) (hv : EJ X vx fv) (hl : NJ X le fl)
    (hw : swappedStores [.Tuple [.Name x px, .Name y py] kt pt] (.Tuple [.Dict [some kx] [vx] p2, le] k2 pt2) X.env = pure (some [x, y]))
    (hs : swapsWithSole [.Tuple [.Name x px, .Name y py] kt pt] (.Tuple [.Dict [some kx] [vx] p2, le] k2 pt2) pos.line X.env = pure false := by rfl)
    (hs1 : starEach [.Dict [some kx] [vx] p2, le] X.env = (false, eval (.Dict [some kx] [vx] p2) X.env) :: starEach [le] X.env := by rfl) (hs2 : starEach [le] X.env = (false, eval le X.env) :: starEach [] X.env := by rfl) :
    SJ X (.Assign [.Tuple [.Name x px, .Name y py] kt pt] (.Tuple [.Dict [some kx] [vx] p2, le] k2 pt2) pos) (sPar i j fk fv fl) :=
  PSimp (ps_par hc hN hi hj hij hx hy (pa_cons (pe_disp1 hr hk hv) (pa_cons hl pa_nil hs2) hs1) hw hs) fun En σ H ⟨H0, ss, o, R, h, q⟩ => by
    unfold sPar at h
    split at h
    · rename_i ys hys
      split at h
      · rename_i d hd
        split at h
        · rename_i xs hxs
          split at h
          · rename_i ho
            cases h
            intro D hD
            have g0 := same_new (o := DN X.prog X.w D []) hD
            have no0 : ∀ j, ¬ OwnAt σ ss j D := R.no_own hD
            refine ⟨_, ss, _, R.grow g0, hys, fun v H1 g1 r1 => ⟨_, ss, _, (R.grow g0).grow g1, hd, fun u H2 g2 r2 => ?_⟩⟩
            obtain ⟨c, _, rfl, _, _⟩ := id r1.tup_of
            have e2 : H2 D = some (DN X.prog X.w D []) := g2 _ _ (g1 _ _ upd_same)
            refine ⟨c, _, rfl, e2, r1.same g2, okd_le ho, fun w1 rw1 => ?_⟩
            have t := tk_upd (u := DN X.prog X.w D [(nk (.tup ys), c, w1)]) e2 trivial
            have n0 : H0 D = none := by
              cases h0 : H0 D with
              | none => rfl
              | some o =>
                have := R.same _ _ h0
                rw [hD] at this
                cases this
            have R3 : SR X.K X.prog X.w H0 (upd H2 D (DN X.prog X.w D [(nk (.tup ys), c, w1)])) σ ss := (((R.grow g0).grow g1).grow g2).touch e2 trivial n0 no0
            have e3 : upd H2 D (DN X.prog X.w D [(nk (.tup ys), c, w1)]) D = some (DN X.prog X.w D [(nk (.tup ys), c, w1)]) := upd_same
            refine ⟨H0, ss, xs, R3, hxs, fun a vs H4 g4 n4 h4 r4 => ⟨_, _, rfl, q _ H4 ?_⟩⟩
            have R4 := R3.grow g4
            have R5 : SR X.K X.prog X.w H0 H4 (σ.set i (some (.ref D))) (ss.set i (some (.dn [(.tup ys, d)]))) :=
              R4.setO ⟨D, _, rfl, n0, g4 _ _ e3, .cons ⟨rfl, (r1.same g2).tk (t.trans (tk_same g4)), okd_le ho, u, rw1, r2.tk (t.trans (tk_same g4))⟩ .nil⟩ no0
            refine R5.setO ⟨a, vs, rfl, R3.same.free n4, h4, r4⟩ fun j0 oj => ?_
            obtain ⟨sv, a1, a2, a3⟩ := oj
            by_cases hji : i = j0
            · subst hji
              have li : i < σ.length := by
                have := (List.getElem?_eq_some_iff.mp a3).1
                rwa [List.length_set] at this
              rw [List.getElem?_set_self li] at a3
              cases a3
              rw [e3] at n4
              cases n4
            · rw [List.getElem?_set_ne hji] at a1 a3
              exact R3.no_own n4 j0 ⟨sv, a1, a2, a3⟩
          · cases h
        · cases h
      · cases h
    · cases h
end

/-! ### defs -/
def nones : Nat → Ss
  | 0 => []
  | n + 1 => none :: nones n
def argS (l : Nat) : List D → Ss
  | [] => nones l
  | x :: xs => some (.d x) :: argS l xs
def outD : Option Out → Option D
  | some (.rt d) => some d
  | some (.nx _) => some .non
  | _ => none
def outN : Option Out → Option (List D)
  | some (.rl d) => some d
  | _ => none
def fnD (n l : Nat) (F : SF) (ds : List D) : Option D := match Nat.beq ds.length n with
  | true => outD (F (argS l ds))
  | false => none
def fnN (n l : Nat) (F : SF) (ds : List D) : Option (List D) := match Nat.beq ds.length n with
  | true => outN (F (argS l ds))
  | false => none
theorem nones_len : ∀ n, (nones n).length = n
  | 0 => rfl
  | n + 1 => by rw [nones, List.length_cons, nones_len n]
theorem nones_get : ∀ (n i : Nat) (sv : SV), (nones n)[i]? = some (some sv) → False
  | 0, _, _, h => by simp [nones] at h
  | n + 1, 0, _, h => by simp [nones] at h
  | n + 1, i + 1, sv, h => nones_get n i sv (by simpa [nones] using h)
theorem argS_len (l : Nat) : ∀ ds : List D, (argS l ds).length = ds.length + l
  | [] => by rw [argS, nones_len, List.length_nil, Nat.zero_add]
  | x :: xs => by rw [argS, List.length_cons, List.length_cons, argS_len l xs]; omega
theorem argS_get (l : Nat) : ∀ (ds : List D) (i : Nat) (sv : SV), (argS l ds)[i]? = some (some sv) → ∃ d, ds[i]? = some d ∧ sv = .d d
  | [], i, sv, h => (nones_get l i sv h).elim
  | x :: xs, 0, sv, h => by
    have e : SV.d x = sv := by simpa [argS] using h
    exact ⟨x, rfl, e.symm⟩
  | x :: xs, i + 1, sv, h => by
    obtain ⟨d, h1, h2⟩ := argS_get l xs i sv (by simpa [argS] using h)
    exact ⟨d, by simpa using h1, h2⟩
theorem sr_start {K : PySem.W.Frag} {P : Program} {w : World} {H : Hp} {N : List Str} {vs : List V} {ds : List D} {n l : Nat} (hN : N.length = n + l) (r : RpL K H vs ds) (hd : ds.length = n) : SR K P w H H (L2.start N vs) (argS l ds) := by
  have hl := r.length
  have no : ∀ i a, ¬ OwnAt (L2.start N vs) (argS l ds) i a := fun i a o => by
    obtain ⟨sv, e1, e2, _⟩ := o
    obtain ⟨d, _, rfl⟩ := argS_get l ds i sv e1
    cases e2
  refine ⟨Same.refl H, ?_, fun i sv e => ?_, fun i j a oi _ => (no i a oi).elim⟩
  · rw [argS_len]
    unfold L2.start
    rw [List.length_append, List.length_map, List.length_replicate]
    omega
  · obtain ⟨d, h1, rfl⟩ := argS_get l ds i sv e
    obtain ⟨v, h2, h3⟩ := r.get h1
    refine ⟨v, ?_, h3⟩
    unfold L2.start
    have hi : i < vs.length := (List.getElem?_eq_some_iff.mp h2).1
    rw [List.getElem?_append_left (by rw [List.length_map]; exact hi), List.getElem?_map, h2]
    rfl
section
variable {P : Program} {w : World} {K : PySem.W.Frag} {mg : Str → Option Value} {base : Heap} {x qual : Str} {st : Stmt} {f : Addr} {fd : FuncData} {N ps : List Str} {k n l : Nat}
theorem ok_fn (Fn : Fun K x qual st f fd) (S : FnScope N ps (defScope st)) (hp : ps.length = n) (hN : N.length = n + l) (G : SF)
    (body : ∀ (cdv : Value) (A : Around) (outer : List Env) (s : Shared) (H : Hp) (E : XK), Room k (A.deeper (envOfC qual (defScope st) s.heap.objs.size f cdv)) → SJs (cxOf CX0 P w K mg base N qual (defScope st) f cdv A outer s H E).nox (defBody st) G) :
    FnOk P w K mg base CX0 (k + 1) f fd ps (spD K n (fnD n l G)) := by
  refine Fn.ok S (fun vs H Q E h => ?_) (fun cdv A outer s H vs Q E hr h => ⟨_, body cdv A outer s H E hr, ?_⟩)
  · obtain ⟨ds, d, r, hd, _⟩ := h
    rw [r.length, hd, hp]
  · obtain ⟨ds, d, r, hd, hm, q⟩ := h
    unfold fnD at hm
    split at hm
    · unfold outD at hm
      split at hm
      · rename_i d' ho
        cases hm
        exact ⟨H, _, _, sr_start hN r hd, ho, fun v H' g r' => q v H' g r'⟩
      · rename_i s1 ho
        cases hm
        exact ⟨H, _, _, sr_start hN r hd, ho, fun σ' H' R' => q .non H' R'.same Rp.non⟩
      · cases hm
    · cases hm
theorem ok_fnN (Fn : Fun K x qual st f fd) (S : FnScope N ps (defScope st)) (hp : ps.length = n) (hN : N.length = n + l) (G : SF)
    (body : ∀ (cdv : Value) (A : Around) (outer : List Env) (s : Shared) (H : Hp) (E : XK), Room k (A.deeper (envOfC qual (defScope st) s.heap.objs.size f cdv)) → SJs (cxOf CX0 P w K mg base N qual (defScope st) f cdv A outer s H E).nox (defBody st) G) :
    FnOk P w K mg base CX0 (k + 1) f fd ps (spN K n (fnN n l G)) := by
  refine Fn.ok S (fun vs H Q E h => ?_) (fun cdv A outer s H vs Q E hr h => ⟨_, body cdv A outer s H E hr, ?_⟩)
  · obtain ⟨ds, d, r, hd, _⟩ := h
    rw [r.length, hd, hp]
  · obtain ⟨ds, d, r, hd, hm, q⟩ := h
    unfold fnN at hm
    split at hm
    · unfold outN at hm
      split at hm
      · rename_i d' ho
        cases hm
        exact ⟨H, _, _, sr_start hN r hd, ho, fun a vs H' g n ha r' => q a vs H' g n ha r'⟩
      · cases hm
    · cases hm
/-- a def of one expression, its one argument a list -/
def spL (K : PySem.W.Frag) (m : List D → Option D) : Sp := fun vs H Q _ => ∃ a ws xs d, vs = [.ref a] ∧ H a = some (.lst ws) ∧ RpL K H ws xs ∧ m xs = some d ∧ ∀ v H', Same H H' → Rp K H' v d → Q v H'
def fnL (l : Nat) (g : EF) (xs : List D) : Option D := g (some (.l xs) :: nones l)
theorem ok_fnL (Fn : Fun K x qual st f fd) (S : FnScope N ps (defScope st)) (hp : ps.length = 1) (hN : N.length = 1 + l) {e : Expr} {pos : Pos} (hb : defBody st = [.Return (some e) pos]) (g : EF)
    (body : ∀ (cdv : Value) (A : Around) (outer : List Env) (s : Shared) (H : Hp) (E : XK), Room k (A.deeper (envOfC qual (defScope st) s.heap.objs.size f cdv)) → EJ (cxOf CX0 P w K mg base N qual (defScope st) f cdv A outer s H E).nox e g) :
    FnOk P w K mg base CX0 (k + 1) f fd ps (spL K (fnL l g)) := by
  refine Fn.ok S (fun vs H Q E h => ?_) (fun cdv A outer s H vs Q E hr h => ⟨_, by rw [hb]; exact pss_one (ps_ret (body cdv A outer s H E hr)), ?_⟩)
  · obtain ⟨a, ws, xs, d, rfl, _⟩ := h
    rw [hp]
    rfl
  · obtain ⟨a, ws, xs, d, rfl, ha, r, hm, q⟩ := h
    refine ⟨fun b => if b = a then none else H b, _, d, ?_, hm, q⟩
    have own1 : ∀ i b, OwnAt (L2.start N [.ref a]) (some (.l xs) :: nones l) i b → i = 0 := fun i b o => by
      obtain ⟨sv, e1, _, _⟩ := o
      cases i with
      | zero => rfl
      | succ i => exact (nones_get l i sv (by simpa using e1)).elim
    refine ⟨fun b o hb => ?_, ?_, fun i sv e => ?_, fun i j b oi oj => (own1 i b oi).trans (own1 j b oj).symm⟩
    · by_cases hba : b = a
      · rw [if_pos hba] at hb
        cases hb
      · rw [if_neg hba] at hb
        exact hb
    · rw [List.length_cons, nones_len]
      unfold L2.start
      rw [List.length_append, List.length_map, List.length_replicate]
      show l + 1 ≤ 1 + (N.length - 1)
      omega
    · cases i with
      | zero =>
        have e1 : SV.l xs = sv := by simpa using e
        subst e1
        exact ⟨.ref a, rfl, a, ws, rfl, if_pos rfl, ha, r⟩
      | succ i => exact (nones_get l i sv (by simpa using e)).elim
end
/-! ### defs by name -/
structure CalS (P : Program) (w : World) (K : PySem.W.Frag) (mg : Str → Option Value) (base : Heap) (k : Nat) (x : Str) (sp : Sp) : Prop where
  ex : ∃ (f : Addr) (fd : FuncData) (ps : List Str), FnOk P w K mg base CX0 k f fd ps sp ∧ mg x = some (.ref f) ∧ PySem.W.keepIn K (.ref f) = true ∧ Binds K fd ps []
/-- what the top has written of a def -/
structure Has (K : PySem.W.Frag) (mg : Str → Option Value) (x : Str) (st : Stmt) (ps : List Str) : Prop where
  ex : ∃ (f : Addr) (fd : FuncData), Fun K x x st f fd ∧ mg x = some (.ref f) ∧ Binds K fd ps []
abbrev CalD (P : Program) (w : World) (K : PySem.W.Frag) (mg : Str → Option Value) (base : Heap) (k : Nat) (x : Str) (n : Nat) (m : List D → Option D) : Prop := CalS P w K mg base k x (spD K n m)
abbrev CalN (P : Program) (w : World) (K : PySem.W.Frag) (mg : Str → Option Value) (base : Heap) (k : Nat) (x : Str) (n : Nat) (m : List D → Option (List D)) : Prop := CalS P w K mg base k x (spN K n m)
section
variable {P : Program} {w : World} {K : PySem.W.Frag} {mg : Str → Option Value} {base : Heap} {x : Str} {st : Stmt} {N ps : List Str} {k n l : Nat}
theorem cal_fn (h : Has K mg x st ps) (S : FnScope N ps (defScope st)) (hp : ps.length = n) (hN : N.length = n + l) (G : SF)
    (body : ∀ (f : Addr) (cdv : Value) (A : Around) (outer : List Env) (s : Shared) (H : Hp) (E : XK), Room k (A.deeper (envOfC x (defScope st) s.heap.objs.size f cdv)) → SJs (cxOf CX0 P w K mg base N x (defScope st) f cdv A outer s H E).nox (defBody st) G) :
    CalD P w K mg base (k + 1) x n (fnD n l G) := by
  obtain ⟨f, fd, F, hm, hb⟩ := h.ex
  exact ⟨f, fd, ps, ok_fn F S hp hN G (body f), hm, F.kp, hb⟩
theorem cal_fnN (h : Has K mg x st ps) (S : FnScope N ps (defScope st)) (hp : ps.length = n) (hN : N.length = n + l) (G : SF)
    (body : ∀ (f : Addr) (cdv : Value) (A : Around) (outer : List Env) (s : Shared) (H : Hp) (E : XK), Room k (A.deeper (envOfC x (defScope st) s.heap.objs.size f cdv)) → SJs (cxOf CX0 P w K mg base N x (defScope st) f cdv A outer s H E).nox (defBody st) G) :
    CalN P w K mg base (k + 1) x n (fnN n l G) := by
  obtain ⟨f, fd, F, hm, hb⟩ := h.ex
  exact ⟨f, fd, ps, ok_fnN F S hp hN G (body f), hm, F.kp, hb⟩
theorem cal_fnL (h : Has K mg x st ps) (S : FnScope N ps (defScope st)) (hp : ps.length = 1) (hN : N.length = 1 + l) {e : Expr} {pos : Pos} (hbd : defBody st = [.Return (some e) pos]) (g : EF)
    (body : ∀ (f : Addr) (cdv : Value) (A : Around) (outer : List Env) (s : Shared) (H : Hp) (E : XK), Room k (A.deeper (envOfC x (defScope st) s.heap.objs.size f cdv)) → EJ (cxOf CX0 P w K mg base N x (defScope st) f cdv A outer s H E).nox e g) :
    CalS P w K mg base (k + 1) x (spL K (fnL l g)) := by
  obtain ⟨f, fd, F, hm, hb⟩ := h.ex
  exact ⟨f, fd, ps, ok_fnL F S hp hN hbd g (body f), hm, F.kp, hb⟩
end
theorem fnD_len {n l : Nat} {F : SF} {ds : List D} {d : D} (h : fnD n l F ds = some d) : ds.length = n := by
  unfold fnD at h
  split at h
  · rename_i e
    exact Nat.eq_of_beq_eq_true e
  · cases h
theorem fnN_len {n l : Nat} {F : SF} {ds d : List D} (h : fnN n l F ds = some d) : ds.length = n := by
  unfold fnN at h
  split at h
  · rename_i e
    exact Nat.eq_of_beq_eq_true e
  · cases h
section
variable {X : Cx} {e : Expr} {es : List Expr} {p pos : Pos} {x : Str} {j k n l : Nat} {F : SF} {fs : LF} {f : LF} {m : List D → Option D}
theorem ej_cal (C : CalD X.prog X.w X.K X.mg X.base j x n (fnD n l F)) (hr : Room k X.A) (hj : j ≤ k) (hg : Gl X x) (ha : AJ X (e :: es) fs)
    (hd : (x == ("__debug__" : Str)) = false := by decide) (he : starEach (e :: es) X.env = (false, eval e X.env) :: starEach es X.env := by rfl) (hpl : (backTo pos (starEach es X.env)).any (·.1) = false := by rfl) :
    EJ X (.Call (.Name x p) (e :: es) [] pos) (eCall (fnD n l F) fs) := by
  obtain ⟨a, fd, ps, G, hm, hk, hb⟩ := C.ex
  exact PEimp (pe_call (E := E0) (G.mono hj) hr hg hm hk hb .nil pass0 ha hd he hpl) fun σ H Q ⟨H0, ss, d, R, h, q⟩ => by
    unfold eCall at h
    split at h
    · rename_i ds hds
      refine ⟨H0, ss, ds, R, hds, fun vs H1 g1 r1 => ⟨ds, d, ?_, fnD_len h, h, fun v H2 g2 r2 => q v H2 (g1.trans g2) r2⟩⟩
      rw [List.append_nil]
      exact r1
    · cases h
theorem nj_cal (C : CalN X.prog X.w X.K X.mg X.base j x n (fnN n l F)) (hr : Room k X.A) (hj : j ≤ k) (hg : Gl X x) (ha : AJ X (e :: es) fs)
    (hd : (x == ("__debug__" : Str)) = false := by decide) (he : starEach (e :: es) X.env = (false, eval e X.env) :: starEach es X.env := by rfl) (hpl : (backTo pos (starEach es X.env)).any (·.1) = false := by rfl) :
    NJ X (.Call (.Name x p) (e :: es) [] pos) (lCall (fnN n l F) fs) := by
  obtain ⟨a, fd, ps, G, hm, hk, hb⟩ := C.ex
  exact PEimp (pe_call (E := E0) (G.mono hj) hr hg hm hk hb .nil pass0 ha hd he hpl) fun σ H Q ⟨H0, ss, d, R, h, q⟩ => by
    unfold lCall at h
    split at h
    · rename_i ds hds
      refine ⟨H0, ss, ds, R, hds, fun vs H1 g1 r1 => ⟨ds, d, ?_, fnN_len h, h, fun a ws H2 g2 n2 h2 r2 => q a ws H2 (g1.trans g2) (g1.free n2) h2 r2⟩⟩
      rw [List.append_nil]
      exact r1
    · cases h
def eCallL (m : List D → Option D) (f : LF) : EF := fun ss => match f ss with
  | some xs => m xs
  | none => none
theorem ej_calL (C : CalS X.prog X.w X.K X.mg X.base j x (spL X.K m)) (hr : Room k X.A) (hj : j ≤ k) (hg : Gl X x) (ha : LJ X e f)
    (hd : (x == ("__debug__" : Str)) = false := by decide) (he : starEach [e] X.env = (false, eval e X.env) :: starEach [] X.env := by rfl) (hpl : (backTo pos (starEach [] X.env)).any (·.1) = false := by rfl) :
    EJ X (.Call (.Name x p) [e] [] pos) (eCallL m f) := by
  obtain ⟨a, fd, ps, G, hm, hk, hb⟩ := C.ex
  exact PEimp (pe_call (E := E0) (G.mono hj) hr hg hm hk hb .nil pass0 (pa_cons ha pa_nil he) hd he hpl) fun σ H Q ⟨H0, ss, d, R, h, q⟩ => by
    unfold eCallL at h
    split at h
    · rename_i ds hds
      exact ⟨H0, ss, ds, R, hds, fun b vs H1 g1 h1 r1 => ⟨b, vs, ds, d, rfl, h1, r1, h, fun v H2 g2 r2 => q v H2 (g1.trans g2) r2⟩⟩
    · cases h
end
end Wf

namespace Wf
open PySem PySem.Spec PyProof.Rows L2

/-! ### dict(pairs) -/
def kPairs : List D → List (D × D) → Option (List (D × D))
  | [], acc => some acc
  | .tup [k, v] :: r, acc => match keyOk k with
    | true => match newD acc k v with
      | some acc' => kPairs r acc'
      | none => none
    | false => none
  | _ :: _, _ => none
def kOfL (f : LF) : KF := fun ss => match f ss with
  | some xs => kPairs xs []
  | none => none
theorem pairs_ok {K : PySem.W.Frag} {H : Hp} : ∀ {ds : List D} {acc out : List (D × D)} {vs : List V} {ks : List (Key × V)}, kPairs ds acc = some out → RpL K H vs ds → KR K H acc ks →
    ∃ ps kvs, vs = ps.map V.ref ∧ Paired (fun p (kv : Key × V) => SqT K H p [kV kv.1, kv.2]) ps kvs ∧ KR K H out (mergeK ks kvs)
  | [], acc, out, vs, ks, h, r, a => by
    unfold kPairs at h
    cases h
    rw [r.unnil]
    exact ⟨[], [], rfl, .nil, a⟩
  | d :: ds, acc, out, vs, ks, h, r, a => by
    obtain ⟨v, t, rfl, h1, h2⟩ := r.uncons
    unfold kPairs at h
    split at h
    · rename_i e
      cases e
    · rename_i e
      cases e
      split at h
      · rename_i ho
        split at h
        · rename_i acc' hn
          obtain ⟨p, us, rfl, h3, h4⟩ := h1.tup_of
          obtain ⟨k1, t1, rfl, h5, h6⟩ := h4.uncons
          obtain ⟨k2, t2, rfl, h7, h8⟩ := h6.uncons
          rw [h8.unnil] at h3
          obtain ⟨key, hkey⟩ := keyOk_some ho
          obtain ⟨hl, hz, rfl⟩ := newD_ok hn
          have z := kr_look hkey a
          rw [hl] at z
          have z : valV ks key = none := z
          have a2 := kr_app a hkey h7
          rw [← putK_new k2 z] at a2
          obtain ⟨ps, kvs, rfl, q2, q3⟩ := pairs_ok h h2 a2
          refine ⟨p :: ps, (key, k2) :: kvs, rfl, .cons ?_ q2, q3⟩
          rw [← flat_kv hkey h5]
          exact h3
        · cases h
      · cases h
    · cases h
theorem mj_dictP {X : Cx} {e : Expr} {p pos : Pos} {f : LF} (hc : X.calm = true) (hg : Gl X "dict") (hm : X.mg "dict" = none) (ha : LJ X e f) (he : starEach [e] X.env = [(false, eval e X.env)] := by rfl) : MJ X false (.Call (.Name "dict" p) [e] [] pos) (kOfL f) :=
  PEimp (one_type (call_dictP hc) hg hm PyProof.Rows.boot_dict ha he (by decide) (by decide)) fun σ H Q ⟨H0, ss, d, R, h, q⟩ => by
    unfold kOfL at h
    split at h
    · rename_i xs hx
      refine ⟨H0, ss, xs, R, hx, fun a vs H1 g1 a1 r1 => ?_⟩
      obtain ⟨ps, kvs, rfl, h1, h2⟩ := pairs_ok h r1 .nil
      refine ⟨a, ps, kvs, rfl, .inl (.inl a1), h1, fun pp hp => ?_⟩
      exact q _ _ (g1.trans (same_new hp)) ⟨pp, _, rfl, g1.free hp, upd_same, KR.tk (tk_same (same_new hp)) h2⟩
    · cases h
/-! ### a def of one expression, its one argument a dict -/
def spK (K : PySem.W.Frag) (m : List (D × D) → Option D) : Sp := fun vs H Q _ => ∃ a ks kvs d, vs = [.ref a] ∧ H a = some (.dK ks) ∧ KR K H kvs ks ∧ m kvs = some d ∧ ∀ v H', Same H H' → Rp K H' v d → Q v H'
def fnK (l : Nat) (g : EF) (xs : List (D × D)) : Option D := g (some (.dk xs) :: nones l)
section
variable {P : Program} {w : World} {K : PySem.W.Frag} {mg : Str → Option Value} {base : Heap} {x : Str} {st : Stmt} {N ps : List Str} {k n l : Nat}
theorem cal_fnK (h : Has K mg x st ps) (S : FnScope N ps (defScope st)) (hp : ps.length = 1) (hN : N.length = 1 + l) {e : Expr} {pos : Pos} (hbd : defBody st = [.Return (some e) pos]) (g : EF)
    (body : ∀ (f : Addr) (cdv : Value) (A : Around) (outer : List Env) (s : Shared) (H : Hp) (E : XK), Room k (A.deeper (envOfC x (defScope st) s.heap.objs.size f cdv)) → EJ (cxOf CX0 P w K mg base N x (defScope st) f cdv A outer s H E).nox e g) :
    CalS P w K mg base (k + 1) x (spK K (fnK l g)) := by
  obtain ⟨f, fd, F, hm, hb⟩ := h.ex
  refine ⟨f, fd, ps, ?_, hm, F.kp, hb⟩
  refine F.ok S (fun vs H Q E h => ?_) (fun cdv A outer s H vs Q E hr h => ⟨_, by rw [hbd]; exact pss_one (ps_ret (body f cdv A outer s H E hr)), ?_⟩)
  · obtain ⟨a, ws, xs, d, rfl, _⟩ := h
    rw [hp]
    rfl
  · obtain ⟨a, ws, xs, d, rfl, ha, r, hm, q⟩ := h
    refine ⟨fun b => if b = a then none else H b, _, d, ?_, hm, q⟩
    have own1 : ∀ i b, OwnAt (L2.start N [.ref a]) (some (.dk xs) :: nones l) i b → i = 0 := fun i b o => by
      obtain ⟨sv, e1, _, _⟩ := o
      cases i with
      | zero => rfl
      | succ i => exact (nones_get l i sv (by simpa using e1)).elim
    refine ⟨fun b o hb => ?_, ?_, fun i sv e => ?_, fun i j b oi oj => (own1 i b oi).trans (own1 j b oj).symm⟩
    · by_cases hba : b = a
      · rw [if_pos hba] at hb
        cases hb
      · rw [if_neg hba] at hb
        exact hb
    · rw [List.length_cons, nones_len]
      unfold L2.start
      rw [List.length_append, List.length_map, List.length_replicate]
      show l + 1 ≤ 1 + (N.length - 1)
      omega
    · cases i with
      | zero =>
        have e1 : SV.dk xs = sv := by simpa using e
        subst e1
        exact ⟨.ref a, rfl, a, ws, rfl, if_pos rfl, ha, r⟩
      | succ i => exact (nones_get l i sv (by simpa using e)).elim
end
def eCallK (m : List (D × D) → Option D) (i : Nat) : EF := fun ss => match slot ss i with
  | some (.dk kvs) => m kvs
  | _ => none
theorem ej_calK {X : Cx} {x y : Str} {p pos py : Pos} {i j k : Nat} {m : List (D × D) → Option D} (C : CalS X.prog X.w X.K X.mg X.base j x (spK X.K m)) (hr : Room k X.A) (hj : j ≤ k) (hg : Gl X x) (ha : PE X (.Name y py) (tVar i))
    (hd : (x == ("__debug__" : Str)) = false := by decide) (he : starEach [.Name y py] X.env = (false, eval (.Name y py) X.env) :: starEach [] X.env := by rfl) (hpl : (backTo pos (starEach [] X.env)).any (·.1) = false := by rfl) :
    EJ X (.Call (.Name x p) [.Name y py] [] pos) (eCallK m i) := by
  obtain ⟨a, fd, ps, G, hm, hk, hb⟩ := C.ex
  exact PEimp (pe_call (E := E0) (G.mono hj) hr hg hm hk hb .nil pass0 (pa_cons ha pa_nil he) hd he hpl) fun σ H Q ⟨H0, ss, d, R, h, q⟩ => by
    unfold eCallK at h
    split at h
    · rename_i kvs hk
      obtain ⟨a1, xs, e1, n0, e2, kr⟩ := slot_dk R hk
      exact ⟨_, e1, a1, xs, kvs, d, rfl, e2, kr, h, q⟩
    · cases h
end Wf

namespace Wf
open PySem PySem.Spec PyProof.Rows L2

/-! ### what each def computes (written by gen.py) -/
def stS : Sch := .t [.i, .l (.t [.i, .i, .i, .b]), .l (.t [.i, .i]), .l (.t [.s, .i, .i, .i]), .l (.t [.s, .i]), .l .i, .b]
def F_is_among : SF := (sRet (eAnd (eIs .int (eV 0)) (eAnd (eNot (bD (eIs .bool (eV 0)))) (eChain (fun i j => !il j i) (fun i j => !il j i) (eV 1) (eV 0) (eV 2)))))
def F_is_truth : SF := (sRet (eIs .bool (eV 0)))
def F_is_quality : SF := (sRet (eCall (fnD 3 0 F_is_among) (lCons (eV 0) (lCons (eK (.int 0)) (lCons (eK (.int 2)) lNil)))))
def R_are_rising : EF := eAll (lComp (lZip 0) [1, 2] (asgT [1, 2]) bYes (eLtD (eV 1) (eV 2)))
def F_are_rising : SF := sRet R_are_rising
def F_need_rules : SF := (sIf (bOr (bNot (bD (eIs .tup (eV 0)))) (bOr (bD (eNe (eLen (eV 0)) (eK (.int (6))))) (bNot (bD (eAll (lComp (lOfT (eV 0)) [1] (asgN 1) bYes (eCall (fnD 1 0 F_is_truth) (lCons (eV 1) lNil)))))))) sNever sNx)
def F_is_number : SF := (sRet (eCall (fnD 3 0 F_is_among) (lCons (eV 0) (lCons (eK (.int 1)) (lCons (eK (.int (3))) lNil)))))
def F_is_entry : SF := (sSeq (sIf (bOr (bNot (bD (eIs .tup (eV 0)))) (bD (eNe (eLen (eV 0)) (eK (.int 4))))) (sRet (eK (.bl false))) sNx)
  (sSeq (sAsg (eV 0) (asgT [1, 2, 3, 4]))
  (sSeq (sIf (bOr (bNot (bD (eCall (fnD 1 0 F_is_number) (lCons (eV 1) lNil)))) (bOr (bNot (bD (eCall (fnD 3 0 F_is_among) (lCons (eV 2) (lCons (eK (.int 0)) (lCons (eK (.int (999))) lNil)))))) (bNot (bD (eCall (fnD 3 0 F_is_among) (lCons (eV 3) (lCons (eK (.int 1)) (lCons (eK (.int 2)) lNil)))))))) (sRet (eK (.bl false))) sNx)
  (sRet (eAnd (eCall (fnD 1 0 F_is_truth) (lCons (eV 4) lNil)) (eOr (eEq (eV 3) (eK (.int 2))) (eNot (bD (eV 4)))))))))
def F_is_sender : SF := (sSeq (sIf (bOr (bNot (bD (eIs .tup (eV 0)))) (bNot (bD (eAll (lComp (lOfT (eV 0)) [1] (asgN 1) bYes (eCall (fnD 1 4 F_is_entry) (lCons (eV 1) lNil))))))) (sRet (eK (.bl false))) sNx)
  (sRet (eEq (eLenS (lOfT (eV 0)) [1] (asgN 1) (eIx (eV 1) (eK (.int 0)))) (eLen (eV 0)))))
def F_is_note : SF := (sSeq (sIf (bOr (bNot (bD (eIs .tup (eV 0)))) (bD (eNe (eLen (eV 0)) (eK (.int 2))))) (sRet (eK (.bl false))) sNx)
  (sRet (eAnd (eCall (fnD 1 0 F_is_number) (lCons (eIx (eV 0) (eK (.int 0))) lNil)) (eCall (fnD 3 0 F_is_among) (lCons (eIx (eV 0) (eK (.int 1))) (lCons (eK (.int (-1))) (lCons (eK (.int (999))) lNil)))))))
def F_is_receiver : SF := (sSeq (sIf (bOr (bNot (bD (eIs .tup (eV 0)))) (bNot (bD (eAll (lComp (lOfT (eV 0)) [1] (asgN 1) bYes (eCall (fnD 1 0 F_is_note) (lCons (eV 1) lNil))))))) (sRet (eK (.bl false))) sNx)
  (sRet (eCallL (fnL 2 R_are_rising) (lComp (lOfT (eV 0)) [1] (asgN 1) bYes (eIx (eV 1) (eK (.int 0)))))))
def F_is_answer : SF := (sSeq (sIf (bOr (bNot (bD (eIs .tup (eV 0)))) (bOr (bD (eNe (eLen (eV 0)) (eK (.int 2)))) (bNot (bD (eIs .str (eIx (eV 0) (eK (.int 0)))))))) (sRet (eK (.bl false))) sNx)
  (sRet (eAnd (eIn false (eIx (eV 0) (eK (.int 0))) (eTup (lCons (eK (.str .ack)) (lCons (eK (.str .received)) (lCons (eK (.str .complete)) lNil))))) (eCall (fnD 1 0 F_is_number) (lCons (eIx (eV 0) (eK (.int 1))) lNil)))))
def F_is_sent : SF := (sSeq (sIf (bOr (bNot (bD (eIs .tup (eV 0)))) (bOr (bD (eLt (eLen (eV 0)) (eK (.int 2)))) (bNot (bD (eIs .str (eIx (eV 0) (eK (.int 0)))))))) (sRet (eK (.bl false))) sNx)
  (sSeq (sStar [1, 2] 3 (eV 0))
  (sSeq (sIf (bD (eEq (eV 1) (eK (.str .release)))) (sRet (eAnd (eEqL (lV 3) lNil) (eCall (fnD 1 0 F_is_number) (lCons (eV 2) lNil)))) sNx)
  (sSeq (sIf (bOr (bD (eNe (eV 1) (eK (.str .publish)))) (bOr (bD (eNe (eLenL (lV 3)) (eK (.int 2)))) (bOr (bNot (bD (eCall (fnD 3 0 F_is_among) (lCons (eIxL (lV 3) (eK (.int 0))) (lCons (eK (.int 0)) (lCons (eK (.int (999))) lNil)))))) (bNot (bD (eCall (fnD 1 0 F_is_quality) (lCons (eIxL (lV 3) (eK (.int 1))) lNil))))))) (sRet (eK (.bl false))) sNx)
  (sRet (eIf (bD (eEq (eIxL (lV 3) (eK (.int 1))) (eK (.int 0)))) (eCall (fnD 3 0 F_is_among) (lCons (eV 2) (lCons (eK (.int 0)) (lCons (eK (.int 0)) lNil)))) (eCall (fnD 1 0 F_is_number) (lCons (eV 2) lNil))))))))
def F_free_of : SF := (sRetN (lComp (lRange (eK (.int 1)) (eAdd (eV 1) (eK (.int 1)))) [2] (asgN 2) (bD (eInL true (eV 2) (lComp (lOfT (eV 0)) [3] (asgN 3) bYes (eIx (eV 3) (eK (.int 0)))))) (eV 2)))
def F_is_busy : SF := (sRet (eEqL (lCall (fnN 2 2 F_free_of) (lCons (eV 0) (lCons (eV 1) lNil))) lNil))
def F_offer : SF := (sSeq (sIf (bD (eEq (eV 2) (eK (.int 0)))) (sRet (eTup (lCons (eV 0) (lCons (eTup (lCons (eTup (lCons (eK (.str .publish)) (lCons (eK (.int 0)) (lCons (eV 1) (lCons (eK (.int 0)) lNil))))) lNil)) lNil)))) sNx)
  (sSeq (sSetN 4 (lCall (fnN 2 2 F_free_of) (lCons (eV 0) (lCons (eV 3) lNil))))
  (sSeq (sIf (bD (eEqL (lV 4) lNil)) sNever sNx)
  (sSeq (sStarL [5] 6 (lV 4))
  (sRet (eTup (lCons (eCat (eV 0) (eTup (lCons (eTup (lCons (eV 5) (lCons (eV 1) (lCons (eV 2) (lCons (eK (.bl false)) lNil))))) lNil))) (lCons (eTup (lCons (eTup (lCons (eK (.str .publish)) (lCons (eV 5) (lCons (eV 1) (lCons (eV 2) lNil))))) lNil)) lNil))))))))
def F_answered : SF := (sSeq (sAsg (eV 0) (asgT [3, 4, 5, 6, 7, 8]))
  (sSeq (sAsg (eV 2) (asgT [9, 10]))
  (sSeq (sIf (bD (eEq (eV 9) (eK (.str .ack)))) (sRet (eTup (lCons (eTupL (lComp (lOfT (eV 1)) [13] (asgN 13) (bOr (bD (eNe (eIx (eV 13) (eK (.int 0))) (eV 10))) (bD (eNe (eIx (eV 13) (eK (.int 2))) (eK (.int 1))))) (eV 13))) (lCons (eTup lNil) lNil)))) sNx)
  (sSeq (sIf (bD (eEq (eV 9) (eK (.str .complete)))) (sRet (eTup (lCons (eTupL (lComp (lOfT (eV 1)) [13] (asgN 13) (bOr (bD (eNe (eIx (eV 13) (eK (.int 0))) (eV 10))) (bNot (bD (eIx (eV 13) (eK (.int 3)))))) (eV 13))) (lCons (eTup lNil) lNil)))) sNx)
  (sSeq (sSetN 11 lNil)
  (sSeq (sFor (lOfT (eV 1)) (asgN 12)
  (sIf (bOr (bD (eNe (eIx (eV 12) (eK (.int 0))) (eV 10))) (bD (eNe (eIx (eV 12) (eK (.int 2))) (eK (.int 2))))) (sAppend 11 (eV 12)) (sIf (bNot (bD (eV 6))) (sAppend 11 (eCat (eTo 3 (eV 12)) (eTup (lCons (eK (.bl true)) lNil)))) sNx)))
  (sRet (eTup (lCons (eTupL (lV 11)) (lCons (eTup (lCons (eTup (lCons (eK (.str .release)) (lCons (eV 10) lNil))) lNil)) lNil))))))))))
def F_sent_again : SF := (sSeq (sIf (bNot (bD (eIx (eV 0) (eK (.int 0))))) (sRet (eTup lNil)) sNx)
  (sSeq (sSetN 2 lNil)
  (sSeq (sFor (lOfT (eV 1)) (asgT [3, 4, 5, 6])
  (sAppend 2 (eIf (bD (eV 6)) (eTup (lCons (eK (.str .release)) (lCons (eV 3) lNil))) (eTup (lCons (eK (.str .publish)) (lCons (eV 3) (lCons (eV 4) (lCons (eV 5) lNil))))))))
  (sRet (eTupL (lV 2))))))
def R_noted : EF := (eTupL (lComp (lSortK 0) [1] (asgN 1) bYes (eTup (lCons (eV 1) (lCons (eIxK 0 (eV 1)) lNil)))))
def F_published : SF := (sSeq (sAsg (eV 0) (asgT [3, 4, 5, 6, 7, 8]))
  (sSeq (sAsg (eV 2) (asgT [9, 10, 11, 12]))
  (sSeq (sIf (bD (eLt (eV 12) (eK (.int 2)))) (sRet (eTup (lCons (eV 1) (lCons (eRep (eTup (lCons (eTup (lCons (eK (.str .ack)) (lCons (eV 10) lNil))) lNil)) (eV 12)) (lCons (eTup (lCons (eV 11) lNil)) lNil))))) sNx)
  (sSeq (sSetM false 13 (kComp false (lOfT (eV 1)) [16, 17] (asgT [16, 17]) (eV 16) (eV 17)))
  (sSeq (sSet 14 (eAnd (eInK false (eV 10) 13) (eV 4)))
  (sSeq (sIf (bAnd (bD (eV 5)) (bNot (bD (eV 14)))) (sPutK 13 (eV 10) (eV 11)) sNx)
  (sSeq (sIf (bAnd (bD (eV 4)) (bNot (bD (eV 5)))) (sSetdK 13 (eV 10) (eK (.int (-1)))) sNx)
  (sSeq (sSet 15 (eIf (bOr (bD (eV 5)) (bD (eV 14))) (eTup lNil) (eTup (lCons (eV 11) lNil))))
  (sRet (eTup (lCons (eCallK (fnK 1 R_noted) 13) (lCons (eTup (lCons (eTup (lCons (eK (.str .received)) (lCons (eV 10) lNil))) lNil)) (lCons (eV 15) lNil)))))))))))))
def F_released : SF := (sSeq (sSetM false 3 (kComp false (lOfT (eV 1)) [5, 6] (asgT [5, 6]) (eV 5) (eV 6)))
  (sSeq (sIf (bD (eInK true (eV 2) 3)) (sRet (eTup (lCons (eV 1) (lCons (eRep (eTup (lCons (eTup (lCons (eK (.str .complete)) (lCons (eV 2) lNil))) lNil)) (eInt (eIx (eV 0) (eK (.int 5))))) (lCons (eTup lNil) lNil))))) sNx)
  (sSeq (sPopK 4 3 (eV 2))
  (sRet (eTup (lCons (eCallK (fnK 1 R_noted) 3) (lCons (eTup (lCons (eTup (lCons (eK (.str .complete)) (lCons (eV 2) lNil))) lNil)) (lCons (eIf (bD (eEq (eV 4) (eK (.int (-1))))) (eTup lNil) (eTup (lCons (eV 4) lNil))) lNil))))))))
def F_received : SF := (sSeq (sIf (bD (eEq (eIx (eV 2) (eK (.int 0))) (eK (.str .release)))) (sRet (eCall (fnD 3 4 F_released) (lCons (eV 0) (lCons (eV 1) (lCons (eIx (eV 2) (eK (.int 1))) lNil))))) sNx)
  (sRet (eCall (fnD 3 15 F_published) (lCons (eV 0) (lCons (eV 1) (lCons (eV 2) lNil))))))
def F_after_break : SF := (sRet (eIf (bD (eIx (eV 0) (eK (.int 4)))) (eTup lNil) (eV 1)))
def F_is_line : SF := (sSeq (sIf (bOr (bNot (bD (eIs .tup (eV 0)))) (bD (eNe (eLen (eV 0)) (eK (.int 3))))) (sRet (eK (.bl false))) sNx)
  (sRet (eAnd (eCall (fnD 1 0 F_is_quality) (lCons (eIx (eV 0) (eK (.int 0))) lNil)) (eAnd (eCall (fnD 3 0 F_is_among) (lCons (eIx (eV 0) (eK (.int 1))) (lCons (eK (.int 1)) (lCons (eK (.int (2))) lNil)))) (eCall (fnD 3 0 F_is_among) (lCons (eIx (eV 0) (eK (.int 2))) (lCons (eK (.int 1)) (lCons (eK (.int (3))) lNil))))))))
def F_need_line : SF := (sIf (bNot (bD (eCall (fnD 1 0 F_is_line) (lCons (eV 0) lNil)))) sNever sNx)
def F_first_of : SF := (sRet (eTup (lCons (eK (.int 0)) (lCons (eTup lNil) (lCons (eTup lNil) (lCons (eTup lNil) (lCons (eTup lNil) (lCons (eRep (eTup (lCons (eK (.int 0)) lNil)) (eIx (eV 0) (eK (.int 2)))) (lCons (eK (.bl false)) lNil)))))))))
def F_first_state : SF := (sSeq (sDrop (eCall (fnD 1 0 F_need_line) (lCons (eV 0) lNil)))
  (sRet (eCall (fnD 1 0 F_first_of) (lCons (eV 0) lNil))))
def F_ends_fit : SF := (sSeq (sAsg (eV 0) (asgT [3, 4, 5]))
  (sSeq (sIf (bOr (bNot (bD (eCall (fnD 1 1 F_is_sender) (lCons (eV 1) lNil)))) (bOr (bNot (bD (eCall (fnD 1 1 F_is_receiver) (lCons (eV 2) lNil)))) (bAnd (bD (eLt (eV 3) (eK (.int 2)))) (bD (eNe (eV 2) (eTup lNil)))))) (sRet (eK (.bl false))) sNx)
  (sSeq (sIf (bNot (bD (eAll (lComp (lOfT (eV 1)) [6] (asgN 6) bYes (eAnd (eLe (eIx (eV 6) (eK (.int 0))) (eV 4)) (eAnd (eLt (eIx (eV 6) (eK (.int 1))) (eV 5)) (eEq (eIx (eV 6) (eK (.int 2))) (eV 3)))))))) (sRet (eK (.bl false))) sNx)
  (sRet (eAll (lComp (lOfT (eV 2)) [7, 8] (asgT [7, 8]) bYes (eAnd (eLe (eV 7) (eV 4)) (eChain (fun i j => !il j i) il (eK (.int (-1))) (eV 8) (eV 5)))))))))
def F_goes_forth : SF := (sSeq (sIf (bOr (bNot (bD (eCall (fnD 1 3 F_is_sent) (lCons (eV 1) lNil)))) (bD (eGt (eIx (eV 1) (eK (.int 1))) (eIx (eV 0) (eK (.int 1)))))) (sRet (eK (.bl false))) sNx)
  (sSeq (sIf (bD (eEq (eIx (eV 1) (eK (.int 0))) (eK (.str .release)))) (sRet (eEq (eIx (eV 0) (eK (.int 0))) (eK (.int 2)))) sNx)
  (sRet (eAnd (eLt (eIx (eV 1) (eK (.int 2))) (eIx (eV 0) (eK (.int 2)))) (eEq (eIx (eV 1) (eK (.int 3))) (eIx (eV 0) (eK (.int 0))))))))
def F_goes_back : SF := (sSeq (sIf (bOr (bNot (bD (eCall (fnD 1 0 F_is_answer) (lCons (eV 1) lNil)))) (bD (eGt (eIx (eV 1) (eK (.int 1))) (eIx (eV 0) (eK (.int 1)))))) (sRet (eK (.bl false))) sNx)
  (sRet (eAnd (eEq (eEq (eIx (eV 1) (eK (.int 0))) (eK (.str .ack))) (eEq (eIx (eV 0) (eK (.int 0))) (eK (.int 1)))) (eGt (eIx (eV 0) (eK (.int 0))) (eK (.int 0))))))
def F_are_under : SF := (sRet (eAnd (eIs .tup (eV 0)) (eLe (eLen (eV 0)) (eK (.int (12))))))
def F_are_counts : SF := (sRet (eAnd (eIs .tup (eV 1)) (eAnd (eEq (eLen (eV 1)) (eIx (eV 0) (eK (.int 2)))) (eAll (lComp (lOfT (eV 1)) [2] (asgN 2) bYes (eCall (fnD 3 0 F_is_among) (lCons (eV 2) (lCons (eK (.int 0)) (lCons (eK (.int (2))) lNil)))))))))
def F_is_state : SF := (sSeq (sIf (bOr (bNot (bD (eIs .tup (eV 1)))) (bOr (bD (eNe (eLen (eV 1)) (eK (.int 7)))) (bNot (bD (eCall (fnD 3 0 F_is_among) (lCons (eIx (eV 1) (eK (.int 0))) (lCons (eK (.int 0)) (lCons (eIx (eV 0) (eK (.int 2))) lNil)))))))) (sRet (eK (.bl false))) sNx)
  (sSeq (sAsg (eV 1) (asgT [2, 3, 4, 5, 6, 7, 8]))
  (sSeq (sIf (bOr (bNot (bD (eCall (fnD 3 6 F_ends_fit) (lCons (eV 0) (lCons (eV 3) (lCons (eV 4) lNil)))))) (bOr (bNot (bD (eCall (fnD 1 0 F_are_under) (lCons (eV 5) lNil)))) (bNot (bD (eCall (fnD 1 0 F_are_under) (lCons (eV 6) lNil)))))) (sRet (eK (.bl false))) sNx)
  (sSeq (sIf (bOr (bNot (bD (eAll (lComp (lOfT (eV 5)) [9] (asgN 9) bYes (eCall (fnD 2 0 F_goes_forth) (lCons (eV 0) (lCons (eV 9) lNil))))))) (bNot (bD (eAll (lComp (lOfT (eV 6)) [9] (asgN 9) bYes (eCall (fnD 2 0 F_goes_back) (lCons (eV 0) (lCons (eV 9) lNil)))))))) (sRet (eK (.bl false))) sNx)
  (sRet (eAnd (eCall (fnD 2 1 F_are_counts) (lCons (eV 0) (lCons (eV 7) lNil))) (eCall (fnD 1 0 F_is_truth) (lCons (eV 8) lNil))))))))
def F_need_state : SF := (sIf (bNot (bD (eCall (fnD 2 8 F_is_state) (lCons (eV 0) (lCons (eV 1) lNil))))) sNever sNx)
def F_can_offer : SF := (sSeq (sAsg (eV 0) (asgT [2, 3, 4]))
  (sRet (eAnd (eLt (eIx (eV 1) (eK (.int 0))) (eV 4)) (eOr (eEq (eV 2) (eK (.int 0))) (eNot (bD (eCall (fnD 2 0 F_is_busy) (lCons (eIx (eV 1) (eK (.int 1))) (lCons (eV 3) lNil)))))))))
def F_handed_on : SF := (sSeq (sSetN 3 (lOfT (eV 0)))
  (sSeq (sFor (lOfT (eV 2)) (asgN 4)
  (sSeq (sSet 1 (eOr (eV 1) (eAnd (eEq (eIxL (lV 3) (eV 4)) (eK (.int 0))) (eGt (eMaxL (lCat (lCons (eK (.int 0)) lNil) (lFrom (lV 3) (eAdd (eV 4) (eK (.int 1)))))) (eK (.int 0))))))
  (sPutL 3 (eV 4) (eMin (eK (.int (2))) (eAdd (eIxL (lV 3) (eV 4)) (eK (.int 1)))))))
  (sRet (eTup (lCons (eTupL (lV 3)) (lCons (eV 1) lNil))))))
def F_steps_in : SF := (sSeq (sAsg (eV 2) (asgT [3, 4, 5, 6, 7, 8, 9]))
  (sSeq (sSetN 10 lNil)
  (sSeq (sIf (bD (eNe (eV 7) (eTup lNil))) (sSeq (sStar [11] 12 (eV 7))
  (sSeq (sAsg (eCall (fnD 3 11 F_answered) (lCons (eV 0) (lCons (eV 4) (lCons (eV 11) lNil)))) (asgT [13, 14]))
  (sAppend 10 (eTup (lCons (eK (.str .back)) (lCons (eTup (lCons (eV 3) (lCons (eV 13) (lCons (eV 5) (lCons (eCat (eV 6) (eV 14)) (lCons (eTupL (lV 12)) (lCons (eV 8) (lCons (eV 9) lNil)))))))) lNil)))))) sNx)
  (sSeq (sAppend 10 (eTup (lCons (eK (.str .brk)) (lCons (eTup (lCons (eV 3) (lCons (eV 4) (lCons (eCall (fnD 2 0 F_after_break) (lCons (eV 0) (lCons (eV 5) lNil))) (lCons (eCall (fnD 2 5 F_sent_again) (lCons (eV 0) (lCons (eV 4) lNil))) (lCons (eTup lNil) (lCons (eV 8) (lCons (eV 9) lNil)))))))) lNil))))
  (sSeq (sIf (bD (eNe (eV 6) (eTup lNil))) (sSeq (sStar [11] 12 (eV 6))
  (sSeq (sAsg (eCall (fnD 3 0 F_received) (lCons (eV 0) (lCons (eV 5) (lCons (eV 11) lNil)))) (asgT [13, 14, 15]))
  (sSeq (sAsg (eCall (fnD 3 2 F_handed_on) (lCons (eV 8) (lCons (eV 9) (lCons (eV 15) lNil)))) (asgT [16, 17]))
  (sAppend 10 (eTup (lCons (eK (.str .forth)) (lCons (eTup (lCons (eV 3) (lCons (eV 4) (lCons (eV 13) (lCons (eTupL (lV 12)) (lCons (eCat (eV 7) (eV 14)) (lCons (eV 16) (lCons (eV 17) lNil)))))))) lNil))))))) sNx)
  (sSeq (sIf (bD (eCall (fnD 2 3 F_can_offer) (lCons (eV 1) (lCons (eV 2) lNil)))) (sSeq (sAsg (eCall (fnD 4 3 F_offer) (lCons (eV 4) (lCons (eV 3) (lCons (eIx (eV 1) (eK (.int 0))) (lCons (eIx (eV 1) (eK (.int 1))) lNil))))) (asgT [13, 14]))
  (sAppend 10 (eTup (lCons (eK (.str .offer)) (lCons (eTup (lCons (eAdd (eV 3) (eK (.int 1))) (lCons (eV 13) (lCons (eV 5) (lCons (eCat (eV 6) (eV 14)) (lCons (eV 7) (lCons (eV 8) (lCons (eV 9) lNil)))))))) lNil))))) sNx)
  (sRetN (lV 10))))))))
def F_steps_from : SF := (sSeq (sDrop (eCall (fnD 1 1 F_need_rules) (lCons (eV 0) lNil)))
  (sSeq (sDrop (eCall (fnD 1 0 F_need_line) (lCons (eV 1) lNil)))
  (sSeq (sDrop (eCall (fnD 2 0 F_need_state) (lCons (eV 1) (lCons (eV 2) lNil))))
  (sRetN (lCall (fnN 3 15 F_steps_in) (lCons (eV 0) (lCons (eV 1) (lCons (eV 2) lNil))))))))
def F_quiet_in : SF := (sRet (eAnd (eEq (eIx (eV 1) (eK (.int 3))) (eTup lNil)) (eAnd (eEq (eIx (eV 1) (eK (.int 4))) (eTup lNil)) (eNot (bD (eCall (fnD 2 3 F_can_offer) (lCons (eV 0) (lCons (eV 1) lNil))))))))
def F_bad_in : SF := (sSeq (sIf (bOr (bD (eIx (eV 1) (eK (.int 6)))) (bAnd (bD (eNe (eIx (eV 0) (eK (.int 0))) (eK (.int 1)))) (bD (eIn false (eK (.int (2))) (eIx (eV 1) (eK (.int 5))))))) (sRet (eK (.bl true))) sNx)
  (sRet (eAnd (eGt (eIx (eV 0) (eK (.int 0))) (eK (.int 0))) (eAnd (eIn false (eK (.int 0)) (eIx (eV 1) (eK (.int 5)))) (eCall (fnD 2 0 F_quiet_in) (lCons (eV 0) (lCons (eV 1) lNil)))))))
def F_is_bad : SF := (sSeq (sDrop (eCall (fnD 1 0 F_need_line) (lCons (eV 0) lNil)))
  (sSeq (sDrop (eCall (fnD 2 0 F_need_state) (lCons (eV 0) (lCons (eV 1) lNil))))
  (sRet (eCall (fnD 2 0 F_bad_in) (lCons (eV 0) (lCons (eV 1) lNil))))))
def F_judged : SF := (sSeq (sDrop (eCall (fnD 1 1 F_need_rules) (lCons (eV 0) lNil)))
  (sSeq (sDrop (eCall (fnD 1 0 F_need_line) (lCons (eV 1) lNil)))
  (sSeq (sSet 2 (eCall (fnD 1 0 F_first_of) (lCons (eV 1) lNil)))
  (sSeq (sPar 3 4 (eV 2) (eTup lNil) (lCons (eV 2) lNil))
  (sSeq (sSet 5 (eK (.int 0)))
  (sSeq (sWhile 64 (bD (eLt (eV 5) (eLenL (lV 4))))
  (sSeq (sFor (lCall (fnN 3 15 F_steps_in) (lCons (eV 0) (lCons (eV 1) (lCons (eIxL (lV 4) (eV 5)) lNil)))) (asgT [6, 7])
  (sIf (bD (eInN true (eV 7) 3)) (sSeq (sPutN 3 (eV 7) (eCat (eIxN 3 (eIxL (lV 4) (eV 5))) (eTup (lCons (eV 6) lNil))))
  (sSeq (sAppend 4 (eV 7))
  (sIf (bD (eCall (fnD 2 0 F_bad_in) (lCons (eV 1) (lCons (eV 7) lNil)))) (sRet (eTup (lCons (eK (.str .run)) (lCons (eIxN 3 (eV 7)) lNil)))) sNx))) sNx))
  (sSet 5 (eAdd (eV 5) (eK (.int 1))))))
  (sRet (eTup (lCons (eK (.str .fence)) (lCons (eTupL (lSort stS (lV 4))) lNil))))))))))
def F_fence_holds : SF := (sSeq (sIf (bOr (bNot (bD (eIs .tup (eV 2)))) (bOr (bNot (bD (eAll (lComp (lOfT (eV 2)) [4] (asgN 4) bYes (eCall (fnD 2 8 F_is_state) (lCons (eV 1) (lCons (eV 4) lNil))))))) (bNot (bD (eCall (fnD 1 2 F_are_rising) (lCons (eV 2) lNil)))))) (sRet (eK (.bl false))) sNx)
  (sSeq (sSetM true 3 (kComp true (lOfT (eV 2)) [5] (asgN 5) (eV 5) (eK (.bl true))))
  (sSeq (sIf (bOr (bD (eInN true (eCall (fnD 1 0 F_first_of) (lCons (eV 1) lNil)) 3)) (bD (eAny (lComp (lOfT (eV 2)) [5] (asgN 5) bYes (eCall (fnD 2 0 F_bad_in) (lCons (eV 1) (lCons (eV 5) lNil))))))) (sRet (eK (.bl false))) sNx)
  (sRet (eAll (lComp2 (lOfT (eV 2)) [5, 6, 7] [6, 7] (asgN 5) (lCall (fnN 3 15 F_steps_in) (lCons (eV 0) (lCons (eV 1) (lCons (eV 5) lNil)))) (asgT [6, 7]) (eInN false (eV 7) 3)))))))
def F_is_fence : SF := (sSeq (sDrop (eCall (fnD 1 1 F_need_rules) (lCons (eV 0) lNil)))
  (sSeq (sDrop (eCall (fnD 1 0 F_need_line) (lCons (eV 1) lNil)))
  (sRet (eCall (fnD 3 5 F_fence_holds) (lCons (eV 0) (lCons (eV 1) (lCons (eV 2) lNil)))))))
def F_is_run : SF := (sSeq (sDrop (eCall (fnD 1 1 F_need_rules) (lCons (eV 0) lNil)))
  (sSeq (sDrop (eCall (fnD 1 0 F_need_line) (lCons (eV 1) lNil)))
  (sSeq (sIf (bNot (bD (eIs .tup (eV 2)))) (sRet (eK (.bl false))) sNx)
  (sSeq (sSet 3 (eCall (fnD 1 0 F_first_of) (lCons (eV 1) lNil)))
  (sSeq (sFor (lOfT (eV 2)) (asgN 4)
  (sSeq (sSetM false 5 (kComp false (lCall (fnN 3 15 F_steps_in) (lCons (eV 0) (lCons (eV 1) (lCons (eV 3) lNil)))) [6, 7] (asgT [6, 7]) (eV 6) (eV 7)))
  (sSeq (sIf (bOr (bNot (bD (eIs .str (eV 4)))) (bD (eInK true (eV 4) 5))) (sRet (eK (.bl false))) sNx)
  (sSet 3 (eIxK 5 (eV 4))))))
  (sRet (eCall (fnD 2 0 F_bad_in) (lCons (eV 1) (lCons (eV 3) lNil)))))))))
def F__law_otherwise : SF := (sSeq (sSetN 1 (lCons (eK (.bl true)) (lCons (eK (.bl true)) (lCons (eK (.bl false)) (lCons (eK (.bl false)) (lCons (eK (.bl false)) (lCons (eK (.bl true)) lNil)))))))
  (sSeq (sPutL 1 (eV 0) (eNot (bD (eIxL (lV 1) (eV 0)))))
  (sRet (eTupL (lV 1)))))
def F__law_due : SF := (sSeq (sAsg (eV 1) (asgT [2, 3, 4]))
  (sSeq (sIf (bOr (bD (eEq (eV 2) (eK (.int 0)))) (bD (eEq (eV 0) (eK (.int 2))))) (sRet (eK (.bl false))) sNx)
  (sSeq (sIf (bD (eEq (eV 2) (eK (.int 1)))) (sRet (eEq (eV 0) (eK (.int 0)))) sNx)
  (sRet (eOr (eIn false (eV 0) (eTup (lCons (eK (.int 0)) (lCons (eK (.int 1)) (lCons (eK (.int 4)) lNil))))) (eGt (eV 4) (eV 3)))))))
def F__law_run_right : SF := (sSeq (sIf (bOr (bD (eIsNot (eCall (fnD 3 5 F_is_run) (lCons (eV 0) (lCons (eV 1) (lCons (eV 2) lNil)))) (eK (.bl true)))) (bD (eIsNot (eCall (fnD 3 5 F_is_run) (lCons (eV 0) (lCons (eV 1) (lCons (eInit (eV 2)) lNil)))) (eK (.bl false))))) (sRet (eK (.bl false))) sNx)
  (sSeq (sSet 3 (eCall (fnD 1 0 F_first_state) (lCons (eV 1) lNil)))
  (sSeq (sFor (lOfT (eV 2)) (asgN 4)
  (sSeq (sIf (bD (eCall (fnD 2 0 F_is_bad) (lCons (eV 1) (lCons (eV 3) lNil)))) (sRet (eK (.bl false))) sNx)
  (sSeq (sSetM false 5 (kOfL (lCall (fnN 3 0 F_steps_from) (lCons (eV 0) (lCons (eV 1) (lCons (eV 3) lNil))))))
  (sSeq (sIf (bD (eInK true (eV 4) 5)) (sRet (eK (.bl false))) sNx)
  (sSet 3 (eIxK 5 (eV 4)))))))
  (sRet (eCall (fnD 2 0 F_is_bad) (lCons (eV 1) (lCons (eV 3) lNil)))))))
end Wf

namespace Wf
open PySem PySem.Spec PyProof.Rows L2

def topS (i : Nat) : Stmt := PySem.Challenge.pw_wordferry_k38_whole_each_rule_otherwise.main.body.getD i (.Pass ⟨0, 0, 0, 0⟩)
/-! ### the defs, as the text has them -/
abbrev s_is_among : Stmt := topS 9
theorem sc_is_among : FnScope ["thing", "least", "most"] ["thing", "least", "most"] (defScope s_is_among) := ⟨rfl, rfl, rfl, by decide +kernel, rfl, by decide +kernel, by decide +kernel⟩
abbrev s_is_truth : Stmt := topS 10
theorem sc_is_truth : FnScope ["thing"] ["thing"] (defScope s_is_truth) := ⟨rfl, rfl, rfl, by decide +kernel, rfl, by decide +kernel, by decide +kernel⟩
abbrev s_is_quality : Stmt := topS 11
theorem sc_is_quality : FnScope ["thing"] ["thing"] (defScope s_is_quality) := ⟨rfl, rfl, rfl, by decide +kernel, rfl, by decide +kernel, by decide +kernel⟩
abbrev s_are_rising : Stmt := topS 12
theorem sc_are_rising : FnScope ["row", "one", "other"] ["row"] (defScope s_are_rising) := ⟨rfl, rfl, rfl, by decide +kernel, rfl, by decide +kernel, by decide +kernel⟩
abbrev s_need_rules : Stmt := topS 18
theorem sc_need_rules : FnScope ["thing", "one"] ["thing"] (defScope s_need_rules) := ⟨rfl, rfl, rfl, by decide +kernel, rfl, by decide +kernel, by decide +kernel⟩
abbrev s_is_number : Stmt := topS 19
theorem sc_is_number : FnScope ["thing"] ["thing"] (defScope s_is_number) := ⟨rfl, rfl, rfl, by decide +kernel, rfl, by decide +kernel, by decide +kernel⟩
abbrev s_is_entry : Stmt := topS 20
theorem sc_is_entry : FnScope ["thing", "number", "word", "quality", "released"] ["thing"] (defScope s_is_entry) := ⟨rfl, rfl, rfl, by decide +kernel, rfl, by decide +kernel, by decide +kernel⟩
abbrev s_is_sender : Stmt := topS 21
theorem sc_is_sender : FnScope ["thing", "one"] ["thing"] (defScope s_is_sender) := ⟨rfl, rfl, rfl, by decide +kernel, rfl, by decide +kernel, by decide +kernel⟩
abbrev s_is_note : Stmt := topS 22
theorem sc_is_note : FnScope ["thing"] ["thing"] (defScope s_is_note) := ⟨rfl, rfl, rfl, by decide +kernel, rfl, by decide +kernel, by decide +kernel⟩
abbrev s_is_receiver : Stmt := topS 23
theorem sc_is_receiver : FnScope ["thing", "one"] ["thing"] (defScope s_is_receiver) := ⟨rfl, rfl, rfl, by decide +kernel, rfl, by decide +kernel, by decide +kernel⟩
abbrev s_is_answer : Stmt := topS 24
theorem sc_is_answer : FnScope ["thing"] ["thing"] (defScope s_is_answer) := ⟨rfl, rfl, rfl, by decide +kernel, rfl, by decide +kernel, by decide +kernel⟩
abbrev s_is_sent : Stmt := topS 25
theorem sc_is_sent : FnScope ["thing", "word", "number", "rest"] ["thing"] (defScope s_is_sent) := ⟨rfl, rfl, rfl, by decide +kernel, rfl, by decide +kernel, by decide +kernel⟩
abbrev s_free_of : Stmt := topS 26
theorem sc_free_of : FnScope ["sender", "window", "number", "one"] ["sender", "window"] (defScope s_free_of) := ⟨rfl, rfl, rfl, by decide +kernel, rfl, by decide +kernel, by decide +kernel⟩
abbrev s_is_busy : Stmt := topS 27
theorem sc_is_busy : FnScope ["sender", "window"] ["sender", "window"] (defScope s_is_busy) := ⟨rfl, rfl, rfl, by decide +kernel, rfl, by decide +kernel, by decide +kernel⟩
abbrev s_offer : Stmt := topS 28
theorem sc_offer : FnScope ["sender", "word", "quality", "window", "free", "number", "others"] ["sender", "word", "quality", "window"] (defScope s_offer) := ⟨rfl, rfl, rfl, by decide +kernel, rfl, by decide +kernel, by decide +kernel⟩
abbrev s_answered : Stmt := topS 29
theorem sc_answered : FnScope ["rules", "sender", "packet", "again", "hold", "late", "soon", "forget", "answer", "word", "number", "kept", "entry", "one"] ["rules", "sender", "packet"] (defScope s_answered) := ⟨rfl, rfl, rfl, by decide +kernel, rfl, by decide +kernel, by decide +kernel⟩
abbrev s_sent_again : Stmt := topS 30
theorem sc_sent_again : FnScope ["rules", "sender", "found", "number", "word", "quality", "released"] ["rules", "sender"] (defScope s_sent_again) := ⟨rfl, rfl, rfl, by decide +kernel, rfl, by decide +kernel, by decide +kernel⟩
abbrev s_noted : Stmt := topS 31
theorem sc_noted : FnScope ["notes", "number"] ["notes"] (defScope s_noted) := ⟨rfl, rfl, rfl, by decide +kernel, rfl, by decide +kernel, by decide +kernel⟩
abbrev s_published : Stmt := topS 32
theorem sc_published : FnScope ["rules", "receiver", "packet", "again", "hold", "late", "soon", "forget", "answer", "name", "number", "word", "quality", "notes", "known", "words", "one", "kept"] ["rules", "receiver", "packet"] (defScope s_published) := ⟨rfl, rfl, rfl, by decide +kernel, rfl, by decide +kernel, by decide +kernel⟩
abbrev s_released : Stmt := topS 33
theorem sc_released : FnScope ["rules", "receiver", "number", "notes", "word", "one", "kept"] ["rules", "receiver", "number"] (defScope s_released) := ⟨rfl, rfl, rfl, by decide +kernel, rfl, by decide +kernel, by decide +kernel⟩
abbrev s_received : Stmt := topS 34
theorem sc_received : FnScope ["rules", "receiver", "packet"] ["rules", "receiver", "packet"] (defScope s_received) := ⟨rfl, rfl, rfl, by decide +kernel, rfl, by decide +kernel, by decide +kernel⟩
abbrev s_after_break : Stmt := topS 35
theorem sc_after_break : FnScope ["rules", "receiver"] ["rules", "receiver"] (defScope s_after_break) := ⟨rfl, rfl, rfl, by decide +kernel, rfl, by decide +kernel, by decide +kernel⟩
abbrev s_is_line : Stmt := topS 41
theorem sc_is_line : FnScope ["thing"] ["thing"] (defScope s_is_line) := ⟨rfl, rfl, rfl, by decide +kernel, rfl, by decide +kernel, by decide +kernel⟩
abbrev s_need_line : Stmt := topS 42
theorem sc_need_line : FnScope ["thing"] ["thing"] (defScope s_need_line) := ⟨rfl, rfl, rfl, by decide +kernel, rfl, by decide +kernel, by decide +kernel⟩
abbrev s_first_of : Stmt := topS 43
theorem sc_first_of : FnScope ["line"] ["line"] (defScope s_first_of) := ⟨rfl, rfl, rfl, by decide +kernel, rfl, by decide +kernel, by decide +kernel⟩
abbrev s_first_state : Stmt := topS 44
theorem sc_first_state : FnScope ["line"] ["line"] (defScope s_first_state) := ⟨rfl, rfl, rfl, by decide +kernel, rfl, by decide +kernel, by decide +kernel⟩
abbrev s_ends_fit : Stmt := topS 45
theorem sc_ends_fit : FnScope ["line", "sender", "receiver", "quality", "window", "many", "one", "number", "word"] ["line", "sender", "receiver"] (defScope s_ends_fit) := ⟨rfl, rfl, rfl, by decide +kernel, rfl, by decide +kernel, by decide +kernel⟩
abbrev s_goes_forth : Stmt := topS 46
theorem sc_goes_forth : FnScope ["line", "thing"] ["line", "thing"] (defScope s_goes_forth) := ⟨rfl, rfl, rfl, by decide +kernel, rfl, by decide +kernel, by decide +kernel⟩
abbrev s_goes_back : Stmt := topS 47
theorem sc_goes_back : FnScope ["line", "thing"] ["line", "thing"] (defScope s_goes_back) := ⟨rfl, rfl, rfl, by decide +kernel, rfl, by decide +kernel, by decide +kernel⟩
abbrev s_are_under : Stmt := topS 48
theorem sc_are_under : FnScope ["thing"] ["thing"] (defScope s_are_under) := ⟨rfl, rfl, rfl, by decide +kernel, rfl, by decide +kernel, by decide +kernel⟩
abbrev s_are_counts : Stmt := topS 49
theorem sc_are_counts : FnScope ["line", "thing", "one"] ["line", "thing"] (defScope s_are_counts) := ⟨rfl, rfl, rfl, by decide +kernel, rfl, by decide +kernel, by decide +kernel⟩
abbrev s_is_state : Stmt := topS 50
theorem sc_is_state : FnScope ["line", "thing", "offers", "sender", "receiver", "forth", "back", "handed", "out", "one"] ["line", "thing"] (defScope s_is_state) := ⟨rfl, rfl, rfl, by decide +kernel, rfl, by decide +kernel, by decide +kernel⟩
abbrev s_need_state : Stmt := topS 51
theorem sc_need_state : FnScope ["line", "thing"] ["line", "thing"] (defScope s_need_state) := ⟨rfl, rfl, rfl, by decide +kernel, rfl, by decide +kernel, by decide +kernel⟩
abbrev s_can_offer : Stmt := topS 52
theorem sc_can_offer : FnScope ["line", "state", "quality", "window", "many"] ["line", "state"] (defScope s_can_offer) := ⟨rfl, rfl, rfl, by decide +kernel, rfl, by decide +kernel, by decide +kernel⟩
abbrev s_handed_on : Stmt := topS 53
theorem sc_handed_on : FnScope ["handed", "out", "words", "found", "word"] ["handed", "out", "words"] (defScope s_handed_on) := ⟨rfl, rfl, rfl, by decide +kernel, rfl, by decide +kernel, by decide +kernel⟩
abbrev s_steps_in : Stmt := topS 54
theorem sc_steps_in : FnScope ["rules", "line", "state", "offers", "sender", "receiver", "forth", "back", "handed", "out", "found", "packet", "rest", "later", "packets", "words", "counts", "late"] ["rules", "line", "state"] (defScope s_steps_in) := ⟨rfl, rfl, rfl, by decide +kernel, rfl, by decide +kernel, by decide +kernel⟩
abbrev s_steps_from : Stmt := topS 55
theorem sc_steps_from : FnScope ["rules", "line", "state"] ["rules", "line", "state"] (defScope s_steps_from) := ⟨rfl, rfl, rfl, by decide +kernel, rfl, by decide +kernel, by decide +kernel⟩
abbrev s_quiet_in : Stmt := topS 56
theorem sc_quiet_in : FnScope ["line", "state"] ["line", "state"] (defScope s_quiet_in) := ⟨rfl, rfl, rfl, by decide +kernel, rfl, by decide +kernel, by decide +kernel⟩
abbrev s_bad_in : Stmt := topS 57
theorem sc_bad_in : FnScope ["line", "state"] ["line", "state"] (defScope s_bad_in) := ⟨rfl, rfl, rfl, by decide +kernel, rfl, by decide +kernel, by decide +kernel⟩
abbrev s_is_bad : Stmt := topS 58
theorem sc_is_bad : FnScope ["line", "state"] ["line", "state"] (defScope s_is_bad) := ⟨rfl, rfl, rfl, by decide +kernel, rfl, by decide +kernel, by decide +kernel⟩
abbrev s_judged : Stmt := topS 60
theorem sc_judged : FnScope ["rules", "line", "first", "runs", "states", "at", "step", "there"] ["rules", "line"] (defScope s_judged) := ⟨rfl, rfl, rfl, by decide +kernel, rfl, by decide +kernel, by decide +kernel⟩
abbrev s_fence_holds : Stmt := topS 61
theorem sc_fence_holds : FnScope ["rules", "line", "thing", "known", "one", "state", "step", "there"] ["rules", "line", "thing"] (defScope s_fence_holds) := ⟨rfl, rfl, rfl, by decide +kernel, rfl, by decide +kernel, by decide +kernel⟩
abbrev s_is_fence : Stmt := topS 62
theorem sc_is_fence : FnScope ["rules", "line", "thing"] ["rules", "line", "thing"] (defScope s_is_fence) := ⟨rfl, rfl, rfl, by decide +kernel, rfl, by decide +kernel, by decide +kernel⟩
abbrev s_is_run : Stmt := topS 63
theorem sc_is_run : FnScope ["rules", "line", "thing", "state", "step", "steps", "word", "there"] ["rules", "line", "thing"] (defScope s_is_run) := ⟨rfl, rfl, rfl, by decide +kernel, rfl, by decide +kernel, by decide +kernel⟩
abbrev s__law_cell_at : Stmt := topS 65
theorem sc__law_cell_at : FnScope ["_law_script", "_law_k"] ["_law_script", "_law_k"] (defScope s__law_cell_at) := ⟨rfl, rfl, rfl, by decide +kernel, rfl, by decide +kernel, by decide +kernel⟩
abbrev s__law_state : Stmt := topS 66
theorem sc__law_state : FnScope ["_law_script", "_law_k", "_law_cell"] ["_law_script", "_law_k"] (defScope s__law_state) := ⟨rfl, rfl, rfl, by decide +kernel, rfl, by decide +kernel, by decide +kernel⟩
abbrev s__law_take : Stmt := topS 67
theorem sc__law_take : FnScope ["_law_state_here", "_law_many", "_law_found", "_law_stirred"] ["_law_state_here", "_law_many"] (defScope s__law_take) := ⟨rfl, rfl, rfl, by decide +kernel, rfl, by decide +kernel, by decide +kernel⟩
abbrev s__law_otherwise : Stmt := topS 68
theorem sc__law_otherwise : FnScope ["_law_at", "_law_right"] ["_law_at"] (defScope s__law_otherwise) := ⟨rfl, rfl, rfl, by decide +kernel, rfl, by decide +kernel, by decide +kernel⟩
abbrev s__law_due : Stmt := topS 69
theorem sc__law_due : FnScope ["_law_at", "_law_line", "_law_grade", "_law_reach", "_law_many"] ["_law_at", "_law_line"] (defScope s__law_due) := ⟨rfl, rfl, rfl, by decide +kernel, rfl, by decide +kernel, by decide +kernel⟩
abbrev s__law_run_right : Stmt := topS 70
theorem sc__law_run_right : FnScope ["_law_rules", "_law_line", "_law_steps", "_law_here", "_law_step", "_law_ways"] ["_law_rules", "_law_line", "_law_steps"] (defScope s__law_run_right) := ⟨rfl, rfl, rfl, by decide +kernel, rfl, by decide +kernel, by decide +kernel⟩
abbrev s_law : Stmt := topS 71
theorem sc_law : FnScope ["_law_script", "_law_k", "_law_state_here", "_law_lines", "_law_at", "_law_rules", "_law_line", "_law_word", "_law_told", "_law_grade"] ["_law_script"] (defScope s_law) := ⟨rfl, rfl, rfl, by decide +kernel, rfl, by decide +kernel, by decide +kernel⟩
structure Txt (K : PySem.W.Frag) (mg : Str → Option Value) : Prop where
  h_is_among : Has K mg "is_among" s_is_among ["thing", "least", "most"]
  h_is_truth : Has K mg "is_truth" s_is_truth ["thing"]
  h_is_quality : Has K mg "is_quality" s_is_quality ["thing"]
  h_are_rising : Has K mg "are_rising" s_are_rising ["row"]
  h_need_rules : Has K mg "need_rules" s_need_rules ["thing"]
  h_is_number : Has K mg "is_number" s_is_number ["thing"]
  h_is_entry : Has K mg "is_entry" s_is_entry ["thing"]
  h_is_sender : Has K mg "is_sender" s_is_sender ["thing"]
  h_is_note : Has K mg "is_note" s_is_note ["thing"]
  h_is_receiver : Has K mg "is_receiver" s_is_receiver ["thing"]
  h_is_answer : Has K mg "is_answer" s_is_answer ["thing"]
  h_is_sent : Has K mg "is_sent" s_is_sent ["thing"]
  h_free_of : Has K mg "free_of" s_free_of ["sender", "window"]
  h_is_busy : Has K mg "is_busy" s_is_busy ["sender", "window"]
  h_offer : Has K mg "offer" s_offer ["sender", "word", "quality", "window"]
  h_answered : Has K mg "answered" s_answered ["rules", "sender", "packet"]
  h_sent_again : Has K mg "sent_again" s_sent_again ["rules", "sender"]
  h_noted : Has K mg "noted" s_noted ["notes"]
  h_published : Has K mg "published" s_published ["rules", "receiver", "packet"]
  h_released : Has K mg "released" s_released ["rules", "receiver", "number"]
  h_received : Has K mg "received" s_received ["rules", "receiver", "packet"]
  h_after_break : Has K mg "after_break" s_after_break ["rules", "receiver"]
  h_is_line : Has K mg "is_line" s_is_line ["thing"]
  h_need_line : Has K mg "need_line" s_need_line ["thing"]
  h_first_of : Has K mg "first_of" s_first_of ["line"]
  h_first_state : Has K mg "first_state" s_first_state ["line"]
  h_ends_fit : Has K mg "ends_fit" s_ends_fit ["line", "sender", "receiver"]
  h_goes_forth : Has K mg "goes_forth" s_goes_forth ["line", "thing"]
  h_goes_back : Has K mg "goes_back" s_goes_back ["line", "thing"]
  h_are_under : Has K mg "are_under" s_are_under ["thing"]
  h_are_counts : Has K mg "are_counts" s_are_counts ["line", "thing"]
  h_is_state : Has K mg "is_state" s_is_state ["line", "thing"]
  h_need_state : Has K mg "need_state" s_need_state ["line", "thing"]
  h_can_offer : Has K mg "can_offer" s_can_offer ["line", "state"]
  h_handed_on : Has K mg "handed_on" s_handed_on ["handed", "out", "words"]
  h_steps_in : Has K mg "steps_in" s_steps_in ["rules", "line", "state"]
  h_steps_from : Has K mg "steps_from" s_steps_from ["rules", "line", "state"]
  h_quiet_in : Has K mg "quiet_in" s_quiet_in ["line", "state"]
  h_bad_in : Has K mg "bad_in" s_bad_in ["line", "state"]
  h_is_bad : Has K mg "is_bad" s_is_bad ["line", "state"]
  h_judged : Has K mg "judged" s_judged ["rules", "line"]
  h_fence_holds : Has K mg "fence_holds" s_fence_holds ["rules", "line", "thing"]
  h_is_fence : Has K mg "is_fence" s_is_fence ["rules", "line", "thing"]
  h_is_run : Has K mg "is_run" s_is_run ["rules", "line", "thing"]
  h__law_cell_at : Has K mg "_law_cell_at" s__law_cell_at ["_law_script", "_law_k"]
  h__law_state : Has K mg "_law_state" s__law_state ["_law_script", "_law_k"]
  h__law_take : Has K mg "_law_take" s__law_take ["_law_state_here", "_law_many"]
  h__law_otherwise : Has K mg "_law_otherwise" s__law_otherwise ["_law_at"]
  h__law_due : Has K mg "_law_due" s__law_due ["_law_at", "_law_line"]
  h__law_run_right : Has K mg "_law_run_right" s__law_run_right ["_law_rules", "_law_line", "_law_steps"]
  h_law : Has K mg "law" s_law ["_law_script"]
  z_all : mg "all" = none
  z_any : mg "any" = none
  z_bool : mg "bool" = none
  z_dict : mg "dict" = none
  z_int : mg "int" = none
  z_isinstance : mg "isinstance" = none
  z_len : mg "len" = none
  z_list : mg "list" = none
  z_max : mg "max" = none
  z_min : mg "min" = none
  z_range : mg "range" = none
  z_sorted : mg "sorted" = none
  z_str : mg "str" = none
  z_tuple : mg "tuple" = none
  z_zip : mg "zip" = none
  g_MANY_RULES : ∃ t, mg "MANY_RULES" = some (.int (6) t)
  g_MOST_NUMBER : ∃ t, mg "MOST_NUMBER" = some (.int (999) t)
  g_MOST_UNDER : ∃ t, mg "MOST_UNDER" = some (.int (12) t)
  g_MOST_WINDOW_ends : ∃ t, mg "MOST_WINDOW_ends" = some (.int (3) t)
  g_MOST_WINDOW_lines : ∃ t, mg "MOST_WINDOW_lines" = some (.int (2) t)
  g_MOST_WORDS : ∃ t, mg "MOST_WORDS" = some (.int (3) t)
  g_NO_WORD : ∃ t, mg "NO_WORD" = some (.int (-1) t)
  g_OFTEN : ∃ t, mg "OFTEN" = some (.int (2) t)
section
variable {P : Program} {w : World} {K : PySem.W.Frag} {mg : Str → Option Value} {base : Heap}
theorem c_is_among (T : Txt K mg) : CalD P w K mg base 1 "is_among" 3 (fnD 3 0 F_is_among) := by
  exact cal_fn T.h_is_among sc_is_among rfl rfl F_is_among fun f cdv A outer s H E hr =>
    (sjs_one (sj_ret (ej_and (ej_is .int rfl (by rfl) T.z_isinstance (by rfl) T.z_int (ej_v (pv 0))) (ej_and (ej_not (ej_is .bool rfl (by rfl) T.z_isinstance (by rfl) T.z_bool (ej_v (pv 0)))) (ej_one (ej_chain ob_le ob_le (ej_v (pv 1)) (ej_v (pv 0)) (ej_v (pv 2))))))))
theorem c_is_truth (T : Txt K mg) : CalD P w K mg base 1 "is_truth" 1 (fnD 1 0 F_is_truth) := by
  exact cal_fn T.h_is_truth sc_is_truth rfl rfl F_is_truth fun f cdv A outer s H E hr =>
    (sjs_one (sj_ret (ej_is .bool rfl (by rfl) T.z_isinstance (by rfl) T.z_bool (ej_v (pv 0)))))
theorem c_is_quality (T : Txt K mg) : CalD P w K mg base 2 "is_quality" 1 (fnD 1 0 F_is_quality) := by
  exact cal_fn T.h_is_quality sc_is_quality rfl rfl F_is_quality fun f cdv A outer s H E hr =>
    (sjs_one (sj_ret (ej_cal (c_is_among T) hr (by decide) (by rfl) (aj_cons (ej_v (pv 0)) (aj_cons ej_int (aj_cons ej_int aj_nil))))))
theorem c_are_rising (T : Txt K mg) : CalD P w K mg base 1 "are_rising" 1 (fnD 1 2 F_are_rising) := cal_fn T.h_are_rising sc_are_rising rfl rfl F_are_rising fun f cdv A outer s H E hr =>
  (sjs_one (sj_ret (ej_all rfl (by rfl) T.z_all (lj_of (nj_compS rfl sc_are_rising.nd (pi_zipRow (by rfl) T.z_zip (pv 0) (pv 0)) (blkOk_by (own := [("one", 1), ("other", 2)]) (by rfl)) (by decide) (fun _ _ _ _ _ => (gj_tup rfl (pgs_cons (pg_name (i := 1) sc_are_rising.nd rfl (.inl rfl)) (pgs_cons (pg_name (i := 2) sc_are_rising.nd rfl (.inl rfl)) pgs_nil)))) (fun _ _ _ _ _ => (ej_c (cj_ltD hr (ej_v (pv 1)) (ej_v (pv 2))))))))))
theorem c_are_rising_l (T : Txt K mg) : CalS P w K mg base 1 "are_rising" (spL K (fnL 2 R_are_rising)) := cal_fnL T.h_are_rising sc_are_rising rfl rfl rfl R_are_rising fun f cdv A outer s H E hr =>
  (ej_all rfl (by rfl) T.z_all (lj_of (nj_compS rfl sc_are_rising.nd (pi_zipRow (by rfl) T.z_zip (pv 0) (pv 0)) (blkOk_by (own := [("one", 1), ("other", 2)]) (by rfl)) (by decide) (fun _ _ _ _ _ => (gj_tup rfl (pgs_cons (pg_name (i := 1) sc_are_rising.nd rfl (.inl rfl)) (pgs_cons (pg_name (i := 2) sc_are_rising.nd rfl (.inl rfl)) pgs_nil)))) (fun _ _ _ _ _ => (ej_c (cj_ltD hr (ej_v (pv 1)) (ej_v (pv 2))))))))
theorem c_need_rules (T : Txt K mg) : CalD P w K mg base 2 "need_rules" 1 (fnD 1 1 F_need_rules) := by
  obtain ⟨t_MANY_RULES, g_MANY_RULES⟩ := T.g_MANY_RULES
  exact cal_fn T.h_need_rules sc_need_rules rfl rfl F_need_rules fun f cdv A outer s H E hr =>
    (sjs_one (sj_if (tj_w (wj_or (tj_not (tj_d (ej_is .tup rfl (by rfl) T.z_isinstance (by rfl) T.z_tuple (ej_v (pv 0))))) (wj_or (tj_c (cj_ne hr (ej_len (by rfl) T.z_len (ej_v (pv 0))) (ej_gi (by rfl) g_MANY_RULES))) (wj_or1 (tj_not (tj_d (ej_all rfl (by rfl) T.z_all (lj_of (nj_comp rfl sc_need_rules.nd (iaj_of (ij_tup (ej_v (pv 0)))) (blkOk_by (own := [("one", 1)]) (by rfl)) (by decide) (fun _ _ _ _ _ => (gj_name (pg_name (i := 1) sc_need_rules.nd rfl (.inl rfl)))) (fun _ _ _ _ _ => ptj_nil) (fun _ _ _ _ _ => (ej_cal (c_is_truth T) hr (by decide) (by rfl) (aj_cons (ej_v (pv 1)) aj_nil)))))))))))) sjs_never sjs_nil))
theorem c_is_number (T : Txt K mg) : CalD P w K mg base 2 "is_number" 1 (fnD 1 0 F_is_number) := by
  obtain ⟨t_MOST_WINDOW_ends, g_MOST_WINDOW_ends⟩ := T.g_MOST_WINDOW_ends
  exact cal_fn T.h_is_number sc_is_number rfl rfl F_is_number fun f cdv A outer s H E hr =>
    (sjs_one (sj_ret (ej_cal (c_is_among T) hr (by decide) (by rfl) (aj_cons (ej_v (pv 0)) (aj_cons ej_int (aj_cons (ej_gi (by rfl) g_MOST_WINDOW_ends) aj_nil))))))
theorem c_is_entry (T : Txt K mg) : CalD P w K mg base 3 "is_entry" 1 (fnD 1 4 F_is_entry) := by
  obtain ⟨t_MOST_NUMBER, g_MOST_NUMBER⟩ := T.g_MOST_NUMBER
  exact cal_fn T.h_is_entry sc_is_entry rfl rfl F_is_entry fun f cdv A outer s H E hr =>
    (sjs_cons (sj_if (tj_w (wj_or (tj_not (tj_d (ej_is .tup rfl (by rfl) T.z_isinstance (by rfl) T.z_tuple (ej_v (pv 0))))) (wj_or1 (tj_c (cj_ne hr (ej_len (by rfl) T.z_len (ej_v (pv 0))) ej_int))))) (sjs_one (sj_ret ej_bl)) sjs_nil)
  (sjs_cons (sj_asg (ej_v (pv 0)) (gj_tup rfl (pgs_cons (pg_name (i := 1) sc_is_entry.nd rfl (.inl rfl)) (pgs_cons (pg_name (i := 2) sc_is_entry.nd rfl (.inl rfl)) (pgs_cons (pg_name (i := 3) sc_is_entry.nd rfl (.inl rfl)) (pgs_cons (pg_name (i := 4) sc_is_entry.nd rfl (.inl rfl)) pgs_nil))))))
  (sjs_cons (sj_if (tj_w (wj_or (tj_not (tj_d (ej_cal (c_is_number T) hr (by decide) (by rfl) (aj_cons (ej_v (pv 1)) aj_nil)))) (wj_or (tj_not (tj_d (ej_cal (c_is_among T) hr (by decide) (by rfl) (aj_cons (ej_v (pv 2)) (aj_cons ej_int (aj_cons (ej_gi (by rfl) g_MOST_NUMBER) aj_nil)))))) (wj_or1 (tj_not (tj_d (ej_cal (c_is_among T) hr (by decide) (by rfl) (aj_cons (ej_v (pv 3)) (aj_cons ej_int (aj_cons ej_int aj_nil)))))))))) (sjs_one (sj_ret ej_bl)) sjs_nil)
  (sjs_one (sj_ret (ej_and (ej_cal (c_is_truth T) hr (by decide) (by rfl) (aj_cons (ej_v (pv 4)) aj_nil)) (ej_one (ej_or (ej_c (cj_eq hr (ej_v (pv 3)) ej_int)) (ej_one (ej_not (ej_v (pv 4))))))))))))
theorem c_is_sender (T : Txt K mg) : CalD P w K mg base 4 "is_sender" 1 (fnD 1 1 F_is_sender) := by
  exact cal_fn T.h_is_sender sc_is_sender rfl rfl F_is_sender fun f cdv A outer s H E hr =>
    (sjs_cons (sj_if (tj_w (wj_or (tj_not (tj_d (ej_is .tup rfl (by rfl) T.z_isinstance (by rfl) T.z_tuple (ej_v (pv 0))))) (wj_or1 (tj_not (tj_d (ej_all rfl (by rfl) T.z_all (lj_of (nj_comp rfl sc_is_sender.nd (iaj_of (ij_tup (ej_v (pv 0)))) (blkOk_by (own := [("one", 1)]) (by rfl)) (by decide) (fun _ _ _ _ _ => (gj_name (pg_name (i := 1) sc_is_sender.nd rfl (.inl rfl)))) (fun _ _ _ _ _ => ptj_nil) (fun _ _ _ _ _ => (ej_cal (c_is_entry T) hr (by decide) (by rfl) (aj_cons (ej_v (pv 1)) aj_nil))))))))))) (sjs_one (sj_ret ej_bl)) sjs_nil)
  (sjs_one (sj_ret (ej_c (cj_eq hr (ej_lenS rfl sc_is_sender.nd (by rfl) T.z_len (iaj_of (ij_tup (ej_v (pv 0)))) (blkOk_by (own := [("one", 1)]) (by rfl)) (by decide) (fun _ _ _ _ _ => (gj_name (pg_name (i := 1) sc_is_sender.nd rfl (.inl rfl)))) (fun _ _ _ _ _ => (ej_ix (ej_v (pv 1)) ej_int))) (ej_len (by rfl) T.z_len (ej_v (pv 0))))))))
theorem c_is_note (T : Txt K mg) : CalD P w K mg base 3 "is_note" 1 (fnD 1 0 F_is_note) := by
  obtain ⟨t_MOST_NUMBER, g_MOST_NUMBER⟩ := T.g_MOST_NUMBER
  obtain ⟨t_NO_WORD, g_NO_WORD⟩ := T.g_NO_WORD
  exact cal_fn T.h_is_note sc_is_note rfl rfl F_is_note fun f cdv A outer s H E hr =>
    (sjs_cons (sj_if (tj_w (wj_or (tj_not (tj_d (ej_is .tup rfl (by rfl) T.z_isinstance (by rfl) T.z_tuple (ej_v (pv 0))))) (wj_or1 (tj_c (cj_ne hr (ej_len (by rfl) T.z_len (ej_v (pv 0))) ej_int))))) (sjs_one (sj_ret ej_bl)) sjs_nil)
  (sjs_one (sj_ret (ej_and (ej_cal (c_is_number T) hr (by decide) (by rfl) (aj_cons (ej_ix (ej_v (pv 0)) ej_int) aj_nil)) (ej_one (ej_cal (c_is_among T) hr (by decide) (by rfl) (aj_cons (ej_ix (ej_v (pv 0)) ej_int) (aj_cons (ej_gi (by rfl) g_NO_WORD) (aj_cons (ej_gi (by rfl) g_MOST_NUMBER) aj_nil)))))))))
theorem c_is_receiver (T : Txt K mg) : CalD P w K mg base 4 "is_receiver" 1 (fnD 1 1 F_is_receiver) := by
  exact cal_fn T.h_is_receiver sc_is_receiver rfl rfl F_is_receiver fun f cdv A outer s H E hr =>
    (sjs_cons (sj_if (tj_w (wj_or (tj_not (tj_d (ej_is .tup rfl (by rfl) T.z_isinstance (by rfl) T.z_tuple (ej_v (pv 0))))) (wj_or1 (tj_not (tj_d (ej_all rfl (by rfl) T.z_all (lj_of (nj_comp rfl sc_is_receiver.nd (iaj_of (ij_tup (ej_v (pv 0)))) (blkOk_by (own := [("one", 1)]) (by rfl)) (by decide) (fun _ _ _ _ _ => (gj_name (pg_name (i := 1) sc_is_receiver.nd rfl (.inl rfl)))) (fun _ _ _ _ _ => ptj_nil) (fun _ _ _ _ _ => (ej_cal (c_is_note T) hr (by decide) (by rfl) (aj_cons (ej_v (pv 1)) aj_nil))))))))))) (sjs_one (sj_ret ej_bl)) sjs_nil)
  (sjs_one (sj_ret (ej_calL (c_are_rising_l T) hr (by decide) (by rfl) (lj_of (nj_comp rfl sc_is_receiver.nd (iaj_of (ij_tup (ej_v (pv 0)))) (blkOk_by (own := [("one", 1)]) (by rfl)) (by decide) (fun _ _ _ _ _ => (gj_name (pg_name (i := 1) sc_is_receiver.nd rfl (.inl rfl)))) (fun _ _ _ _ _ => ptj_nil) (fun _ _ _ _ _ => (ej_ix (ej_v (pv 1)) ej_int))))))))
theorem c_is_answer (T : Txt K mg) : CalD P w K mg base 3 "is_answer" 1 (fnD 1 0 F_is_answer) := by
  exact cal_fn T.h_is_answer sc_is_answer rfl rfl F_is_answer fun f cdv A outer s H E hr =>
    (sjs_cons (sj_if (tj_w (wj_or (tj_not (tj_d (ej_is .tup rfl (by rfl) T.z_isinstance (by rfl) T.z_tuple (ej_v (pv 0))))) (wj_or (tj_c (cj_ne hr (ej_len (by rfl) T.z_len (ej_v (pv 0))) ej_int)) (wj_or1 (tj_not (tj_d (ej_is .str rfl (by rfl) T.z_isinstance (by rfl) T.z_str (ej_ix (ej_v (pv 0)) ej_int)))))))) (sjs_one (sj_ret ej_bl)) sjs_nil)
  (sjs_one (sj_ret (ej_and (ej_c (cj_in (ej_ix (ej_v (pv 0)) ej_int) (ej_tup (aj_cons (ej_str .ack) (aj_cons (ej_str .received) (aj_cons (ej_str .complete) aj_nil))) (hn := (len_le (cons_len (cons_len (cons_len nil_len)))))))) (ej_one (ej_cal (c_is_number T) hr (by decide) (by rfl) (aj_cons (ej_ix (ej_v (pv 0)) ej_int) aj_nil)))))))
theorem c_is_sent (T : Txt K mg) : CalD P w K mg base 3 "is_sent" 1 (fnD 1 3 F_is_sent) := by
  obtain ⟨t_MOST_NUMBER, g_MOST_NUMBER⟩ := T.g_MOST_NUMBER
  exact cal_fn T.h_is_sent sc_is_sent rfl rfl F_is_sent fun f cdv A outer s H E hr =>
    (sjs_cons (sj_if (tj_w (wj_or (tj_not (tj_d (ej_is .tup rfl (by rfl) T.z_isinstance (by rfl) T.z_tuple (ej_v (pv 0))))) (wj_or (tj_c (cj_lt (ej_len (by rfl) T.z_len (ej_v (pv 0))) ej_int)) (wj_or1 (tj_not (tj_d (ej_is .str rfl (by rfl) T.z_isinstance (by rfl) T.z_str (ej_ix (ej_v (pv 0)) ej_int)))))))) (sjs_one (sj_ret ej_bl)) sjs_nil)
  (sjs_cons (sj_star (is := [1, 2]) (r := 3) (pg_star (es' := [.Name "word" ⟨61, 4, 61, 8⟩, .Name "number" ⟨61, 10, 61, 16⟩, .Name "rest" ⟨61, 19, 61, 23⟩]) rfl (pgs_cons (pg_name (i := 1) sc_is_sent.nd rfl (.inl rfl)) (pgs_cons (pg_name (i := 2) sc_is_sent.nd rfl (.inl rfl)) (pgs_cons (pg_name (i := 3) sc_is_sent.nd rfl (.inl rfl)) pgs_nil)))) (ej_v (pv 0)))
  (sjs_cons (sj_if (tj_c (cj_eq hr (ej_v (pv 1)) (ej_str .release))) (sjs_one (sj_ret (ej_and (ej_c (cj_eqL hr (lj_v (pv 3)) (lj_of (nj_lst aj_nil (len_le nil_len))))) (ej_one (ej_cal (c_is_number T) hr (by decide) (by rfl) (aj_cons (ej_v (pv 2)) aj_nil)))))) sjs_nil)
  (sjs_cons (sj_if (tj_w (wj_or (tj_c (cj_ne hr (ej_v (pv 1)) (ej_str .publish))) (wj_or (tj_c (cj_ne hr (ej_lenL (by rfl) T.z_len (lj_v (pv 3))) ej_int)) (wj_or (tj_not (tj_d (ej_cal (c_is_among T) hr (by decide) (by rfl) (aj_cons (ej_ixL (lj_v (pv 3)) ej_int) (aj_cons ej_int (aj_cons (ej_gi (by rfl) g_MOST_NUMBER) aj_nil)))))) (wj_or1 (tj_not (tj_d (ej_cal (c_is_quality T) hr (by decide) (by rfl) (aj_cons (ej_ixL (lj_v (pv 3)) ej_int) aj_nil))))))))) (sjs_one (sj_ret ej_bl)) sjs_nil)
  (sjs_one (sj_ret (ej_if (tj_c (cj_eq hr (ej_ixL (lj_v (pv 3)) ej_int) ej_int)) (ej_cal (c_is_among T) hr (by decide) (by rfl) (aj_cons (ej_v (pv 2)) (aj_cons ej_int (aj_cons ej_int aj_nil)))) (ej_cal (c_is_number T) hr (by decide) (by rfl) (aj_cons (ej_v (pv 2)) aj_nil)))))))))
theorem c_free_of (T : Txt K mg) : CalN P w K mg base 1 "free_of" 2 (fnN 2 2 F_free_of) := by
  exact cal_fnN T.h_free_of sc_free_of rfl rfl F_free_of fun f cdv A outer s H E hr =>
    (sjs_one (sj_retN (nj_comp rfl sc_free_of.nd (iaj_range (by rfl) T.z_range ej_int (ej_add (ej_v (pv 1)) ej_int)) (blkOk_by (own := [("number", 2)]) (by rfl)) (by decide) (fun _ _ _ _ _ => (gj_name (pg_name (i := 2) sc_free_of.nd rfl (.inl rfl)))) (fun _ _ _ _ _ => (ptj_one (tj_c (cj_notinL (ej_v (pv 2)) (lj_of (nj_comp rfl sc_free_of.nd (iaj_of (ij_tup (ej_v (pv 0)))) (blkOk_by (own := [("one", 3)]) (by rfl)) (by decide) (fun _ _ _ _ _ => (gj_name (pg_name (i := 3) sc_free_of.nd rfl (.inl rfl)))) (fun _ _ _ _ _ => ptj_nil) (fun _ _ _ _ _ => (ej_ix (ej_v (pv 3)) ej_int)))))))) (fun _ _ _ _ _ => (ej_v (pv 2))))))
theorem c_is_busy (T : Txt K mg) : CalD P w K mg base 2 "is_busy" 2 (fnD 2 0 F_is_busy) := by
  exact cal_fn T.h_is_busy sc_is_busy rfl rfl F_is_busy fun f cdv A outer s H E hr =>
    (sjs_one (sj_ret (ej_c (cj_eqL hr (lj_of (nj_cal (c_free_of T) hr (by decide) (by rfl) (aj_cons (ej_v (pv 0)) (aj_cons (ej_v (pv 1)) aj_nil)))) (lj_of (nj_lst aj_nil (len_le nil_len)))))))
theorem c_offer (T : Txt K mg) : CalD P w K mg base 2 "offer" 4 (fnD 4 3 F_offer) := by
  exact cal_fn T.h_offer sc_offer rfl rfl F_offer fun f cdv A outer s H E hr =>
    (sjs_cons (sj_if (tj_c (cj_eq hr (ej_v (pv 2)) ej_int)) (sjs_one (sj_ret (ej_tup (aj_cons (ej_v (pv 0)) (aj_cons (ej_tup (aj_cons (ej_tup (aj_cons (ej_str .publish) (aj_cons ej_int (aj_cons (ej_v (pv 1)) (aj_cons ej_int aj_nil)))) (hn := (len_le (cons_len (cons_len (cons_len (cons_len nil_len))))))) aj_nil) (hn := (len_le (cons_len nil_len)))) aj_nil)) (hn := (len_le (cons_len (cons_len nil_len))))))) sjs_nil)
  (sjs_cons (sj_setN (fun te he => ps_set (i := 4) sc_offer.nd rfl (.inl rfl) he) (nj_cal (c_free_of T) hr (by decide) (by rfl) (aj_cons (ej_v (pv 0)) (aj_cons (ej_v (pv 3)) aj_nil))))
  (sjs_cons (sj_if (tj_c (cj_eqL hr (lj_v (pv 4)) (lj_of (nj_lst aj_nil (len_le nil_len))))) sjs_never sjs_nil)
  (sjs_cons (sj_starL (is := [5]) (r := 6) (pg_star (es' := [.Name "number" ⟨77, 4, 77, 10⟩, .Name "others" ⟨77, 13, 77, 19⟩]) rfl (pgs_cons (pg_name (i := 5) sc_offer.nd rfl (.inl rfl)) (pgs_cons (pg_name (i := 6) sc_offer.nd rfl (.inl rfl)) pgs_nil))) (lj_v (pv 4)))
  (sjs_one (sj_ret (ej_tup (aj_cons (ej_cat (ej_v (pv 0)) (ej_tup (aj_cons (ej_tup (aj_cons (ej_v (pv 5)) (aj_cons (ej_v (pv 1)) (aj_cons (ej_v (pv 2)) (aj_cons ej_bl aj_nil)))) (hn := (len_le (cons_len (cons_len (cons_len (cons_len nil_len))))))) aj_nil) (hn := (len_le (cons_len nil_len))))) (aj_cons (ej_tup (aj_cons (ej_tup (aj_cons (ej_str .publish) (aj_cons (ej_v (pv 5)) (aj_cons (ej_v (pv 1)) (aj_cons (ej_v (pv 2)) aj_nil)))) (hn := (len_le (cons_len (cons_len (cons_len (cons_len nil_len))))))) aj_nil) (hn := (len_le (cons_len nil_len)))) aj_nil)) (hn := (len_le (cons_len (cons_len nil_len)))))))))))
theorem c_answered (T : Txt K mg) : CalD P w K mg base 1 "answered" 3 (fnD 3 11 F_answered) := by
  exact cal_fn T.h_answered sc_answered rfl rfl F_answered fun f cdv A outer s H E hr =>
    (sjs_cons (sj_asg (ej_v (pv 0)) (gj_tup rfl (pgs_cons (pg_name (i := 3) sc_answered.nd rfl (.inl rfl)) (pgs_cons (pg_name (i := 4) sc_answered.nd rfl (.inl rfl)) (pgs_cons (pg_name (i := 5) sc_answered.nd rfl (.inl rfl)) (pgs_cons (pg_name (i := 6) sc_answered.nd rfl (.inl rfl)) (pgs_cons (pg_name (i := 7) sc_answered.nd rfl (.inl rfl)) (pgs_cons (pg_name (i := 8) sc_answered.nd rfl (.inl rfl)) pgs_nil))))))))
  (sjs_cons (sj_asg (ej_v (pv 2)) (gj_tup rfl (pgs_cons (pg_name (i := 9) sc_answered.nd rfl (.inl rfl)) (pgs_cons (pg_name (i := 10) sc_answered.nd rfl (.inr rfl)) pgs_nil))))
  (sjs_cons (sj_if (tj_c (cj_eq hr (ej_v (pv 9)) (ej_str .ack))) (sjs_one (sj_ret (ej_tup (aj_cons (ej_tupL (by rfl) T.z_tuple (lj_of (nj_comp rfl sc_answered.nd (iaj_of (ij_tup (ej_v (pv 1)))) (blkOk_by (own := [("one", 13)]) (by rfl)) (by decide) (fun _ _ _ _ _ => (gj_name (pg_name (i := 13) sc_answered.nd rfl (.inl rfl)))) (fun _ _ _ _ _ => (ptj_one (tj_w (wj_or (tj_c (cj_ne hr (ej_ix (ej_v (pv 13)) ej_int) (ej_v (pv 10)))) (wj_or1 (tj_c (cj_ne hr (ej_ix (ej_v (pv 13)) ej_int) ej_int))))))) (fun _ _ _ _ _ => (ej_v (pv 13)))))) (aj_cons (ej_tup aj_nil (hn := (len_le nil_len))) aj_nil)) (hn := (len_le (cons_len (cons_len nil_len))))))) sjs_nil)
  (sjs_cons (sj_if (tj_c (cj_eq hr (ej_v (pv 9)) (ej_str .complete))) (sjs_one (sj_ret (ej_tup (aj_cons (ej_tupL (by rfl) T.z_tuple (lj_of (nj_comp rfl sc_answered.nd (iaj_of (ij_tup (ej_v (pv 1)))) (blkOk_by (own := [("one", 13)]) (by rfl)) (by decide) (fun _ _ _ _ _ => (gj_name (pg_name (i := 13) sc_answered.nd rfl (.inl rfl)))) (fun _ _ _ _ _ => (ptj_one (tj_w (wj_or (tj_c (cj_ne hr (ej_ix (ej_v (pv 13)) ej_int) (ej_v (pv 10)))) (wj_or1 (tj_not (tj_d (ej_ix (ej_v (pv 13)) ej_int)))))))) (fun _ _ _ _ _ => (ej_v (pv 13)))))) (aj_cons (ej_tup aj_nil (hn := (len_le nil_len))) aj_nil)) (hn := (len_le (cons_len (cons_len nil_len))))))) sjs_nil)
  (sjs_cons (sj_setN (fun te he => ps_set (i := 11) sc_answered.nd rfl (.inl rfl) he) (nj_lst aj_nil (len_le nil_len)))
  (sjs_cons (sj_for rfl (ij_tup (ej_v (pv 1))) (gj_name (pg_name (i := 12) sc_answered.nd rfl (.inl rfl)))
  (sjs_one (sj_if (tj_w (wj_or (tj_c (cj_ne hr (ej_ix (ej_v (pv 12)) ej_int) (ej_v (pv 10)))) (wj_or1 (tj_c (cj_ne hr (ej_ix (ej_v (pv 12)) ej_int) ej_int))))) (sjs_one (sj_append (fun te he => ps_expr (pe_bm PySem.F.plainAttrs_list PySem.F.slot_list_append PySem.F.type_list_append mt_append (pv 11) (pa_cons he pa_nil))) (ej_v (pv 12)))) (sjs_one (sj_if (tj_not (tj_d (ej_v (pv 6)))) (sjs_one (sj_append (fun te he => ps_expr (pe_bm PySem.F.plainAttrs_list PySem.F.slot_list_append PySem.F.type_list_append mt_append (pv 11) (pa_cons he pa_nil))) (ej_cat (ej_to 3 rfl (ej_v (pv 12))) (ej_tup (aj_cons ej_bl aj_nil) (hn := (len_le (cons_len nil_len))))))) sjs_nil)))))
  (sjs_one (sj_ret (ej_tup (aj_cons (ej_tupL (by rfl) T.z_tuple (lj_v (pv 11))) (aj_cons (ej_tup (aj_cons (ej_tup (aj_cons (ej_str .release) (aj_cons (ej_v (pv 10)) aj_nil)) (hn := (len_le (cons_len (cons_len nil_len))))) aj_nil) (hn := (len_le (cons_len nil_len)))) aj_nil)) (hn := (len_le (cons_len (cons_len nil_len)))))))))))))
theorem c_sent_again (T : Txt K mg) : CalD P w K mg base 1 "sent_again" 2 (fnD 2 5 F_sent_again) := by
  exact cal_fn T.h_sent_again sc_sent_again rfl rfl F_sent_again fun f cdv A outer s H E hr =>
    (sjs_cons (sj_if (tj_not (tj_d (ej_ix (ej_v (pv 0)) ej_int))) (sjs_one (sj_ret (ej_tup aj_nil (hn := (len_le nil_len))))) sjs_nil)
  (sjs_cons (sj_setN (fun te he => ps_set (i := 2) sc_sent_again.nd rfl (.inl rfl) he) (nj_lst aj_nil (len_le nil_len)))
  (sjs_cons (sj_for rfl (ij_tup (ej_v (pv 1))) (gj_tup rfl (pgs_cons (pg_name (i := 3) sc_sent_again.nd rfl (.inl rfl)) (pgs_cons (pg_name (i := 4) sc_sent_again.nd rfl (.inl rfl)) (pgs_cons (pg_name (i := 5) sc_sent_again.nd rfl (.inl rfl)) (pgs_cons (pg_name (i := 6) sc_sent_again.nd rfl (.inl rfl)) pgs_nil)))))
  (sjs_one (sj_append (fun te he => ps_expr (pe_bm PySem.F.plainAttrs_list PySem.F.slot_list_append PySem.F.type_list_append mt_append (pv 2) (pa_cons he pa_nil))) (ej_if (tj_d (ej_v (pv 6))) (ej_tup (aj_cons (ej_str .release) (aj_cons (ej_v (pv 3)) aj_nil)) (hn := (len_le (cons_len (cons_len nil_len))))) (ej_tup (aj_cons (ej_str .publish) (aj_cons (ej_v (pv 3)) (aj_cons (ej_v (pv 4)) (aj_cons (ej_v (pv 5)) aj_nil)))) (hn := (len_le (cons_len (cons_len (cons_len (cons_len nil_len)))))))))))
  (sjs_one (sj_ret (ej_tupL (by rfl) T.z_tuple (lj_v (pv 2))))))))
theorem c_noted (T : Txt K mg) : CalS P w K mg base 1 "noted" (spK K (fnK 1 R_noted)) := by
  exact cal_fnK T.h_noted sc_noted rfl rfl rfl R_noted fun f cdv A outer s H E hr =>
    (ej_tupL (by rfl) T.z_tuple (lj_of (nj_comp rfl sc_noted.nd (iaj_of (ij_new (nj_sortK rfl (by rfl) T.z_sorted (pv 0)))) (blkOk_by (own := [("number", 1)]) (by rfl)) (by decide) (fun _ _ _ _ _ => (gj_name (pg_name (i := 1) sc_noted.nd rfl (.inl rfl)))) (fun _ _ _ _ _ => ptj_nil) (fun _ _ _ _ _ => (ej_tup (aj_cons (ej_v (pv 1)) (aj_cons (ej_ix_k hr (pv 0) (ej_v (pv 1))) aj_nil)) (hn := (len_le (cons_len (cons_len nil_len)))))))))
theorem c_published (T : Txt K mg) : CalD P w K mg base 2 "published" 3 (fnD 3 15 F_published) := by
  obtain ⟨t_NO_WORD, g_NO_WORD⟩ := T.g_NO_WORD
  exact cal_fn T.h_published sc_published rfl rfl F_published fun f cdv A outer s H E hr =>
    (sjs_cons (sj_asg (ej_v (pv 0)) (gj_tup rfl (pgs_cons (pg_name (i := 3) sc_published.nd rfl (.inl rfl)) (pgs_cons (pg_name (i := 4) sc_published.nd rfl (.inl rfl)) (pgs_cons (pg_name (i := 5) sc_published.nd rfl (.inl rfl)) (pgs_cons (pg_name (i := 6) sc_published.nd rfl (.inl rfl)) (pgs_cons (pg_name (i := 7) sc_published.nd rfl (.inl rfl)) (pgs_cons (pg_name (i := 8) sc_published.nd rfl (.inl rfl)) pgs_nil))))))))
  (sjs_cons (sj_asg (ej_v (pv 2)) (gj_tup rfl (pgs_cons (pg_name (i := 9) sc_published.nd rfl (.inl rfl)) (pgs_cons (pg_name (i := 10) sc_published.nd rfl (.inl rfl)) (pgs_cons (pg_name (i := 11) sc_published.nd rfl (.inl rfl)) (pgs_cons (pg_name (i := 12) sc_published.nd rfl (.inl rfl)) pgs_nil))))))
  (sjs_cons (sj_if (tj_c (cj_lt (ej_v (pv 12)) ej_int)) (sjs_one (sj_ret (ej_tup (aj_cons (ej_v (pv 1)) (aj_cons (ej_rep (ej_tup (aj_cons (ej_tup (aj_cons (ej_str .ack) (aj_cons (ej_v (pv 10)) aj_nil)) (hn := (len_le (cons_len (cons_len nil_len))))) aj_nil) (hn := (len_le (cons_len nil_len)))) (ej_v (pv 12))) (aj_cons (ej_tup (aj_cons (ej_v (pv 11)) aj_nil) (hn := (len_le (cons_len nil_len)))) aj_nil))) (hn := (len_le (cons_len (cons_len (cons_len nil_len)))))))) sjs_nil)
  (sjs_cons (sj_setDc rfl sc_published.nd rfl rfl (sw_dict rfl rfl rfl rfl) (iaj_of (ij_tup (ej_v (pv 1)))) (blkOk_by (own := [("one", 16), ("kept", 17)]) (by rfl)) (by decide) (fun _ _ _ _ _ => (gj_tup rfl (pgs_cons (pg_name (i := 16) sc_published.nd rfl (.inl rfl)) (pgs_cons (pg_name (i := 17) sc_published.nd rfl (.inl rfl)) pgs_nil)))) (fun _ _ _ _ _ => (ej_v (pv 16))) (fun _ _ _ _ _ => (ej_v (pv 17))))
  (sjs_cons (sj_set (fun te he => ps_set (i := 14) sc_published.nd rfl (.inl rfl) he) (ej_and (ej_c (cj_in_k hr (ej_v (pv 10)) (pv 13))) (ej_one (ej_v (pv 4)))))
  (sjs_cons (sj_if (tj_w (wj_and (tj_d (ej_v (pv 5))) (wj_and1 (tj_not (tj_d (ej_v (pv 14))))))) (sjs_one (sj_put_k (fun te ti he hi => ps_dput (hu_of hr) (pv 13) hi he rfl) (ej_v (pv 11)) (ej_v (pv 10)))) sjs_nil)
  (sjs_cons (sj_if (tj_w (wj_and (tj_d (ej_v (pv 4))) (wj_and1 (tj_not (tj_d (ej_v (pv 5))))))) (sjs_one (sj_setd_k (fun ty tx hy hx => ps_expr (pe_dsetd (pv 13) hy hx ⟨rfl, rfl, rfl, rfl⟩)) (ej_v (pv 10)) (ej_gi (by rfl) g_NO_WORD))) sjs_nil)
  (sjs_cons (sj_set (fun te he => ps_set (i := 15) sc_published.nd rfl (.inl rfl) he) (ej_if (tj_w (wj_or (tj_d (ej_v (pv 5))) (wj_or1 (tj_d (ej_v (pv 14)))))) (ej_tup aj_nil (hn := (len_le nil_len))) (ej_tup (aj_cons (ej_v (pv 11)) aj_nil) (hn := (len_le (cons_len nil_len))))))
  (sjs_one (sj_ret (ej_tup (aj_cons (ej_calK (c_noted T) hr (by decide) (by rfl) (pv 13)) (aj_cons (ej_tup (aj_cons (ej_tup (aj_cons (ej_str .received) (aj_cons (ej_v (pv 10)) aj_nil)) (hn := (len_le (cons_len (cons_len nil_len))))) aj_nil) (hn := (len_le (cons_len nil_len)))) (aj_cons (ej_v (pv 15)) aj_nil))) (hn := (len_le (cons_len (cons_len (cons_len nil_len))))))))))))))))
theorem c_released (T : Txt K mg) : CalD P w K mg base 2 "released" 3 (fnD 3 4 F_released) := by
  obtain ⟨t_NO_WORD, g_NO_WORD⟩ := T.g_NO_WORD
  exact cal_fn T.h_released sc_released rfl rfl F_released fun f cdv A outer s H E hr =>
    (sjs_cons (sj_setDc rfl sc_released.nd rfl rfl (sw_dict rfl rfl rfl rfl) (iaj_of (ij_tup (ej_v (pv 1)))) (blkOk_by (own := [("one", 5), ("kept", 6)]) (by rfl)) (by decide) (fun _ _ _ _ _ => (gj_tup rfl (pgs_cons (pg_name (i := 5) sc_released.nd rfl (.inl rfl)) (pgs_cons (pg_name (i := 6) sc_released.nd rfl (.inl rfl)) pgs_nil)))) (fun _ _ _ _ _ => (ej_v (pv 5))) (fun _ _ _ _ _ => (ej_v (pv 6))))
  (sjs_cons (sj_if (tj_c (cj_notin_k hr (ej_v (pv 2)) (pv 3))) (sjs_one (sj_ret (ej_tup (aj_cons (ej_v (pv 1)) (aj_cons (ej_rep (ej_tup (aj_cons (ej_tup (aj_cons (ej_str .complete) (aj_cons (ej_v (pv 2)) aj_nil)) (hn := (len_le (cons_len (cons_len nil_len))))) aj_nil) (hn := (len_le (cons_len nil_len)))) (ej_toint (by rfl) T.z_int (ej_ix (ej_v (pv 0)) ej_int))) (aj_cons (ej_tup aj_nil (hn := (len_le nil_len))) aj_nil))) (hn := (len_le (cons_len (cons_len (cons_len nil_len)))))))) sjs_nil)
  (sjs_cons (sj_pop_k (by decide) (fun ty hy => ps_set (i := 4) sc_released.nd rfl (.inl rfl) (pe_dpop1 (pv 3) hy ⟨rfl, rfl, rfl, rfl⟩)) (ej_v (pv 2)))
  (sjs_one (sj_ret (ej_tup (aj_cons (ej_calK (c_noted T) hr (by decide) (by rfl) (pv 3)) (aj_cons (ej_tup (aj_cons (ej_tup (aj_cons (ej_str .complete) (aj_cons (ej_v (pv 2)) aj_nil)) (hn := (len_le (cons_len (cons_len nil_len))))) aj_nil) (hn := (len_le (cons_len nil_len)))) (aj_cons (ej_if (tj_c (cj_eq hr (ej_v (pv 4)) (ej_gi (by rfl) g_NO_WORD))) (ej_tup aj_nil (hn := (len_le nil_len))) (ej_tup (aj_cons (ej_v (pv 4)) aj_nil) (hn := (len_le (cons_len nil_len))))) aj_nil))) (hn := (len_le (cons_len (cons_len (cons_len nil_len)))))))))))
theorem c_received (T : Txt K mg) : CalD P w K mg base 3 "received" 3 (fnD 3 0 F_received) := by
  exact cal_fn T.h_received sc_received rfl rfl F_received fun f cdv A outer s H E hr =>
    (sjs_cons (sj_if (tj_c (cj_eq hr (ej_ix (ej_v (pv 2)) ej_int) (ej_str .release))) (sjs_one (sj_ret (ej_cal (c_released T) hr (by decide) (by rfl) (aj_cons (ej_v (pv 0)) (aj_cons (ej_v (pv 1)) (aj_cons (ej_ix (ej_v (pv 2)) ej_int) aj_nil)))))) sjs_nil)
  (sjs_one (sj_ret (ej_cal (c_published T) hr (by decide) (by rfl) (aj_cons (ej_v (pv 0)) (aj_cons (ej_v (pv 1)) (aj_cons (ej_v (pv 2)) aj_nil)))))))
theorem c_after_break (T : Txt K mg) : CalD P w K mg base 1 "after_break" 2 (fnD 2 0 F_after_break) := by
  exact cal_fn T.h_after_break sc_after_break rfl rfl F_after_break fun f cdv A outer s H E hr =>
    (sjs_one (sj_ret (ej_if (tj_d (ej_ix (ej_v (pv 0)) ej_int)) (ej_tup aj_nil (hn := (len_le nil_len))) (ej_v (pv 1)))))
theorem c_is_line (T : Txt K mg) : CalD P w K mg base 3 "is_line" 1 (fnD 1 0 F_is_line) := by
  obtain ⟨t_MOST_WINDOW_lines, g_MOST_WINDOW_lines⟩ := T.g_MOST_WINDOW_lines
  obtain ⟨t_MOST_WORDS, g_MOST_WORDS⟩ := T.g_MOST_WORDS
  exact cal_fn T.h_is_line sc_is_line rfl rfl F_is_line fun f cdv A outer s H E hr =>
    (sjs_cons (sj_if (tj_w (wj_or (tj_not (tj_d (ej_is .tup rfl (by rfl) T.z_isinstance (by rfl) T.z_tuple (ej_v (pv 0))))) (wj_or1 (tj_c (cj_ne hr (ej_len (by rfl) T.z_len (ej_v (pv 0))) ej_int))))) (sjs_one (sj_ret ej_bl)) sjs_nil)
  (sjs_one (sj_ret (ej_and (ej_cal (c_is_quality T) hr (by decide) (by rfl) (aj_cons (ej_ix (ej_v (pv 0)) ej_int) aj_nil)) (ej_and (ej_cal (c_is_among T) hr (by decide) (by rfl) (aj_cons (ej_ix (ej_v (pv 0)) ej_int) (aj_cons ej_int (aj_cons (ej_gi (by rfl) g_MOST_WINDOW_lines) aj_nil)))) (ej_one (ej_cal (c_is_among T) hr (by decide) (by rfl) (aj_cons (ej_ix (ej_v (pv 0)) ej_int) (aj_cons ej_int (aj_cons (ej_gi (by rfl) g_MOST_WORDS) aj_nil))))))))))
theorem c_need_line (T : Txt K mg) : CalD P w K mg base 4 "need_line" 1 (fnD 1 0 F_need_line) := by
  exact cal_fn T.h_need_line sc_need_line rfl rfl F_need_line fun f cdv A outer s H E hr =>
    (sjs_one (sj_if (tj_not (tj_d (ej_cal (c_is_line T) hr (by decide) (by rfl) (aj_cons (ej_v (pv 0)) aj_nil)))) sjs_never sjs_nil))
theorem c_first_of (T : Txt K mg) : CalD P w K mg base 1 "first_of" 1 (fnD 1 0 F_first_of) := by
  exact cal_fn T.h_first_of sc_first_of rfl rfl F_first_of fun f cdv A outer s H E hr =>
    (sjs_one (sj_ret (ej_tup (aj_cons ej_int (aj_cons (ej_tup aj_nil (hn := (len_le nil_len))) (aj_cons (ej_tup aj_nil (hn := (len_le nil_len))) (aj_cons (ej_tup aj_nil (hn := (len_le nil_len))) (aj_cons (ej_tup aj_nil (hn := (len_le nil_len))) (aj_cons (ej_rep (ej_tup (aj_cons ej_int aj_nil) (hn := (len_le (cons_len nil_len)))) (ej_ix (ej_v (pv 0)) ej_int)) (aj_cons ej_bl aj_nil))))))) (hn := (len_le (cons_len (cons_len (cons_len (cons_len (cons_len (cons_len (cons_len nil_len))))))))))))
theorem c_first_state (T : Txt K mg) : CalD P w K mg base 5 "first_state" 1 (fnD 1 0 F_first_state) := by
  exact cal_fn T.h_first_state sc_first_state rfl rfl F_first_state fun f cdv A outer s H E hr =>
    (sjs_cons (sj_drop (ej_cal (c_need_line T) hr (by decide) (by rfl) (aj_cons (ej_v (pv 0)) aj_nil)))
  (sjs_one (sj_ret (ej_cal (c_first_of T) hr (by decide) (by rfl) (aj_cons (ej_v (pv 0)) aj_nil)))))
theorem c_ends_fit (T : Txt K mg) : CalD P w K mg base 5 "ends_fit" 3 (fnD 3 6 F_ends_fit) := by
  obtain ⟨t_NO_WORD, g_NO_WORD⟩ := T.g_NO_WORD
  exact cal_fn T.h_ends_fit sc_ends_fit rfl rfl F_ends_fit fun f cdv A outer s H E hr =>
    (sjs_cons (sj_asg (ej_v (pv 0)) (gj_tup rfl (pgs_cons (pg_name (i := 3) sc_ends_fit.nd rfl (.inr rfl)) (pgs_cons (pg_name (i := 4) sc_ends_fit.nd rfl (.inr rfl)) (pgs_cons (pg_name (i := 5) sc_ends_fit.nd rfl (.inr rfl)) pgs_nil)))))
  (sjs_cons (sj_if (tj_w (wj_or (tj_not (tj_d (ej_cal (c_is_sender T) hr (by decide) (by rfl) (aj_cons (ej_v (pv 1)) aj_nil)))) (wj_or (tj_not (tj_d (ej_cal (c_is_receiver T) hr (by decide) (by rfl) (aj_cons (ej_v (pv 2)) aj_nil)))) (wj_or1 (tj_w (wj_and (tj_c (cj_lt (ej_v (pv 3)) ej_int)) (wj_and1 (tj_c (cj_ne hr (ej_v (pv 2)) (ej_tup aj_nil (hn := (len_le nil_len)))))))))))) (sjs_one (sj_ret ej_bl)) sjs_nil)
  (sjs_cons (sj_if (tj_not (tj_d (ej_all rfl (by rfl) T.z_all (lj_of (nj_comp rfl sc_ends_fit.nd (iaj_of (ij_tup (ej_v (pv 1)))) (blkOk_by (own := [("one", 6)]) (by rfl)) (by decide) (fun _ _ _ _ _ => (gj_name (pg_name (i := 6) sc_ends_fit.nd rfl (.inl rfl)))) (fun _ _ _ _ _ => ptj_nil) (fun _ _ _ _ _ => (ej_and (ej_c (cj_le (ej_ix (ej_v (pv 6)) ej_int) (ej_v (pv 4)))) (ej_and (ej_c (cj_lt (ej_ix (ej_v (pv 6)) ej_int) (ej_v (pv 5)))) (ej_one (ej_c (cj_eq hr (ej_ix (ej_v (pv 6)) ej_int) (ej_v (pv 3))))))))))))) (sjs_one (sj_ret ej_bl)) sjs_nil)
  (sjs_one (sj_ret (ej_all rfl (by rfl) T.z_all (lj_of (nj_comp rfl sc_ends_fit.nd (iaj_of (ij_tup (ej_v (pv 2)))) (blkOk_by (own := [("number", 7), ("word", 8)]) (by rfl)) (by decide) (fun _ _ _ _ _ => (gj_tup rfl (pgs_cons (pg_name (i := 7) sc_ends_fit.nd rfl (.inl rfl)) (pgs_cons (pg_name (i := 8) sc_ends_fit.nd rfl (.inl rfl)) pgs_nil)))) (fun _ _ _ _ _ => ptj_nil) (fun _ _ _ _ _ => (ej_and (ej_c (cj_le (ej_v (pv 7)) (ej_v (pv 4)))) (ej_one (ej_chain ob_le ob_lt (ej_gi (by rfl) g_NO_WORD) (ej_v (pv 8)) (ej_v (pv 5))))))))))))))
theorem c_goes_forth (T : Txt K mg) : CalD P w K mg base 4 "goes_forth" 2 (fnD 2 0 F_goes_forth) := by
  exact cal_fn T.h_goes_forth sc_goes_forth rfl rfl F_goes_forth fun f cdv A outer s H E hr =>
    (sjs_cons (sj_if (tj_w (wj_or (tj_not (tj_d (ej_cal (c_is_sent T) hr (by decide) (by rfl) (aj_cons (ej_v (pv 1)) aj_nil)))) (wj_or1 (tj_c (cj_gt (ej_ix (ej_v (pv 1)) ej_int) (ej_ix (ej_v (pv 0)) ej_int)))))) (sjs_one (sj_ret ej_bl)) sjs_nil)
  (sjs_cons (sj_if (tj_c (cj_eq hr (ej_ix (ej_v (pv 1)) ej_int) (ej_str .release))) (sjs_one (sj_ret (ej_c (cj_eq hr (ej_ix (ej_v (pv 0)) ej_int) ej_int)))) sjs_nil)
  (sjs_one (sj_ret (ej_and (ej_c (cj_lt (ej_ix (ej_v (pv 1)) ej_int) (ej_ix (ej_v (pv 0)) ej_int))) (ej_one (ej_c (cj_eq hr (ej_ix (ej_v (pv 1)) ej_int) (ej_ix (ej_v (pv 0)) ej_int)))))))))
theorem c_goes_back (T : Txt K mg) : CalD P w K mg base 4 "goes_back" 2 (fnD 2 0 F_goes_back) := by
  exact cal_fn T.h_goes_back sc_goes_back rfl rfl F_goes_back fun f cdv A outer s H E hr =>
    (sjs_cons (sj_if (tj_w (wj_or (tj_not (tj_d (ej_cal (c_is_answer T) hr (by decide) (by rfl) (aj_cons (ej_v (pv 1)) aj_nil)))) (wj_or1 (tj_c (cj_gt (ej_ix (ej_v (pv 1)) ej_int) (ej_ix (ej_v (pv 0)) ej_int)))))) (sjs_one (sj_ret ej_bl)) sjs_nil)
  (sjs_one (sj_ret (ej_and (ej_c (cj_eq hr (ej_c (cj_eq hr (ej_ix (ej_v (pv 1)) ej_int) (ej_str .ack))) (ej_c (cj_eq hr (ej_ix (ej_v (pv 0)) ej_int) ej_int)))) (ej_one (ej_c (cj_gt (ej_ix (ej_v (pv 0)) ej_int) ej_int)))))))
theorem c_are_under (T : Txt K mg) : CalD P w K mg base 1 "are_under" 1 (fnD 1 0 F_are_under) := by
  obtain ⟨t_MOST_UNDER, g_MOST_UNDER⟩ := T.g_MOST_UNDER
  exact cal_fn T.h_are_under sc_are_under rfl rfl F_are_under fun f cdv A outer s H E hr =>
    (sjs_one (sj_ret (ej_and (ej_is .tup rfl (by rfl) T.z_isinstance (by rfl) T.z_tuple (ej_v (pv 0))) (ej_one (ej_c (cj_le (ej_len (by rfl) T.z_len (ej_v (pv 0))) (ej_gi (by rfl) g_MOST_UNDER)))))))
theorem c_are_counts (T : Txt K mg) : CalD P w K mg base 2 "are_counts" 2 (fnD 2 1 F_are_counts) := by
  obtain ⟨t_OFTEN, g_OFTEN⟩ := T.g_OFTEN
  exact cal_fn T.h_are_counts sc_are_counts rfl rfl F_are_counts fun f cdv A outer s H E hr =>
    (sjs_one (sj_ret (ej_and (ej_is .tup rfl (by rfl) T.z_isinstance (by rfl) T.z_tuple (ej_v (pv 1))) (ej_and (ej_c (cj_eq hr (ej_len (by rfl) T.z_len (ej_v (pv 1))) (ej_ix (ej_v (pv 0)) ej_int))) (ej_one (ej_all rfl (by rfl) T.z_all (lj_of (nj_comp rfl sc_are_counts.nd (iaj_of (ij_tup (ej_v (pv 1)))) (blkOk_by (own := [("one", 2)]) (by rfl)) (by decide) (fun _ _ _ _ _ => (gj_name (pg_name (i := 2) sc_are_counts.nd rfl (.inl rfl)))) (fun _ _ _ _ _ => ptj_nil) (fun _ _ _ _ _ => (ej_cal (c_is_among T) hr (by decide) (by rfl) (aj_cons (ej_v (pv 2)) (aj_cons ej_int (aj_cons (ej_gi (by rfl) g_OFTEN) aj_nil)))))))))))))
theorem c_is_state (T : Txt K mg) : CalD P w K mg base 6 "is_state" 2 (fnD 2 8 F_is_state) := by
  exact cal_fn T.h_is_state sc_is_state rfl rfl F_is_state fun f cdv A outer s H E hr =>
    (sjs_cons (sj_if (tj_w (wj_or (tj_not (tj_d (ej_is .tup rfl (by rfl) T.z_isinstance (by rfl) T.z_tuple (ej_v (pv 1))))) (wj_or (tj_c (cj_ne hr (ej_len (by rfl) T.z_len (ej_v (pv 1))) ej_int)) (wj_or1 (tj_not (tj_d (ej_cal (c_is_among T) hr (by decide) (by rfl) (aj_cons (ej_ix (ej_v (pv 1)) ej_int) (aj_cons ej_int (aj_cons (ej_ix (ej_v (pv 0)) ej_int) aj_nil)))))))))) (sjs_one (sj_ret ej_bl)) sjs_nil)
  (sjs_cons (sj_asg (ej_v (pv 1)) (gj_tup rfl (pgs_cons (pg_name (i := 2) sc_is_state.nd rfl (.inl rfl)) (pgs_cons (pg_name (i := 3) sc_is_state.nd rfl (.inl rfl)) (pgs_cons (pg_name (i := 4) sc_is_state.nd rfl (.inl rfl)) (pgs_cons (pg_name (i := 5) sc_is_state.nd rfl (.inl rfl)) (pgs_cons (pg_name (i := 6) sc_is_state.nd rfl (.inl rfl)) (pgs_cons (pg_name (i := 7) sc_is_state.nd rfl (.inl rfl)) (pgs_cons (pg_name (i := 8) sc_is_state.nd rfl (.inl rfl)) pgs_nil)))))))))
  (sjs_cons (sj_if (tj_w (wj_or (tj_not (tj_d (ej_cal (c_ends_fit T) hr (by decide) (by rfl) (aj_cons (ej_v (pv 0)) (aj_cons (ej_v (pv 3)) (aj_cons (ej_v (pv 4)) aj_nil)))))) (wj_or (tj_not (tj_d (ej_cal (c_are_under T) hr (by decide) (by rfl) (aj_cons (ej_v (pv 5)) aj_nil)))) (wj_or1 (tj_not (tj_d (ej_cal (c_are_under T) hr (by decide) (by rfl) (aj_cons (ej_v (pv 6)) aj_nil)))))))) (sjs_one (sj_ret ej_bl)) sjs_nil)
  (sjs_cons (sj_if (tj_w (wj_or (tj_not (tj_d (ej_all rfl (by rfl) T.z_all (lj_of (nj_comp rfl sc_is_state.nd (iaj_of (ij_tup (ej_v (pv 5)))) (blkOk_by (own := [("one", 9)]) (by rfl)) (by decide) (fun _ _ _ _ _ => (gj_name (pg_name (i := 9) sc_is_state.nd rfl (.inl rfl)))) (fun _ _ _ _ _ => ptj_nil) (fun _ _ _ _ _ => (ej_cal (c_goes_forth T) hr (by decide) (by rfl) (aj_cons (ej_v (pv 0)) (aj_cons (ej_v (pv 9)) aj_nil))))))))) (wj_or1 (tj_not (tj_d (ej_all rfl (by rfl) T.z_all (lj_of (nj_comp rfl sc_is_state.nd (iaj_of (ij_tup (ej_v (pv 6)))) (blkOk_by (own := [("one", 9)]) (by rfl)) (by decide) (fun _ _ _ _ _ => (gj_name (pg_name (i := 9) sc_is_state.nd rfl (.inl rfl)))) (fun _ _ _ _ _ => ptj_nil) (fun _ _ _ _ _ => (ej_cal (c_goes_back T) hr (by decide) (by rfl) (aj_cons (ej_v (pv 0)) (aj_cons (ej_v (pv 9)) aj_nil)))))))))))) (sjs_one (sj_ret ej_bl)) sjs_nil)
  (sjs_one (sj_ret (ej_and (ej_cal (c_are_counts T) hr (by decide) (by rfl) (aj_cons (ej_v (pv 0)) (aj_cons (ej_v (pv 7)) aj_nil))) (ej_one (ej_cal (c_is_truth T) hr (by decide) (by rfl) (aj_cons (ej_v (pv 8)) aj_nil))))))))))
theorem c_need_state (T : Txt K mg) : CalD P w K mg base 7 "need_state" 2 (fnD 2 0 F_need_state) := by
  exact cal_fn T.h_need_state sc_need_state rfl rfl F_need_state fun f cdv A outer s H E hr =>
    (sjs_one (sj_if (tj_not (tj_d (ej_cal (c_is_state T) hr (by decide) (by rfl) (aj_cons (ej_v (pv 0)) (aj_cons (ej_v (pv 1)) aj_nil))))) sjs_never sjs_nil))
theorem c_can_offer (T : Txt K mg) : CalD P w K mg base 3 "can_offer" 2 (fnD 2 3 F_can_offer) := by
  exact cal_fn T.h_can_offer sc_can_offer rfl rfl F_can_offer fun f cdv A outer s H E hr =>
    (sjs_cons (sj_asg (ej_v (pv 0)) (gj_tup rfl (pgs_cons (pg_name (i := 2) sc_can_offer.nd rfl (.inl rfl)) (pgs_cons (pg_name (i := 3) sc_can_offer.nd rfl (.inl rfl)) (pgs_cons (pg_name (i := 4) sc_can_offer.nd rfl (.inl rfl)) pgs_nil)))))
  (sjs_one (sj_ret (ej_and (ej_c (cj_lt (ej_ix (ej_v (pv 1)) ej_int) (ej_v (pv 4)))) (ej_one (ej_or (ej_c (cj_eq hr (ej_v (pv 2)) ej_int)) (ej_one (ej_not (ej_cal (c_is_busy T) hr (by decide) (by rfl) (aj_cons (ej_ix (ej_v (pv 1)) ej_int) (aj_cons (ej_v (pv 3)) aj_nil)))))))))))
theorem c_handed_on (T : Txt K mg) : CalD P w K mg base 1 "handed_on" 3 (fnD 3 2 F_handed_on) := by
  obtain ⟨t_OFTEN, g_OFTEN⟩ := T.g_OFTEN
  exact cal_fn T.h_handed_on sc_handed_on rfl rfl F_handed_on fun f cdv A outer s H E hr =>
    (sjs_cons (sj_setN (fun te he => ps_set (i := 3) sc_handed_on.nd rfl (.inl rfl) he) (nj_ofT (by rfl) T.z_list (ej_v (pv 0))))
  (sjs_cons (sj_for rfl (ij_tup (ej_v (pv 2))) (gj_name (pg_name (i := 4) sc_handed_on.nd rfl (.inl rfl)))
  (sjs_cons (sj_set (fun te he => ps_set (i := 1) sc_handed_on.nd rfl (.inl rfl) he) (ej_or (ej_v (pv 1)) (ej_one (ej_and (ej_c (cj_eq hr (ej_ixL (lj_v (pv 3)) (ej_v (pv 4))) ej_int)) (ej_one (ej_c (cj_gt (ej_maxL rfl (by rfl) T.z_max (lj_of (nj_cat (lj_of (nj_lst (aj_cons ej_int aj_nil) (len_le (cons_len nil_len)))) (lj_of (nj_from (lj_v (pv 3)) (ej_add (ej_v (pv 4)) ej_int)))))) ej_int)))))))
  (sjs_one (sj_putL (fun te ti he hi => ps_asg he (pg_sub (pv 3) hi set_list)) (ej_min rfl (by rfl) T.z_min (ej_gi (by rfl) g_OFTEN) (ej_add (ej_ixL (lj_v (pv 3)) (ej_v (pv 4))) ej_int)) (ej_v (pv 4))))))
  (sjs_one (sj_ret (ej_tup (aj_cons (ej_tupL (by rfl) T.z_tuple (lj_v (pv 3))) (aj_cons (ej_v (pv 1)) aj_nil)) (hn := (len_le (cons_len (cons_len nil_len)))))))))
theorem c_steps_in (T : Txt K mg) : CalN P w K mg base 4 "steps_in" 3 (fnN 3 15 F_steps_in) := by
  exact cal_fnN T.h_steps_in sc_steps_in rfl rfl F_steps_in fun f cdv A outer s H E hr =>
    (sjs_cons (sj_asg (ej_v (pv 2)) (gj_tup rfl (pgs_cons (pg_name (i := 3) sc_steps_in.nd rfl (.inl rfl)) (pgs_cons (pg_name (i := 4) sc_steps_in.nd rfl (.inl rfl)) (pgs_cons (pg_name (i := 5) sc_steps_in.nd rfl (.inl rfl)) (pgs_cons (pg_name (i := 6) sc_steps_in.nd rfl (.inl rfl)) (pgs_cons (pg_name (i := 7) sc_steps_in.nd rfl (.inl rfl)) (pgs_cons (pg_name (i := 8) sc_steps_in.nd rfl (.inl rfl)) (pgs_cons (pg_name (i := 9) sc_steps_in.nd rfl (.inl rfl)) pgs_nil)))))))))
  (sjs_cons (sj_setN (fun te he => ps_set (i := 10) sc_steps_in.nd rfl (.inl rfl) he) (nj_lst aj_nil (len_le nil_len)))
  (sjs_cons (sj_if (tj_c (cj_ne hr (ej_v (pv 7)) (ej_tup aj_nil (hn := (len_le nil_len))))) (sjs_cons (sj_star (is := [11]) (r := 12) (pg_star (es' := [.Name "packet" ⟨190, 8, 190, 14⟩, .Name "rest" ⟨190, 17, 190, 21⟩]) rfl (pgs_cons (pg_name (i := 11) sc_steps_in.nd rfl (.inl rfl)) (pgs_cons (pg_name (i := 12) sc_steps_in.nd rfl (.inl rfl)) pgs_nil))) (ej_v (pv 7)))
  (sjs_cons (sj_asg (ej_cal (c_answered T) hr (by decide) (by rfl) (aj_cons (ej_v (pv 0)) (aj_cons (ej_v (pv 4)) (aj_cons (ej_v (pv 11)) aj_nil)))) (gj_tup rfl (pgs_cons (pg_name (i := 13) sc_steps_in.nd rfl (.inl rfl)) (pgs_cons (pg_name (i := 14) sc_steps_in.nd rfl (.inl rfl)) pgs_nil))))
  (sjs_one (sj_append (fun te he => ps_expr (pe_bm PySem.F.plainAttrs_list PySem.F.slot_list_append PySem.F.type_list_append mt_append (pv 10) (pa_cons he pa_nil))) (ej_tup (aj_cons (ej_str .back) (aj_cons (ej_tup (aj_cons (ej_v (pv 3)) (aj_cons (ej_v (pv 13)) (aj_cons (ej_v (pv 5)) (aj_cons (ej_cat (ej_v (pv 6)) (ej_v (pv 14))) (aj_cons (ej_tupL (by rfl) T.z_tuple (lj_v (pv 12))) (aj_cons (ej_v (pv 8)) (aj_cons (ej_v (pv 9)) aj_nil))))))) (hn := (len_le (cons_len (cons_len (cons_len (cons_len (cons_len (cons_len (cons_len nil_len)))))))))) aj_nil)) (hn := (len_le (cons_len (cons_len nil_len))))))))) sjs_nil)
  (sjs_cons (sj_append (fun te he => ps_expr (pe_bm PySem.F.plainAttrs_list PySem.F.slot_list_append PySem.F.type_list_append mt_append (pv 10) (pa_cons he pa_nil))) (ej_tup (aj_cons (ej_str .brk) (aj_cons (ej_tup (aj_cons (ej_v (pv 3)) (aj_cons (ej_v (pv 4)) (aj_cons (ej_cal (c_after_break T) hr (by decide) (by rfl) (aj_cons (ej_v (pv 0)) (aj_cons (ej_v (pv 5)) aj_nil))) (aj_cons (ej_cal (c_sent_again T) hr (by decide) (by rfl) (aj_cons (ej_v (pv 0)) (aj_cons (ej_v (pv 4)) aj_nil))) (aj_cons (ej_tup aj_nil (hn := (len_le nil_len))) (aj_cons (ej_v (pv 8)) (aj_cons (ej_v (pv 9)) aj_nil))))))) (hn := (len_le (cons_len (cons_len (cons_len (cons_len (cons_len (cons_len (cons_len nil_len)))))))))) aj_nil)) (hn := (len_le (cons_len (cons_len nil_len))))))
  (sjs_cons (sj_if (tj_c (cj_ne hr (ej_v (pv 6)) (ej_tup aj_nil (hn := (len_le nil_len))))) (sjs_cons (sj_star (is := [11]) (r := 12) (pg_star (es' := [.Name "packet" ⟨195, 8, 195, 14⟩, .Name "rest" ⟨195, 17, 195, 21⟩]) rfl (pgs_cons (pg_name (i := 11) sc_steps_in.nd rfl (.inl rfl)) (pgs_cons (pg_name (i := 12) sc_steps_in.nd rfl (.inl rfl)) pgs_nil))) (ej_v (pv 6)))
  (sjs_cons (sj_asg (ej_cal (c_received T) hr (by decide) (by rfl) (aj_cons (ej_v (pv 0)) (aj_cons (ej_v (pv 5)) (aj_cons (ej_v (pv 11)) aj_nil)))) (gj_tup rfl (pgs_cons (pg_name (i := 13) sc_steps_in.nd rfl (.inl rfl)) (pgs_cons (pg_name (i := 14) sc_steps_in.nd rfl (.inl rfl)) (pgs_cons (pg_name (i := 15) sc_steps_in.nd rfl (.inl rfl)) pgs_nil)))))
  (sjs_cons (sj_asg (ej_cal (c_handed_on T) hr (by decide) (by rfl) (aj_cons (ej_v (pv 8)) (aj_cons (ej_v (pv 9)) (aj_cons (ej_v (pv 15)) aj_nil)))) (gj_tup rfl (pgs_cons (pg_name (i := 16) sc_steps_in.nd rfl (.inl rfl)) (pgs_cons (pg_name (i := 17) sc_steps_in.nd rfl (.inl rfl)) pgs_nil))))
  (sjs_one (sj_append (fun te he => ps_expr (pe_bm PySem.F.plainAttrs_list PySem.F.slot_list_append PySem.F.type_list_append mt_append (pv 10) (pa_cons he pa_nil))) (ej_tup (aj_cons (ej_str .forth) (aj_cons (ej_tup (aj_cons (ej_v (pv 3)) (aj_cons (ej_v (pv 4)) (aj_cons (ej_v (pv 13)) (aj_cons (ej_tupL (by rfl) T.z_tuple (lj_v (pv 12))) (aj_cons (ej_cat (ej_v (pv 7)) (ej_v (pv 14))) (aj_cons (ej_v (pv 16)) (aj_cons (ej_v (pv 17)) aj_nil))))))) (hn := (len_le (cons_len (cons_len (cons_len (cons_len (cons_len (cons_len (cons_len nil_len)))))))))) aj_nil)) (hn := (len_le (cons_len (cons_len nil_len)))))))))) sjs_nil)
  (sjs_cons (sj_if (tj_d (ej_cal (c_can_offer T) hr (by decide) (by rfl) (aj_cons (ej_v (pv 1)) (aj_cons (ej_v (pv 2)) aj_nil)))) (sjs_cons (sj_asg (ej_cal (c_offer T) hr (by decide) (by rfl) (aj_cons (ej_v (pv 4)) (aj_cons (ej_v (pv 3)) (aj_cons (ej_ix (ej_v (pv 1)) ej_int) (aj_cons (ej_ix (ej_v (pv 1)) ej_int) aj_nil))))) (gj_tup rfl (pgs_cons (pg_name (i := 13) sc_steps_in.nd rfl (.inl rfl)) (pgs_cons (pg_name (i := 14) sc_steps_in.nd rfl (.inl rfl)) pgs_nil))))
  (sjs_one (sj_append (fun te he => ps_expr (pe_bm PySem.F.plainAttrs_list PySem.F.slot_list_append PySem.F.type_list_append mt_append (pv 10) (pa_cons he pa_nil))) (ej_tup (aj_cons (ej_str .offer) (aj_cons (ej_tup (aj_cons (ej_add (ej_v (pv 3)) ej_int) (aj_cons (ej_v (pv 13)) (aj_cons (ej_v (pv 5)) (aj_cons (ej_cat (ej_v (pv 6)) (ej_v (pv 14))) (aj_cons (ej_v (pv 7)) (aj_cons (ej_v (pv 8)) (aj_cons (ej_v (pv 9)) aj_nil))))))) (hn := (len_le (cons_len (cons_len (cons_len (cons_len (cons_len (cons_len (cons_len nil_len)))))))))) aj_nil)) (hn := (len_le (cons_len (cons_len nil_len)))))))) sjs_nil)
  (sjs_one (sj_retV (pv 10)))))))))
theorem c_steps_from (T : Txt K mg) : CalN P w K mg base 8 "steps_from" 3 (fnN 3 0 F_steps_from) := by
  exact cal_fnN T.h_steps_from sc_steps_from rfl rfl F_steps_from fun f cdv A outer s H E hr =>
    (sjs_cons (sj_drop (ej_cal (c_need_rules T) hr (by decide) (by rfl) (aj_cons (ej_v (pv 0)) aj_nil)))
  (sjs_cons (sj_drop (ej_cal (c_need_line T) hr (by decide) (by rfl) (aj_cons (ej_v (pv 1)) aj_nil)))
  (sjs_cons (sj_drop (ej_cal (c_need_state T) hr (by decide) (by rfl) (aj_cons (ej_v (pv 1)) (aj_cons (ej_v (pv 2)) aj_nil))))
  (sjs_one (sj_retN (nj_cal (c_steps_in T) hr (by decide) (by rfl) (aj_cons (ej_v (pv 0)) (aj_cons (ej_v (pv 1)) (aj_cons (ej_v (pv 2)) aj_nil)))))))))
theorem c_quiet_in (T : Txt K mg) : CalD P w K mg base 4 "quiet_in" 2 (fnD 2 0 F_quiet_in) := by
  exact cal_fn T.h_quiet_in sc_quiet_in rfl rfl F_quiet_in fun f cdv A outer s H E hr =>
    (sjs_one (sj_ret (ej_and (ej_c (cj_eq hr (ej_ix (ej_v (pv 1)) ej_int) (ej_tup aj_nil (hn := (len_le nil_len))))) (ej_and (ej_c (cj_eq hr (ej_ix (ej_v (pv 1)) ej_int) (ej_tup aj_nil (hn := (len_le nil_len))))) (ej_one (ej_not (ej_cal (c_can_offer T) hr (by decide) (by rfl) (aj_cons (ej_v (pv 0)) (aj_cons (ej_v (pv 1)) aj_nil)))))))))
theorem c_bad_in (T : Txt K mg) : CalD P w K mg base 5 "bad_in" 2 (fnD 2 0 F_bad_in) := by
  obtain ⟨t_OFTEN, g_OFTEN⟩ := T.g_OFTEN
  exact cal_fn T.h_bad_in sc_bad_in rfl rfl F_bad_in fun f cdv A outer s H E hr =>
    (sjs_cons (sj_if (tj_w (wj_or (tj_d (ej_ix (ej_v (pv 1)) ej_int)) (wj_or1 (tj_w (wj_and (tj_c (cj_ne hr (ej_ix (ej_v (pv 0)) ej_int) ej_int)) (wj_and1 (tj_c (cj_in (ej_gi (by rfl) g_OFTEN) (ej_ix (ej_v (pv 1)) ej_int))))))))) (sjs_one (sj_ret ej_bl)) sjs_nil)
  (sjs_one (sj_ret (ej_and (ej_c (cj_gt (ej_ix (ej_v (pv 0)) ej_int) ej_int)) (ej_and (ej_c (cj_in ej_int (ej_ix (ej_v (pv 1)) ej_int))) (ej_one (ej_cal (c_quiet_in T) hr (by decide) (by rfl) (aj_cons (ej_v (pv 0)) (aj_cons (ej_v (pv 1)) aj_nil)))))))))
theorem c_is_bad (T : Txt K mg) : CalD P w K mg base 8 "is_bad" 2 (fnD 2 0 F_is_bad) := by
  exact cal_fn T.h_is_bad sc_is_bad rfl rfl F_is_bad fun f cdv A outer s H E hr =>
    (sjs_cons (sj_drop (ej_cal (c_need_line T) hr (by decide) (by rfl) (aj_cons (ej_v (pv 0)) aj_nil)))
  (sjs_cons (sj_drop (ej_cal (c_need_state T) hr (by decide) (by rfl) (aj_cons (ej_v (pv 0)) (aj_cons (ej_v (pv 1)) aj_nil))))
  (sjs_one (sj_ret (ej_cal (c_bad_in T) hr (by decide) (by rfl) (aj_cons (ej_v (pv 0)) (aj_cons (ej_v (pv 1)) aj_nil)))))))
theorem c_judged (T : Txt K mg) : CalD P w K mg base 6 "judged" 2 (fnD 2 6 F_judged) := by
  exact cal_fn T.h_judged sc_judged rfl rfl F_judged fun f cdv A outer s H E hr =>
    (sjs_cons (sj_drop (ej_cal (c_need_rules T) hr (by decide) (by rfl) (aj_cons (ej_v (pv 0)) aj_nil)))
  (sjs_cons (sj_drop (ej_cal (c_need_line T) hr (by decide) (by rfl) (aj_cons (ej_v (pv 1)) aj_nil)))
  (sjs_cons (sj_set (fun te he => ps_set (i := 2) sc_judged.nd rfl (.inl rfl) he) (ej_cal (c_first_of T) hr (by decide) (by rfl) (aj_cons (ej_v (pv 1)) aj_nil)))
  (sjs_cons (sj_par (i := 3) (j := 4) hr rfl sc_judged.nd rfl rfl (by decide) rfl rfl (ej_v (pv 2)) (ej_tup aj_nil (hn := (len_le nil_len))) (nj_lst (aj_cons (ej_v (pv 2)) aj_nil) (len_le (cons_len nil_len))) rfl)
  (sjs_cons (sj_set (fun te he => ps_set (i := 5) sc_judged.nd rfl (.inl rfl) he) ej_int)
  (sjs_cons (sj_while 64 (tj_c (cj_lt (ej_v (pv 5)) (ej_lenL (by rfl) T.z_len (lj_v (pv 4)))))
  (sjs_cons (sj_for rfl (ij_new (nj_cal (c_steps_in T) hr (by decide) (by rfl) (aj_cons (ej_v (pv 0)) (aj_cons (ej_v (pv 1)) (aj_cons (ej_ixL (lj_v (pv 4)) (ej_v (pv 5))) aj_nil))))) (gj_tup rfl (pgs_cons (pg_name (i := 6) sc_judged.nd rfl (.inl rfl)) (pgs_cons (pg_name (i := 7) sc_judged.nd rfl (.inl rfl)) pgs_nil)))
  (sjs_one (sj_if (tj_c (cj_notin_n hr (ej_v (pv 7)) (pv 3))) (sjs_cons (sj_put_n (fun te ti he hi => ps_asg he (pg_sub (pv 3) hi (set_n hr))) (ej_cat (ej_ix_n hr (pv 3) (ej_ixL (lj_v (pv 4)) (ej_v (pv 5)))) (ej_tup (aj_cons (ej_v (pv 6)) aj_nil) (hn := (len_le (cons_len nil_len))))) (ej_v (pv 7)))
  (sjs_cons (sj_append (fun te he => ps_expr (pe_bm PySem.F.plainAttrs_list PySem.F.slot_list_append PySem.F.type_list_append mt_append (pv 4) (pa_cons he pa_nil))) (ej_v (pv 7)))
  (sjs_one (sj_if (tj_d (ej_cal (c_bad_in T) hr (by decide) (by rfl) (aj_cons (ej_v (pv 1)) (aj_cons (ej_v (pv 7)) aj_nil)))) (sjs_one (sj_ret (ej_tup (aj_cons (ej_str .run) (aj_cons (ej_ix_n hr (pv 3) (ej_v (pv 7))) aj_nil)) (hn := (len_le (cons_len (cons_len nil_len))))))) sjs_nil)))) sjs_nil)))
  (sjs_one (sj_set (fun te he => ps_set (i := 5) sc_judged.nd rfl (.inl rfl) he) (ej_add (ej_v (pv 5)) ej_int)))))
  (sjs_one (sj_ret (ej_tup (aj_cons (ej_str .fence) (aj_cons (ej_tupL (by rfl) T.z_tuple (lj_of (nj_sort hr stS (by rfl) T.z_sorted (lj_v (pv 4))))) aj_nil)) (hn := (len_le (cons_len (cons_len nil_len)))))))))))))
theorem c_fence_holds (T : Txt K mg) : CalD P w K mg base 7 "fence_holds" 3 (fnD 3 5 F_fence_holds) := by
  exact cal_fn T.h_fence_holds sc_fence_holds rfl rfl F_fence_holds fun f cdv A outer s H E hr =>
    (sjs_cons (sj_if (tj_w (wj_or (tj_not (tj_d (ej_is .tup rfl (by rfl) T.z_isinstance (by rfl) T.z_tuple (ej_v (pv 2))))) (wj_or (tj_not (tj_d (ej_all rfl (by rfl) T.z_all (lj_of (nj_comp rfl sc_fence_holds.nd (iaj_of (ij_tup (ej_v (pv 2)))) (blkOk_by (own := [("one", 4)]) (by rfl)) (by decide) (fun _ _ _ _ _ => (gj_name (pg_name (i := 4) sc_fence_holds.nd rfl (.inl rfl)))) (fun _ _ _ _ _ => ptj_nil) (fun _ _ _ _ _ => (ej_cal (c_is_state T) hr (by decide) (by rfl) (aj_cons (ej_v (pv 1)) (aj_cons (ej_v (pv 4)) aj_nil))))))))) (wj_or1 (tj_not (tj_d (ej_cal (c_are_rising T) hr (by decide) (by rfl) (aj_cons (ej_v (pv 2)) aj_nil)))))))) (sjs_one (sj_ret ej_bl)) sjs_nil)
  (sjs_cons (sj_setM (fun te he => ps_set (i := 3) sc_fence_holds.nd rfl (.inr rfl) he) (mj_compN hr rfl sc_fence_holds.nd (iaj_of (ij_tup (ej_v (pv 2)))) (blkOk_by (own := [("state", 5)]) (by rfl)) (by decide) (fun _ _ _ _ _ => (gj_name (pg_name (i := 5) sc_fence_holds.nd rfl (.inl rfl)))) (fun _ _ _ _ _ => (ej_v (pv 5))) (fun _ _ _ _ _ => ej_bl)))
  (sjs_cons (sj_if (tj_w (wj_or (tj_c (cj_notin_n hr (ej_cal (c_first_of T) hr (by decide) (by rfl) (aj_cons (ej_v (pv 1)) aj_nil)) (pv 3))) (wj_or1 (tj_d (ej_any rfl (by rfl) T.z_any (lj_of (nj_comp rfl sc_fence_holds.nd (iaj_of (ij_tup (ej_v (pv 2)))) (blkOk_by (own := [("state", 5)]) (by rfl)) (by decide) (fun _ _ _ _ _ => (gj_name (pg_name (i := 5) sc_fence_holds.nd rfl (.inl rfl)))) (fun _ _ _ _ _ => ptj_nil) (fun _ _ _ _ _ => (ej_cal (c_bad_in T) hr (by decide) (by rfl) (aj_cons (ej_v (pv 1)) (aj_cons (ej_v (pv 5)) aj_nil))))))))))) (sjs_one (sj_ret ej_bl)) sjs_nil)
  (sjs_one (sj_ret (ej_all rfl (by rfl) T.z_all (lj_of (nj_comp2 (vs1 := [6, 7]) rfl sc_fence_holds.nd (iaj_of (ij_tup (ej_v (pv 2)))) (blkOk_by (own := [("state", 5), ("step", 6), ("there", 7)]) (by rfl)) (by decide) (by decide) (by decide) (fun _ _ _ _ _ => (gj_name (pg_name (i := 5) sc_fence_holds.nd rfl (.inl rfl)))) (fun _ _ _ _ _ => (ij_new (nj_cal (c_steps_in T) hr (by decide) (by rfl) (aj_cons (ej_v (pv 0)) (aj_cons (ej_v (pv 1)) (aj_cons (ej_v (pv 5)) aj_nil)))))) (fun _ _ _ _ _ => (gj_tup rfl (pgs_cons (pg_name (i := 6) sc_fence_holds.nd rfl (.inl rfl)) (pgs_cons (pg_name (i := 7) sc_fence_holds.nd rfl (.inl rfl)) pgs_nil)))) (fun _ _ _ _ _ => (ej_c (cj_in_n hr (ej_v (pv 7)) (pv 3))))))))))))
theorem c_is_fence (T : Txt K mg) : CalD P w K mg base 8 "is_fence" 3 (fnD 3 0 F_is_fence) := by
  exact cal_fn T.h_is_fence sc_is_fence rfl rfl F_is_fence fun f cdv A outer s H E hr =>
    (sjs_cons (sj_drop (ej_cal (c_need_rules T) hr (by decide) (by rfl) (aj_cons (ej_v (pv 0)) aj_nil)))
  (sjs_cons (sj_drop (ej_cal (c_need_line T) hr (by decide) (by rfl) (aj_cons (ej_v (pv 1)) aj_nil)))
  (sjs_one (sj_ret (ej_cal (c_fence_holds T) hr (by decide) (by rfl) (aj_cons (ej_v (pv 0)) (aj_cons (ej_v (pv 1)) (aj_cons (ej_v (pv 2)) aj_nil))))))))
theorem c_is_run (T : Txt K mg) : CalD P w K mg base 6 "is_run" 3 (fnD 3 5 F_is_run) := by
  exact cal_fn T.h_is_run sc_is_run rfl rfl F_is_run fun f cdv A outer s H E hr =>
    (sjs_cons (sj_drop (ej_cal (c_need_rules T) hr (by decide) (by rfl) (aj_cons (ej_v (pv 0)) aj_nil)))
  (sjs_cons (sj_drop (ej_cal (c_need_line T) hr (by decide) (by rfl) (aj_cons (ej_v (pv 1)) aj_nil)))
  (sjs_cons (sj_if (tj_not (tj_d (ej_is .tup rfl (by rfl) T.z_isinstance (by rfl) T.z_tuple (ej_v (pv 2))))) (sjs_one (sj_ret ej_bl)) sjs_nil)
  (sjs_cons (sj_set (fun te he => ps_set (i := 3) sc_is_run.nd rfl (.inl rfl) he) (ej_cal (c_first_of T) hr (by decide) (by rfl) (aj_cons (ej_v (pv 1)) aj_nil)))
  (sjs_cons (sj_for rfl (ij_tup (ej_v (pv 2))) (gj_name (pg_name (i := 4) sc_is_run.nd rfl (.inl rfl)))
  (sjs_cons (sj_setDc rfl sc_is_run.nd rfl rfl (sw_dict rfl rfl rfl rfl) (iaj_of (ij_new (nj_cal (c_steps_in T) hr (by decide) (by rfl) (aj_cons (ej_v (pv 0)) (aj_cons (ej_v (pv 1)) (aj_cons (ej_v (pv 3)) aj_nil)))))) (blkOk_by (own := [("word", 6), ("there", 7)]) (by rfl)) (by decide) (fun _ _ _ _ _ => (gj_tup rfl (pgs_cons (pg_name (i := 6) sc_is_run.nd rfl (.inl rfl)) (pgs_cons (pg_name (i := 7) sc_is_run.nd rfl (.inl rfl)) pgs_nil)))) (fun _ _ _ _ _ => (ej_v (pv 6))) (fun _ _ _ _ _ => (ej_v (pv 7))))
  (sjs_cons (sj_if (tj_w (wj_or (tj_not (tj_d (ej_is .str rfl (by rfl) T.z_isinstance (by rfl) T.z_str (ej_v (pv 4))))) (wj_or1 (tj_c (cj_notin_k hr (ej_v (pv 4)) (pv 5)))))) (sjs_one (sj_ret ej_bl)) sjs_nil)
  (sjs_one (sj_set (fun te he => ps_set (i := 3) sc_is_run.nd rfl (.inl rfl) he) (ej_ix_k hr (pv 5) (ej_v (pv 4))))))))
  (sjs_one (sj_ret (ej_cal (c_bad_in T) hr (by decide) (by rfl) (aj_cons (ej_v (pv 1)) (aj_cons (ej_v (pv 3)) aj_nil))))))))))
theorem c__law_otherwise (T : Txt K mg) : CalD P w K mg base 1 "_law_otherwise" 1 (fnD 1 1 F__law_otherwise) := by
  exact cal_fn T.h__law_otherwise sc__law_otherwise rfl rfl F__law_otherwise fun f cdv A outer s H E hr =>
    (sjs_cons (sj_setN (fun te he => ps_set (i := 1) sc__law_otherwise.nd rfl (.inl rfl) he) (nj_lst (aj_cons ej_bl (aj_cons ej_bl (aj_cons ej_bl (aj_cons ej_bl (aj_cons ej_bl (aj_cons ej_bl aj_nil)))))) (len_le (cons_len (cons_len (cons_len (cons_len (cons_len (cons_len nil_len)))))))))
  (sjs_cons (sj_putL (fun te ti he hi => ps_asg he (pg_sub (pv 1) hi set_list)) (ej_not (ej_ixL (lj_v (pv 1)) (ej_v (pv 0)))) (ej_v (pv 0)))
  (sjs_one (sj_ret (ej_tupL (by rfl) T.z_tuple (lj_v (pv 1)))))))
theorem c__law_due (T : Txt K mg) : CalD P w K mg base 1 "_law_due" 2 (fnD 2 3 F__law_due) := by
  exact cal_fn T.h__law_due sc__law_due rfl rfl F__law_due fun f cdv A outer s H E hr =>
    (sjs_cons (sj_asg (ej_v (pv 1)) (gj_tup rfl (pgs_cons (pg_name (i := 2) sc__law_due.nd rfl (.inl rfl)) (pgs_cons (pg_name (i := 3) sc__law_due.nd rfl (.inl rfl)) (pgs_cons (pg_name (i := 4) sc__law_due.nd rfl (.inl rfl)) pgs_nil)))))
  (sjs_cons (sj_if (tj_w (wj_or (tj_c (cj_eq hr (ej_v (pv 2)) ej_int)) (wj_or1 (tj_c (cj_eq hr (ej_v (pv 0)) ej_int))))) (sjs_one (sj_ret ej_bl)) sjs_nil)
  (sjs_cons (sj_if (tj_c (cj_eq hr (ej_v (pv 2)) ej_int)) (sjs_one (sj_ret (ej_c (cj_eq hr (ej_v (pv 0)) ej_int)))) sjs_nil)
  (sjs_one (sj_ret (ej_or (ej_c (cj_in (ej_v (pv 0)) (ej_tup (aj_cons ej_int (aj_cons ej_int (aj_cons ej_int aj_nil))) (hn := (len_le (cons_len (cons_len (cons_len nil_len)))))))) (ej_one (ej_c (cj_gt (ej_v (pv 4)) (ej_v (pv 3)))))))))))
theorem c__law_run_right (T : Txt K mg) : CalD P w K mg base 9 "_law_run_right" 3 (fnD 3 3 F__law_run_right) := by
  exact cal_fn T.h__law_run_right sc__law_run_right rfl rfl F__law_run_right fun f cdv A outer s H E hr =>
    (sjs_cons (sj_if (tj_w (wj_or (tj_c (cj_isnot (ej_cal (c_is_run T) hr (by decide) (by rfl) (aj_cons (ej_v (pv 0)) (aj_cons (ej_v (pv 1)) (aj_cons (ej_v (pv 2)) aj_nil)))) ej_bl)) (wj_or1 (tj_c (cj_isnot (ej_cal (c_is_run T) hr (by decide) (by rfl) (aj_cons (ej_v (pv 0)) (aj_cons (ej_v (pv 1)) (aj_cons (ej_init (ej_v (pv 2))) aj_nil)))) ej_bl))))) (sjs_one (sj_ret ej_bl)) sjs_nil)
  (sjs_cons (sj_set (fun te he => ps_set (i := 3) sc__law_run_right.nd rfl (.inl rfl) he) (ej_cal (c_first_state T) hr (by decide) (by rfl) (aj_cons (ej_v (pv 1)) aj_nil)))
  (sjs_cons (sj_for rfl (ij_tup (ej_v (pv 2))) (gj_name (pg_name (i := 4) sc__law_run_right.nd rfl (.inl rfl)))
  (sjs_cons (sj_if (tj_d (ej_cal (c_is_bad T) hr (by decide) (by rfl) (aj_cons (ej_v (pv 1)) (aj_cons (ej_v (pv 3)) aj_nil)))) (sjs_one (sj_ret ej_bl)) sjs_nil)
  (sjs_cons (sj_setM (fun te he => ps_set (i := 5) sc__law_run_right.nd rfl (.inl rfl) he) (mj_dictP rfl (by rfl) T.z_dict (lj_of (nj_cal (c_steps_from T) hr (by decide) (by rfl) (aj_cons (ej_v (pv 0)) (aj_cons (ej_v (pv 1)) (aj_cons (ej_v (pv 3)) aj_nil)))))))
  (sjs_cons (sj_if (tj_c (cj_notin_k hr (ej_v (pv 4)) (pv 5))) (sjs_one (sj_ret ej_bl)) sjs_nil)
  (sjs_one (sj_set (fun te he => ps_set (i := 3) sc__law_run_right.nd rfl (.inl rfl) he) (ej_ix_k hr (pv 5) (ej_v (pv 4)))))))))
  (sjs_one (sj_ret (ej_cal (c_is_bad T) hr (by decide) (by rfl) (aj_cons (ej_v (pv 1)) (aj_cons (ej_v (pv 3)) aj_nil))))))))
end
end Wf

namespace Wf
open PySem PySem.Spec PyProof.Rows L2

/-! ### the law's own: cells and draws -/
section
variable {P : Program} {w : World} {K : PySem.W.Frag} {mg : Str → Option Value} {base : Heap} {x : Str} {st : Stmt} {N ps : List Str} {k : Nat} {sp : Sp}
theorem cal_sp (h : Has K mg x st ps) (S : FnScope N ps (defScope st)) (len : ∀ vs H Q E, sp vs H Q E → vs.length = ps.length)
    (body : ∀ (f : Addr) (cdv : Value) (A : Around) (outer : List Env) (s : Shared) (H : Hp) (vs : List V) (Q : VK) (E : XK), Room k (A.deeper (envOfC x (defScope st) s.heap.objs.size f cdv)) → sp vs H Q E →
      ∃ t, PSs (cxOf CX0 P w K mg base N x (defScope st) f cdv A outer s H E).nox (defBody st) t ∧ t { nx := fun _ H' => Q .non H', rt := Q } (L2.start N vs) H) :
    CalS P w K mg base (k + 1) x sp := by
  obtain ⟨f, fd, F, hm, hb⟩ := h.ex
  exact ⟨f, fd, ps, F.ok S len (body f), hm, F.kp, hb⟩
end
def tCal (sp : Sp) (t : TA) : TE := fun σ H Q => t σ H fun vs H1 => sp vs H1 Q E0
theorem pe_cal {X : Cx} {e : Expr} {es : List Expr} {p pos : Pos} {x : Str} {j k : Nat} {sp : Sp} {t : TA} (C : CalS X.prog X.w X.K X.mg X.base j x sp) (hr : Room k X.A) (hj : j ≤ k) (hg : Gl X x) (ha : PA X (e :: es) t)
    (hd : (x == ("__debug__" : Str)) = false := by decide) (he : starEach (e :: es) X.env = (false, eval e X.env) :: starEach es X.env := by rfl) (hpl : (backTo pos (starEach es X.env)).any (·.1) = false := by rfl) :
    PE X (.Call (.Name x p) (e :: es) [] pos) (tCal sp t) := by
  obtain ⟨a, fd, ps, G, hm, hk, hb⟩ := C.ex
  refine PEimp (pe_call (E := E0) (G.mono hj) hr hg hm hk hb .nil pass0 ha hd he hpl) fun σ H Q h => ?_
  have e : (fun (vs : List V) (H1 : Hp) => sp (vs ++ []) H1 Q E0) = fun vs H1 => sp vs H1 Q E0 := by
    funext vs H1
    rw [List.append_nil]
  show t σ H fun vs H1 => sp (vs ++ []) H1 Q E0
  rw [e]
  exact h
section
variable {P : Program} {w : World} {K : PySem.W.Frag} {mg : Str → Option Value} {base : Heap}
theorem c__law_cell_at (T : Txt K mg) : CalS P w K mg base 1 "_law_cell_at" (spCell K) := by
  refine cal_sp T.h__law_cell_at sc__law_cell_at (fun vs H Q E h => ?_) fun f cdv A outer s H vs Q E hr h => ⟨tCell K, ?_, cell_run h⟩
  · obtain ⟨l, ns, j, rfl, _⟩ := h
    rfl
  · exact pss_cons (ps_if (pt_cmp (pc_lt (pv 1) (pe_callB call_len (by rfl) T.z_len boot_len (pa_cons (pv 0) pa_nil)))) (pss_one (ps_ret (pe_ix ix_seq (pv 0) (pv 1) fun _ _ => rfl))) pss_nil) (pss_one (ps_ret pe_int))
/-- a state of draws -/
def okS (a b : Int) : Prop := 0 ≤ a ∧ 0 ≤ b ∧ b < 2147483647
def spState (K : PySem.W.Frag) : Sp := fun vs H Q _ => ∃ (l : Addr) (ns : List Int) (j : Nat), vs = [V.ref l, V.int (j : Nat)] ∧ SqL K H l (ns.map V.int) ∧ ∀ a b H' p, okS a b → Same H H' → H p = none → H' p = some (.lst [.int a, .int b]) → Q (.ref p) H'
theorem c__law_state (T : Txt K mg) : CalS P w K mg base 2 "_law_state" (spState K) := by
  refine cal_sp T.h__law_state sc__law_state (fun vs H Q E h => ?_) fun f cdv A outer s H vs Q E hr h => ?_
  · obtain ⟨l, ns, j, rfl, _⟩ := h
    rfl
  · obtain ⟨l, ns, j, rfl, hS, q⟩ := h
    refine ⟨_, pss_cons (ps_set (i := 2) sc__law_state.nd rfl (.inl rfl) (pe_cal (c__law_cell_at T) hr (by decide) (by rfl) (pa_cons (pv 0) (pa_cons (pv 1) pa_nil))))
      (pss_one (ps_ret (pe_lst (pa_cons (pe_callB (call_max2 rfl) (by rfl) T.z_max boot_max (pa_cons pe_int (pa_cons (pe_op op_sub (pv 2) (pe_op op_pow pe_int pe_int)) pa_nil))) (pa_cons (pe_op op_mod (pv 2) pe_int) pa_nil))))), ?_⟩
    refine ⟨_, rfl, _, rfl, l, ns, j, rfl, hS, ?_⟩
    refine ⟨_, rfl, 10, 18, rfl, rfl, ⟨by decide, by decide, by decide⟩, cellOf ns j, _, rfl, rfl, _, _, rfl, ?_⟩
    refine ⟨_, rfl, cellOf ns j, 2147483647, rfl, rfl, show (0 : Int) < 2147483647 by decide, ?_⟩
    refine ⟨len_line (n := 2) (by decide), fun p hp => q _ _ _ p ⟨?_, Int.emod_nonneg _ (by decide), Int.emod_lt_of_pos _ (by decide)⟩ (same_new hp) hp upd_same⟩
    split <;> omega
/-- a draw of three -/
def spTake : Sp := fun vs H Q _ => ∃ (p : Addr) (a b : Int), vs = [V.ref p, V.int 3] ∧ H p = some (.lst [.int a, .int b]) ∧ okS a b ∧ ∀ r a' b', 0 ≤ r → r < 3 → okS a' b' → Q (.int r) (upd H p (.lst [.int a', .int b']))
theorem upd_upd {H : Hp} {p : Addr} {o u : HO} : upd (upd H p o) p u = upd H p u := by
  funext b
  unfold upd
  split <;> rfl
theorem c__law_take (T : Txt K mg) : CalS P w K mg base 1 "_law_take" spTake := by
  refine cal_sp T.h__law_take sc__law_take (fun vs H Q E h => ?_) fun f cdv A outer s H vs Q E hr h => ?_
  · obtain ⟨p, a, b, rfl, _⟩ := h
    rfl
  · obtain ⟨p, a, b, rfl, hp, ⟨a0, b0, b1⟩, q⟩ := h
    refine ⟨_, pss_cons (ps_if (pt_cmp (pc_op op_gt (pe_ix ix_list (pv 0) pe_int (fun _ _ => rfl)) pe_int))
        (pss_cons (ps_set (i := 2) sc__law_take.nd rfl (.inl rfl) (pe_op op_mod (pe_ix ix_list (pv 0) pe_int (fun _ _ => rfl)) (pv 1)))
        (pss_cons (ps_asg (pe_op op_fdiv (pe_ix ix_list (pv 0) pe_int (fun _ _ => rfl)) (pv 1)) (pg_sub (pv 0) pe_int set_list))
        (pss_one (ps_ret (pv 2))))) pss_nil)
      (pss_cons (ps_asg (pe_op op_mod (pe_op op_add (pe_op op_mul (pe_ix ix_list (pv 0) pe_int (fun _ _ => rfl)) pe_int) pe_int) pe_int) (pg_sub (pv 0) pe_int set_list))
      (pss_cons (ps_set (i := 3) sc__law_take.nd rfl (.inl rfl) (pe_op op_mod (pe_op op_add (pe_op op_add (pe_op op_mul (pe_ix ix_list (pv 0) pe_int (fun _ _ => rfl)) (pe_ix ix_list (pv 0) pe_int (fun _ _ => rfl))) (pe_op op_mul pe_int (pe_ix ix_list (pv 0) pe_int (fun _ _ => rfl)))) pe_int) pe_int))
      (pss_cons (ps_set (i := 3) sc__law_take.nd rfl (.inl rfl) (pe_op op_mod (pe_op op_add (pe_op op_mul (pv 3) (pv 3)) (pe_op op_mul pe_int (pv 3))) pe_int))
      (pss_one (ps_ret (pe_op op_mod (pe_op op_fdiv (pv 3) pe_int) (pv 1))))))), ?_⟩
    have hL : SqL K H p [.int a, .int b] := .inl (.inl hp)
    refine ⟨.ref p, rfl, p, _, 0, .int a, rfl, rfl, hL, atI_nat (j := 0) rfl, a, 0, rfl, rfl, _, rfl, ite2 (fun e => ?_) (fun e => ?_)⟩
    · refine ⟨.ref p, rfl, p, _, 0, .int a, rfl, rfl, hL, atI_nat (j := 0) rfl, .int 3, rfl, a, 3, rfl, rfl, show (0 : Int) < 3 by decide, ?_⟩
      refine ⟨.ref p, rfl, p, _, 0, .int a, rfl, rfl, hL, atI_nat (j := 0) rfl, .int 3, rfl, a, 3, rfl, rfl, ⟨by decide, by decide⟩, ?_⟩
      refine ⟨.ref p, rfl, p, _, 0, 0, rfl, rfl, hp, ix_small (n := 2) (j := 0) (by decide), ?_⟩
      exact ⟨.int (a % 3), rfl, q _ _ _ (Int.emod_nonneg _ (by decide)) (Int.emod_lt_of_pos _ (by decide)) ⟨by omega, b0, b1⟩⟩
    · refine ⟨.ref p, rfl, p, _, 1, .int b, rfl, rfl, hL, atI_nat (j := 1) rfl, b, 48271, rfl, rfl, .inr ⟨by decide, by decide⟩, b * 48271, 29, rfl, rfl, b * 48271 + 29, 2147483647, rfl, rfl, show (0 : Int) < 2147483647 by decide, ?_⟩
      refine ⟨.ref p, rfl, p, _, 1, 1, rfl, rfl, hp, ix_small (n := 2) (j := 1) (by decide), ?_⟩
      obtain ⟨c, hb⟩ : ∃ c, (b * 48271 + 29) % 2147483647 = c := ⟨_, rfl⟩
      have es : [V.int a, V.int b].set 1 ((fun i j => V.int (i % j)) (b * 48271 + 29) 2147483647) = [.int a, .int c] := by
        rw [← hb]
        rfl
      rw [es]
      have c0 : 0 ≤ c := by omega
      have c1 : c < 2147483647 := by omega
      have hp2 : upd H p (.lst [.int a, .int c]) p = some (.lst [.int a, .int c]) := upd_same
      have hL2 : SqL K (upd H p (.lst [.int a, .int c])) p [.int a, .int c] := .inl (.inl hp2)
      refine ⟨.ref p, rfl, p, _, 1, .int c, rfl, rfl, hL2, atI_nat (j := 1) rfl, .ref p, rfl, p, _, 1, .int c, rfl, rfl, hL2, atI_nat (j := 1) rfl, c, c, rfl, rfl, .inl ⟨by omega, by omega⟩, ?_⟩
      refine ⟨.ref p, rfl, p, _, 1, .int c, rfl, rfl, hL2, atI_nat (j := 1) rfl, 39373, c, rfl, rfl, .inl ⟨by decide, by decide⟩, c * c, 39373 * c, rfl, rfl, c * c + 39373 * c, 7, rfl, rfl, c * c + 39373 * c + 7, 2147483629, rfl, rfl, show (0 : Int) < 2147483629 by decide, ?_⟩
      obtain ⟨d, hd⟩ : ∃ d, (c * c + 39373 * c + 7) % 2147483629 = d := ⟨_, rfl⟩
      have d0 : 0 ≤ d := by rw [← hd]; exact Int.emod_nonneg _ (by decide)
      have d1 : d < 2147483629 := by rw [← hd]; exact Int.emod_lt_of_pos _ (by decide)
      refine ⟨.int d, by rw [← hd]; rfl, .int d, by rw [← hd]; rfl, d, d, rfl, rfl, .inl ⟨by omega, by omega⟩, .int d, by rw [← hd]; rfl, 16807, d, rfl, rfl, .inl ⟨by decide, by decide⟩, d * d, 16807 * d, rfl, rfl, d * d + 16807 * d, 2147483587, rfl, rfl, show (0 : Int) < 2147483587 by decide, ?_⟩
      obtain ⟨u, he⟩ : ∃ u, (d * d + 16807 * d) % 2147483587 = u := ⟨_, rfl⟩
      refine ⟨.int u, by rw [← he]; rfl, u, 8, rfl, rfl, ⟨by decide, by decide⟩, .int 3, rfl, u / 8, 3, rfl, rfl, show (0 : Int) < 3 by decide, ?_⟩
      exact q _ _ _ (Int.emod_nonneg _ (by decide)) (Int.emod_lt_of_pos _ (by decide)) ⟨a0, c0, c1⟩
end
end Wf

namespace Wf
open PySem PySem.Spec PyProof.Rows L2

/-! ### all the pairs of rules and lines -/
def lin (g w m : Nat) : D := .tup [.int (.ofNat g), .int (.ofNat w), .int (.ofNat m)]
def lins : List D := [lin 0 1 1, lin 0 1 2, lin 0 2 1, lin 1 1 1, lin 1 1 2, lin 1 2 1, lin 2 1 1, lin 2 1 2, lin 2 2 1, lin 1 2 2]
def C_one : TF := (bD (eNe (eEq (eV 7) (eK (.str .run))) (eCall (fnD 2 3 F__law_due) (lCons (eV 4) (lCons (eV 6) lNil)))))
def C_two : TF := (bOr (bD (eNe (eCall (fnD 3 0 F_is_fence) (lCons (eV 5) (lCons (eV 6) (lCons (eV 8) lNil)))) (eEq (eV 7) (eK (.str .fence))))) (bD (eNe (eCall (fnD 3 5 F_is_run) (lCons (eV 5) (lCons (eV 6) (lCons (eV 8) lNil)))) (eEq (eV 7) (eK (.str .run))))))
def C_three : TF := (bAnd (bD (eEq (eV 7) (eK (.str .run)))) (bNot (bD (eCall (fnD 3 3 F__law_run_right) (lCons (eV 5) (lCons (eV 6) (lCons (eV 8) lNil)))))))
def ssL (i : Nat) (r l u t : D) : Ss := [none, none, none, none, some (.d (.int (.ofNat i))), some (.d r), some (.d l), some (.d u), some (.d t)]
def isNo : Option Bool → Bool
  | some false => true
  | _ => false
theorem isNo_eq {o : Option Bool} (h : isNo o = true) : o = some false := by
  unfold isNo at h
  split at h
  · rfl
  · cases h
def goodB (i : Nat) (l : D) : Bool := match fnD 1 1 F__law_otherwise [.int (.ofNat i)] with
  | some r => match fnD 2 6 F_judged [r, l] with
    | some (.tup [u, t]) => isNo (C_one (ssL i r l u t)) && (isNo (C_two (ssL i r l u t)) && isNo (C_three (ssL i r l u t)))
    | _ => false
  | none => false
theorem good_ok {i : Nat} {l : D} (h : goodB i l = true) : ∃ r u t, fnD 1 1 F__law_otherwise [.int (.ofNat i)] = some r ∧ fnD 2 6 F_judged [r, l] = some (.tup [u, t]) ∧ C_one (ssL i r l u t) = some false ∧ C_two (ssL i r l u t) = some false ∧ C_three (ssL i r l u t) = some false := by
  unfold goodB at h
  split at h
  · rename_i r hr
    split at h
    · rename_i u t hj
      obtain ⟨h1, h2⟩ := Bool.and_eq_true_iff.mp h
      obtain ⟨h2, h3⟩ := Bool.and_eq_true_iff.mp h2
      exact ⟨r, u, t, hr, hj, isNo_eq h1, isNo_eq h2, isNo_eq h3⟩
    · cases h
  · cases h
theorem pairs_0 : (lins.all fun l => goodB 0 l) = true := by decide +kernel
theorem pairs_1 : (lins.all fun l => goodB 1 l) = true := by decide +kernel
theorem pairs_2 : (lins.all fun l => goodB 2 l) = true := by decide +kernel
theorem pairs_3 : (lins.all fun l => goodB 3 l) = true := by decide +kernel
theorem pairs_4 : (lins.all fun l => goodB 4 l) = true := by decide +kernel
theorem pairs_5 : (lins.all fun l => goodB 5 l) = true := by decide +kernel
theorem pairs_all {i : Nat} (hi : i < 6) {l : D} (hl : l ∈ lins) : goodB i l = true := by
  match i, hi with
  | 0, _ => exact List.all_eq_true.mp pairs_0 l hl
  | 1, _ => exact List.all_eq_true.mp pairs_1 l hl
  | 2, _ => exact List.all_eq_true.mp pairs_2 l hl
  | 3, _ => exact List.all_eq_true.mp pairs_3 l hl
  | 4, _ => exact List.all_eq_true.mp pairs_4 l hl
  | 5, _ => exact List.all_eq_true.mp pairs_5 l hl
end Wf

namespace Wf
open PySem PySem.Spec PyProof.Rows L2

/-! ### the law -/
/-- slots that hold plain data -/
def DataS (K : PySem.W.Frag) (H : Hp) : Ss → L2.St → Prop
  | [], _ => True
  | none :: r, _ :: t => DataS K H r t
  | some (.d d) :: r, some v :: t => Rp K H v d ∧ DataS K H r t
  | _, _ => False
theorem data_ok {K : PySem.W.Frag} {H : Hp} : ∀ {ss : Ss} {σ : L2.St}, DataS K H ss σ → ss.length ≤ σ.length ∧ ∀ (i : Nat) (sv : SV), ss[i]? = some (some sv) → ∃ d v, sv = .d d ∧ σ[i]? = some (some v) ∧ Rp K H v d
  | [], σ, _ => ⟨Nat.zero_le _, fun i sv e => by simp at e⟩
  | none :: r, x :: t, h => by
    obtain ⟨l, g⟩ := data_ok (ss := r) (σ := t) h
    refine ⟨by simp only [List.length_cons]; omega, fun i sv e => ?_⟩
    cases i with
    | zero => simp at e
    | succ i => exact g i sv (by simpa using e)
  | some (.d d) :: r, some v :: t, h => by
    obtain ⟨l, g⟩ := data_ok (ss := r) (σ := t) h.2
    refine ⟨by simp only [List.length_cons]; omega, fun i sv e => ?_⟩
    cases i with
    | zero =>
      have e1 : SV.d d = sv := by simpa using e
      exact ⟨d, v, e1.symm, rfl, h.1⟩
    | succ i => exact g i sv (by simpa using e)
  | none :: _, [], h => h.elim
  | some (.d _) :: _, [], h => h.elim
  | some (.d _) :: _, none :: _, h => h.elim
  | some (.l _) :: _, [], h => h.elim
  | some (.l _) :: _, _ :: _, h => h.elim
  | some (.dk _) :: _, [], h => h.elim
  | some (.dk _) :: _, _ :: _, h => h.elim
  | some (.dn _) :: _, [], h => h.elim
  | some (.dn _) :: _, _ :: _, h => h.elim
theorem sr_data {K : PySem.W.Frag} {P : Program} {w : World} {H : Hp} {ss : Ss} {σ : L2.St} (h : DataS K H ss σ) : SR K P w H H σ ss := by
  obtain ⟨l, g⟩ := data_ok h
  have no : ∀ i a, ¬ OwnAt σ ss i a := fun i a o => by
    obtain ⟨sv, e1, e2, _⟩ := o
    obtain ⟨d, _, rfl, _⟩ := g i sv e1
    cases e2
  refine ⟨Same.refl H, l, fun i sv e => ?_, fun i j a oi _ => (no i a oi).elim⟩
  obtain ⟨d, v, rfl, h1, h2⟩ := g i sv e
  exact ⟨v, h1, h2⟩
def spLaw (K : PySem.W.Frag) : Sp := fun vs H Q _ => ∃ (a : Addr) (ns : List Int), vs = [.ref a] ∧ SqL K H a (ns.map V.int) ∧ ns.length ≤ 63 ∧ ∀ H', Q (.bl true) H'
def f_three : LF := lCons (eTup (lCons (eV 9) (lCons (eK (.int 1)) (lCons (eK (.int 1)) lNil)))) (lCons (eTup (lCons (eV 9) (lCons (eK (.int 1)) (lCons (eK (.int 2)) lNil)))) (lCons (eTup (lCons (eV 9) (lCons (eK (.int 2)) (lCons (eK (.int 1)) lNil)))) lNil))
def f_more : LF := lCons (eTup (lCons (eK (.int 2)) (lCons (eK (.int 1)) (lCons (eK (.int 2)) lNil)))) (lCons (eTup (lCons (eK (.int 1)) (lCons (eK (.int 2)) (lCons (eK (.int 2)) lNil)))) lNil)
theorem lin_mem : ∀ {i : Nat}, i < 3 → lin i 1 1 ∈ lins ∧ lin i 1 2 ∈ lins ∧ lin i 2 1 ∈ lins
  | 0, _ => ⟨by simp [lins], by simp [lins], by simp [lins]⟩
  | 1, _ => ⟨by simp [lins], by simp [lins], by simp [lins]⟩
  | 2, _ => ⟨by simp [lins], by simp [lins], by simp [lins]⟩
theorem one_turn (n : Nat) : (if (if (1 : Int) < (n : Int) then (1 : Int) else (n : Int)) > 1 then (if (1 : Int) < (n : Int) then (1 : Int) else (n : Int)) else 1) = 1 := by
  by_cases h : (1 : Int) < (n : Int)
  · rw [if_pos h, if_neg (by omega)]
  · rw [if_neg h, if_neg (by omega)]
theorem nj_as {X : Cx} {e : Expr} (f : LF) (h : NJ X e f) : NJ X e f := h
theorem tj_as {X : Cx} {e : Expr} (f : TF) (h : TJ X e f) : TJ X e f := h
section
variable {P : Program} {w : World} {K : PySem.W.Frag} {mg : Str → Option Value} {base : Heap}
/-- how the drawn lines stand -/
def Lin (K : PySem.W.Frag) (p D : Addr) (i : Nat) (H : Hp) : Prop := ∃ a b ws ds, okS a b ∧ H p = some (.lst [.int a, .int b]) ∧ H D = some (.lst ws) ∧ RpL K H ws ds ∧ ds.length = i ∧ ∀ d ∈ ds, d ∈ lins
theorem law_ok (T : Txt K mg) {f : Addr} {fd : FuncData} (Fn : Fun K "law" "law" s_law f fd) : FnOk P w K mg base CX0 10 f fd ["_law_script"] (spLaw K) := by
  refine Fn.ok sc_law (fun vs H Q E h => ?_) (fun cdv A outer s H vs Q E hr h => ?_)
  · obtain ⟨a, ns, rfl, _⟩ := h
    rfl
  · obtain ⟨a, ns, rfl, hS, hlen, q⟩ := h
    refine ⟨_, pss_cons (ps_for PassesOwn.never rfl (pi_range1 (by rfl) T.z_range (pa_cons (pe_callB (call_max2 rfl) (by rfl) T.z_max boot_max (pa_cons pe_int (pa_cons (pe_callB (call_min2 rfl) (by rfl) T.z_min boot_min (pa_cons (pe_callB call_len_seq (by rfl) T.z_len boot_len (pa_cons (pv 0) pa_nil)) (pa_cons pe_int pa_nil))) pa_nil))) pa_nil)) (pg_name (i := 1) sc_law.nd rfl (.inl rfl))
        (pss_cons (ps_set (i := 2) sc_law.nd rfl (.inr rfl) (pe_cal (c__law_state T) hr (by decide) (by rfl) (pa_cons (pv 0) (pa_cons (pv 1) pa_nil))))
        (pss_cons (ps_setLc (i := 3) (te := tOp (rIxL K) (tN K P w f_three) (tCal spTake (tCons (tVar 2) (tCons (tC (.int 3)) tNil)))) rfl sc_law.nd rfl rfl (sw_true rfl rfl rfl rfl) (pi_range1 (by rfl) T.z_range (pa_cons pe_int pa_nil)) (blkOk_by (own := [("_law_grade", 9)]) (by rfl)) (fun _ _ _ _ _ => pg_name (i := 9) sc_law.nd rfl (.inl rfl)) (fun _ _ _ _ _ => pts_nil)
          (fun _ _ _ _ _ => pe_ix ix_list (nj_as f_three <| nj_lst (aj_cons (ej_tup (aj_cons (ej_v (pv 9)) (aj_cons ej_int (aj_cons ej_int aj_nil))) (hn := (len_le (cons_len (cons_len (cons_len nil_len)))))) (aj_cons (ej_tup (aj_cons (ej_v (pv 9)) (aj_cons ej_int (aj_cons ej_int aj_nil))) (hn := (len_le (cons_len (cons_len (cons_len nil_len)))))) (aj_cons (ej_tup (aj_cons (ej_v (pv 9)) (aj_cons ej_int (aj_cons ej_int aj_nil))) (hn := (len_le (cons_len (cons_len (cons_len nil_len)))))) aj_nil))) (len_le (cons_len (cons_len (cons_len nil_len)))))
            (pe_cal (c__law_take T) hr (by decide) (by rfl) (pa_cons (pv 2) (pa_cons pe_int pa_nil))) (fun _ _ => rfl)))
        (pss_cons (ps_set (i := 3) sc_law.nd rfl (.inl rfl) (pe_op op_cat (pv 3) (nj_as f_more <| nj_lst (aj_cons (ej_tup (aj_cons ej_int (aj_cons ej_int (aj_cons ej_int aj_nil))) (hn := (len_le (cons_len (cons_len (cons_len nil_len)))))) (aj_cons (ej_tup (aj_cons ej_int (aj_cons ej_int (aj_cons ej_int aj_nil))) (hn := (len_le (cons_len (cons_len (cons_len nil_len)))))) aj_nil)) (len_le (cons_len (cons_len nil_len))))))
        (pss_one (ps_for PassesOwn.never rfl (pi_range1 (by rfl) T.z_range (pa_cons pe_int pa_nil)) (pg_name (i := 4) sc_law.nd rfl (.inl rfl))
          (pss_cons (ps_set (i := 5) sc_law.nd rfl (.inl rfl) (ej_cal (c__law_otherwise T) hr (by decide) (by rfl) (aj_cons (ej_v (pv 4)) aj_nil)))
          (pss_one (ps_for PassesOwn.never rfl (pi_list (pv 3)) (pg_name (i := 6) sc_law.nd rfl (.inl rfl))
            (pss_cons (ps_asg (ej_cal (c_judged T) hr (by decide) (by rfl) (aj_cons (ej_v (pv 5)) (aj_cons (ej_v (pv 6)) aj_nil))) (pg_tup (n := 2) rfl (pgs_cons (pg_name (i := 7) sc_law.nd rfl (.inl rfl)) (pgs_cons (pg_name (i := 8) sc_law.nd rfl (.inl rfl)) pgs_nil))))
            (pss_cons (ps_if (tj_as C_one <| (tj_c (cj_ne hr (ej_c (cj_eq hr (ej_v (pv 7)) (ej_str .run))) (ej_cal (c__law_due T) hr (by decide) (by rfl) (aj_cons (ej_v (pv 4)) (aj_cons (ej_v (pv 6)) aj_nil)))))) (pss_one (ps_ret pe_bl)) pss_nil)
            (pss_cons (ps_if (tj_as C_two <| (tj_w (wj_or (tj_c (cj_ne hr (ej_cal (c_is_fence T) hr (by decide) (by rfl) (aj_cons (ej_v (pv 5)) (aj_cons (ej_v (pv 6)) (aj_cons (ej_v (pv 8)) aj_nil)))) (ej_c (cj_eq hr (ej_v (pv 7)) (ej_str .fence))))) (wj_or1 (tj_c (cj_ne hr (ej_cal (c_is_run T) hr (by decide) (by rfl) (aj_cons (ej_v (pv 5)) (aj_cons (ej_v (pv 6)) (aj_cons (ej_v (pv 8)) aj_nil)))) (ej_c (cj_eq hr (ej_v (pv 7)) (ej_str .run))))))))) (pss_one (ps_ret pe_bl)) pss_nil)
            (pss_one (ps_if (tj_as C_three <| (tj_w (wj_and (tj_c (cj_eq hr (ej_v (pv 7)) (ej_str .run))) (wj_and1 (tj_not (tj_d (ej_cal (c__law_run_right T) hr (by decide) (by rfl) (aj_cons (ej_v (pv 5)) (aj_cons (ej_v (pv 6)) (aj_cons (ej_v (pv 8)) aj_nil)))))))))) (pss_one (ps_ret pe_bl)) pss_nil))))))))))))))
      (pss_one (ps_ret pe_bl)), ?_⟩
    refine ⟨.ref a, rfl, a, ns.map V.int, rfl, .inl hS, _, 1, rfl, 1, _, rfl, _, rfl, ?_⟩
    rw [one_turn]
    refine ⟨by decide, by decide, fun i m σ H' => (i = 0 ∧ m = 1 ∧ σ = L2.start ["_law_script", "_law_k", "_law_state_here", "_law_lines", "_law_at", "_law_rules", "_law_line", "_law_word", "_law_told", "_law_grade"] [.ref a] ∧ H' = H) ∨ (i = 1 ∧ m = 0), ⟨1, .inl ⟨rfl, rfl, rfl, rfl⟩⟩, ?_⟩
    rintro i m σ H' (⟨rfl, rfl, rfl, rfl⟩ | ⟨rfl, rfl⟩)
    · refine .inr ⟨Nat.lt_succ_self 0, fun _ _ => True, fun _ _ _ => ⟨0, Nat.lt_succ_self 0, .inr ⟨rfl, rfl⟩⟩, fun x H'' y => ?_⟩
      obtain ⟨rfl, rfl⟩ := y
      -- the state of draws
      refine ⟨.ref a, rfl, .int 0, rfl, a, ns, 0, rfl, hS, fun s1 s2 H2 p ok sm np hp => ?_⟩
      -- the lines that are drawn
      refine ⟨3, rfl, by decide, by decide, fun D hD => lc_range (Lin K p D) ?_ (fun i H' hi hP => ?_) (fun H' hP => ?_)⟩
      · exact ⟨s1, s2, [], [], ok, by rw [upd_ne (ne_of_none hp hD)]; exact hp, upd_same, RpL.nil, rfl, fun d hd => by cases hd⟩
      · obtain ⟨a1, b1, ws, ds, ok1, hp1, hD1, rl1, len1, mem1⟩ := hP
        have dat : DataS K H' [none, none, none, none, none, none, none, none, none, some (.d (.int (.ofNat i)))] [some (.ref a), some (.int 0), some (.ref p), none, none, none, none, none, none, some (.int (0 + (i : Int)))] := ⟨by rw [Int.zero_add]; exact Rp.int _, trivial⟩
        refine ⟨rfl, ?_⟩
        refine iteT (B := Lin K p D (i + 1) H') ?_
        refine ⟨H', _, [lin i 1 1, lin i 1 2, lin i 2 1], sr_data dat, rfl, fun c vs H5 g5 n5 h5 r5 => ?_⟩
        refine ⟨.ref p, rfl, p, a1, b1, rfl, g5 _ _ hp1, ok1, fun r a2 b2 r0 r1 ok2 => ?_⟩
        obtain ⟨v1, t1, rfl, q1, r5⟩ := r5.uncons
        obtain ⟨v2, t2, rfl, q2, r5⟩ := r5.uncons
        obtain ⟨v3, t3, rfl, q3, r5⟩ := r5.uncons
        rw [r5.unnil] at h5
        have pick : ∃ z l, atI [v1, v2, v3] r = some z ∧ Rp K H5 z l ∧ l ∈ lins := by
          have m3 := lin_mem hi
          have : r = 0 ∨ r = 1 ∨ r = 2 := by omega
          rcases this with rfl | rfl | rfl
          · exact ⟨v1, _, rfl, q1, m3.1⟩
          · exact ⟨v2, _, rfl, q2, m3.2.1⟩
          · exact ⟨v3, _, rfl, q3, m3.2.2⟩
        obtain ⟨z, l, hz, rz, hl⟩ := pick
        have pc : c ≠ p := (ne_of_none hp1 n5).symm
        have pD : p ≠ D := ne_of_none hp hD
        have e5 := g5 _ _ hp1
        have eD5 : upd H5 p (.lst [.int a2, .int b2]) D = some (.lst ws) := by
          rw [upd_ne pD.symm]
          exact g5 _ _ hD1
        have t1 : Tk H5 (upd H5 p (.lst [.int a2, .int b2])) := tk_upd e5 trivial
        have t2 : Tk (upd H5 p (.lst [.int a2, .int b2])) (upd (upd H5 p (.lst [.int a2, .int b2])) D (.lst (ws ++ [z]))) := tk_upd eD5 trivial
        refine ⟨c, [v1, v2, v3], r, z, rfl, rfl, .inl (.inl (by rw [upd_ne pc]; exact h5)), hz, ws, eD5, ?_, a2, b2, ws ++ [z], ds ++ [l], ok2, ?_, upd_same, ?_, ?_, fun d hd => ?_⟩
        · rw [rl1.length, len1]
          exact small1000 (by have : i < 3 := hi; omega)
        · rw [upd_ne pD, upd_same]
        · exact (RpL.tk ((tk_same g5).trans (t1.trans t2)) rl1).app (RpL.one (Rp.tk (t1.trans t2) rz))
        · rw [List.length_append, len1]
          rfl
        · rcases List.mem_append.mp hd with hd | hd
          · exact mem1 d hd
          · rw [List.mem_singleton.mp hd]
            exact hl
      · obtain ⟨a1, b1, ws, ds, ok1, hp1, hD1, rl1, len1, mem1⟩ := hP
        -- the two that are always there
        refine ⟨.ref D, rfl, H', [], [lin 2 1 2, lin 1 2 2], sr_data trivial, rfl, fun c vs H5 g5 n5 h5 r5 => ⟨D, c, ws, vs, rfl, rfl, g5 _ _ hD1, h5, ?_, fun L hL => ?_⟩⟩
        · have : ds.length = 3 := len1
          rw [rl1.length, r5.length]
          exact len_line (by rw [this]; decide)
        generalize eds : ds ++ [lin 2 1 2, lin 1 2 2] = es
        have hes : ∀ d ∈ es, d ∈ lins := fun d hd => by
          rw [← eds] at hd
          rcases List.mem_append.mp hd with hd | hd
          · exact mem1 d hd
          · rcases List.mem_cons.mp hd with rfl | hd
            · simp [lins]
            · rw [List.mem_singleton.mp hd]
              simp [lins]
        have rl6 : RpL K (upd H5 L (.lst (ws ++ vs))) (ws ++ vs) es := by
          rw [← eds]
          exact RpL.same (same_new hL) ((rl1.same g5).app r5)
        have hL6 : upd H5 L (.lst (ws ++ vs)) L = some (.lst (ws ++ vs)) := upd_same
        generalize upd H5 L (.lst (ws ++ vs)) = H6 at rl6 hL6 ⊢
        have it : ItR K (Itl K L) H6 es := itr_lst hL6 Tk.refl rl6
        -- the rules
        refine ⟨6, rfl, by decide, by decide, fun i m σ H7 => m = 6 - i ∧ i ≤ 6 ∧ Same H6 H7 ∧ ∃ y4 y5 y6 y7 y8, σ = [some (.ref a), some (.int 0), some (.ref p), some (.ref L), y4, y5, y6, y7, y8, none], ⟨6, rfl, Nat.zero_le _, Same.refl H6, _, _, _, _, _, rfl⟩, ?_⟩
        rintro i m σ H7 ⟨rfl, hi, g7, y4, y5, y6, y7, y8, rfl⟩
        by_cases hlt : i < 6
        · refine .inr ⟨hlt, fun σ H7 => Same H6 H7 ∧ ∃ y4 y5 y6 y7 y8, σ = [some (.ref a), some (.int 0), some (.ref p), some (.ref L), y4, y5, y6, y7, y8, none], fun σ' H8 z => ⟨6 - (i + 1), by omega, rfl, hlt, z⟩, fun x H8 y => ?_⟩
          obtain ⟨rfl, rfl⟩ := y
          obtain ⟨r0, _, _, hr0, _⟩ := good_ok (pairs_all hlt (l := lin 0 1 1) (by simp [lins]))
          have ri : ∀ H9, Rp K H9 (V.int (0 + (i : Int))) (.int (.ofNat i)) := fun H9 => by
            rw [Int.zero_add]
            exact Rp.int _
          refine ⟨_, [none, none, none, none, some (.d (.int (.ofNat i)))], r0, sr_data ⟨ri _, trivial⟩, hr0, fun v H9 g9 r9 => ?_⟩
          -- the lines
          have g69 := g7.trans g9
          refine ⟨.ref L, rfl, L, rfl, ⟨_, .inl (.inl (g69 _ _ hL6))⟩, fun j m σ H10 => m = es.length - j ∧ j ≤ es.length ∧ Same H9 H10 ∧ ∃ y6 y7 y8, σ = [some (.ref a), some (.int 0), some (.ref p), some (.ref L), some (.int (0 + (i : Int))), some v, y6, y7, y8, none], ⟨es.length, by omega, Nat.zero_le _, Same.refl H9, _, _, _, rfl⟩, ?_⟩
          rintro j m σ H10 ⟨rfl, hj, g10, z6, z7, z8, rfl⟩
          have g610 := g69.trans g10
          by_cases hjl : j < es.length
          · refine .inr ⟨it.go j H10 g610 hjl, fun σ H10 => Same H9 H10 ∧ ∃ y6 y7 y8, σ = [some (.ref a), some (.int 0), some (.ref p), some (.ref L), some (.int (0 + (i : Int))), some v, y6, y7, y8, none], fun σ' H11 z => ⟨es.length - (j + 1), by omega, rfl, hjl, z⟩, fun x H11 y => ?_⟩
            obtain ⟨d, hd, rfl, rd⟩ := it.yld j H10 x H11 g610 hjl y
            obtain ⟨r, u, t, h1, h2, h3, h4, h5⟩ := good_ok (pairs_all hlt (hes d (List.mem_of_getElem? hd)))
            rw [hr0] at h1
            cases h1
            refine ⟨_, [none, none, none, none, none, some (.d r0), some (.d d)], .tup [u, t], sr_data ⟨r9.same g10, rd, trivial⟩, h2, fun vj H12 g12 r12 => ?_⟩
            obtain ⟨ta, tvs, rfl, ht, rt⟩ := r12.tup_of
            obtain ⟨vu, t1, rfl, ru, rt⟩ := rt.uncons
            obtain ⟨vt, t2, rfl, rt, rn⟩ := rt.uncons
            rw [rn.unnil] at ht
            refine ⟨ta, [vu, vt], rfl, ht, rfl, vu, [vt], rfl, vt, [], rfl, rfl, ?_⟩
            have dat : ∀ H13, Same H12 H13 → DataS K H13 (ssL i r0 d u t) [some (.ref a), some (.int 0), some (.ref p), some (.ref L), some (.int (0 + (i : Int))), some v, some x, some vu, some vt, none] := fun H13 g => ⟨ri _, r9.same ((g10.trans g12).trans g), rd.same (g12.trans g), ru.same g, rt.same g, trivial⟩
            refine ⟨_, ssL i r0 d u t, false, sr_data (dat _ (Same.refl _)), h3, fun H13 g13 => ?_⟩
            refine iteF ?_
            refine ⟨_, ssL i r0 d u t, false, sr_data (dat _ g13), h4, fun H14 g14 => ?_⟩
            refine iteF ?_
            refine ⟨_, ssL i r0 d u t, false, sr_data (dat _ (g13.trans g14)), h5, fun H15 g15 => ?_⟩
            refine iteF ?_
            exact ⟨((g10.trans g12).trans g13).trans (g14.trans g15), _, _, _, rfl⟩
          · have e : j = es.length := by omega
            subst e
            exact .inl ⟨it.stop _ H10 g610 (Nat.le_refl _), g610, _, _, _, _, _, rfl⟩
        · have e : i = 6 := by omega
          subst e
          exact .inl ⟨Nat.le_refl _, trivial⟩
    · exact .inl ⟨Nat.le_refl _, q _⟩
end
end Wf

namespace Wf
open PySem PySem.Spec PyProof.Rows L2

section
variable {K : PySem.W.Frag} {h : Heap} {mg : Str → Option Value} {x : Str} {st : Stmt} {ps : List Str} {f : Addr} {oc : Value} {od an : Option Addr} {sl : Array (Option Value)} {kV dc pm cd ct : Value}
theorem has_mk (X : K.In h) (G : h.Ns mainGlobals mg) (a : PySem.W.nsIn K mainGlobals x = some (some (.ref f))) (l : K.lookup f = some ⟨oc, od, .func (PySem.W.fnOf x x (defArgs st) (defBody st) (defScope st) .none kV dc pm an cd ct), sl⟩)
    (c : PySem.W.codeIn K cd x = true) (k : PySem.W.keepIn K (.ref f) = true)
    (b : ∀ (kV doc pm : Value) (an : Option Addr) (cdv ct : Value) (us : List Value), us.length = ps.length → bindArgs (PySem.W.fnOf x x (defArgs st) (defBody st) (defScope st) .none kV doc pm an cdv ct) ⟨us, []⟩ = pure (ps.zip us)) : Has K mg x st ps :=
  ⟨f, _, fun_mk l c k, PySem.W.mg_of X G a, (fun_mk (st := st) l c k).binds b⟩
end
theorem txt_mk {K : PySem.W.Frag} {h : Heap} {mg : Str → Option Value} (X : K.In h) (G : h.Ns mainGlobals mg)
    {f0 : Addr} {oc0 kV0 dc0 pm0 cd0 ct0 : Value} {od0 an0 : Option Addr} {sl0 : Array (Option Value)}
    {f1 : Addr} {oc1 kV1 dc1 pm1 cd1 ct1 : Value} {od1 an1 : Option Addr} {sl1 : Array (Option Value)}
    {f2 : Addr} {oc2 kV2 dc2 pm2 cd2 ct2 : Value} {od2 an2 : Option Addr} {sl2 : Array (Option Value)}
    {f3 : Addr} {oc3 kV3 dc3 pm3 cd3 ct3 : Value} {od3 an3 : Option Addr} {sl3 : Array (Option Value)}
    {f4 : Addr} {oc4 kV4 dc4 pm4 cd4 ct4 : Value} {od4 an4 : Option Addr} {sl4 : Array (Option Value)}
    {f5 : Addr} {oc5 kV5 dc5 pm5 cd5 ct5 : Value} {od5 an5 : Option Addr} {sl5 : Array (Option Value)}
    {f6 : Addr} {oc6 kV6 dc6 pm6 cd6 ct6 : Value} {od6 an6 : Option Addr} {sl6 : Array (Option Value)}
    {f7 : Addr} {oc7 kV7 dc7 pm7 cd7 ct7 : Value} {od7 an7 : Option Addr} {sl7 : Array (Option Value)}
    {f8 : Addr} {oc8 kV8 dc8 pm8 cd8 ct8 : Value} {od8 an8 : Option Addr} {sl8 : Array (Option Value)}
    {f9 : Addr} {oc9 kV9 dc9 pm9 cd9 ct9 : Value} {od9 an9 : Option Addr} {sl9 : Array (Option Value)}
    {f10 : Addr} {oc10 kV10 dc10 pm10 cd10 ct10 : Value} {od10 an10 : Option Addr} {sl10 : Array (Option Value)}
    {f11 : Addr} {oc11 kV11 dc11 pm11 cd11 ct11 : Value} {od11 an11 : Option Addr} {sl11 : Array (Option Value)}
    {f12 : Addr} {oc12 kV12 dc12 pm12 cd12 ct12 : Value} {od12 an12 : Option Addr} {sl12 : Array (Option Value)}
    {f13 : Addr} {oc13 kV13 dc13 pm13 cd13 ct13 : Value} {od13 an13 : Option Addr} {sl13 : Array (Option Value)}
    {f14 : Addr} {oc14 kV14 dc14 pm14 cd14 ct14 : Value} {od14 an14 : Option Addr} {sl14 : Array (Option Value)}
    {f15 : Addr} {oc15 kV15 dc15 pm15 cd15 ct15 : Value} {od15 an15 : Option Addr} {sl15 : Array (Option Value)}
    {f16 : Addr} {oc16 kV16 dc16 pm16 cd16 ct16 : Value} {od16 an16 : Option Addr} {sl16 : Array (Option Value)}
    {f17 : Addr} {oc17 kV17 dc17 pm17 cd17 ct17 : Value} {od17 an17 : Option Addr} {sl17 : Array (Option Value)}
    {f18 : Addr} {oc18 kV18 dc18 pm18 cd18 ct18 : Value} {od18 an18 : Option Addr} {sl18 : Array (Option Value)}
    {f19 : Addr} {oc19 kV19 dc19 pm19 cd19 ct19 : Value} {od19 an19 : Option Addr} {sl19 : Array (Option Value)}
    {f20 : Addr} {oc20 kV20 dc20 pm20 cd20 ct20 : Value} {od20 an20 : Option Addr} {sl20 : Array (Option Value)}
    {f21 : Addr} {oc21 kV21 dc21 pm21 cd21 ct21 : Value} {od21 an21 : Option Addr} {sl21 : Array (Option Value)}
    {f22 : Addr} {oc22 kV22 dc22 pm22 cd22 ct22 : Value} {od22 an22 : Option Addr} {sl22 : Array (Option Value)}
    {f23 : Addr} {oc23 kV23 dc23 pm23 cd23 ct23 : Value} {od23 an23 : Option Addr} {sl23 : Array (Option Value)}
    {f24 : Addr} {oc24 kV24 dc24 pm24 cd24 ct24 : Value} {od24 an24 : Option Addr} {sl24 : Array (Option Value)}
    {f25 : Addr} {oc25 kV25 dc25 pm25 cd25 ct25 : Value} {od25 an25 : Option Addr} {sl25 : Array (Option Value)}
    {f26 : Addr} {oc26 kV26 dc26 pm26 cd26 ct26 : Value} {od26 an26 : Option Addr} {sl26 : Array (Option Value)}
    {f27 : Addr} {oc27 kV27 dc27 pm27 cd27 ct27 : Value} {od27 an27 : Option Addr} {sl27 : Array (Option Value)}
    {f28 : Addr} {oc28 kV28 dc28 pm28 cd28 ct28 : Value} {od28 an28 : Option Addr} {sl28 : Array (Option Value)}
    {f29 : Addr} {oc29 kV29 dc29 pm29 cd29 ct29 : Value} {od29 an29 : Option Addr} {sl29 : Array (Option Value)}
    {f30 : Addr} {oc30 kV30 dc30 pm30 cd30 ct30 : Value} {od30 an30 : Option Addr} {sl30 : Array (Option Value)}
    {f31 : Addr} {oc31 kV31 dc31 pm31 cd31 ct31 : Value} {od31 an31 : Option Addr} {sl31 : Array (Option Value)}
    {f32 : Addr} {oc32 kV32 dc32 pm32 cd32 ct32 : Value} {od32 an32 : Option Addr} {sl32 : Array (Option Value)}
    {f33 : Addr} {oc33 kV33 dc33 pm33 cd33 ct33 : Value} {od33 an33 : Option Addr} {sl33 : Array (Option Value)}
    {f34 : Addr} {oc34 kV34 dc34 pm34 cd34 ct34 : Value} {od34 an34 : Option Addr} {sl34 : Array (Option Value)}
    {f35 : Addr} {oc35 kV35 dc35 pm35 cd35 ct35 : Value} {od35 an35 : Option Addr} {sl35 : Array (Option Value)}
    {f36 : Addr} {oc36 kV36 dc36 pm36 cd36 ct36 : Value} {od36 an36 : Option Addr} {sl36 : Array (Option Value)}
    {f37 : Addr} {oc37 kV37 dc37 pm37 cd37 ct37 : Value} {od37 an37 : Option Addr} {sl37 : Array (Option Value)}
    {f38 : Addr} {oc38 kV38 dc38 pm38 cd38 ct38 : Value} {od38 an38 : Option Addr} {sl38 : Array (Option Value)}
    {f39 : Addr} {oc39 kV39 dc39 pm39 cd39 ct39 : Value} {od39 an39 : Option Addr} {sl39 : Array (Option Value)}
    {f40 : Addr} {oc40 kV40 dc40 pm40 cd40 ct40 : Value} {od40 an40 : Option Addr} {sl40 : Array (Option Value)}
    {f41 : Addr} {oc41 kV41 dc41 pm41 cd41 ct41 : Value} {od41 an41 : Option Addr} {sl41 : Array (Option Value)}
    {f42 : Addr} {oc42 kV42 dc42 pm42 cd42 ct42 : Value} {od42 an42 : Option Addr} {sl42 : Array (Option Value)}
    {f43 : Addr} {oc43 kV43 dc43 pm43 cd43 ct43 : Value} {od43 an43 : Option Addr} {sl43 : Array (Option Value)}
    {f44 : Addr} {oc44 kV44 dc44 pm44 cd44 ct44 : Value} {od44 an44 : Option Addr} {sl44 : Array (Option Value)}
    {f45 : Addr} {oc45 kV45 dc45 pm45 cd45 ct45 : Value} {od45 an45 : Option Addr} {sl45 : Array (Option Value)}
    {f46 : Addr} {oc46 kV46 dc46 pm46 cd46 ct46 : Value} {od46 an46 : Option Addr} {sl46 : Array (Option Value)}
    {f47 : Addr} {oc47 kV47 dc47 pm47 cd47 ct47 : Value} {od47 an47 : Option Addr} {sl47 : Array (Option Value)}
    {f48 : Addr} {oc48 kV48 dc48 pm48 cd48 ct48 : Value} {od48 an48 : Option Addr} {sl48 : Array (Option Value)}
    {f49 : Addr} {oc49 kV49 dc49 pm49 cd49 ct49 : Value} {od49 an49 : Option Addr} {sl49 : Array (Option Value)}
    {f50 : Addr} {oc50 kV50 dc50 pm50 cd50 ct50 : Value} {od50 an50 : Option Addr} {sl50 : Array (Option Value)}
    {t0 : Tok}
    {t1 : Tok}
    {t2 : Tok}
    {t3 : Tok}
    {t4 : Tok}
    {t5 : Tok}
    {t6 : Tok}
    {t7 : Tok}
    (a0 : PySem.W.nsIn K mainGlobals "is_among" = some (some (.ref f0))) (l0 : K.lookup f0 = some ⟨oc0, od0, .func (PySem.W.fnOf "is_among" "is_among" (defArgs s_is_among) (defBody s_is_among) (defScope s_is_among) .none kV0 dc0 pm0 an0 cd0 ct0), sl0⟩) (c0 : PySem.W.codeIn K cd0 "is_among" = true) (k0 : PySem.W.keepIn K (.ref f0) = true)
    (a1 : PySem.W.nsIn K mainGlobals "is_truth" = some (some (.ref f1))) (l1 : K.lookup f1 = some ⟨oc1, od1, .func (PySem.W.fnOf "is_truth" "is_truth" (defArgs s_is_truth) (defBody s_is_truth) (defScope s_is_truth) .none kV1 dc1 pm1 an1 cd1 ct1), sl1⟩) (c1 : PySem.W.codeIn K cd1 "is_truth" = true) (k1 : PySem.W.keepIn K (.ref f1) = true)
    (a2 : PySem.W.nsIn K mainGlobals "is_quality" = some (some (.ref f2))) (l2 : K.lookup f2 = some ⟨oc2, od2, .func (PySem.W.fnOf "is_quality" "is_quality" (defArgs s_is_quality) (defBody s_is_quality) (defScope s_is_quality) .none kV2 dc2 pm2 an2 cd2 ct2), sl2⟩) (c2 : PySem.W.codeIn K cd2 "is_quality" = true) (k2 : PySem.W.keepIn K (.ref f2) = true)
    (a3 : PySem.W.nsIn K mainGlobals "are_rising" = some (some (.ref f3))) (l3 : K.lookup f3 = some ⟨oc3, od3, .func (PySem.W.fnOf "are_rising" "are_rising" (defArgs s_are_rising) (defBody s_are_rising) (defScope s_are_rising) .none kV3 dc3 pm3 an3 cd3 ct3), sl3⟩) (c3 : PySem.W.codeIn K cd3 "are_rising" = true) (k3 : PySem.W.keepIn K (.ref f3) = true)
    (a4 : PySem.W.nsIn K mainGlobals "need_rules" = some (some (.ref f4))) (l4 : K.lookup f4 = some ⟨oc4, od4, .func (PySem.W.fnOf "need_rules" "need_rules" (defArgs s_need_rules) (defBody s_need_rules) (defScope s_need_rules) .none kV4 dc4 pm4 an4 cd4 ct4), sl4⟩) (c4 : PySem.W.codeIn K cd4 "need_rules" = true) (k4 : PySem.W.keepIn K (.ref f4) = true)
    (a5 : PySem.W.nsIn K mainGlobals "is_number" = some (some (.ref f5))) (l5 : K.lookup f5 = some ⟨oc5, od5, .func (PySem.W.fnOf "is_number" "is_number" (defArgs s_is_number) (defBody s_is_number) (defScope s_is_number) .none kV5 dc5 pm5 an5 cd5 ct5), sl5⟩) (c5 : PySem.W.codeIn K cd5 "is_number" = true) (k5 : PySem.W.keepIn K (.ref f5) = true)
    (a6 : PySem.W.nsIn K mainGlobals "is_entry" = some (some (.ref f6))) (l6 : K.lookup f6 = some ⟨oc6, od6, .func (PySem.W.fnOf "is_entry" "is_entry" (defArgs s_is_entry) (defBody s_is_entry) (defScope s_is_entry) .none kV6 dc6 pm6 an6 cd6 ct6), sl6⟩) (c6 : PySem.W.codeIn K cd6 "is_entry" = true) (k6 : PySem.W.keepIn K (.ref f6) = true)
    (a7 : PySem.W.nsIn K mainGlobals "is_sender" = some (some (.ref f7))) (l7 : K.lookup f7 = some ⟨oc7, od7, .func (PySem.W.fnOf "is_sender" "is_sender" (defArgs s_is_sender) (defBody s_is_sender) (defScope s_is_sender) .none kV7 dc7 pm7 an7 cd7 ct7), sl7⟩) (c7 : PySem.W.codeIn K cd7 "is_sender" = true) (k7 : PySem.W.keepIn K (.ref f7) = true)
    (a8 : PySem.W.nsIn K mainGlobals "is_note" = some (some (.ref f8))) (l8 : K.lookup f8 = some ⟨oc8, od8, .func (PySem.W.fnOf "is_note" "is_note" (defArgs s_is_note) (defBody s_is_note) (defScope s_is_note) .none kV8 dc8 pm8 an8 cd8 ct8), sl8⟩) (c8 : PySem.W.codeIn K cd8 "is_note" = true) (k8 : PySem.W.keepIn K (.ref f8) = true)
    (a9 : PySem.W.nsIn K mainGlobals "is_receiver" = some (some (.ref f9))) (l9 : K.lookup f9 = some ⟨oc9, od9, .func (PySem.W.fnOf "is_receiver" "is_receiver" (defArgs s_is_receiver) (defBody s_is_receiver) (defScope s_is_receiver) .none kV9 dc9 pm9 an9 cd9 ct9), sl9⟩) (c9 : PySem.W.codeIn K cd9 "is_receiver" = true) (k9 : PySem.W.keepIn K (.ref f9) = true)
    (a10 : PySem.W.nsIn K mainGlobals "is_answer" = some (some (.ref f10))) (l10 : K.lookup f10 = some ⟨oc10, od10, .func (PySem.W.fnOf "is_answer" "is_answer" (defArgs s_is_answer) (defBody s_is_answer) (defScope s_is_answer) .none kV10 dc10 pm10 an10 cd10 ct10), sl10⟩) (c10 : PySem.W.codeIn K cd10 "is_answer" = true) (k10 : PySem.W.keepIn K (.ref f10) = true)
    (a11 : PySem.W.nsIn K mainGlobals "is_sent" = some (some (.ref f11))) (l11 : K.lookup f11 = some ⟨oc11, od11, .func (PySem.W.fnOf "is_sent" "is_sent" (defArgs s_is_sent) (defBody s_is_sent) (defScope s_is_sent) .none kV11 dc11 pm11 an11 cd11 ct11), sl11⟩) (c11 : PySem.W.codeIn K cd11 "is_sent" = true) (k11 : PySem.W.keepIn K (.ref f11) = true)
    (a12 : PySem.W.nsIn K mainGlobals "free_of" = some (some (.ref f12))) (l12 : K.lookup f12 = some ⟨oc12, od12, .func (PySem.W.fnOf "free_of" "free_of" (defArgs s_free_of) (defBody s_free_of) (defScope s_free_of) .none kV12 dc12 pm12 an12 cd12 ct12), sl12⟩) (c12 : PySem.W.codeIn K cd12 "free_of" = true) (k12 : PySem.W.keepIn K (.ref f12) = true)
    (a13 : PySem.W.nsIn K mainGlobals "is_busy" = some (some (.ref f13))) (l13 : K.lookup f13 = some ⟨oc13, od13, .func (PySem.W.fnOf "is_busy" "is_busy" (defArgs s_is_busy) (defBody s_is_busy) (defScope s_is_busy) .none kV13 dc13 pm13 an13 cd13 ct13), sl13⟩) (c13 : PySem.W.codeIn K cd13 "is_busy" = true) (k13 : PySem.W.keepIn K (.ref f13) = true)
    (a14 : PySem.W.nsIn K mainGlobals "offer" = some (some (.ref f14))) (l14 : K.lookup f14 = some ⟨oc14, od14, .func (PySem.W.fnOf "offer" "offer" (defArgs s_offer) (defBody s_offer) (defScope s_offer) .none kV14 dc14 pm14 an14 cd14 ct14), sl14⟩) (c14 : PySem.W.codeIn K cd14 "offer" = true) (k14 : PySem.W.keepIn K (.ref f14) = true)
    (a15 : PySem.W.nsIn K mainGlobals "answered" = some (some (.ref f15))) (l15 : K.lookup f15 = some ⟨oc15, od15, .func (PySem.W.fnOf "answered" "answered" (defArgs s_answered) (defBody s_answered) (defScope s_answered) .none kV15 dc15 pm15 an15 cd15 ct15), sl15⟩) (c15 : PySem.W.codeIn K cd15 "answered" = true) (k15 : PySem.W.keepIn K (.ref f15) = true)
    (a16 : PySem.W.nsIn K mainGlobals "sent_again" = some (some (.ref f16))) (l16 : K.lookup f16 = some ⟨oc16, od16, .func (PySem.W.fnOf "sent_again" "sent_again" (defArgs s_sent_again) (defBody s_sent_again) (defScope s_sent_again) .none kV16 dc16 pm16 an16 cd16 ct16), sl16⟩) (c16 : PySem.W.codeIn K cd16 "sent_again" = true) (k16 : PySem.W.keepIn K (.ref f16) = true)
    (a17 : PySem.W.nsIn K mainGlobals "noted" = some (some (.ref f17))) (l17 : K.lookup f17 = some ⟨oc17, od17, .func (PySem.W.fnOf "noted" "noted" (defArgs s_noted) (defBody s_noted) (defScope s_noted) .none kV17 dc17 pm17 an17 cd17 ct17), sl17⟩) (c17 : PySem.W.codeIn K cd17 "noted" = true) (k17 : PySem.W.keepIn K (.ref f17) = true)
    (a18 : PySem.W.nsIn K mainGlobals "published" = some (some (.ref f18))) (l18 : K.lookup f18 = some ⟨oc18, od18, .func (PySem.W.fnOf "published" "published" (defArgs s_published) (defBody s_published) (defScope s_published) .none kV18 dc18 pm18 an18 cd18 ct18), sl18⟩) (c18 : PySem.W.codeIn K cd18 "published" = true) (k18 : PySem.W.keepIn K (.ref f18) = true)
    (a19 : PySem.W.nsIn K mainGlobals "released" = some (some (.ref f19))) (l19 : K.lookup f19 = some ⟨oc19, od19, .func (PySem.W.fnOf "released" "released" (defArgs s_released) (defBody s_released) (defScope s_released) .none kV19 dc19 pm19 an19 cd19 ct19), sl19⟩) (c19 : PySem.W.codeIn K cd19 "released" = true) (k19 : PySem.W.keepIn K (.ref f19) = true)
    (a20 : PySem.W.nsIn K mainGlobals "received" = some (some (.ref f20))) (l20 : K.lookup f20 = some ⟨oc20, od20, .func (PySem.W.fnOf "received" "received" (defArgs s_received) (defBody s_received) (defScope s_received) .none kV20 dc20 pm20 an20 cd20 ct20), sl20⟩) (c20 : PySem.W.codeIn K cd20 "received" = true) (k20 : PySem.W.keepIn K (.ref f20) = true)
    (a21 : PySem.W.nsIn K mainGlobals "after_break" = some (some (.ref f21))) (l21 : K.lookup f21 = some ⟨oc21, od21, .func (PySem.W.fnOf "after_break" "after_break" (defArgs s_after_break) (defBody s_after_break) (defScope s_after_break) .none kV21 dc21 pm21 an21 cd21 ct21), sl21⟩) (c21 : PySem.W.codeIn K cd21 "after_break" = true) (k21 : PySem.W.keepIn K (.ref f21) = true)
    (a22 : PySem.W.nsIn K mainGlobals "is_line" = some (some (.ref f22))) (l22 : K.lookup f22 = some ⟨oc22, od22, .func (PySem.W.fnOf "is_line" "is_line" (defArgs s_is_line) (defBody s_is_line) (defScope s_is_line) .none kV22 dc22 pm22 an22 cd22 ct22), sl22⟩) (c22 : PySem.W.codeIn K cd22 "is_line" = true) (k22 : PySem.W.keepIn K (.ref f22) = true)
    (a23 : PySem.W.nsIn K mainGlobals "need_line" = some (some (.ref f23))) (l23 : K.lookup f23 = some ⟨oc23, od23, .func (PySem.W.fnOf "need_line" "need_line" (defArgs s_need_line) (defBody s_need_line) (defScope s_need_line) .none kV23 dc23 pm23 an23 cd23 ct23), sl23⟩) (c23 : PySem.W.codeIn K cd23 "need_line" = true) (k23 : PySem.W.keepIn K (.ref f23) = true)
    (a24 : PySem.W.nsIn K mainGlobals "first_of" = some (some (.ref f24))) (l24 : K.lookup f24 = some ⟨oc24, od24, .func (PySem.W.fnOf "first_of" "first_of" (defArgs s_first_of) (defBody s_first_of) (defScope s_first_of) .none kV24 dc24 pm24 an24 cd24 ct24), sl24⟩) (c24 : PySem.W.codeIn K cd24 "first_of" = true) (k24 : PySem.W.keepIn K (.ref f24) = true)
    (a25 : PySem.W.nsIn K mainGlobals "first_state" = some (some (.ref f25))) (l25 : K.lookup f25 = some ⟨oc25, od25, .func (PySem.W.fnOf "first_state" "first_state" (defArgs s_first_state) (defBody s_first_state) (defScope s_first_state) .none kV25 dc25 pm25 an25 cd25 ct25), sl25⟩) (c25 : PySem.W.codeIn K cd25 "first_state" = true) (k25 : PySem.W.keepIn K (.ref f25) = true)
    (a26 : PySem.W.nsIn K mainGlobals "ends_fit" = some (some (.ref f26))) (l26 : K.lookup f26 = some ⟨oc26, od26, .func (PySem.W.fnOf "ends_fit" "ends_fit" (defArgs s_ends_fit) (defBody s_ends_fit) (defScope s_ends_fit) .none kV26 dc26 pm26 an26 cd26 ct26), sl26⟩) (c26 : PySem.W.codeIn K cd26 "ends_fit" = true) (k26 : PySem.W.keepIn K (.ref f26) = true)
    (a27 : PySem.W.nsIn K mainGlobals "goes_forth" = some (some (.ref f27))) (l27 : K.lookup f27 = some ⟨oc27, od27, .func (PySem.W.fnOf "goes_forth" "goes_forth" (defArgs s_goes_forth) (defBody s_goes_forth) (defScope s_goes_forth) .none kV27 dc27 pm27 an27 cd27 ct27), sl27⟩) (c27 : PySem.W.codeIn K cd27 "goes_forth" = true) (k27 : PySem.W.keepIn K (.ref f27) = true)
    (a28 : PySem.W.nsIn K mainGlobals "goes_back" = some (some (.ref f28))) (l28 : K.lookup f28 = some ⟨oc28, od28, .func (PySem.W.fnOf "goes_back" "goes_back" (defArgs s_goes_back) (defBody s_goes_back) (defScope s_goes_back) .none kV28 dc28 pm28 an28 cd28 ct28), sl28⟩) (c28 : PySem.W.codeIn K cd28 "goes_back" = true) (k28 : PySem.W.keepIn K (.ref f28) = true)
    (a29 : PySem.W.nsIn K mainGlobals "are_under" = some (some (.ref f29))) (l29 : K.lookup f29 = some ⟨oc29, od29, .func (PySem.W.fnOf "are_under" "are_under" (defArgs s_are_under) (defBody s_are_under) (defScope s_are_under) .none kV29 dc29 pm29 an29 cd29 ct29), sl29⟩) (c29 : PySem.W.codeIn K cd29 "are_under" = true) (k29 : PySem.W.keepIn K (.ref f29) = true)
    (a30 : PySem.W.nsIn K mainGlobals "are_counts" = some (some (.ref f30))) (l30 : K.lookup f30 = some ⟨oc30, od30, .func (PySem.W.fnOf "are_counts" "are_counts" (defArgs s_are_counts) (defBody s_are_counts) (defScope s_are_counts) .none kV30 dc30 pm30 an30 cd30 ct30), sl30⟩) (c30 : PySem.W.codeIn K cd30 "are_counts" = true) (k30 : PySem.W.keepIn K (.ref f30) = true)
    (a31 : PySem.W.nsIn K mainGlobals "is_state" = some (some (.ref f31))) (l31 : K.lookup f31 = some ⟨oc31, od31, .func (PySem.W.fnOf "is_state" "is_state" (defArgs s_is_state) (defBody s_is_state) (defScope s_is_state) .none kV31 dc31 pm31 an31 cd31 ct31), sl31⟩) (c31 : PySem.W.codeIn K cd31 "is_state" = true) (k31 : PySem.W.keepIn K (.ref f31) = true)
    (a32 : PySem.W.nsIn K mainGlobals "need_state" = some (some (.ref f32))) (l32 : K.lookup f32 = some ⟨oc32, od32, .func (PySem.W.fnOf "need_state" "need_state" (defArgs s_need_state) (defBody s_need_state) (defScope s_need_state) .none kV32 dc32 pm32 an32 cd32 ct32), sl32⟩) (c32 : PySem.W.codeIn K cd32 "need_state" = true) (k32 : PySem.W.keepIn K (.ref f32) = true)
    (a33 : PySem.W.nsIn K mainGlobals "can_offer" = some (some (.ref f33))) (l33 : K.lookup f33 = some ⟨oc33, od33, .func (PySem.W.fnOf "can_offer" "can_offer" (defArgs s_can_offer) (defBody s_can_offer) (defScope s_can_offer) .none kV33 dc33 pm33 an33 cd33 ct33), sl33⟩) (c33 : PySem.W.codeIn K cd33 "can_offer" = true) (k33 : PySem.W.keepIn K (.ref f33) = true)
    (a34 : PySem.W.nsIn K mainGlobals "handed_on" = some (some (.ref f34))) (l34 : K.lookup f34 = some ⟨oc34, od34, .func (PySem.W.fnOf "handed_on" "handed_on" (defArgs s_handed_on) (defBody s_handed_on) (defScope s_handed_on) .none kV34 dc34 pm34 an34 cd34 ct34), sl34⟩) (c34 : PySem.W.codeIn K cd34 "handed_on" = true) (k34 : PySem.W.keepIn K (.ref f34) = true)
    (a35 : PySem.W.nsIn K mainGlobals "steps_in" = some (some (.ref f35))) (l35 : K.lookup f35 = some ⟨oc35, od35, .func (PySem.W.fnOf "steps_in" "steps_in" (defArgs s_steps_in) (defBody s_steps_in) (defScope s_steps_in) .none kV35 dc35 pm35 an35 cd35 ct35), sl35⟩) (c35 : PySem.W.codeIn K cd35 "steps_in" = true) (k35 : PySem.W.keepIn K (.ref f35) = true)
    (a36 : PySem.W.nsIn K mainGlobals "steps_from" = some (some (.ref f36))) (l36 : K.lookup f36 = some ⟨oc36, od36, .func (PySem.W.fnOf "steps_from" "steps_from" (defArgs s_steps_from) (defBody s_steps_from) (defScope s_steps_from) .none kV36 dc36 pm36 an36 cd36 ct36), sl36⟩) (c36 : PySem.W.codeIn K cd36 "steps_from" = true) (k36 : PySem.W.keepIn K (.ref f36) = true)
    (a37 : PySem.W.nsIn K mainGlobals "quiet_in" = some (some (.ref f37))) (l37 : K.lookup f37 = some ⟨oc37, od37, .func (PySem.W.fnOf "quiet_in" "quiet_in" (defArgs s_quiet_in) (defBody s_quiet_in) (defScope s_quiet_in) .none kV37 dc37 pm37 an37 cd37 ct37), sl37⟩) (c37 : PySem.W.codeIn K cd37 "quiet_in" = true) (k37 : PySem.W.keepIn K (.ref f37) = true)
    (a38 : PySem.W.nsIn K mainGlobals "bad_in" = some (some (.ref f38))) (l38 : K.lookup f38 = some ⟨oc38, od38, .func (PySem.W.fnOf "bad_in" "bad_in" (defArgs s_bad_in) (defBody s_bad_in) (defScope s_bad_in) .none kV38 dc38 pm38 an38 cd38 ct38), sl38⟩) (c38 : PySem.W.codeIn K cd38 "bad_in" = true) (k38 : PySem.W.keepIn K (.ref f38) = true)
    (a39 : PySem.W.nsIn K mainGlobals "is_bad" = some (some (.ref f39))) (l39 : K.lookup f39 = some ⟨oc39, od39, .func (PySem.W.fnOf "is_bad" "is_bad" (defArgs s_is_bad) (defBody s_is_bad) (defScope s_is_bad) .none kV39 dc39 pm39 an39 cd39 ct39), sl39⟩) (c39 : PySem.W.codeIn K cd39 "is_bad" = true) (k39 : PySem.W.keepIn K (.ref f39) = true)
    (a40 : PySem.W.nsIn K mainGlobals "judged" = some (some (.ref f40))) (l40 : K.lookup f40 = some ⟨oc40, od40, .func (PySem.W.fnOf "judged" "judged" (defArgs s_judged) (defBody s_judged) (defScope s_judged) .none kV40 dc40 pm40 an40 cd40 ct40), sl40⟩) (c40 : PySem.W.codeIn K cd40 "judged" = true) (k40 : PySem.W.keepIn K (.ref f40) = true)
    (a41 : PySem.W.nsIn K mainGlobals "fence_holds" = some (some (.ref f41))) (l41 : K.lookup f41 = some ⟨oc41, od41, .func (PySem.W.fnOf "fence_holds" "fence_holds" (defArgs s_fence_holds) (defBody s_fence_holds) (defScope s_fence_holds) .none kV41 dc41 pm41 an41 cd41 ct41), sl41⟩) (c41 : PySem.W.codeIn K cd41 "fence_holds" = true) (k41 : PySem.W.keepIn K (.ref f41) = true)
    (a42 : PySem.W.nsIn K mainGlobals "is_fence" = some (some (.ref f42))) (l42 : K.lookup f42 = some ⟨oc42, od42, .func (PySem.W.fnOf "is_fence" "is_fence" (defArgs s_is_fence) (defBody s_is_fence) (defScope s_is_fence) .none kV42 dc42 pm42 an42 cd42 ct42), sl42⟩) (c42 : PySem.W.codeIn K cd42 "is_fence" = true) (k42 : PySem.W.keepIn K (.ref f42) = true)
    (a43 : PySem.W.nsIn K mainGlobals "is_run" = some (some (.ref f43))) (l43 : K.lookup f43 = some ⟨oc43, od43, .func (PySem.W.fnOf "is_run" "is_run" (defArgs s_is_run) (defBody s_is_run) (defScope s_is_run) .none kV43 dc43 pm43 an43 cd43 ct43), sl43⟩) (c43 : PySem.W.codeIn K cd43 "is_run" = true) (k43 : PySem.W.keepIn K (.ref f43) = true)
    (a44 : PySem.W.nsIn K mainGlobals "_law_cell_at" = some (some (.ref f44))) (l44 : K.lookup f44 = some ⟨oc44, od44, .func (PySem.W.fnOf "_law_cell_at" "_law_cell_at" (defArgs s__law_cell_at) (defBody s__law_cell_at) (defScope s__law_cell_at) .none kV44 dc44 pm44 an44 cd44 ct44), sl44⟩) (c44 : PySem.W.codeIn K cd44 "_law_cell_at" = true) (k44 : PySem.W.keepIn K (.ref f44) = true)
    (a45 : PySem.W.nsIn K mainGlobals "_law_state" = some (some (.ref f45))) (l45 : K.lookup f45 = some ⟨oc45, od45, .func (PySem.W.fnOf "_law_state" "_law_state" (defArgs s__law_state) (defBody s__law_state) (defScope s__law_state) .none kV45 dc45 pm45 an45 cd45 ct45), sl45⟩) (c45 : PySem.W.codeIn K cd45 "_law_state" = true) (k45 : PySem.W.keepIn K (.ref f45) = true)
    (a46 : PySem.W.nsIn K mainGlobals "_law_take" = some (some (.ref f46))) (l46 : K.lookup f46 = some ⟨oc46, od46, .func (PySem.W.fnOf "_law_take" "_law_take" (defArgs s__law_take) (defBody s__law_take) (defScope s__law_take) .none kV46 dc46 pm46 an46 cd46 ct46), sl46⟩) (c46 : PySem.W.codeIn K cd46 "_law_take" = true) (k46 : PySem.W.keepIn K (.ref f46) = true)
    (a47 : PySem.W.nsIn K mainGlobals "_law_otherwise" = some (some (.ref f47))) (l47 : K.lookup f47 = some ⟨oc47, od47, .func (PySem.W.fnOf "_law_otherwise" "_law_otherwise" (defArgs s__law_otherwise) (defBody s__law_otherwise) (defScope s__law_otherwise) .none kV47 dc47 pm47 an47 cd47 ct47), sl47⟩) (c47 : PySem.W.codeIn K cd47 "_law_otherwise" = true) (k47 : PySem.W.keepIn K (.ref f47) = true)
    (a48 : PySem.W.nsIn K mainGlobals "_law_due" = some (some (.ref f48))) (l48 : K.lookup f48 = some ⟨oc48, od48, .func (PySem.W.fnOf "_law_due" "_law_due" (defArgs s__law_due) (defBody s__law_due) (defScope s__law_due) .none kV48 dc48 pm48 an48 cd48 ct48), sl48⟩) (c48 : PySem.W.codeIn K cd48 "_law_due" = true) (k48 : PySem.W.keepIn K (.ref f48) = true)
    (a49 : PySem.W.nsIn K mainGlobals "_law_run_right" = some (some (.ref f49))) (l49 : K.lookup f49 = some ⟨oc49, od49, .func (PySem.W.fnOf "_law_run_right" "_law_run_right" (defArgs s__law_run_right) (defBody s__law_run_right) (defScope s__law_run_right) .none kV49 dc49 pm49 an49 cd49 ct49), sl49⟩) (c49 : PySem.W.codeIn K cd49 "_law_run_right" = true) (k49 : PySem.W.keepIn K (.ref f49) = true)
    (a50 : PySem.W.nsIn K mainGlobals "law" = some (some (.ref f50))) (l50 : K.lookup f50 = some ⟨oc50, od50, .func (PySem.W.fnOf "law" "law" (defArgs s_law) (defBody s_law) (defScope s_law) .none kV50 dc50 pm50 an50 cd50 ct50), sl50⟩) (c50 : PySem.W.codeIn K cd50 "law" = true) (k50 : PySem.W.keepIn K (.ref f50) = true)
    (z0 : PySem.W.nsIn K mainGlobals "all" = some none)
    (z1 : PySem.W.nsIn K mainGlobals "any" = some none)
    (z2 : PySem.W.nsIn K mainGlobals "bool" = some none)
    (z3 : PySem.W.nsIn K mainGlobals "dict" = some none)
    (z4 : PySem.W.nsIn K mainGlobals "int" = some none)
    (z5 : PySem.W.nsIn K mainGlobals "isinstance" = some none)
    (z6 : PySem.W.nsIn K mainGlobals "len" = some none)
    (z7 : PySem.W.nsIn K mainGlobals "list" = some none)
    (z8 : PySem.W.nsIn K mainGlobals "max" = some none)
    (z9 : PySem.W.nsIn K mainGlobals "min" = some none)
    (z10 : PySem.W.nsIn K mainGlobals "range" = some none)
    (z11 : PySem.W.nsIn K mainGlobals "sorted" = some none)
    (z12 : PySem.W.nsIn K mainGlobals "str" = some none)
    (z13 : PySem.W.nsIn K mainGlobals "tuple" = some none)
    (z14 : PySem.W.nsIn K mainGlobals "zip" = some none)
    (qg0 : PySem.W.nsIn K mainGlobals "MANY_RULES" = some (some (.int (6) t0)))
    (qg1 : PySem.W.nsIn K mainGlobals "MOST_NUMBER" = some (some (.int (999) t1)))
    (qg2 : PySem.W.nsIn K mainGlobals "MOST_UNDER" = some (some (.int (12) t2)))
    (qg3 : PySem.W.nsIn K mainGlobals "MOST_WINDOW_ends" = some (some (.int (3) t3)))
    (qg4 : PySem.W.nsIn K mainGlobals "MOST_WINDOW_lines" = some (some (.int (2) t4)))
    (qg5 : PySem.W.nsIn K mainGlobals "MOST_WORDS" = some (some (.int (3) t5)))
    (qg6 : PySem.W.nsIn K mainGlobals "NO_WORD" = some (some (.int (-1) t6)))
    (qg7 : PySem.W.nsIn K mainGlobals "OFTEN" = some (some (.int (2) t7))) : Txt K mg :=
  ⟨(has_mk X G a0 l0 c0 k0 fun _ _ _ _ _ _ us hl => match us, hl with | [_, _, _], _ => rfl),
   (has_mk X G a1 l1 c1 k1 fun _ _ _ _ _ _ us hl => match us, hl with | [_], _ => rfl),
   (has_mk X G a2 l2 c2 k2 fun _ _ _ _ _ _ us hl => match us, hl with | [_], _ => rfl),
   (has_mk X G a3 l3 c3 k3 fun _ _ _ _ _ _ us hl => match us, hl with | [_], _ => rfl),
   (has_mk X G a4 l4 c4 k4 fun _ _ _ _ _ _ us hl => match us, hl with | [_], _ => rfl),
   (has_mk X G a5 l5 c5 k5 fun _ _ _ _ _ _ us hl => match us, hl with | [_], _ => rfl),
   (has_mk X G a6 l6 c6 k6 fun _ _ _ _ _ _ us hl => match us, hl with | [_], _ => rfl),
   (has_mk X G a7 l7 c7 k7 fun _ _ _ _ _ _ us hl => match us, hl with | [_], _ => rfl),
   (has_mk X G a8 l8 c8 k8 fun _ _ _ _ _ _ us hl => match us, hl with | [_], _ => rfl),
   (has_mk X G a9 l9 c9 k9 fun _ _ _ _ _ _ us hl => match us, hl with | [_], _ => rfl),
   (has_mk X G a10 l10 c10 k10 fun _ _ _ _ _ _ us hl => match us, hl with | [_], _ => rfl),
   (has_mk X G a11 l11 c11 k11 fun _ _ _ _ _ _ us hl => match us, hl with | [_], _ => rfl),
   (has_mk X G a12 l12 c12 k12 fun _ _ _ _ _ _ us hl => match us, hl with | [_, _], _ => rfl),
   (has_mk X G a13 l13 c13 k13 fun _ _ _ _ _ _ us hl => match us, hl with | [_, _], _ => rfl),
   (has_mk X G a14 l14 c14 k14 fun _ _ _ _ _ _ us hl => match us, hl with | [_, _, _, _], _ => rfl),
   (has_mk X G a15 l15 c15 k15 fun _ _ _ _ _ _ us hl => match us, hl with | [_, _, _], _ => rfl),
   (has_mk X G a16 l16 c16 k16 fun _ _ _ _ _ _ us hl => match us, hl with | [_, _], _ => rfl),
   (has_mk X G a17 l17 c17 k17 fun _ _ _ _ _ _ us hl => match us, hl with | [_], _ => rfl),
   (has_mk X G a18 l18 c18 k18 fun _ _ _ _ _ _ us hl => match us, hl with | [_, _, _], _ => rfl),
   (has_mk X G a19 l19 c19 k19 fun _ _ _ _ _ _ us hl => match us, hl with | [_, _, _], _ => rfl),
   (has_mk X G a20 l20 c20 k20 fun _ _ _ _ _ _ us hl => match us, hl with | [_, _, _], _ => rfl),
   (has_mk X G a21 l21 c21 k21 fun _ _ _ _ _ _ us hl => match us, hl with | [_, _], _ => rfl),
   (has_mk X G a22 l22 c22 k22 fun _ _ _ _ _ _ us hl => match us, hl with | [_], _ => rfl),
   (has_mk X G a23 l23 c23 k23 fun _ _ _ _ _ _ us hl => match us, hl with | [_], _ => rfl),
   (has_mk X G a24 l24 c24 k24 fun _ _ _ _ _ _ us hl => match us, hl with | [_], _ => rfl),
   (has_mk X G a25 l25 c25 k25 fun _ _ _ _ _ _ us hl => match us, hl with | [_], _ => rfl),
   (has_mk X G a26 l26 c26 k26 fun _ _ _ _ _ _ us hl => match us, hl with | [_, _, _], _ => rfl),
   (has_mk X G a27 l27 c27 k27 fun _ _ _ _ _ _ us hl => match us, hl with | [_, _], _ => rfl),
   (has_mk X G a28 l28 c28 k28 fun _ _ _ _ _ _ us hl => match us, hl with | [_, _], _ => rfl),
   (has_mk X G a29 l29 c29 k29 fun _ _ _ _ _ _ us hl => match us, hl with | [_], _ => rfl),
   (has_mk X G a30 l30 c30 k30 fun _ _ _ _ _ _ us hl => match us, hl with | [_, _], _ => rfl),
   (has_mk X G a31 l31 c31 k31 fun _ _ _ _ _ _ us hl => match us, hl with | [_, _], _ => rfl),
   (has_mk X G a32 l32 c32 k32 fun _ _ _ _ _ _ us hl => match us, hl with | [_, _], _ => rfl),
   (has_mk X G a33 l33 c33 k33 fun _ _ _ _ _ _ us hl => match us, hl with | [_, _], _ => rfl),
   (has_mk X G a34 l34 c34 k34 fun _ _ _ _ _ _ us hl => match us, hl with | [_, _, _], _ => rfl),
   (has_mk X G a35 l35 c35 k35 fun _ _ _ _ _ _ us hl => match us, hl with | [_, _, _], _ => rfl),
   (has_mk X G a36 l36 c36 k36 fun _ _ _ _ _ _ us hl => match us, hl with | [_, _, _], _ => rfl),
   (has_mk X G a37 l37 c37 k37 fun _ _ _ _ _ _ us hl => match us, hl with | [_, _], _ => rfl),
   (has_mk X G a38 l38 c38 k38 fun _ _ _ _ _ _ us hl => match us, hl with | [_, _], _ => rfl),
   (has_mk X G a39 l39 c39 k39 fun _ _ _ _ _ _ us hl => match us, hl with | [_, _], _ => rfl),
   (has_mk X G a40 l40 c40 k40 fun _ _ _ _ _ _ us hl => match us, hl with | [_, _], _ => rfl),
   (has_mk X G a41 l41 c41 k41 fun _ _ _ _ _ _ us hl => match us, hl with | [_, _, _], _ => rfl),
   (has_mk X G a42 l42 c42 k42 fun _ _ _ _ _ _ us hl => match us, hl with | [_, _, _], _ => rfl),
   (has_mk X G a43 l43 c43 k43 fun _ _ _ _ _ _ us hl => match us, hl with | [_, _, _], _ => rfl),
   (has_mk X G a44 l44 c44 k44 fun _ _ _ _ _ _ us hl => match us, hl with | [_, _], _ => rfl),
   (has_mk X G a45 l45 c45 k45 fun _ _ _ _ _ _ us hl => match us, hl with | [_, _], _ => rfl),
   (has_mk X G a46 l46 c46 k46 fun _ _ _ _ _ _ us hl => match us, hl with | [_, _], _ => rfl),
   (has_mk X G a47 l47 c47 k47 fun _ _ _ _ _ _ us hl => match us, hl with | [_], _ => rfl),
   (has_mk X G a48 l48 c48 k48 fun _ _ _ _ _ _ us hl => match us, hl with | [_, _], _ => rfl),
   (has_mk X G a49 l49 c49 k49 fun _ _ _ _ _ _ us hl => match us, hl with | [_, _, _], _ => rfl),
   (has_mk X G a50 l50 c50 k50 fun _ _ _ _ _ _ us hl => match us, hl with | [_], _ => rfl),
   (PySem.W.mg_none_of X G z0),
   (PySem.W.mg_none_of X G z1),
   (PySem.W.mg_none_of X G z2),
   (PySem.W.mg_none_of X G z3),
   (PySem.W.mg_none_of X G z4),
   (PySem.W.mg_none_of X G z5),
   (PySem.W.mg_none_of X G z6),
   (PySem.W.mg_none_of X G z7),
   (PySem.W.mg_none_of X G z8),
   (PySem.W.mg_none_of X G z9),
   (PySem.W.mg_none_of X G z10),
   (PySem.W.mg_none_of X G z11),
   (PySem.W.mg_none_of X G z12),
   (PySem.W.mg_none_of X G z13),
   (PySem.W.mg_none_of X G z14),
   (⟨_, PySem.W.mg_of X G qg0⟩),
   (⟨_, PySem.W.mg_of X G qg1⟩),
   (⟨_, PySem.W.mg_of X G qg2⟩),
   (⟨_, PySem.W.mg_of X G qg3⟩),
   (⟨_, PySem.W.mg_of X G qg4⟩),
   (⟨_, PySem.W.mg_of X G qg5⟩),
   (⟨_, PySem.W.mg_of X G qg6⟩),
   (⟨_, PySem.W.mg_of X G qg7⟩)⟩
theorem all_mk {l : PySem.W.OpenLaw} {w : World} {K : PySem.W.Frag} {h : Heap} {mg : Str → Option Value} {fa : Addr} (X : K.In h) (G : h.Ns mainGlobals mg) (hfa : mg "law" = some (.ref fa))
    {f0 : Addr} {oc0 kV0 dc0 pm0 cd0 ct0 : Value} {od0 an0 : Option Addr} {sl0 : Array (Option Value)}
    {f1 : Addr} {oc1 kV1 dc1 pm1 cd1 ct1 : Value} {od1 an1 : Option Addr} {sl1 : Array (Option Value)}
    {f2 : Addr} {oc2 kV2 dc2 pm2 cd2 ct2 : Value} {od2 an2 : Option Addr} {sl2 : Array (Option Value)}
    {f3 : Addr} {oc3 kV3 dc3 pm3 cd3 ct3 : Value} {od3 an3 : Option Addr} {sl3 : Array (Option Value)}
    {f4 : Addr} {oc4 kV4 dc4 pm4 cd4 ct4 : Value} {od4 an4 : Option Addr} {sl4 : Array (Option Value)}
    {f5 : Addr} {oc5 kV5 dc5 pm5 cd5 ct5 : Value} {od5 an5 : Option Addr} {sl5 : Array (Option Value)}
    {f6 : Addr} {oc6 kV6 dc6 pm6 cd6 ct6 : Value} {od6 an6 : Option Addr} {sl6 : Array (Option Value)}
    {f7 : Addr} {oc7 kV7 dc7 pm7 cd7 ct7 : Value} {od7 an7 : Option Addr} {sl7 : Array (Option Value)}
    {f8 : Addr} {oc8 kV8 dc8 pm8 cd8 ct8 : Value} {od8 an8 : Option Addr} {sl8 : Array (Option Value)}
    {f9 : Addr} {oc9 kV9 dc9 pm9 cd9 ct9 : Value} {od9 an9 : Option Addr} {sl9 : Array (Option Value)}
    {f10 : Addr} {oc10 kV10 dc10 pm10 cd10 ct10 : Value} {od10 an10 : Option Addr} {sl10 : Array (Option Value)}
    {f11 : Addr} {oc11 kV11 dc11 pm11 cd11 ct11 : Value} {od11 an11 : Option Addr} {sl11 : Array (Option Value)}
    {f12 : Addr} {oc12 kV12 dc12 pm12 cd12 ct12 : Value} {od12 an12 : Option Addr} {sl12 : Array (Option Value)}
    {f13 : Addr} {oc13 kV13 dc13 pm13 cd13 ct13 : Value} {od13 an13 : Option Addr} {sl13 : Array (Option Value)}
    {f14 : Addr} {oc14 kV14 dc14 pm14 cd14 ct14 : Value} {od14 an14 : Option Addr} {sl14 : Array (Option Value)}
    {f15 : Addr} {oc15 kV15 dc15 pm15 cd15 ct15 : Value} {od15 an15 : Option Addr} {sl15 : Array (Option Value)}
    {f16 : Addr} {oc16 kV16 dc16 pm16 cd16 ct16 : Value} {od16 an16 : Option Addr} {sl16 : Array (Option Value)}
    {f17 : Addr} {oc17 kV17 dc17 pm17 cd17 ct17 : Value} {od17 an17 : Option Addr} {sl17 : Array (Option Value)}
    {f18 : Addr} {oc18 kV18 dc18 pm18 cd18 ct18 : Value} {od18 an18 : Option Addr} {sl18 : Array (Option Value)}
    {f19 : Addr} {oc19 kV19 dc19 pm19 cd19 ct19 : Value} {od19 an19 : Option Addr} {sl19 : Array (Option Value)}
    {f20 : Addr} {oc20 kV20 dc20 pm20 cd20 ct20 : Value} {od20 an20 : Option Addr} {sl20 : Array (Option Value)}
    {f21 : Addr} {oc21 kV21 dc21 pm21 cd21 ct21 : Value} {od21 an21 : Option Addr} {sl21 : Array (Option Value)}
    {f22 : Addr} {oc22 kV22 dc22 pm22 cd22 ct22 : Value} {od22 an22 : Option Addr} {sl22 : Array (Option Value)}
    {f23 : Addr} {oc23 kV23 dc23 pm23 cd23 ct23 : Value} {od23 an23 : Option Addr} {sl23 : Array (Option Value)}
    {f24 : Addr} {oc24 kV24 dc24 pm24 cd24 ct24 : Value} {od24 an24 : Option Addr} {sl24 : Array (Option Value)}
    {f25 : Addr} {oc25 kV25 dc25 pm25 cd25 ct25 : Value} {od25 an25 : Option Addr} {sl25 : Array (Option Value)}
    {f26 : Addr} {oc26 kV26 dc26 pm26 cd26 ct26 : Value} {od26 an26 : Option Addr} {sl26 : Array (Option Value)}
    {f27 : Addr} {oc27 kV27 dc27 pm27 cd27 ct27 : Value} {od27 an27 : Option Addr} {sl27 : Array (Option Value)}
    {f28 : Addr} {oc28 kV28 dc28 pm28 cd28 ct28 : Value} {od28 an28 : Option Addr} {sl28 : Array (Option Value)}
    {f29 : Addr} {oc29 kV29 dc29 pm29 cd29 ct29 : Value} {od29 an29 : Option Addr} {sl29 : Array (Option Value)}
    {f30 : Addr} {oc30 kV30 dc30 pm30 cd30 ct30 : Value} {od30 an30 : Option Addr} {sl30 : Array (Option Value)}
    {f31 : Addr} {oc31 kV31 dc31 pm31 cd31 ct31 : Value} {od31 an31 : Option Addr} {sl31 : Array (Option Value)}
    {f32 : Addr} {oc32 kV32 dc32 pm32 cd32 ct32 : Value} {od32 an32 : Option Addr} {sl32 : Array (Option Value)}
    {f33 : Addr} {oc33 kV33 dc33 pm33 cd33 ct33 : Value} {od33 an33 : Option Addr} {sl33 : Array (Option Value)}
    {f34 : Addr} {oc34 kV34 dc34 pm34 cd34 ct34 : Value} {od34 an34 : Option Addr} {sl34 : Array (Option Value)}
    {f35 : Addr} {oc35 kV35 dc35 pm35 cd35 ct35 : Value} {od35 an35 : Option Addr} {sl35 : Array (Option Value)}
    {f36 : Addr} {oc36 kV36 dc36 pm36 cd36 ct36 : Value} {od36 an36 : Option Addr} {sl36 : Array (Option Value)}
    {f37 : Addr} {oc37 kV37 dc37 pm37 cd37 ct37 : Value} {od37 an37 : Option Addr} {sl37 : Array (Option Value)}
    {f38 : Addr} {oc38 kV38 dc38 pm38 cd38 ct38 : Value} {od38 an38 : Option Addr} {sl38 : Array (Option Value)}
    {f39 : Addr} {oc39 kV39 dc39 pm39 cd39 ct39 : Value} {od39 an39 : Option Addr} {sl39 : Array (Option Value)}
    {f40 : Addr} {oc40 kV40 dc40 pm40 cd40 ct40 : Value} {od40 an40 : Option Addr} {sl40 : Array (Option Value)}
    {f41 : Addr} {oc41 kV41 dc41 pm41 cd41 ct41 : Value} {od41 an41 : Option Addr} {sl41 : Array (Option Value)}
    {f42 : Addr} {oc42 kV42 dc42 pm42 cd42 ct42 : Value} {od42 an42 : Option Addr} {sl42 : Array (Option Value)}
    {f43 : Addr} {oc43 kV43 dc43 pm43 cd43 ct43 : Value} {od43 an43 : Option Addr} {sl43 : Array (Option Value)}
    {f44 : Addr} {oc44 kV44 dc44 pm44 cd44 ct44 : Value} {od44 an44 : Option Addr} {sl44 : Array (Option Value)}
    {f45 : Addr} {oc45 kV45 dc45 pm45 cd45 ct45 : Value} {od45 an45 : Option Addr} {sl45 : Array (Option Value)}
    {f46 : Addr} {oc46 kV46 dc46 pm46 cd46 ct46 : Value} {od46 an46 : Option Addr} {sl46 : Array (Option Value)}
    {f47 : Addr} {oc47 kV47 dc47 pm47 cd47 ct47 : Value} {od47 an47 : Option Addr} {sl47 : Array (Option Value)}
    {f48 : Addr} {oc48 kV48 dc48 pm48 cd48 ct48 : Value} {od48 an48 : Option Addr} {sl48 : Array (Option Value)}
    {f49 : Addr} {oc49 kV49 dc49 pm49 cd49 ct49 : Value} {od49 an49 : Option Addr} {sl49 : Array (Option Value)}
    {f50 : Addr} {oc50 kV50 dc50 pm50 cd50 ct50 : Value} {od50 an50 : Option Addr} {sl50 : Array (Option Value)}
    {t0 : Tok}
    {t1 : Tok}
    {t2 : Tok}
    {t3 : Tok}
    {t4 : Tok}
    {t5 : Tok}
    {t6 : Tok}
    {t7 : Tok}
    (a0 : PySem.W.nsIn K mainGlobals "is_among" = some (some (.ref f0))) (l0 : K.lookup f0 = some ⟨oc0, od0, .func (PySem.W.fnOf "is_among" "is_among" (defArgs s_is_among) (defBody s_is_among) (defScope s_is_among) .none kV0 dc0 pm0 an0 cd0 ct0), sl0⟩) (c0 : PySem.W.codeIn K cd0 "is_among" = true) (k0 : PySem.W.keepIn K (.ref f0) = true)
    (a1 : PySem.W.nsIn K mainGlobals "is_truth" = some (some (.ref f1))) (l1 : K.lookup f1 = some ⟨oc1, od1, .func (PySem.W.fnOf "is_truth" "is_truth" (defArgs s_is_truth) (defBody s_is_truth) (defScope s_is_truth) .none kV1 dc1 pm1 an1 cd1 ct1), sl1⟩) (c1 : PySem.W.codeIn K cd1 "is_truth" = true) (k1 : PySem.W.keepIn K (.ref f1) = true)
    (a2 : PySem.W.nsIn K mainGlobals "is_quality" = some (some (.ref f2))) (l2 : K.lookup f2 = some ⟨oc2, od2, .func (PySem.W.fnOf "is_quality" "is_quality" (defArgs s_is_quality) (defBody s_is_quality) (defScope s_is_quality) .none kV2 dc2 pm2 an2 cd2 ct2), sl2⟩) (c2 : PySem.W.codeIn K cd2 "is_quality" = true) (k2 : PySem.W.keepIn K (.ref f2) = true)
    (a3 : PySem.W.nsIn K mainGlobals "are_rising" = some (some (.ref f3))) (l3 : K.lookup f3 = some ⟨oc3, od3, .func (PySem.W.fnOf "are_rising" "are_rising" (defArgs s_are_rising) (defBody s_are_rising) (defScope s_are_rising) .none kV3 dc3 pm3 an3 cd3 ct3), sl3⟩) (c3 : PySem.W.codeIn K cd3 "are_rising" = true) (k3 : PySem.W.keepIn K (.ref f3) = true)
    (a4 : PySem.W.nsIn K mainGlobals "need_rules" = some (some (.ref f4))) (l4 : K.lookup f4 = some ⟨oc4, od4, .func (PySem.W.fnOf "need_rules" "need_rules" (defArgs s_need_rules) (defBody s_need_rules) (defScope s_need_rules) .none kV4 dc4 pm4 an4 cd4 ct4), sl4⟩) (c4 : PySem.W.codeIn K cd4 "need_rules" = true) (k4 : PySem.W.keepIn K (.ref f4) = true)
    (a5 : PySem.W.nsIn K mainGlobals "is_number" = some (some (.ref f5))) (l5 : K.lookup f5 = some ⟨oc5, od5, .func (PySem.W.fnOf "is_number" "is_number" (defArgs s_is_number) (defBody s_is_number) (defScope s_is_number) .none kV5 dc5 pm5 an5 cd5 ct5), sl5⟩) (c5 : PySem.W.codeIn K cd5 "is_number" = true) (k5 : PySem.W.keepIn K (.ref f5) = true)
    (a6 : PySem.W.nsIn K mainGlobals "is_entry" = some (some (.ref f6))) (l6 : K.lookup f6 = some ⟨oc6, od6, .func (PySem.W.fnOf "is_entry" "is_entry" (defArgs s_is_entry) (defBody s_is_entry) (defScope s_is_entry) .none kV6 dc6 pm6 an6 cd6 ct6), sl6⟩) (c6 : PySem.W.codeIn K cd6 "is_entry" = true) (k6 : PySem.W.keepIn K (.ref f6) = true)
    (a7 : PySem.W.nsIn K mainGlobals "is_sender" = some (some (.ref f7))) (l7 : K.lookup f7 = some ⟨oc7, od7, .func (PySem.W.fnOf "is_sender" "is_sender" (defArgs s_is_sender) (defBody s_is_sender) (defScope s_is_sender) .none kV7 dc7 pm7 an7 cd7 ct7), sl7⟩) (c7 : PySem.W.codeIn K cd7 "is_sender" = true) (k7 : PySem.W.keepIn K (.ref f7) = true)
    (a8 : PySem.W.nsIn K mainGlobals "is_note" = some (some (.ref f8))) (l8 : K.lookup f8 = some ⟨oc8, od8, .func (PySem.W.fnOf "is_note" "is_note" (defArgs s_is_note) (defBody s_is_note) (defScope s_is_note) .none kV8 dc8 pm8 an8 cd8 ct8), sl8⟩) (c8 : PySem.W.codeIn K cd8 "is_note" = true) (k8 : PySem.W.keepIn K (.ref f8) = true)
    (a9 : PySem.W.nsIn K mainGlobals "is_receiver" = some (some (.ref f9))) (l9 : K.lookup f9 = some ⟨oc9, od9, .func (PySem.W.fnOf "is_receiver" "is_receiver" (defArgs s_is_receiver) (defBody s_is_receiver) (defScope s_is_receiver) .none kV9 dc9 pm9 an9 cd9 ct9), sl9⟩) (c9 : PySem.W.codeIn K cd9 "is_receiver" = true) (k9 : PySem.W.keepIn K (.ref f9) = true)
    (a10 : PySem.W.nsIn K mainGlobals "is_answer" = some (some (.ref f10))) (l10 : K.lookup f10 = some ⟨oc10, od10, .func (PySem.W.fnOf "is_answer" "is_answer" (defArgs s_is_answer) (defBody s_is_answer) (defScope s_is_answer) .none kV10 dc10 pm10 an10 cd10 ct10), sl10⟩) (c10 : PySem.W.codeIn K cd10 "is_answer" = true) (k10 : PySem.W.keepIn K (.ref f10) = true)
    (a11 : PySem.W.nsIn K mainGlobals "is_sent" = some (some (.ref f11))) (l11 : K.lookup f11 = some ⟨oc11, od11, .func (PySem.W.fnOf "is_sent" "is_sent" (defArgs s_is_sent) (defBody s_is_sent) (defScope s_is_sent) .none kV11 dc11 pm11 an11 cd11 ct11), sl11⟩) (c11 : PySem.W.codeIn K cd11 "is_sent" = true) (k11 : PySem.W.keepIn K (.ref f11) = true)
    (a12 : PySem.W.nsIn K mainGlobals "free_of" = some (some (.ref f12))) (l12 : K.lookup f12 = some ⟨oc12, od12, .func (PySem.W.fnOf "free_of" "free_of" (defArgs s_free_of) (defBody s_free_of) (defScope s_free_of) .none kV12 dc12 pm12 an12 cd12 ct12), sl12⟩) (c12 : PySem.W.codeIn K cd12 "free_of" = true) (k12 : PySem.W.keepIn K (.ref f12) = true)
    (a13 : PySem.W.nsIn K mainGlobals "is_busy" = some (some (.ref f13))) (l13 : K.lookup f13 = some ⟨oc13, od13, .func (PySem.W.fnOf "is_busy" "is_busy" (defArgs s_is_busy) (defBody s_is_busy) (defScope s_is_busy) .none kV13 dc13 pm13 an13 cd13 ct13), sl13⟩) (c13 : PySem.W.codeIn K cd13 "is_busy" = true) (k13 : PySem.W.keepIn K (.ref f13) = true)
    (a14 : PySem.W.nsIn K mainGlobals "offer" = some (some (.ref f14))) (l14 : K.lookup f14 = some ⟨oc14, od14, .func (PySem.W.fnOf "offer" "offer" (defArgs s_offer) (defBody s_offer) (defScope s_offer) .none kV14 dc14 pm14 an14 cd14 ct14), sl14⟩) (c14 : PySem.W.codeIn K cd14 "offer" = true) (k14 : PySem.W.keepIn K (.ref f14) = true)
    (a15 : PySem.W.nsIn K mainGlobals "answered" = some (some (.ref f15))) (l15 : K.lookup f15 = some ⟨oc15, od15, .func (PySem.W.fnOf "answered" "answered" (defArgs s_answered) (defBody s_answered) (defScope s_answered) .none kV15 dc15 pm15 an15 cd15 ct15), sl15⟩) (c15 : PySem.W.codeIn K cd15 "answered" = true) (k15 : PySem.W.keepIn K (.ref f15) = true)
    (a16 : PySem.W.nsIn K mainGlobals "sent_again" = some (some (.ref f16))) (l16 : K.lookup f16 = some ⟨oc16, od16, .func (PySem.W.fnOf "sent_again" "sent_again" (defArgs s_sent_again) (defBody s_sent_again) (defScope s_sent_again) .none kV16 dc16 pm16 an16 cd16 ct16), sl16⟩) (c16 : PySem.W.codeIn K cd16 "sent_again" = true) (k16 : PySem.W.keepIn K (.ref f16) = true)
    (a17 : PySem.W.nsIn K mainGlobals "noted" = some (some (.ref f17))) (l17 : K.lookup f17 = some ⟨oc17, od17, .func (PySem.W.fnOf "noted" "noted" (defArgs s_noted) (defBody s_noted) (defScope s_noted) .none kV17 dc17 pm17 an17 cd17 ct17), sl17⟩) (c17 : PySem.W.codeIn K cd17 "noted" = true) (k17 : PySem.W.keepIn K (.ref f17) = true)
    (a18 : PySem.W.nsIn K mainGlobals "published" = some (some (.ref f18))) (l18 : K.lookup f18 = some ⟨oc18, od18, .func (PySem.W.fnOf "published" "published" (defArgs s_published) (defBody s_published) (defScope s_published) .none kV18 dc18 pm18 an18 cd18 ct18), sl18⟩) (c18 : PySem.W.codeIn K cd18 "published" = true) (k18 : PySem.W.keepIn K (.ref f18) = true)
    (a19 : PySem.W.nsIn K mainGlobals "released" = some (some (.ref f19))) (l19 : K.lookup f19 = some ⟨oc19, od19, .func (PySem.W.fnOf "released" "released" (defArgs s_released) (defBody s_released) (defScope s_released) .none kV19 dc19 pm19 an19 cd19 ct19), sl19⟩) (c19 : PySem.W.codeIn K cd19 "released" = true) (k19 : PySem.W.keepIn K (.ref f19) = true)
    (a20 : PySem.W.nsIn K mainGlobals "received" = some (some (.ref f20))) (l20 : K.lookup f20 = some ⟨oc20, od20, .func (PySem.W.fnOf "received" "received" (defArgs s_received) (defBody s_received) (defScope s_received) .none kV20 dc20 pm20 an20 cd20 ct20), sl20⟩) (c20 : PySem.W.codeIn K cd20 "received" = true) (k20 : PySem.W.keepIn K (.ref f20) = true)
    (a21 : PySem.W.nsIn K mainGlobals "after_break" = some (some (.ref f21))) (l21 : K.lookup f21 = some ⟨oc21, od21, .func (PySem.W.fnOf "after_break" "after_break" (defArgs s_after_break) (defBody s_after_break) (defScope s_after_break) .none kV21 dc21 pm21 an21 cd21 ct21), sl21⟩) (c21 : PySem.W.codeIn K cd21 "after_break" = true) (k21 : PySem.W.keepIn K (.ref f21) = true)
    (a22 : PySem.W.nsIn K mainGlobals "is_line" = some (some (.ref f22))) (l22 : K.lookup f22 = some ⟨oc22, od22, .func (PySem.W.fnOf "is_line" "is_line" (defArgs s_is_line) (defBody s_is_line) (defScope s_is_line) .none kV22 dc22 pm22 an22 cd22 ct22), sl22⟩) (c22 : PySem.W.codeIn K cd22 "is_line" = true) (k22 : PySem.W.keepIn K (.ref f22) = true)
    (a23 : PySem.W.nsIn K mainGlobals "need_line" = some (some (.ref f23))) (l23 : K.lookup f23 = some ⟨oc23, od23, .func (PySem.W.fnOf "need_line" "need_line" (defArgs s_need_line) (defBody s_need_line) (defScope s_need_line) .none kV23 dc23 pm23 an23 cd23 ct23), sl23⟩) (c23 : PySem.W.codeIn K cd23 "need_line" = true) (k23 : PySem.W.keepIn K (.ref f23) = true)
    (a24 : PySem.W.nsIn K mainGlobals "first_of" = some (some (.ref f24))) (l24 : K.lookup f24 = some ⟨oc24, od24, .func (PySem.W.fnOf "first_of" "first_of" (defArgs s_first_of) (defBody s_first_of) (defScope s_first_of) .none kV24 dc24 pm24 an24 cd24 ct24), sl24⟩) (c24 : PySem.W.codeIn K cd24 "first_of" = true) (k24 : PySem.W.keepIn K (.ref f24) = true)
    (a25 : PySem.W.nsIn K mainGlobals "first_state" = some (some (.ref f25))) (l25 : K.lookup f25 = some ⟨oc25, od25, .func (PySem.W.fnOf "first_state" "first_state" (defArgs s_first_state) (defBody s_first_state) (defScope s_first_state) .none kV25 dc25 pm25 an25 cd25 ct25), sl25⟩) (c25 : PySem.W.codeIn K cd25 "first_state" = true) (k25 : PySem.W.keepIn K (.ref f25) = true)
    (a26 : PySem.W.nsIn K mainGlobals "ends_fit" = some (some (.ref f26))) (l26 : K.lookup f26 = some ⟨oc26, od26, .func (PySem.W.fnOf "ends_fit" "ends_fit" (defArgs s_ends_fit) (defBody s_ends_fit) (defScope s_ends_fit) .none kV26 dc26 pm26 an26 cd26 ct26), sl26⟩) (c26 : PySem.W.codeIn K cd26 "ends_fit" = true) (k26 : PySem.W.keepIn K (.ref f26) = true)
    (a27 : PySem.W.nsIn K mainGlobals "goes_forth" = some (some (.ref f27))) (l27 : K.lookup f27 = some ⟨oc27, od27, .func (PySem.W.fnOf "goes_forth" "goes_forth" (defArgs s_goes_forth) (defBody s_goes_forth) (defScope s_goes_forth) .none kV27 dc27 pm27 an27 cd27 ct27), sl27⟩) (c27 : PySem.W.codeIn K cd27 "goes_forth" = true) (k27 : PySem.W.keepIn K (.ref f27) = true)
    (a28 : PySem.W.nsIn K mainGlobals "goes_back" = some (some (.ref f28))) (l28 : K.lookup f28 = some ⟨oc28, od28, .func (PySem.W.fnOf "goes_back" "goes_back" (defArgs s_goes_back) (defBody s_goes_back) (defScope s_goes_back) .none kV28 dc28 pm28 an28 cd28 ct28), sl28⟩) (c28 : PySem.W.codeIn K cd28 "goes_back" = true) (k28 : PySem.W.keepIn K (.ref f28) = true)
    (a29 : PySem.W.nsIn K mainGlobals "are_under" = some (some (.ref f29))) (l29 : K.lookup f29 = some ⟨oc29, od29, .func (PySem.W.fnOf "are_under" "are_under" (defArgs s_are_under) (defBody s_are_under) (defScope s_are_under) .none kV29 dc29 pm29 an29 cd29 ct29), sl29⟩) (c29 : PySem.W.codeIn K cd29 "are_under" = true) (k29 : PySem.W.keepIn K (.ref f29) = true)
    (a30 : PySem.W.nsIn K mainGlobals "are_counts" = some (some (.ref f30))) (l30 : K.lookup f30 = some ⟨oc30, od30, .func (PySem.W.fnOf "are_counts" "are_counts" (defArgs s_are_counts) (defBody s_are_counts) (defScope s_are_counts) .none kV30 dc30 pm30 an30 cd30 ct30), sl30⟩) (c30 : PySem.W.codeIn K cd30 "are_counts" = true) (k30 : PySem.W.keepIn K (.ref f30) = true)
    (a31 : PySem.W.nsIn K mainGlobals "is_state" = some (some (.ref f31))) (l31 : K.lookup f31 = some ⟨oc31, od31, .func (PySem.W.fnOf "is_state" "is_state" (defArgs s_is_state) (defBody s_is_state) (defScope s_is_state) .none kV31 dc31 pm31 an31 cd31 ct31), sl31⟩) (c31 : PySem.W.codeIn K cd31 "is_state" = true) (k31 : PySem.W.keepIn K (.ref f31) = true)
    (a32 : PySem.W.nsIn K mainGlobals "need_state" = some (some (.ref f32))) (l32 : K.lookup f32 = some ⟨oc32, od32, .func (PySem.W.fnOf "need_state" "need_state" (defArgs s_need_state) (defBody s_need_state) (defScope s_need_state) .none kV32 dc32 pm32 an32 cd32 ct32), sl32⟩) (c32 : PySem.W.codeIn K cd32 "need_state" = true) (k32 : PySem.W.keepIn K (.ref f32) = true)
    (a33 : PySem.W.nsIn K mainGlobals "can_offer" = some (some (.ref f33))) (l33 : K.lookup f33 = some ⟨oc33, od33, .func (PySem.W.fnOf "can_offer" "can_offer" (defArgs s_can_offer) (defBody s_can_offer) (defScope s_can_offer) .none kV33 dc33 pm33 an33 cd33 ct33), sl33⟩) (c33 : PySem.W.codeIn K cd33 "can_offer" = true) (k33 : PySem.W.keepIn K (.ref f33) = true)
    (a34 : PySem.W.nsIn K mainGlobals "handed_on" = some (some (.ref f34))) (l34 : K.lookup f34 = some ⟨oc34, od34, .func (PySem.W.fnOf "handed_on" "handed_on" (defArgs s_handed_on) (defBody s_handed_on) (defScope s_handed_on) .none kV34 dc34 pm34 an34 cd34 ct34), sl34⟩) (c34 : PySem.W.codeIn K cd34 "handed_on" = true) (k34 : PySem.W.keepIn K (.ref f34) = true)
    (a35 : PySem.W.nsIn K mainGlobals "steps_in" = some (some (.ref f35))) (l35 : K.lookup f35 = some ⟨oc35, od35, .func (PySem.W.fnOf "steps_in" "steps_in" (defArgs s_steps_in) (defBody s_steps_in) (defScope s_steps_in) .none kV35 dc35 pm35 an35 cd35 ct35), sl35⟩) (c35 : PySem.W.codeIn K cd35 "steps_in" = true) (k35 : PySem.W.keepIn K (.ref f35) = true)
    (a36 : PySem.W.nsIn K mainGlobals "steps_from" = some (some (.ref f36))) (l36 : K.lookup f36 = some ⟨oc36, od36, .func (PySem.W.fnOf "steps_from" "steps_from" (defArgs s_steps_from) (defBody s_steps_from) (defScope s_steps_from) .none kV36 dc36 pm36 an36 cd36 ct36), sl36⟩) (c36 : PySem.W.codeIn K cd36 "steps_from" = true) (k36 : PySem.W.keepIn K (.ref f36) = true)
    (a37 : PySem.W.nsIn K mainGlobals "quiet_in" = some (some (.ref f37))) (l37 : K.lookup f37 = some ⟨oc37, od37, .func (PySem.W.fnOf "quiet_in" "quiet_in" (defArgs s_quiet_in) (defBody s_quiet_in) (defScope s_quiet_in) .none kV37 dc37 pm37 an37 cd37 ct37), sl37⟩) (c37 : PySem.W.codeIn K cd37 "quiet_in" = true) (k37 : PySem.W.keepIn K (.ref f37) = true)
    (a38 : PySem.W.nsIn K mainGlobals "bad_in" = some (some (.ref f38))) (l38 : K.lookup f38 = some ⟨oc38, od38, .func (PySem.W.fnOf "bad_in" "bad_in" (defArgs s_bad_in) (defBody s_bad_in) (defScope s_bad_in) .none kV38 dc38 pm38 an38 cd38 ct38), sl38⟩) (c38 : PySem.W.codeIn K cd38 "bad_in" = true) (k38 : PySem.W.keepIn K (.ref f38) = true)
    (a39 : PySem.W.nsIn K mainGlobals "is_bad" = some (some (.ref f39))) (l39 : K.lookup f39 = some ⟨oc39, od39, .func (PySem.W.fnOf "is_bad" "is_bad" (defArgs s_is_bad) (defBody s_is_bad) (defScope s_is_bad) .none kV39 dc39 pm39 an39 cd39 ct39), sl39⟩) (c39 : PySem.W.codeIn K cd39 "is_bad" = true) (k39 : PySem.W.keepIn K (.ref f39) = true)
    (a40 : PySem.W.nsIn K mainGlobals "judged" = some (some (.ref f40))) (l40 : K.lookup f40 = some ⟨oc40, od40, .func (PySem.W.fnOf "judged" "judged" (defArgs s_judged) (defBody s_judged) (defScope s_judged) .none kV40 dc40 pm40 an40 cd40 ct40), sl40⟩) (c40 : PySem.W.codeIn K cd40 "judged" = true) (k40 : PySem.W.keepIn K (.ref f40) = true)
    (a41 : PySem.W.nsIn K mainGlobals "fence_holds" = some (some (.ref f41))) (l41 : K.lookup f41 = some ⟨oc41, od41, .func (PySem.W.fnOf "fence_holds" "fence_holds" (defArgs s_fence_holds) (defBody s_fence_holds) (defScope s_fence_holds) .none kV41 dc41 pm41 an41 cd41 ct41), sl41⟩) (c41 : PySem.W.codeIn K cd41 "fence_holds" = true) (k41 : PySem.W.keepIn K (.ref f41) = true)
    (a42 : PySem.W.nsIn K mainGlobals "is_fence" = some (some (.ref f42))) (l42 : K.lookup f42 = some ⟨oc42, od42, .func (PySem.W.fnOf "is_fence" "is_fence" (defArgs s_is_fence) (defBody s_is_fence) (defScope s_is_fence) .none kV42 dc42 pm42 an42 cd42 ct42), sl42⟩) (c42 : PySem.W.codeIn K cd42 "is_fence" = true) (k42 : PySem.W.keepIn K (.ref f42) = true)
    (a43 : PySem.W.nsIn K mainGlobals "is_run" = some (some (.ref f43))) (l43 : K.lookup f43 = some ⟨oc43, od43, .func (PySem.W.fnOf "is_run" "is_run" (defArgs s_is_run) (defBody s_is_run) (defScope s_is_run) .none kV43 dc43 pm43 an43 cd43 ct43), sl43⟩) (c43 : PySem.W.codeIn K cd43 "is_run" = true) (k43 : PySem.W.keepIn K (.ref f43) = true)
    (a44 : PySem.W.nsIn K mainGlobals "_law_cell_at" = some (some (.ref f44))) (l44 : K.lookup f44 = some ⟨oc44, od44, .func (PySem.W.fnOf "_law_cell_at" "_law_cell_at" (defArgs s__law_cell_at) (defBody s__law_cell_at) (defScope s__law_cell_at) .none kV44 dc44 pm44 an44 cd44 ct44), sl44⟩) (c44 : PySem.W.codeIn K cd44 "_law_cell_at" = true) (k44 : PySem.W.keepIn K (.ref f44) = true)
    (a45 : PySem.W.nsIn K mainGlobals "_law_state" = some (some (.ref f45))) (l45 : K.lookup f45 = some ⟨oc45, od45, .func (PySem.W.fnOf "_law_state" "_law_state" (defArgs s__law_state) (defBody s__law_state) (defScope s__law_state) .none kV45 dc45 pm45 an45 cd45 ct45), sl45⟩) (c45 : PySem.W.codeIn K cd45 "_law_state" = true) (k45 : PySem.W.keepIn K (.ref f45) = true)
    (a46 : PySem.W.nsIn K mainGlobals "_law_take" = some (some (.ref f46))) (l46 : K.lookup f46 = some ⟨oc46, od46, .func (PySem.W.fnOf "_law_take" "_law_take" (defArgs s__law_take) (defBody s__law_take) (defScope s__law_take) .none kV46 dc46 pm46 an46 cd46 ct46), sl46⟩) (c46 : PySem.W.codeIn K cd46 "_law_take" = true) (k46 : PySem.W.keepIn K (.ref f46) = true)
    (a47 : PySem.W.nsIn K mainGlobals "_law_otherwise" = some (some (.ref f47))) (l47 : K.lookup f47 = some ⟨oc47, od47, .func (PySem.W.fnOf "_law_otherwise" "_law_otherwise" (defArgs s__law_otherwise) (defBody s__law_otherwise) (defScope s__law_otherwise) .none kV47 dc47 pm47 an47 cd47 ct47), sl47⟩) (c47 : PySem.W.codeIn K cd47 "_law_otherwise" = true) (k47 : PySem.W.keepIn K (.ref f47) = true)
    (a48 : PySem.W.nsIn K mainGlobals "_law_due" = some (some (.ref f48))) (l48 : K.lookup f48 = some ⟨oc48, od48, .func (PySem.W.fnOf "_law_due" "_law_due" (defArgs s__law_due) (defBody s__law_due) (defScope s__law_due) .none kV48 dc48 pm48 an48 cd48 ct48), sl48⟩) (c48 : PySem.W.codeIn K cd48 "_law_due" = true) (k48 : PySem.W.keepIn K (.ref f48) = true)
    (a49 : PySem.W.nsIn K mainGlobals "_law_run_right" = some (some (.ref f49))) (l49 : K.lookup f49 = some ⟨oc49, od49, .func (PySem.W.fnOf "_law_run_right" "_law_run_right" (defArgs s__law_run_right) (defBody s__law_run_right) (defScope s__law_run_right) .none kV49 dc49 pm49 an49 cd49 ct49), sl49⟩) (c49 : PySem.W.codeIn K cd49 "_law_run_right" = true) (k49 : PySem.W.keepIn K (.ref f49) = true)
    (a50 : PySem.W.nsIn K mainGlobals "law" = some (some (.ref f50))) (l50 : K.lookup f50 = some ⟨oc50, od50, .func (PySem.W.fnOf "law" "law" (defArgs s_law) (defBody s_law) (defScope s_law) .none kV50 dc50 pm50 an50 cd50 ct50), sl50⟩) (c50 : PySem.W.codeIn K cd50 "law" = true) (k50 : PySem.W.keepIn K (.ref f50) = true)
    (z0 : PySem.W.nsIn K mainGlobals "all" = some none)
    (z1 : PySem.W.nsIn K mainGlobals "any" = some none)
    (z2 : PySem.W.nsIn K mainGlobals "bool" = some none)
    (z3 : PySem.W.nsIn K mainGlobals "dict" = some none)
    (z4 : PySem.W.nsIn K mainGlobals "int" = some none)
    (z5 : PySem.W.nsIn K mainGlobals "isinstance" = some none)
    (z6 : PySem.W.nsIn K mainGlobals "len" = some none)
    (z7 : PySem.W.nsIn K mainGlobals "list" = some none)
    (z8 : PySem.W.nsIn K mainGlobals "max" = some none)
    (z9 : PySem.W.nsIn K mainGlobals "min" = some none)
    (z10 : PySem.W.nsIn K mainGlobals "range" = some none)
    (z11 : PySem.W.nsIn K mainGlobals "sorted" = some none)
    (z12 : PySem.W.nsIn K mainGlobals "str" = some none)
    (z13 : PySem.W.nsIn K mainGlobals "tuple" = some none)
    (z14 : PySem.W.nsIn K mainGlobals "zip" = some none)
    (qg0 : PySem.W.nsIn K mainGlobals "MANY_RULES" = some (some (.int (6) t0)))
    (qg1 : PySem.W.nsIn K mainGlobals "MOST_NUMBER" = some (some (.int (999) t1)))
    (qg2 : PySem.W.nsIn K mainGlobals "MOST_UNDER" = some (some (.int (12) t2)))
    (qg3 : PySem.W.nsIn K mainGlobals "MOST_WINDOW_ends" = some (some (.int (3) t3)))
    (qg4 : PySem.W.nsIn K mainGlobals "MOST_WINDOW_lines" = some (some (.int (2) t4)))
    (qg5 : PySem.W.nsIn K mainGlobals "MOST_WORDS" = some (some (.int (3) t5)))
    (qg6 : PySem.W.nsIn K mainGlobals "NO_WORD" = some (some (.int (-1) t6)))
    (qg7 : PySem.W.nsIn K mainGlobals "OFTEN" = some (some (.int (2) t7))) :
    ∃ fd : FuncData, (∀ (s : Shared) (v : Value), BindsTo s fd ⟨[v], []⟩ [("_law_script", v)]) ∧ ∀ base : Heap, K.In base → base.Ns mainGlobals mg → FnOk l.prog w K mg base CX0 10 fa fd ["_law_script"] (spLaw K) := by
  have e := hfa.symm.trans (PySem.W.mg_of X G a50)
  cases e
  have T : Txt K mg := txt_mk X G a0 l0 c0 k0 a1 l1 c1 k1 a2 l2 c2 k2 a3 l3 c3 k3 a4 l4 c4 k4 a5 l5 c5 k5 a6 l6 c6 k6 a7 l7 c7 k7 a8 l8 c8 k8 a9 l9 c9 k9 a10 l10 c10 k10 a11 l11 c11 k11 a12 l12 c12 k12 a13 l13 c13 k13 a14 l14 c14 k14 a15 l15 c15 k15 a16 l16 c16 k16 a17 l17 c17 k17 a18 l18 c18 k18 a19 l19 c19 k19 a20 l20 c20 k20 a21 l21 c21 k21 a22 l22 c22 k22 a23 l23 c23 k23 a24 l24 c24 k24 a25 l25 c25 k25 a26 l26 c26 k26 a27 l27 c27 k27 a28 l28 c28 k28 a29 l29 c29 k29 a30 l30 c30 k30 a31 l31 c31 k31 a32 l32 c32 k32 a33 l33 c33 k33 a34 l34 c34 k34 a35 l35 c35 k35 a36 l36 c36 k36 a37 l37 c37 k37 a38 l38 c38 k38 a39 l39 c39 k39 a40 l40 c40 k40 a41 l41 c41 k41 a42 l42 c42 k42 a43 l43 c43 k43 a44 l44 c44 k44 a45 l45 c45 k45 a46 l46 c46 k46 a47 l47 c47 k47 a48 l48 c48 k48 a49 l49 c49 k49 a50 l50 c50 k50 z0 z1 z2 z3 z4 z5 z6 z7 z8 z9 z10 z11 z12 z13 z14 qg0 qg1 qg2 qg3 qg4 qg5 qg6 qg7
  exact ⟨_, fun s v => .of_eq rfl, fun base _ _ => law_ok T (fun_mk (st := s_law) l50 c50 k50)⟩
end Wf
open PySem PySem.W PyProof.Rows
set_option maxRecDepth 100000 in
set_option maxHeartbeats 0 in
theorem PySem.Challenge.cw_wordferry_k38_whole_each_rule_otherwise_holds : PySem.Challenge.rw_wordferry_k38_whole_each_rule_otherwise.Holds := by
  w_on; o_law; k_head; (case hw => w_witness2)
  k_fill
  refine L2.walk_of (l := PySem.Challenge.rw_wordferry_k38_whole_each_rule_otherwise) (n := 63) (k := 10) (x := "_law_script") (CX := fun _ => L2.CX0) (sp := fun w => Wf.spLaw _) rfl (by decide) rfl ⟨rfl, by decide, by decide⟩ (fun w h Y => PySem.W.kIn_of Y) ?F (fun _ _ a ns hl _ hS => ⟨a, ns, rfl, hS, hl, fun _ => rfl⟩) (fun _ _ _ _ _ h => h)
  case F =>
    intro w mg fa h KX G hmg
    refine' Wf.all_mk KX G hmg ?a0 ?l0 ?c0 ?k0 ?a1 ?l1 ?c1 ?k1 ?a2 ?l2 ?c2 ?k2 ?a3 ?l3 ?c3 ?k3 ?a4 ?l4 ?c4 ?k4 ?a5 ?l5 ?c5 ?k5 ?a6 ?l6 ?c6 ?k6 ?a7 ?l7 ?c7 ?k7 ?a8 ?l8 ?c8 ?k8 ?a9 ?l9 ?c9 ?k9 ?a10 ?l10 ?c10 ?k10 ?a11 ?l11 ?c11 ?k11 ?a12 ?l12 ?c12 ?k12 ?a13 ?l13 ?c13 ?k13 ?a14 ?l14 ?c14 ?k14 ?a15 ?l15 ?c15 ?k15 ?a16 ?l16 ?c16 ?k16 ?a17 ?l17 ?c17 ?k17 ?a18 ?l18 ?c18 ?k18 ?a19 ?l19 ?c19 ?k19 ?a20 ?l20 ?c20 ?k20 ?a21 ?l21 ?c21 ?k21 ?a22 ?l22 ?c22 ?k22 ?a23 ?l23 ?c23 ?k23 ?a24 ?l24 ?c24 ?k24 ?a25 ?l25 ?c25 ?k25 ?a26 ?l26 ?c26 ?k26 ?a27 ?l27 ?c27 ?k27 ?a28 ?l28 ?c28 ?k28 ?a29 ?l29 ?c29 ?k29 ?a30 ?l30 ?c30 ?k30 ?a31 ?l31 ?c31 ?k31 ?a32 ?l32 ?c32 ?k32 ?a33 ?l33 ?c33 ?k33 ?a34 ?l34 ?c34 ?k34 ?a35 ?l35 ?c35 ?k35 ?a36 ?l36 ?c36 ?k36 ?a37 ?l37 ?c37 ?k37 ?a38 ?l38 ?c38 ?k38 ?a39 ?l39 ?c39 ?k39 ?a40 ?l40 ?c40 ?k40 ?a41 ?l41 ?c41 ?k41 ?a42 ?l42 ?c42 ?k42 ?a43 ?l43 ?c43 ?k43 ?a44 ?l44 ?c44 ?k44 ?a45 ?l45 ?c45 ?k45 ?a46 ?l46 ?c46 ?k46 ?a47 ?l47 ?c47 ?k47 ?a48 ?l48 ?c48 ?k48 ?a49 ?l49 ?c49 ?k49 ?a50 ?l50 ?c50 ?k50 ?z0 ?z1 ?z2 ?z3 ?z4 ?z5 ?z6 ?z7 ?z8 ?z9 ?z10 ?z11 ?z12 ?z13 ?z14 ?qg0 ?qg1 ?qg2 ?qg3 ?qg4 ?qg5 ?qg6 ?qg7
    (case a0 => k_is); (case l0 => k_is); (case c0 => k_is); (case k0 => k_is); (case a1 => k_is); (case l1 => k_is); (case c1 => k_is); (case k1 => k_is); (case a2 => k_is); (case l2 => k_is); (case c2 => k_is); (case k2 => k_is); (case a3 => k_is); (case l3 => k_is); (case c3 => k_is); (case k3 => k_is); (case a4 => k_is); (case l4 => k_is); (case c4 => k_is); (case k4 => k_is); (case a5 => k_is); (case l5 => k_is); (case c5 => k_is); (case k5 => k_is); (case a6 => k_is); (case l6 => k_is); (case c6 => k_is); (case k6 => k_is); (case a7 => k_is); (case l7 => k_is); (case c7 => k_is); (case k7 => k_is); (case a8 => k_is); (case l8 => k_is); (case c8 => k_is); (case k8 => k_is); (case a9 => k_is); (case l9 => k_is); (case c9 => k_is); (case k9 => k_is); (case a10 => k_is); (case l10 => k_is); (case c10 => k_is); (case k10 => k_is); (case a11 => k_is); (case l11 => k_is); (case c11 => k_is); (case k11 => k_is); (case a12 => k_is); (case l12 => k_is); (case c12 => k_is); (case k12 => k_is); (case a13 => k_is); (case l13 => k_is); (case c13 => k_is); (case k13 => k_is); (case a14 => k_is); (case l14 => k_is); (case c14 => k_is); (case k14 => k_is); (case a15 => k_is); (case l15 => k_is); (case c15 => k_is); (case k15 => k_is); (case a16 => k_is); (case l16 => k_is); (case c16 => k_is); (case k16 => k_is); (case a17 => k_is); (case l17 => k_is); (case c17 => k_is); (case k17 => k_is); (case a18 => k_is); (case l18 => k_is); (case c18 => k_is); (case k18 => k_is); (case a19 => k_is); (case l19 => k_is); (case c19 => k_is); (case k19 => k_is); (case a20 => k_is); (case l20 => k_is); (case c20 => k_is); (case k20 => k_is); (case a21 => k_is); (case l21 => k_is); (case c21 => k_is); (case k21 => k_is); (case a22 => k_is); (case l22 => k_is); (case c22 => k_is); (case k22 => k_is); (case a23 => k_is); (case l23 => k_is); (case c23 => k_is); (case k23 => k_is); (case a24 => k_is); (case l24 => k_is); (case c24 => k_is); (case k24 => k_is); (case a25 => k_is); (case l25 => k_is); (case c25 => k_is); (case k25 => k_is); (case a26 => k_is); (case l26 => k_is); (case c26 => k_is); (case k26 => k_is); (case a27 => k_is); (case l27 => k_is); (case c27 => k_is); (case k27 => k_is); (case a28 => k_is); (case l28 => k_is); (case c28 => k_is); (case k28 => k_is); (case a29 => k_is); (case l29 => k_is); (case c29 => k_is); (case k29 => k_is); (case a30 => k_is); (case l30 => k_is); (case c30 => k_is); (case k30 => k_is); (case a31 => k_is); (case l31 => k_is); (case c31 => k_is); (case k31 => k_is); (case a32 => k_is); (case l32 => k_is); (case c32 => k_is); (case k32 => k_is); (case a33 => k_is); (case l33 => k_is); (case c33 => k_is); (case k33 => k_is); (case a34 => k_is); (case l34 => k_is); (case c34 => k_is); (case k34 => k_is); (case a35 => k_is); (case l35 => k_is); (case c35 => k_is); (case k35 => k_is); (case a36 => k_is); (case l36 => k_is); (case c36 => k_is); (case k36 => k_is); (case a37 => k_is); (case l37 => k_is); (case c37 => k_is); (case k37 => k_is); (case a38 => k_is); (case l38 => k_is); (case c38 => k_is); (case k38 => k_is); (case a39 => k_is); (case l39 => k_is); (case c39 => k_is); (case k39 => k_is); (case a40 => k_is); (case l40 => k_is); (case c40 => k_is); (case k40 => k_is); (case a41 => k_is); (case l41 => k_is); (case c41 => k_is); (case k41 => k_is); (case a42 => k_is); (case l42 => k_is); (case c42 => k_is); (case k42 => k_is); (case a43 => k_is); (case l43 => k_is); (case c43 => k_is); (case k43 => k_is); (case a44 => k_is); (case l44 => k_is); (case c44 => k_is); (case k44 => k_is); (case a45 => k_is); (case l45 => k_is); (case c45 => k_is); (case k45 => k_is); (case a46 => k_is); (case l46 => k_is); (case c46 => k_is); (case k46 => k_is); (case a47 => k_is); (case l47 => k_is); (case c47 => k_is); (case k47 => k_is); (case a48 => k_is); (case l48 => k_is); (case c48 => k_is); (case k48 => k_is); (case a49 => k_is); (case l49 => k_is); (case c49 => k_is); (case k49 => k_is); (case a50 => k_is); (case l50 => k_is); (case c50 => k_is); (case k50 => k_is); (case z0 => k_is); (case z1 => k_is); (case z2 => k_is); (case z3 => k_is); (case z4 => k_is); (case z5 => k_is); (case z6 => k_is); (case z7 => k_is); (case z8 => k_is); (case z9 => k_is); (case z10 => k_is); (case z11 => k_is); (case z12 => k_is); (case z13 => k_is); (case z14 => k_is); (case qg0 => k_is); (case qg1 => k_is); (case qg2 => k_is); (case qg3 => k_is); (case qg4 => k_is); (case qg5 => k_is); (case qg6 => k_is); (case qg7 => k_is)
