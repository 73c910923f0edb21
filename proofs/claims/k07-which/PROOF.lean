import PyProof.Rows.All
import Wide.All
import OpenK.AllK
import Wide.FinOn
import HandS.ForMost
import HandS.ForExc
import HandS.IsInst
import HandS.ExcIs
import HandS.Flow
import HandS.WideBits
import HandS.Codes
import HandS.TupAny
import HandS.SetBool
import HandS.Conv
import HandS.TupLen
import HandS.Walk
import HandS.Deep
import HandS.SortKw
import KE.KDictDisplayH
import KE.DataMinMax
import KE.KDictPairs
import PySem.Challenge.RW_relayroom_k07_judged_which
set_option Elab.async false
set_option linter.all false
set_option maxRecDepth 100000
namespace Rl
open PySem L2
/-! ### words -/
inductive W where
  | on | off | relay (k : Int) | button (k : Int) | not (w : W) | and (a b : W) | or (a b : W)
  deriving DecidableEq
def W.depth : W → Nat
  | .not w => w.depth + 1
  | .and a b => max a.depth b.depth + 1
  | .or a b => max a.depth b.depth + 1
  | _ => 1
/-- all contacts are there: n relays, m buttons -/
def W.wired (n m : Nat) : W → Prop
  | .on => True
  | .off => True
  | .relay k => 0 ≤ k ∧ k < (n : Int)
  | .button k => 0 ≤ k ∧ k < (m : Int)
  | .not w => w.wired n m
  | .and a b => a.wired n m ∧ b.wired n m
  | .or a b => a.wired n m ∧ b.wired n m
theorem W.depth_pos : ∀ w : W, 1 ≤ w.depth
  | .on => Nat.le_refl _
  | .off => Nat.le_refl _
  | .relay _ => Nat.le_refl _
  | .button _ => Nat.le_refl _
  | .not _ => Nat.le_add_left _ _
  | .and _ _ => Nat.le_add_left _ _
  | .or _ _ => Nat.le_add_left _ _
def W.eval (st pr : List Bool) : W → Bool
  | .on => true
  | .off => false
  | .relay k => st.getD k.toNat false
  | .button k => pr.getD k.toNat false
  | .not w => !w.eval st pr
  | .and a b => a.eval st pr && b.eval st pr
  | .or a b => a.eval st pr || b.eval st pr
/-- a word stands at a -/
def WA (H : Hp) : W → Addr → Prop
  | .on, a => H a = some (.tup [.str "on"])
  | .off, a => H a = some (.tup [.str "off"])
  | .relay k, a => H a = some (.tup [.str "relay", .int k])
  | .button k, a => H a = some (.tup [.str "button", .int k])
  | .not w, a => ∃ b, H a = some (.tup [.str "not", .ref b]) ∧ WA H w b
  | .and x y, a => ∃ b c, H a = some (.tup [.str "and", .ref b, .ref c]) ∧ WA H x b ∧ WA H y c
  | .or x y, a => ∃ b c, H a = some (.tup [.str "or", .ref b, .ref c]) ∧ WA H x b ∧ WA H y c
/-- tuples stay -/
def Tk (H H' : Hp) : Prop := ∀ b xs, H b = some (.tup xs) → H' b = some (.tup xs)
theorem Tk.refl (H : Hp) : Tk H H := fun _ _ h => h
theorem Tk.trans {H H1 H2 : Hp} (a : Tk H H1) (b : Tk H1 H2) : Tk H H2 := fun c o h => b c o (a c o h)
theorem Same.tk {H H' : Hp} (s : Same H H') : Tk H H' := fun b xs h => s b _ h
theorem Tk.lst {H : Hp} {D : Addr} {xs ys : List V} (h : H D = some (.lst xs)) : Tk H (upd H D (.lst ys)) := fun b zs q => by
  rw [upd_ne (ne_of q h (by intro z; cases z))]; exact q
theorem Tk.new {H : Hp} {p : Addr} {o : HO} (h : H p = none) : Tk H (upd H p o) := fun b zs q => by
  rw [upd_ne (ne_of_none q h)]; exact q
theorem Same.new {H : Hp} {p : Addr} {o : HO} (h : H p = none) : Same H (upd H p o) := fun b u q => by rw [upd_ne (ne_of_none q h)]; exact q
theorem Same.get {H H' : Hp} {b : Addr} {o : HO} (s : Same H H') (h : H b = some o) : H' b = some o := s b o h
theorem Same.lst {H0 H : Hp} {D : Addr} {o : HO} (h : Same H0 H) (n : H0 D = none) : Same H0 (upd H D o) := fun b u q => by
  rw [upd_ne (ne_of_none q n)]; exact h b u q
theorem WA.tk : ∀ {w : W} {H H' : Hp} {a : Addr}, Tk H H' → WA H w a → WA H' w a
  | .on, _, _, _, t, h => t _ _ h
  | .off, _, _, _, t, h => t _ _ h
  | .relay _, _, _, _, t, h => t _ _ h
  | .button _, _, _, _, t, h => t _ _ h
  | .not _, _, _, _, t, h => let ⟨b, e, q⟩ := h; ⟨b, t _ _ e, WA.tk t q⟩
  | .and _ _, _, _, _, t, h => let ⟨b, c, e, q, r⟩ := h; ⟨b, c, t _ _ e, WA.tk t q, WA.tk t r⟩
  | .or _ _, _, _, _, t, h => let ⟨b, c, e, q, r⟩ := h; ⟨b, c, t _ _ e, WA.tk t q, WA.tk t r⟩
theorem WA.same {w : W} {H H' : Hp} {a : Addr} (s : Same H H') (h : WA H w a) : WA H' w a := WA.tk (Same.tk s) h
/-- a list's items are words -/
def WAs (H : Hp) (ws : List W) (vs : List V) : Prop := Paired (fun (w : W) (v : V) => ∃ a, v = .ref a ∧ WA H w a) ws vs
theorem paired_snoc {α β : Type} {F : α → β → Prop} : ∀ {l : List α} {r : List β} {a : α} {b : β}, Paired F l r → F a b → Paired F (l ++ [a]) (r ++ [b])
  | _, _, _, _, .nil, h => .cons h .nil
  | _, _, _, _, .cons r t, h => .cons r (paired_snoc t h)
theorem paired_get {α β : Type} {F : α → β → Prop} : ∀ {l : List α} {r : List β} {i : Nat} {b : β}, Paired F l r → r[i]? = some b → ∃ a, l[i]? = some a ∧ F a b
  | _, _, _, _, .nil, h => by simp at h
  | _, _, 0, _, .cons r t, h => by simp at h; subst h; exact ⟨_, rfl, r⟩
  | _, _, i + 1, b, .cons r t, h => by
    obtain ⟨a, e, q⟩ := paired_get (i := i) (b := b) t (by simpa using h)
    exact ⟨a, by simpa using e, q⟩
theorem paired_getl {α β : Type} {F : α → β → Prop} : ∀ {l : List α} {r : List β} {i : Nat} {a : α}, Paired F l r → l[i]? = some a → ∃ b, r[i]? = some b ∧ F a b
  | _, _, _, _, .nil, h => by simp at h
  | _, _, 0, _, .cons r t, h => by simp at h; subst h; exact ⟨_, rfl, r⟩
  | _, _, i + 1, a, .cons r t, h => by
    obtain ⟨b, e, q⟩ := paired_getl (i := i) (a := a) t (by simpa using h)
    exact ⟨b, by simpa using e, q⟩
theorem WAs.tk {H H' : Hp} {ws : List W} {vs : List V} (t : Tk H H') (h : WAs H ws vs) : WAs H' ws vs := Paired.mapP h fun _ _ ⟨a, e, q⟩ => ⟨a, e, WA.tk t q⟩
theorem WAs.same {H H' : Hp} {ws : List W} {vs : List V} (t : Same H H') (h : WAs H ws vs) : WAs H' ws vs := WAs.tk (Same.tk t) h
theorem WAs.length {H : Hp} {ws : List W} {vs : List V} (h : WAs H ws vs) : ws.length = vs.length := Paired.length h
theorem inV_bl (b : Bool) : ∀ bs : List Bool, inV (.bl b) (bs.map V.bl) = bs.any (fun x => x == b)
  | [] => rfl
  | x :: r => by
    show (eqV (.bl x) (.bl b) || inV (.bl b) (r.map V.bl)) = ((x == b) || r.any (fun x => x == b))
    rw [inV_bl b r]
    cases x <;> cases b <;> rfl
theorem flat_bl : ∀ bs : List Bool, (bs.map V.bl).all flatV = true
  | [] => rfl
  | _ :: r => flat_bl r
def W.parts : W → List W
  | .not w => [w]
  | .and a b => [a, b]
  | .or a b => [a, b]
  | _ => []
theorem cut1 (x : V) (xs : List V) : cutV (x :: xs) (some 1) none = xs := by
  unfold cutV
  rw [show HT.sIx (x :: xs).length 0 (some 1) = min 1 (x :: xs).length from HT.sIx_nat (x :: xs).length 0 1, HT.sIx_none]
  rw [show min 1 (x :: xs).length = 1 by rw [List.length_cons]; omega]
  show List.take ((x :: xs).length - 1) xs = xs
  rw [List.length_cons, Nat.add_sub_cancel]
  exact List.take_length
/-- a word's place, told by its tag and its parts -/
def W.tag : W → Str
  | .on => "on" | .off => "off" | .relay _ => "relay" | .button _ => "button" | .not _ => "not" | .and _ _ => "and" | .or _ _ => "or"
theorem WA.parts {H : Hp} {w : W} {a : Addr} (h : WA H w a) (n1 : ∀ k, w ≠ .relay k) (n2 : ∀ k, w ≠ .button k) : ∃ us, H a = some (.tup (.str w.tag :: us)) ∧ WAs H w.parts us := by
  cases w with
  | on => exact ⟨[], h, .nil⟩
  | off => exact ⟨[], h, .nil⟩
  | relay k => exact absurd rfl (n1 k)
  | button k => exact absurd rfl (n2 k)
  | not x => obtain ⟨b, e, q⟩ := h; exact ⟨_, e, .cons ⟨b, rfl, q⟩ .nil⟩
  | and x y => obtain ⟨b, c, e, q, r⟩ := h; exact ⟨_, e, .cons ⟨b, rfl, q⟩ (.cons ⟨c, rfl, r⟩ .nil)⟩
  | or x y => obtain ⟨b, c, e, q, r⟩ := h; exact ⟨_, e, .cons ⟨b, rfl, q⟩ (.cons ⟨c, rfl, r⟩ .nil)⟩
theorem parts_ok {w x : W} {n m N : Nat} (hx : x ∈ w.parts) (hw : w.wired n m) (hd : w.depth ≤ N + 1) : x.wired n m ∧ x.depth ≤ N := by
  cases w with
  | not y =>
    rcases List.mem_singleton.mp hx with rfl
    exact ⟨hw, Nat.le_of_succ_le_succ hd⟩
  | and y z =>
    have hd' : max y.depth z.depth + 1 ≤ N + 1 := hd
    rcases List.mem_cons.mp hx with rfl | hx
    · exact ⟨hw.1, by omega⟩
    · rcases List.mem_singleton.mp hx with rfl
      exact ⟨hw.2, by omega⟩
  | or y z =>
    have hd' : max y.depth z.depth + 1 ≤ N + 1 := hd
    rcases List.mem_cons.mp hx with rfl | hx
    · exact ⟨hw.1, by omega⟩
    · rcases List.mem_singleton.mp hx with rfl
      exact ⟨hw.2, by omega⟩
  | on => cases hx
  | off => cases hx
  | relay k => cases hx
  | button k => cases hx
/-! ### tests -/
theorem iF {c : Bool} {A B : Prop} (h : c = false) (q : B) : if c = true then A else B := by rw [h]; exact iteF q
theorem iT {c : Bool} {A B : Prop} (h : c = true) (q : A) : if c = true then A else B := by rw [h]; exact iteT q
theorem iB {c : Bool} {A B : Prop} (h1 : c = true → A) (h2 : c = false → B) : if c = true then A else B := by
  cases c with
  | true => exact iteT (h1 rfl)
  | false => exact iteF (h2 rfl)
abbrev rLenSeq (K : PySem.W.Frag) : List V → Hp → VK → Prop := fun xs H Q => ∃ p ys, xs = [.ref p] ∧ (SqL K H p ys ∨ SqT K H p ys) ∧ Q (.int ys.length) H
theorem tag_val {K : PySem.W.Frag} {σ : St} {H : Hp} {Q : VK} {i : Nat} {a : Addr} {t s : Str} {rest : List V} (h : σ[i]? = some (some (.ref a))) (e : H a = some (.tup (.str t :: rest))) (q : Q (.bl (decide (V.str t = V.str s))) H) :
    tOp rEq (tOp (rIxT K) (tVar i) (tC (.int 0))) (tC (.str s)) σ H Q := ⟨_, h, _, _, _, _, rfl, rfl, .of e, atI_nat (j := 0) rfl, rfl, q⟩
theorem tag_test {K : PySem.W.Frag} {σ : St} {H : Hp} {Q : Bool → Hp → Prop} {i : Nat} {a : Addr} {t s : Str} {rest : List V} (h : σ[i]? = some (some (.ref a))) (e : H a = some (.tup (.str t :: rest))) (q : Q (decide (V.str t = V.str s)) H) :
    tTest (tOp rEq (tOp (rIxT K) (tVar i) (tC (.int 0))) (tC (.str s))) σ H Q := tag_val h e ⟨_, rfl, q⟩
theorem at_bl {bs : List Bool} {k : Int} (h0 : 0 ≤ k) (h1 : k < (bs.length : Int)) : atI (bs.map V.bl) k = some (.bl (bs.getD k.toNat false)) := by
  have h : k.toNat < bs.length := by omega
  refine at_of (j := k.toNat) (by omega) ?_
  rw [List.getElem?_map, List.getElem?_eq_getElem h, List.getD_eq_getElem?_getD, List.getElem?_eq_getElem h]; rfl
theorem notF {b : Bool} (h : (!b) = false) : b = true := by cases b <;> first | rfl | cases h
theorem notT {b : Bool} (h : (!b) = true) : b = false := by cases b <;> first | rfl | cases h
theorem WA.pairs {H : Hp} {x : W} {a : Addr} (h : WA H x a) : (∃ y z, x = .and y z) ∨ (∃ y z, x = .or y z) ∨ (∃ t us, H a = some (.tup (.str t :: us)) ∧ decide (V.str t = V.str "and") = false ∧ decide (V.str t = V.str "or") = false) := by
  cases x with
  | and y z => exact .inl ⟨_, _, rfl⟩
  | or y z => exact .inr (.inl ⟨_, _, rfl⟩)
  | not y => obtain ⟨b, e, _⟩ := h; exact .inr (.inr ⟨_, _, e, decide_eq_false (by decide +kernel), decide_eq_false (by decide +kernel)⟩)
  | on => exact .inr (.inr ⟨_, _, h, decide_eq_false (by decide +kernel), decide_eq_false (by decide +kernel)⟩)
  | off => exact .inr (.inr ⟨_, _, h, decide_eq_false (by decide +kernel), decide_eq_false (by decide +kernel)⟩)
  | relay k => exact .inr (.inr ⟨_, _, h, decide_eq_false (by decide +kernel), decide_eq_false (by decide +kernel)⟩)
  | button k => exact .inr (.inr ⟨_, _, h, decide_eq_false (by decide +kernel), decide_eq_false (by decide +kernel)⟩)
theorem small10 {n : Nat} (h : n ≤ 10000) : n ≤ sizeLine := Nat.le_trans h (by decide)
theorem small11 {n : Nat} (h : n ≤ 10000) : n < sizeLine := Nat.lt_of_le_of_lt h (by decide)
/-! ### data of the law's own -/
def bits (z : Int) (n : Nat) : List Bool := (List.range n).map fun k => decide (z / 2 ^ k % 2 = 1)
theorem bits_succ (z : Int) (n : Nat) : bits z (n + 1) = bits z n ++ [decide (z / 2 ^ n % 2 = 1)] := by unfold bits; rw [List.range_succ, List.map_append]; rfl
theorem bits_len (z : Int) (n : Nat) : (bits z n).length = n := by unfold bits; rw [List.length_map, List.length_range]
theorem dec_vi (a b : Int) : decide (V.int a = V.int b) = decide (a = b) := decide_eq_decide.mpr ⟨fun e => V.int.inj e, fun e => by rw [e]⟩
theorem toNat0 (i : Nat) : ((0 : Int) + (i : Int)).toNat = i := by omega
def Fit (n m : Nat) (d : Int) (w : W) : Prop := w.wired n m ∧ (w.depth : Int) ≤ d
def Fits (n m : Nat) (d : Int) (ws : List W) : Prop := ∀ w ∈ ws, Fit n m d w
theorem Fits.snoc {n m : Nat} {d : Int} {ws : List W} {w : W} (h : Fits n m d ws) (f : Fit n m d w) : Fits n m d (ws ++ [w]) := fun x hx => by
  rcases List.mem_append.mp hx with q | q
  · exact h x q
  · rw [List.mem_singleton.mp q]; exact f
/-- a list of tuples of bools -/
def Tups (H : Hp) (bss : List (List Bool)) (us : List V) : Prop := Paired (fun (bs : List Bool) (v : V) => ∃ a, v = .ref a ∧ H a = some (.tup (bs.map V.bl))) bss us
theorem Tups.tk {H H' : Hp} {bss : List (List Bool)} {us : List V} (t : Tk H H') (h : Tups H bss us) : Tups H' bss us := Paired.mapP h fun _ _ ⟨a, e, q⟩ => ⟨a, e, t _ _ q⟩
theorem Tups.same {H H' : Hp} {bss : List (List Bool)} {us : List V} (t : Same H H') (h : Tups H bss us) : Tups H' bss us := Tups.tk (Same.tk t) h
theorem Tups.length {H : Hp} {bss : List (List Bool)} {us : List V} (h : Tups H bss us) : bss.length = us.length := Paired.length h
def allBits (n i : Nat) : List (List Bool) := (List.range i).map fun (k : Nat) => bits (k : Int) n
theorem allBits_succ (n i : Nat) : allBits n (i + 1) = allBits n i ++ [bits (i : Int) n] := by unfold allBits; rw [List.range_succ, List.map_append]; rfl
theorem allBits_len (n i : Nat) : (allBits n i).length = i := by unfold allBits; rw [List.length_map, List.length_range]
theorem allBits_get {n i k : Nat} (h : k < i) : (allBits n i)[k]? = some (bits (k : Int) n) := by
  unfold allBits
  rw [List.getElem?_map, List.getElem?_range h]; rfl
theorem allBits_get' {n i k : Nat} {bs : List Bool} (h : (allBits n i)[k]? = some bs) : k < i ∧ bs = bits (k : Int) n := by
  have hk : k < i := by
    have := (List.getElem?_eq_some_iff.mp h).1
    rw [allBits_len] at this; exact this
  rw [allBits_get hk] at h
  exact ⟨hk, (Option.some.inj h).symm⟩
theorem shl_one (n : Nat) : ((1 : Int) * 2 ^ ((n : Int).toNat)).toNat = 2 ^ n := by
  rw [Int.one_mul, Int.toNat_natCast]
  have : ((2 : Int) ^ n) = ((2 ^ n : Nat) : Int) := by rw [Int.natCast_pow]; rfl
  rw [this, Int.toNat_natCast]
theorem pow_le64 {n : Nat} (h : n ≤ 6) : 2 ^ n ≤ 64 := Nat.pow_le_pow_right (by decide) h
theorem pow_cast (n : Nat) : ((2 : Int) ^ n) = ((2 ^ n : Nat) : Int) := by rw [Int.natCast_pow]; rfl
section
variable {P : Program} {w : World} {K : PySem.W.Frag} {mg : Str → Option Value} {base : Heap}
theorem fn_none {k : Nat} {f : Addr} {fd : FuncData} {ps : List Str} {sp : Sp} (no : ∀ vs H Q E, ¬ sp vs H Q E) : FnOk P w K mg base CX0 k f fd ps sp :=
  ⟨fun vs H Q E h => absurd h (no vs H Q E), fun A outer s H args us vs Q E _ _ _ _ h => absurd h (no vs H Q E)⟩
end
/-! ### data for == -/
def Sh (d : PyData) (k : Nat) : Prop := d.canLay0 = true ∧ d.depth ≤ k
theorem Sh.shaped {d : PyData} {k : Nat} (h : Sh d k) (hk : k ≤ 64) : SeqAt.shaped d = true := by
  unfold SeqAt.shaped
  rw [h.1, decide_eq_true (Nat.le_trans h.2 hk)]; rfl
theorem Sh.refl {d : PyData} {k : Nat} (h : Sh d k) : PyData.eqv d d = true := SeqAt.eqv_refl d h.1
theorem Sh.bool (b : Bool) (k : Nat) : Sh (.bool b) k := ⟨by simp [PyData.canLay0], by simp [PyData.depth]⟩
theorem Sh.int (b : Int) (k : Nat) : Sh (.int b) k := ⟨by simp [PyData.canLay0], by simp [PyData.depth]⟩
theorem Sh.str (b : Str) (k : Nat) (h : PyData.strOk b = true := by decide +kernel) : Sh (.str b) k := ⟨by simp [PyData.canLay0, h], by simp [PyData.depth]⟩
theorem Sh.all {k : Nat} : ∀ {ds : List PyData}, (∀ d ∈ ds, Sh d k) → PyData.canLayAll0 ds = true ∧ PyData.depthAll ds ≤ k
  | [], _ => by simp [PyData.canLayAll0, PyData.depthAll]
  | d :: ds, h => by
    have h1 := h d (.head _)
    have h2 := Sh.all (ds := ds) fun e he => h e (.tail _ he)
    simp only [PyData.canLayAll0, PyData.depthAll, h1.1, h2.1, Bool.and_self, true_and]
    have a1 := h1.2
    have a2 := h2.2
    omega
theorem Sh.tup {k : Nat} {ds : List PyData} (h : ∀ d ∈ ds, Sh d k) : Sh (.tuple ds) (k + 1) := by
  have q := Sh.all h
  refine ⟨by simp [PyData.canLay0, q.1], ?_⟩
  have := q.2
  simp only [PyData.depth]; omega
theorem Sh.lst {k : Nat} {ds : List PyData} (h : ∀ d ∈ ds, Sh d k) : Sh (.list ds) (k + 1) := by
  have q := Sh.all h
  refine ⟨by simp [PyData.canLay0, q.1], ?_⟩
  have := q.2
  simp only [PyData.depth]; omega
theorem Sh.mono {d : PyData} {k j : Nat} (h : Sh d k) (hk : k ≤ j) : Sh d j := ⟨h.1, Nat.le_trans h.2 hk⟩
theorem dpAll_map {α : Type} {K : PySem.W.Frag} {H : Hp} {f : α → V} {g : α → PyData} : ∀ {l : List α}, (∀ x ∈ l, Dp K H (f x) (g x)) → DpAll K H (l.map f) (l.map g)
  | [], _ => .nil
  | x :: _, h => .cons (h x (.head _)) (dpAll_map fun y hy => h y (.tail _ hy))
def bd (bs : List Bool) : PyData := .tuple (bs.map PyData.bool)
theorem shB (bs : List Bool) : Sh (bd bs) 1 := Sh.tup fun d hd => by
  obtain ⟨b, _, rfl⟩ := List.mem_map.mp hd
  exact Sh.bool b 0
theorem dpB {K : PySem.W.Frag} {H : Hp} {a : Addr} {bs : List Bool} (h : H a = some (.tup (bs.map V.bl))) : Dp K H (.ref a) (bd bs) := .tup (.of h) (dpAll_map fun b _ => .bl b)
theorem eqv_bools : ∀ as bs : List Bool, PyData.eqvAll (as.map PyData.bool) (bs.map PyData.bool) = decide (as = bs)
  | [], [] => by simp [PyData.eqvAll]
  | [], _ :: _ => by simp [PyData.eqvAll]
  | _ :: _, [] => by simp [PyData.eqvAll]
  | a :: as, b :: bs => by
    simp only [List.map_cons, PyData.eqvAll, eqv_bools as bs, List.cons.injEq]
    cases a <;> cases b <;> simp [PyData.eqv]
theorem eqv_bd (as bs : List Bool) : PyData.eqv (bd as) (bd bs) = decide (as = bs) := by
  unfold bd
  simp only [PyData.eqv, eqv_bools]
/-- a word as data -/
def wd : W → PyData
  | .on => .tuple [.str "on"]
  | .off => .tuple [.str "off"]
  | .relay k => .tuple [.str "relay", .int k]
  | .button k => .tuple [.str "button", .int k]
  | .not x => .tuple [.str "not", wd x]
  | .and x y => .tuple [.str "and", wd x, wd y]
  | .or x y => .tuple [.str "or", wd x, wd y]
theorem dpW {K : PySem.W.Frag} {H : Hp} : ∀ {w : W} {a : Addr}, WA H w a → Dp K H (.ref a) (wd w)
  | .on, _, h => .tup (.of h) (.cons (.str _) .nil)
  | .off, _, h => .tup (.of h) (.cons (.str _) .nil)
  | .relay _, _, h => .tup (.of h) (.cons (.str _) (.cons (.int _) .nil))
  | .button _, _, h => .tup (.of h) (.cons (.str _) (.cons (.int _) .nil))
  | .not _, _, h => let ⟨_, e, q⟩ := h; .tup (.of e) (.cons (.str _) (.cons (dpW q) .nil))
  | .and _ _, _, h => let ⟨_, _, e, q, r⟩ := h; .tup (.of e) (.cons (.str _) (.cons (dpW q) (.cons (dpW r) .nil)))
  | .or _ _, _, h => let ⟨_, _, e, q, r⟩ := h; .tup (.of e) (.cons (.str _) (.cons (dpW q) (.cons (dpW r) .nil)))
theorem shW : ∀ w : W, Sh (wd w) w.depth
  | .on => Sh.tup (k := 0) fun d hd => by simp at hd; subst hd; exact Sh.str _ _
  | .off => Sh.tup (k := 0) fun d hd => by simp at hd; subst hd; exact Sh.str _ _
  | .relay _ => Sh.tup (k := 0) fun d hd => by simp at hd; rcases hd with rfl | rfl <;> first | exact Sh.str _ _ | exact Sh.int _ _
  | .button _ => Sh.tup (k := 0) fun d hd => by simp at hd; rcases hd with rfl | rfl <;> first | exact Sh.str _ _ | exact Sh.int _ _
  | .not x => Sh.tup (k := x.depth) fun d hd => by simp at hd; rcases hd with rfl | rfl <;> first | exact Sh.str _ _ | exact shW x
  | .and x y => Sh.tup (k := max x.depth y.depth) fun d hd => by
    simp at hd; rcases hd with rfl | rfl | rfl
    · exact Sh.str _ _
    · exact (shW x).mono (Nat.le_max_left _ _)
    · exact (shW y).mono (Nat.le_max_right _ _)
  | .or x y => Sh.tup (k := max x.depth y.depth) fun d hd => by
    simp at hd; rcases hd with rfl | rfl | rfl
    · exact Sh.str _ _
    · exact (shW x).mono (Nat.le_max_left _ _)
    · exact (shW y).mono (Nat.le_max_right _ _)
/-! ### numbers and bits -/
theorem bit_nat (j k : Nat) : decide ((j : Int) / 2 ^ k % 2 = 1) = Nat.testBit j k := by
  rw [Nat.testBit_eq_decide_div_mod_eq]
  refine decide_eq_decide.mpr ?_
  rw [pow_cast, ← Int.natCast_ediv]
  omega
theorem bits_nat (j n : Nat) : bits (j : Int) n = (List.range n).map (Nat.testBit j) := by
  unfold bits
  exact List.map_congr_left fun k _ => bit_nat j k
theorem bits_mod (j n : Nat) : bits (j : Int) n = bits ((j % 2 ^ n : Nat) : Int) n := by
  rw [bits_nat, bits_nat]
  refine List.map_congr_left fun k hk => ?_
  rw [Nat.testBit_mod_two_pow, decide_eq_true (List.mem_range.mp hk), Bool.true_and]
theorem shr_nat (j n : Nat) : (j : Int) / 2 ^ n = ((j / 2 ^ n : Nat) : Int) := by rw [pow_cast, Int.natCast_ediv]
/-! ### boards -/
def canMove (ws : List W) (ps ss : List Bool) (k : Nat) : Bool := (ws.getD k .off).eval ss ps != ss.getD k false
def movL (ws : List W) (ps ss : List Bool) : List Nat := (List.range ws.length).filter (canMove ws ps ss)
def vn (k : Nat) : V := .int (k : Int)
structure BoardAt (H : Hp) (b : Addr) (us : List V) (ws : List W) (n m : Nat) : Prop where
  lst : H b = some (.lst us)
  was : WAs H ws us
  len : ws.length = n
  n6 : n ≤ 6
  fit : Fits n m 10 ws
theorem BoardAt.same {H H' : Hp} {b : Addr} {us : List V} {ws : List W} {n m : Nat} (B : BoardAt H b us ws n m) (s : Same H H') : BoardAt H' b us ws n m := ⟨s _ _ B.lst, WAs.same s B.was, B.len, B.n6, B.fit⟩
theorem BoardAt.ulen {H : Hp} {b : Addr} {us : List V} {ws : List W} {n m : Nat} (B : BoardAt H b us ws n m) : us.length = n := by rw [← WAs.length B.was]; exact B.len
theorem BoardAt.at {H : Hp} {b : Addr} {us : List V} {ws : List W} {n m : Nat} (B : BoardAt H b us ws n m) {k : Nat} (h : k < n) : ∃ c, us[k]? = some (.ref c) ∧ WA H (ws.getD k .off) c ∧ Fit n m 10 (ws.getD k .off) := by
  have hk : k < ws.length := by rw [B.len]; exact h
  obtain ⟨v, hv, c, rfl, hc⟩ := paired_getl B.was (List.getElem?_eq_getElem hk)
  have e : ws.getD k .off = ws[k] := by rw [List.getD_eq_getElem?_getD, List.getElem?_eq_getElem hk]; rfl
  rw [e]
  exact ⟨c, hv, hc, B.fit _ (List.getElem_mem hk)⟩
theorem Fits.mono {n m : Nat} {d e : Int} {ws : List W} (h : Fits n m d ws) (hd : d ≤ e) : Fits n m e ws := fun w hw => ⟨(h w hw).1, Int.le_trans (h w hw).2 hd⟩
theorem filter_snoc {α : Type} (f : α → Bool) (l : List α) (x : α) : (l ++ [x]).filter f = if f x = true then l.filter f ++ [x] else l.filter f := by
  rw [List.filter_append]
  by_cases h : f x = true
  · rw [if_pos h]; simp [h]
  · rw [if_neg h]; simp [h]
theorem movL_le (ws : List W) (ps ss : List Bool) : (movL ws ps ss).length ≤ ws.length := by
  unfold movL
  have := List.length_filter_le (canMove ws ps ss) (List.range ws.length)
  rw [List.length_range] at this
  exact this
def il (ks : List Nat) : PyData := .list (ks.map fun (k : Nat) => PyData.int (k : Int))
theorem shI (ks : List Nat) : Sh (il ks) 1 := Sh.lst fun d hd => by
  obtain ⟨b, _, rfl⟩ := List.mem_map.mp hd
  exact Sh.int _ 0
theorem dpI {K : PySem.W.Frag} {H : Hp} {a : Addr} {ks : List Nat} (h : H a = some (.lst (ks.map vn))) : Dp K H (.ref a) (il ks) := .lst (.of h) (dpAll_map fun b _ => .int b)
theorem eqv_ints : ∀ as bs : List Nat, PyData.eqvAll (as.map fun (k : Nat) => PyData.int (k : Int)) (bs.map fun (k : Nat) => PyData.int (k : Int)) = decide (as = bs)
  | [], [] => by simp [PyData.eqvAll]
  | [], _ :: _ => by simp [PyData.eqvAll]
  | _ :: _, [] => by simp [PyData.eqvAll]
  | a :: as, b :: bs => by
    simp only [List.map_cons, PyData.eqvAll, eqv_ints as bs, List.cons.injEq]
    by_cases h : a = b
    · subst h; simp [PyData.eqv]
    · have : ¬ (a : Int) = (b : Int) := fun e => h (by omega)
      simp [PyData.eqv, h, this]
theorem eqv_il (as bs : List Nat) : PyData.eqv (il as) (il bs) = decide (as = bs) := by
  unfold il
  simp only [PyData.eqv, eqv_ints]
theorem dpTs {K : PySem.W.Frag} {H : Hp} : ∀ {bss : List (List Bool)} {us : List V}, Tups H bss us → DpAll K H us (bss.map bd)
  | _, _, .nil => .nil
  | _, _, .cons ⟨_, e, h⟩ t => .cons (e ▸ dpB h) (dpTs t)
theorem shTs (bss : List (List Bool)) : Sh (.list (bss.map bd)) 2 := Sh.lst fun d hd => by
  obtain ⟨b, _, rfl⟩ := List.mem_map.mp hd
  exact shB b
theorem dpWs {K : PySem.W.Frag} {H : Hp} : ∀ {ws : List W} {us : List V}, WAs H ws us → DpAll K H us (ws.map wd)
  | _, _, .nil => .nil
  | _, _, .cons ⟨_, e, h⟩ t => .cons (e ▸ dpW h) (dpWs t)
theorem shWs {n m : Nat} {ws : List W} {k : Nat} (h : Fits n m (k : Int) ws) : Sh (.list (ws.map wd)) (k + 1) := Sh.lst fun d hd => by
  obtain ⟨x, hx, rfl⟩ := List.mem_map.mp hd
  exact (shW x).mono (by have := (h x hx).2; omega)
/-! ### classes of the program -/
theorem kit_own {K : PySem.W.Frag} {D C : Addr} {b : Bool} (hC : PySem.W.isClsIn K C = true) (tC : PySem.W.typeIn K (.ref C) = some (.type "type")) (s : PySem.W.subIn K (.ref D) (.ref C) = some b) (self : PySem.W.subIn K (.ref D) (.ref D) = some true) :
    PySem.W.kitOne K (.ref D) (.ref C) = some b := by
  unfold PySem.W.kitOne PySem.W.kitCls
  by_cases h : D = C
  · subst h
    rw [self] at s
    rw [if_pos (beq_self_eq_true _)]
    exact s
  · have h1 : ¬ ((Value.ref D == Value.ref C) = true) := fun e => h (by have := of_decide_eq_true (p := _) e; cases beq_iff_eq.mp e; rfl)
    rw [if_neg h1]
    have e2 : ((PySem.W.clsIn K C).isSome && PySem.W.typeIn K (.ref C) == some (.type "type")) = true := by
      have hC' : (PySem.W.clsIn K C).isSome = true := hC
      rw [hC', tC]; rfl
    show (if ((PySem.W.clsIn K C).isSome && PySem.W.typeIn K (.ref C) == some (.type "type")) = true then PySem.W.subIn K (.ref D) (.ref C) else none) = some b
    rw [if_pos e2]
    exact s
theorem kit_val {K : PySem.W.Frag} {D : Addr} (s : PySem.W.subIn K (.ref D) (.type "ValueError") = some true) : PySem.W.kitOne K (.ref D) (.type "ValueError") = some true := by
  unfold PySem.W.kitOne PySem.W.kitCls
  have h1 : ¬ ((Value.ref D == Value.type "ValueError") = true) := fun e => by cases beq_iff_eq.mp e
  rw [if_neg h1]
  show (if PySem.W.kitMeta "ValueError" = true then PySem.W.subIn K (.ref D) (.type "ValueError") else none) = some true
  rw [if_pos (by decide +kernel)]
  exact s
theorem exm_own {K : PySem.W.Frag} {D C : Addr} (h1 : PySem.W.subIn K (.ref C) (.type "BaseException") = some true) (hC : PySem.W.isClsIn K C = true) (tC : PySem.W.typeIn K (.ref C) = some (.type "type")) (s : PySem.W.subIn K (.ref D) (.ref C) = some true) : PySem.W.exmOne K (.ref D) (.ref C) = some true := by
  have e1 : (PySem.W.subIn K (.ref C) (.type "BaseException") == some true) = true := by rw [h1]; rfl
  have e2 : ((PySem.W.clsIn K C).isSome && PySem.W.typeIn K (.ref C) == some (.type "type")) = true := by
    have hC' : (PySem.W.clsIn K C).isSome = true := hC
    rw [hC', tC]; rfl
  show (if (PySem.W.subIn K (.ref C) (.type "BaseException") == some true) = true then (if ((PySem.W.clsIn K C).isSome && PySem.W.typeIn K (.ref C) == some (.type "type")) = true then PySem.W.subIn K (.ref D) (.ref C) else none) else none) = some true
  rw [if_pos e1, if_pos e2]
  exact s
/-! ### a suite that marks what was caught -/
def rIsX (K : PySem.W.Frag) (a : Addr) (cls : Value) (d : Option Addr) : List V → Hp → VK → Prop := fun xs H Q => ∃ D, cls = .ref D ∧ d = none ∧ ExcC K D ∧ rIsE K D a xs H Q
theorem call_isX {X : Cx} {a : Addr} {oe : Obj} {pn : List (Addr × Obj)} {cls : Value} {d : Option Addr} (hz : Zc cls d oe) (hf : ∃ vs, oe.data = .fields vs) : CallR (X.suite a ((a, oe) :: pn)) (.builtin "isinstance") (rIsX X.K a cls d) := by
  intro pins s σ H xs us Q I r h
  obtain ⟨D, rfl, rfl, E, q⟩ := h
  exact call_isE E hz hf pins s σ H xs us Q I r q
def tMark (K : PySem.W.Frag) (a : Addr) (cls : Value) (d : Option Addr) (i : Nat) (v : V) : TE := tCB (rIsX K a cls d) (tCons (tVar i) (tCons (tC v) tNil))
def tSuite (K : PySem.W.Frag) (c1 c2 c3 c4 c5 c6 : Addr) (i j : Nat) (a : Addr) (cls : Value) (d : Option Addr) : TS :=
  tSeq (tAsg (tLst (tCons (tMark K a cls d i (.ref c1)) (tCons (tMark K a cls d i (.ref c2)) (tCons (tMark K a cls d i (.ref c3)) (tCons (tMark K a cls d i (.ref c4)) tNil))))) (gName j))
    (tAsg (tOp rCat (tVar j) (tLst (tCons (tMark K a cls d i (.ref c5)) (tCons (tMark K a cls d i (.ref c6)) (tCons (tMark K a cls d i (.ty "ValueError")) tNil))))) (gName j))
theorem mark_run {K : PySem.W.Frag} {a D : Addr} {i : Nat} {v : V} {cv : Value} {b : Bool} {σ : St} {H : Hp} {Q : VK} (E : ExcC K D) (hi : σ[i]? = some (some (.ref a))) (hv : ∀ u, RelV v u → u = cv) (k : PySem.W.kitOne K (.ref D) cv = some b) (q : Q (.bl b) H) :
    tMark K a (.ref D) none i v σ H Q := ⟨_, hi, D, rfl, rfl, E, v, cv, b, rfl, hv, k, q⟩
theorem suite_run {K : PySem.W.Frag} {c1 c2 c3 c4 c5 c6 : Addr} {i j : Nat} {a D : Addr} {b1 b2 b3 b4 b5 b6 : Bool} {σ : St} {H : Hp} {Dn : Ends} (E : ExcC K D)
    (k1 : PySem.W.kitOne K (.ref D) (.ref c1) = some b1) (k2 : PySem.W.kitOne K (.ref D) (.ref c2) = some b2) (k3 : PySem.W.kitOne K (.ref D) (.ref c3) = some b3) (k4 : PySem.W.kitOne K (.ref D) (.ref c4) = some b4)
    (k5 : PySem.W.kitOne K (.ref D) (.ref c5) = some b5) (k6 : PySem.W.kitOne K (.ref D) (.ref c6) = some b6) (kv : PySem.W.kitOne K (.ref D) (.type "ValueError") = some true) (hi : σ[i]? = some (some (.ref a))) (hj : j < σ.length) (hij : j ≠ i)
    (q : ∀ (H' : Hp) (p0 p : Addr), Same H H' → H' p = some (.lst ([b1, b2, b3, b4, b5, b6, true].map V.bl)) → Dn.nx ((σ.set j (some (.ref p0))).set j (some (.ref p))) H') : tSuite K c1 c2 c3 c4 c5 c6 i j a (.ref D) none Dn σ H := by
  refine mark_run E hi (fun u h => h) k1 (mark_run E hi (fun u h => h) k2 (mark_run E hi (fun u h => h) k3 (mark_run E hi (fun u h => h) k4 ⟨small10 (Nat.le_of_ble_eq_true rfl), fun p0 np0 => ?_⟩)))
  have s0 : Same H (upd H p0 (.lst [.bl b1, .bl b2, .bl b3, .bl b4])) := Same.new np0
  have e0 : (upd H p0 (.lst [.bl b1, .bl b2, .bl b3, .bl b4])) p0 = some (.lst [.bl b1, .bl b2, .bl b3, .bl b4]) := upd_same
  generalize upd H p0 (.lst [.bl b1, .bl b2, .bl b3, .bl b4]) = H1 at *
  have hi2 : (σ.set j (some (.ref p0)))[i]? = some (some (.ref a)) := by rw [List.getElem?_set_ne hij]; exact hi
  refine ⟨_, List.getElem?_set_self hj, ?_⟩
  refine mark_run E hi2 (fun u h => h) k5 (mark_run E hi2 (fun u h => h) k6 (mark_run E hi2 (fun u h => h) kv ⟨small10 (Nat.le_of_ble_eq_true rfl), fun p1 np1 => ?_⟩))
  have s1 : Same H1 (upd H1 p1 (.lst [.bl b5, .bl b6, .bl true])) := Same.new np1
  have e1 : (upd H1 p1 (.lst [.bl b5, .bl b6, .bl true])) p1 = some (.lst [.bl b5, .bl b6, .bl true]) := upd_same
  generalize upd H1 p1 (.lst [.bl b5, .bl b6, .bl true]) = H2 at *
  refine ⟨p0, p1, _, _, rfl, rfl, s1 _ _ e0, e1, small10 (Nat.le_of_ble_eq_true rfl), fun p2 np2 => ?_⟩
  exact q _ p0 p2 (s0.trans (s1.trans (Same.new np2))) upd_same
/-! ### walks -/
def flip (ss : List Bool) (k : Nat) : List Bool := ss.set k (!ss.getD k false)
theorem flip_len (ss : List Bool) (k : Nat) : (flip ss k).length = ss.length := List.length_set
inductive WR where
  | norelay | still | at (ss : List Bool)
def walkR (ws : List W) (ps : List Bool) : List Bool → List Int → WR
  | ss, [] => .at ss
  | ss, r :: rs => if 0 ≤ r ∧ r < (ws.length : Int) then (if canMove ws ps ss r.toNat = true then walkR ws ps (flip ss r.toNat) rs else .still) else .norelay
theorem walkR_snoc (ws : List W) (ps : List Bool) (r : Int) : ∀ (rs : List Int) (ss : List Bool), walkR ws ps ss (rs ++ [r]) = match walkR ws ps ss rs with
    | .at t => walkR ws ps t [r]
    | e => e
  | [], ss => rfl
  | x :: rs, ss => by
    show walkR ws ps ss (x :: (rs ++ [r])) = _
    simp only [walkR]
    by_cases h : 0 ≤ x ∧ x < (ws.length : Int)
    · rw [if_pos h, if_pos h]
      by_cases h2 : canMove ws ps ss x.toNat = true
      · rw [if_pos h2, if_pos h2]; exact walkR_snoc ws ps r rs _
      · rw [if_neg h2, if_neg h2]
    · rw [if_neg h, if_neg h]
theorem flip_get (ss : List Bool) (k i : Nat) (h : i < ss.length) : (flip ss k)[i]? = some (ss.getD i false != (decide (i = k))) := by
  unfold flip
  have e : ss.getD i false = ss[i] := by rw [List.getD_eq_getElem?_getD, List.getElem?_eq_getElem h]; rfl
  by_cases hk : i = k
  · subst hk
    rw [List.getElem?_set_self h, decide_eq_true rfl]
    cases ss.getD i false <;> rfl
  · rw [List.getElem?_set_ne (Ne.symm hk), decide_eq_false hk, List.getElem?_eq_getElem h, e]
    cases ss[i] <;> rfl
theorem mem_movL {ws : List W} {ps ss : List Bool} {k : Nat} : k ∈ movL ws ps ss ↔ k < ws.length ∧ canMove ws ps ss k = true := by
  unfold movL
  rw [List.mem_filter, List.mem_range]
theorem inV_vn (r : Int) : ∀ ks : List Nat, inV (.int r) (ks.map vn) = ks.any (fun k => decide ((k : Int) = r))
  | [] => rfl
  | x :: rest => by
    show (eqV (.int x) (.int r) || inV (.int r) (rest.map vn)) = (decide ((x : Int) = r) || rest.any (fun k => decide ((k : Int) = r)))
    rw [inV_vn r rest]
    have e : eqV (.int x) (.int r) = decide ((x : Int) = r) := by
      show ((x : Int) == r) = decide ((x : Int) = r)
      exact Bool.beq_eq_decide_eq ..
    rw [e]
theorem flat_vn : ∀ ks : List Nat, (ks.map vn).all flatV = true
  | [] => rfl
  | _ :: r => flat_vn r
end Rl

namespace Rl
open PySem L2
/-! ### how many stands there are -/
theorem nodup_len {α : Type} [DecidableEq α] : ∀ {l m : List α}, l.Nodup → (∀ x ∈ l, x ∈ m) → l.length ≤ m.length
  | [], m, _, _ => Nat.zero_le _
  | x :: l, m, hn, hs => by
    rw [List.nodup_cons] at hn
    have hx : x ∈ m := hs x List.mem_cons_self
    have h := nodup_len (l := l) (m := m.erase x) hn.2 fun y hy => by
      have : y ≠ x := fun e => hn.1 (e ▸ hy)
      exact (List.mem_erase_of_ne this).mpr (hs y (List.mem_cons_of_mem _ hy))
    rw [List.length_erase_of_mem hx] at h
    have := List.length_pos_of_mem hx
    rw [List.length_cons]; omega
def allOf : Nat → List (List Bool)
  | 0 => [[]]
  | n + 1 => (allOf n).map (true :: ·) ++ (allOf n).map (false :: ·)
theorem allOf_len : ∀ n, (allOf n).length = 2 ^ n
  | 0 => rfl
  | n + 1 => by
    show ((allOf n).map (true :: ·) ++ (allOf n).map (false :: ·)).length = _
    rw [List.length_append, List.length_map, List.length_map, allOf_len n, Nat.pow_succ]; omega
theorem mem_allOf : ∀ (bs : List Bool), bs ∈ allOf bs.length
  | [] => List.mem_singleton.mpr rfl
  | b :: bs => by
    show (b :: bs) ∈ (allOf bs.length).map (true :: ·) ++ (allOf bs.length).map (false :: ·)
    cases b
    · exact List.mem_append.mpr (.inr (List.mem_map.mpr ⟨bs, mem_allOf bs, rfl⟩))
    · exact List.mem_append.mpr (.inl (List.mem_map.mpr ⟨bs, mem_allOf bs, rfl⟩))
theorem stands_le {n : Nat} {ks : List (List Bool)} (h : ks.Nodup) (hl : ∀ k ∈ ks, k.length = n) (h6 : n ≤ 6) : ks.length ≤ 64 := by
  have h1 := nodup_len (m := allOf n) h fun k hk => by have := mem_allOf k; rw [hl k hk] at this; exact this
  rw [allOf_len] at h1
  exact Nat.le_trans h1 (pow_le64 h6)
theorem take_filt {α : Type} (f : α → Bool) {l : List α} {i : Nat} {x : α} (h : l[i]? = some x) : (l.take (i + 1)).filter f = if f x = true then (l.take i).filter f ++ [x] else (l.take i).filter f := by
  rw [List.take_add_one, h]
  exact filter_snoc f _ x
/-! ### walks -/
section
variable {ws : List W} {ps : List Bool}
def Road (ws : List W) (ps : List Bool) : List Bool → List Nat → List Bool → Prop
  | ss, [], tt => ss = tt
  | ss, r :: rs, tt => r ∈ movL ws ps ss ∧ Road ws ps (flip ss r) rs tt
theorem Road.append : ∀ {rs qs : List Nat} {ss tt uu : List Bool}, Road ws ps ss rs tt → Road ws ps tt qs uu → Road ws ps ss (rs ++ qs) uu
  | [], _, _, _, _, h, q => by cases (show _ = _ from h); exact q
  | _ :: _, _, _, _, _, ⟨h1, h2⟩, q => ⟨h1, Road.append h2 q⟩
theorem Road.snoc {rs : List Nat} {r : Nat} {ss tt : List Bool} (h : Road ws ps ss rs tt) (m : r ∈ movL ws ps tt) : Road ws ps ss (rs ++ [r]) (flip tt r) := h.append ⟨m, rfl⟩
theorem Road.len : ∀ {rs : List Nat} {ss tt : List Bool}, Road ws ps ss rs tt → tt.length = ss.length
  | [], _, _, h => by cases (show _ = _ from h); rfl
  | _ :: _, _, _, ⟨_, h⟩ => by rw [Road.len h, flip_len]
def Reach (ws : List W) (ps : List Bool) (ss tt : List Bool) : Prop := ∃ rs, Road ws ps ss rs tt
theorem Reach.refl (ss : List Bool) : Reach ws ps ss ss := ⟨[], rfl⟩
theorem Reach.step {ss tt : List Bool} {r : Nat} (h : Reach ws ps ss tt) (m : r ∈ movL ws ps tt) : Reach ws ps ss (flip tt r) := let ⟨rs, q⟩ := h; ⟨_, q.snoc m⟩
theorem Reach.trans {ss tt uu : List Bool} (h : Reach ws ps ss tt) (q : Reach ws ps tt uu) : Reach ws ps ss uu := let ⟨_, a⟩ := h; let ⟨_, b⟩ := q; ⟨_, a.append b⟩
theorem Reach.len {ss tt : List Bool} (h : Reach ws ps ss tt) : tt.length = ss.length := let ⟨_, q⟩ := h; q.len
def Closed (ws : List W) (ps : List Bool) (ks : List (List Bool)) : Prop := ∀ t ∈ ks, ∀ k ∈ movL ws ps t, flip t k ∈ ks
theorem Closed.road {ks : List (List Bool)} (c : Closed ws ps ks) : ∀ {rs : List Nat} {ss tt : List Bool}, ss ∈ ks → Road ws ps ss rs tt → tt ∈ ks
  | [], _, _, h, r => by cases (show _ = _ from r); exact h
  | _ :: _, _, _, h, ⟨m, r⟩ => c.road (c _ h _ m) r
theorem Closed.reach {ks : List (List Bool)} (c : Closed ws ps ks) {ss tt : List Bool} (h : ss ∈ ks) (r : Reach ws ps ss tt) : tt ∈ ks := let ⟨_, q⟩ := r; c.road h q
/-- just the stands that can be come to -/
structure Stands (ws : List W) (ps ss : List Bool) (ks : List (List Bool)) : Prop where
  nodup : ks.Nodup
  mem : ∀ t, t ∈ ks ↔ Reach ws ps ss t
theorem Stands.of {ss : List Bool} {ks : List (List Bool)} (n : ks.Nodup) (h : ss ∈ ks) (c : Closed ws ps ks) (r : ∀ t ∈ ks, Reach ws ps ss t) : Stands ws ps ss ks := ⟨n, fun t => ⟨r t, c.reach h⟩⟩
theorem Stands.closed {ss : List Bool} {ks : List (List Bool)} (S : Stands ws ps ss ks) : Closed ws ps ks := fun t ht k hk => (S.mem _).mpr (((S.mem t).mp ht).step hk)
theorem Stands.le {ss : List Bool} {ks : List (List Bool)} (S : Stands ws ps ss ks) (h : ss.length ≤ 6) : ks.length ≤ 64 := stands_le S.nodup (fun k hk => ((S.mem k).mp hk).len) h
theorem Stands.self {ss : List Bool} {ks : List (List Bool)} (S : Stands ws ps ss ks) : ss ∈ ks := (S.mem ss).mpr (.refl ss)
/-! ### papers -/
abbrev Pap := List (List Bool × Nat)
def look (P : Pap) (k : List Bool) : Option Nat := (P.find? fun x => decide (x.1 = k)).map (·.2)
theorem look_nil (k : List Bool) : look [] k = none := rfl
theorem look_cons (x : List Bool × Nat) (P : Pap) (k : List Bool) : look (x :: P) k = if x.1 = k then some x.2 else look P k := by
  unfold look
  rw [List.find?_cons]
  by_cases h : x.1 = k
  · rw [if_pos h, decide_eq_true h]; rfl
  · rw [if_neg h, decide_eq_false h]
theorem look_none : ∀ {P : Pap} {k : List Bool}, look P k = none ↔ k ∉ P.map (·.1)
  | [], k => ⟨fun _ h => (nomatch h), fun _ => rfl⟩
  | x :: P, k => by
    rw [look_cons, List.map_cons, List.mem_cons]
    by_cases h : x.1 = k
    · rw [if_pos h]; exact ⟨fun z => (nomatch z), fun z => absurd (.inl h.symm) z⟩
    · rw [if_neg h, look_none]
      exact ⟨fun z q => q.elim (fun e => h e.symm) z, fun z q => z (.inr q)⟩
theorem look_mem : ∀ {P : Pap} {k : List Bool} {v : Nat}, look P k = some v → (k, v) ∈ P
  | [], _, _, h => nomatch h
  | x :: P, k, v, h => by
    rw [look_cons] at h
    by_cases e : x.1 = k
    · rw [if_pos e] at h
      cases h; subst e; exact List.mem_cons_self
    · rw [if_neg e] at h
      exact List.mem_cons_of_mem _ (look_mem h)
theorem look_of : ∀ {P : Pap} {k : List Bool} {v : Nat}, (P.map (·.1)).Nodup → (k, v) ∈ P → look P k = some v
  | [], _, _, _, h => nomatch h
  | x :: P, k, v, n, h => by
    rw [List.map_cons, List.nodup_cons] at n
    rw [look_cons]
    rcases List.mem_cons.mp h with e | h
    · subst e; exact if_pos rfl
    · have : x.1 ≠ k := fun e => n.1 (List.mem_map.mpr ⟨_, h, e.symm⟩)
      rw [if_neg this]; exact look_of n.2 h
theorem look_some {P : Pap} {k : List Bool} : k ∈ P.map (·.1) ↔ ∃ v, look P k = some v := by
  cases h : look P k with
  | none => exact ⟨fun q => absurd q (look_none.mp h), fun ⟨v, e⟩ => (nomatch e)⟩
  | some v => exact ⟨fun _ => ⟨v, rfl⟩, fun _ => List.mem_map.mpr ⟨_, look_mem h, rfl⟩⟩
def papV (P : Pap) : List (List Bool × V) := P.map fun x => (x.1, vn x.2)
theorem papV_keys (P : Pap) : (papV P).map (·.1) = P.map (·.1) := by unfold papV; rw [List.map_map]; rfl
theorem papV_len (P : Pap) : (papV P).length = P.length := List.length_map _
theorem papV_snoc (P : Pap) (k : List Bool) (v : Nat) : papV P ++ [(k, vn v)] = papV (P ++ [(k, v)]) := by unfold papV; rw [List.map_append]; rfl
theorem valV_cons {κ : Type} [DecidableEq κ] (x : κ × V) (l : List (κ × V)) (k : κ) : valV (x :: l) k = if x.1 = k then some x.2 else valV l k := by
  by_cases h : x.1 = k
  · rw [if_pos h, valV_pos h]
  · rw [if_neg h, valV_neg h]
theorem valV_papV : ∀ (P : Pap) (k : List Bool), valV (papV P) k = (look P k).map vn
  | [], _ => rfl
  | x :: P, k => by
    show valV ((x.1, vn x.2) :: papV P) k = _
    rw [valV_cons, look_cons, valV_papV P k]
    by_cases h : x.1 = k
    · rw [if_pos h, if_pos h]; rfl
    · rw [if_neg h, if_neg h]
theorem valV_iff {κ : Type} [DecidableEq κ] : ∀ (l : List (κ × V)) (k : κ), (valV l k).isSome = true ↔ k ∈ l.map (·.1)
  | [], k => ⟨fun h => (nomatch h), fun h => (nomatch h)⟩
  | x :: l, k => by
    rw [valV_cons, List.map_cons, List.mem_cons]
    by_cases h : x.1 = k
    · rw [if_pos h]; exact ⟨fun _ => .inl h.symm, fun _ => rfl⟩
    · rw [if_neg h, valV_iff l k]
      exact ⟨.inr, fun q => q.elim (fun e => absurd e.symm h) id⟩
theorem val_in {κ : Type} [DecidableEq κ] {l : List (κ × V)} {k : κ} (h : (valV l k).isSome = true) : k ∈ l.map (·.1) := (valV_iff l k).mp h
theorem val_out {κ : Type} [DecidableEq κ] {l : List (κ × V)} {k : κ} (h : (valV l k).isSome = false) : k ∉ l.map (·.1) := fun q => by rw [(valV_iff l k).mpr q] at h; cases h
theorem in_val {κ : Type} [DecidableEq κ] {l : List (κ × V)} {k : κ} (h : k ∈ l.map (·.1)) : (valV l k).isSome = true := (valV_iff l k).mpr h
theorem out_val {κ : Type} [DecidableEq κ] {l : List (κ × V)} {k : κ} (h : k ∉ l.map (·.1)) : (valV l k).isSome = false := by
  cases e : (valV l k).isSome with
  | false => rfl
  | true => exact absurd (val_in e) h
theorem valV_of {κ : Type} [DecidableEq κ] : ∀ {l : List (κ × V)} {k : κ} {v : V}, (l.map (·.1)).Nodup → (k, v) ∈ l → valV l k = some v
  | [], _, _, _, h => nomatch h
  | x :: l, k, v, n, h => by
    rw [List.map_cons, List.nodup_cons] at n
    rw [valV_cons]
    rcases List.mem_cons.mp h with e | h
    · subst e; exact if_pos rfl
    · have : x.1 ≠ k := fun e => n.1 (List.mem_map.mpr ⟨_, h, e.symm⟩)
      rw [if_neg this]; exact valV_of n.2 h
theorem putK_fresh {κ : Type} [DecidableEq κ] {l : List (κ × V)} {k : κ} (v : V) (h : k ∉ l.map (·.1)) : putK l k v = l ++ [(k, v)] := by
  refine putK_new v ?_
  have := out_val h
  cases e : valV l k with
  | none => rfl
  | some x => rw [e] at this; cases this
/-- numbers that fall along each move, for stands from which every walk ends -/
structure Falls (ws : List W) (ps : List Bool) (P : Pap) : Prop where
  nodup : (P.map (·.1)).Nodup
  fall : ∀ t v, look P t = some v → ∀ k ∈ movL ws ps t, ∃ u, look P (flip t k) = some u ∧ u < v
  zero : ∀ t, look P t = some 0 ↔ (t ∈ P.map (·.1) ∧ movL ws ps t = [])
  low : ∀ t v, look P t = some v → v < P.length
/-- told to settle -/
structure Settles (ws : List W) (ps ss rest : List Bool) (P : Pap) : Prop where
  stands : Stands ws ps ss (P.map (·.1))
  falls : Falls ws ps P
  here : rest ∈ P.map (·.1)
  rest : ∀ t ∈ P.map (·.1), movL ws ps t = [] ↔ t = rest
structure Parts (ws : List W) (ps ss : List Bool) (r1 r2 : List Nat) (t1 t2 : List Bool) : Prop where
  road1 : Road ws ps ss r1 t1
  road2 : Road ws ps ss r2 t2
  rest1 : movL ws ps t1 = []
  rest2 : movL ws ps t2 = []
  ne : t1 ≠ t2
structure Rounds (ws : List W) (ps ss : List Bool) (r1 r2 : List Nat) (t : List Bool) : Prop where
  road : Road ws ps ss r1 t
  ring : Road ws ps t r2 t
  ne : r2 ≠ []
theorem Falls.road {P : Pap} (F : Falls ws ps P) : ∀ {rs : List Nat} {ss tt : List Bool} {v : Nat}, look P ss = some v → Road ws ps ss rs tt → ∃ u, look P tt = some u ∧ u + rs.length ≤ v
  | [], _, _, v, h, r => by cases (show _ = _ from r); exact ⟨v, h, Nat.le_refl _⟩
  | k :: rs, _, _, v, h, ⟨m, r⟩ => by
    obtain ⟨u, hu, lt⟩ := F.fall _ _ h _ m
    obtain ⟨x, hx, le⟩ := F.road hu r
    exact ⟨x, hx, by rw [List.length_cons]; omega⟩
theorem Settles.no_ring {ss rest t : List Bool} {P : Pap} {r1 r2 : List Nat} (S : Settles ws ps ss rest P) (R : Rounds ws ps ss r1 r2 t) : False := by
  obtain ⟨v, hv⟩ := look_some.mp ((S.stands.mem t).mpr ⟨_, R.road⟩)
  obtain ⟨u, hu, le⟩ := S.falls.road hv R.ring
  rw [hv] at hu
  cases hu
  have : 0 < r2.length := List.length_pos_iff.mpr R.ne
  omega
theorem Settles.no_parts {ss rest t1 t2 : List Bool} {P : Pap} {r1 r2 : List Nat} (S : Settles ws ps ss rest P) (R : Parts ws ps ss r1 r2 t1 t2) : False :=
  R.ne (((S.rest t1 ((S.stands.mem t1).mpr ⟨_, R.road1⟩)).mp R.rest1).trans ((S.rest t2 ((S.stands.mem t2).mpr ⟨_, R.road2⟩)).mp R.rest2).symm)
theorem Settles.rest_eq {ss rest rest2 : List Bool} {P P2 : Pap} (S : Settles ws ps ss rest P) (S2 : Settles ws ps ss rest2 P2) : rest = rest2 := by
  have h := (S.rest rest S.here).mpr rfl
  exact (S2.rest rest ((S2.stands.mem _).mpr ((S.stands.mem _).mp S.here))).mp h
theorem look_snoc : ∀ {P : Pap} {t : List Bool} {v : Nat} (k : List Bool), t ∉ P.map (·.1) → look (P ++ [(t, v)]) k = if t = k then some v else look P k
  | [], t, v, k, _ => look_cons _ _ _
  | x :: P, t, v, k, h => by
    rw [List.map_cons, List.mem_cons] at h
    show look (x :: (P ++ [(t, v)])) k = _
    rw [look_cons, look_cons]
    by_cases e : x.1 = k
    · have : t ≠ k := fun z => h (.inl (z.trans e.symm))
      rw [if_pos e, if_neg this, if_pos e]
    · rw [if_neg e, if_neg e, look_snoc k fun z => h (.inr z)]
def maxI (d : Int) : List Int → Int
  | [] => d
  | y :: ys => ys.foldl max y
def tops : List Nat → Nat
  | [] => 0
  | y :: ys => 1 + ys.foldl max y
theorem fold_ge : ∀ (ys : List Nat) (y : Nat), y ≤ ys.foldl max y ∧ ∀ x ∈ ys, x ≤ ys.foldl max y
  | [], y => ⟨Nat.le_refl _, fun _ h => (nomatch h)⟩
  | z :: ys, y => by
    obtain ⟨h1, h2⟩ := fold_ge ys (max y z)
    refine ⟨Nat.le_trans (Nat.le_max_left _ _) h1, fun x hx => ?_⟩
    rcases List.mem_cons.mp hx with rfl | hx
    · exact Nat.le_trans (Nat.le_max_right _ _) h1
    · exact h2 x hx
theorem fold_lt {B : Nat} : ∀ (ys : List Nat) (y : Nat), y < B → (∀ x ∈ ys, x < B) → ys.foldl max y < B
  | [], y, h, _ => h
  | z :: ys, y, h, k => fold_lt ys (max y z) (Nat.max_lt.mpr ⟨h, k z List.mem_cons_self⟩) fun x hx => k x (List.mem_cons_of_mem _ hx)
theorem tops_lt {l : List Nat} {x : Nat} (h : x ∈ l) : x < tops l := by
  cases l with
  | nil => cases h
  | cons y ys =>
    obtain ⟨h1, h2⟩ := fold_ge ys y
    show x < 1 + _
    rcases List.mem_cons.mp h with rfl | h
    · omega
    · have := h2 x h; omega
theorem tops_le {l : List Nat} {B : Nat} (h : ∀ x ∈ l, x < B) : tops l ≤ B := by
  cases l with
  | nil => exact Nat.zero_le _
  | cons y ys =>
    have := fold_lt ys y (h y List.mem_cons_self) fun x hx => h x (List.mem_cons_of_mem _ hx)
    show 1 + _ ≤ _
    omega
theorem tops_zero {l : List Nat} : tops l = 0 ↔ l = [] := by
  cases l with
  | nil => exact ⟨fun _ => rfl, fun _ => rfl⟩
  | cons y ys => exact ⟨fun h => absurd (show 1 + _ = 0 from h) (by omega), fun h => nomatch h⟩
theorem fold_cast : ∀ (ys : List Nat) (y : Nat), (ys.map fun (k : Nat) => (k : Int)).foldl max (y : Int) = ((ys.foldl max y : Nat) : Int)
  | [], y => rfl
  | z :: ys, y => by
    have := fold_cast ys (max y z)
    rw [List.map_cons, List.foldl_cons, List.foldl_cons, ← this]
    congr 1
    omega
theorem tops_int (l : List Nat) : (1 : Int) + maxI (-1) (l.map fun (k : Nat) => (k : Int)) = ((tops l : Nat) : Int) := by
  cases l with
  | nil => rfl
  | cons y ys =>
    show (1 : Int) + (ys.map fun (k : Nat) => (k : Int)).foldl max (y : Int) = ((1 + ys.foldl max y : Nat) : Int)
    rw [fold_cast]; omega
/-- the numbers behind t's moves -/
def behind (ws : List W) (ps : List Bool) (P : Pap) (t : List Bool) : List Nat := (movL ws ps t).map fun k => (look P (flip t k)).getD 0
theorem Falls.snoc {P : Pap} {t : List Bool} (F : Falls ws ps P) (ht : t ∉ P.map (·.1)) (h : ∀ k ∈ movL ws ps t, flip t k ∈ P.map (·.1)) : Falls ws ps (P ++ [(t, tops (behind ws ps P t))]) := by
  have keys : (P ++ [(t, tops (behind ws ps P t))]).map (·.1) = P.map (·.1) ++ [t] := by rw [List.map_append]; rfl
  have hb : ∀ k ∈ movL ws ps t, ∃ u, look P (flip t k) = some u ∧ u ∈ behind ws ps P t := fun k hk => by
    obtain ⟨u, hu⟩ := look_some.mp (h k hk)
    exact ⟨u, hu, List.mem_map.mpr ⟨k, hk, by rw [hu]; rfl⟩⟩
  have bl : ∀ x ∈ behind ws ps P t, x < P.length := fun x hx => by
    obtain ⟨k, hk, rfl⟩ := List.mem_map.mp hx
    obtain ⟨u, hu, _⟩ := hb k hk
    rw [hu]; exact F.low _ _ hu
  have other : ∀ u ∈ P.map (·.1), look (P ++ [(t, tops (behind ws ps P t))]) u = look P u := fun u hu => by
    have : t ≠ u := fun e => ht (e ▸ hu)
    rw [look_snoc u ht, if_neg this]
  have self : look (P ++ [(t, tops (behind ws ps P t))]) t = some (tops (behind ws ps P t)) := by rw [look_snoc t ht, if_pos rfl]
  refine ⟨?_, ?_, ?_, ?_⟩
  · rw [keys]
    refine List.nodup_append.mpr ⟨F.nodup, List.nodup_cons.mpr ⟨(fun h => nomatch h), List.nodup_nil⟩, fun a ha b hb e => ?_⟩
    rw [List.mem_singleton.mp hb] at e
    exact ht (e ▸ ha)
  · intro u v hu k hk
    by_cases e : t = u
    · subst e
      rw [self] at hu
      cases hu
      obtain ⟨x, hx, hm⟩ := hb k hk
      exact ⟨x, by rw [other _ (h k hk)]; exact hx, tops_lt hm⟩
    · rw [look_snoc u ht, if_neg e] at hu
      obtain ⟨x, hx, lt⟩ := F.fall u v hu k hk
      exact ⟨x, by rw [other _ (look_some.mpr ⟨x, hx⟩)]; exact hx, lt⟩
  · intro u
    rw [keys, List.mem_append, List.mem_singleton, look_snoc u ht]
    by_cases e : t = u
    · subst e
      rw [if_pos rfl]
      constructor
      · intro z
        have z : tops (behind ws ps P t) = 0 := Option.some.inj z
        refine ⟨.inr rfl, ?_⟩
        have := tops_zero.mp z
        exact List.map_eq_nil_iff.mp this
      · rintro ⟨_, z⟩
        have : behind ws ps P t = [] := by unfold behind; rw [z]; rfl
        rw [this]; rfl
    · rw [if_neg e, F.zero u]
      exact ⟨fun ⟨a, b⟩ => ⟨.inl a, b⟩, fun ⟨a, b⟩ => ⟨a.resolve_right fun z => e z.symm, b⟩⟩
  · intro u v hu
    rw [List.length_append, List.length_singleton]
    by_cases e : t = u
    · rw [look_snoc u ht, if_pos e] at hu
      cases hu
      have := tops_le bl; omega
    · rw [look_snoc u ht, if_neg e] at hu
      have := F.low u v hu; omega
theorem Falls.ends {P : Pap} (F : Falls ws ps P) : ∀ (v : Nat) (t : List Bool), look P t = some v → ∃ u ∈ P.map (·.1), movL ws ps u = [] := by
  intro v
  induction v using Nat.strongRecOn with
  | _ v ih =>
    intro t ht
    cases h : movL ws ps t with
    | nil => exact ⟨t, look_some.mpr ⟨v, ht⟩, h⟩
    | cons k ks =>
      obtain ⟨u, hu, lt⟩ := F.fall t v ht k (by rw [h]; exact List.mem_cons_self)
      exact ih u lt _ hu
end
end Rl

namespace Rl
open PySem PySem.Spec L2
/-! ### dicts whose keys are tuples of truth values -/
abbrev BK (P : Program) (w : World) : HeapKind P w (List Bool) := tupleKind (PpSet.boolK P w)
def bEnt (x : List Bool × Addr × Value) : DictEntry := ⟨reduceHash (Builtin.Tuple.tupleHashOf (x.1.map PpSet.hB)), .ref x.2.1, x.2.2⟩
theorem bEnt_eq (P : Program) (w : World) : bEnt = entryOfKey (BK P w) := rfl
def bFits (a : Addr) (bs : List Addr) (kvs : List (List Bool × V)) (h : Heap) : Prop :=
  kvs.length ≤ sizeLine ∧ (a == sysModules) = false ∧ ∃ xs : List (List Bool × Addr × Value), KV kvs (pairsH xs) ∧ xs.map (fun x => x.2.1) = bs ∧
    ∃ o ens ep, h.get? a = some o ∧ o.ExactDict ∧ o.data = .dict ens ep ∧ ens.toList = xs.map bEnt ∧ (xs.map (·.1)).Nodup
/-- the dict at a, its keys at bs -/
def bD (a : Addr) (bs : List Addr) (kvs : List (List Bool × V)) : HO := .ext (bFits a bs kvs)
theorem bD_ok {P : Program} {w : World} {H : Hp} {h : Heap} {a : Addr} {bs : List Addr} {kvs : List (List Bool × V)} (q : bFits a bs kvs h) : ObjOk P w H h a (bD a bs kvs) := by
  refine ⟨q, ?_, ?_⟩
  · obtain ⟨_, _, _, _, _, o, _, _, e, _⟩ := q; exact ⟨o, e⟩
  · rintro h1 h2 ⟨z, y, xs, r, l, o, ens, ep, e, c⟩ k
    exact ⟨z, y, xs, r, l, o, ens, ep, k o e, c⟩
/-- the keys' tuples -/
def KAt (H : Hp) (bs : List Addr) (ks : List (List Bool)) : Prop := Paired (fun b (k : List Bool) => H b = some (.tup (k.map V.bl))) bs ks
theorem KAt.tk {H H' : Hp} {bs : List Addr} {ks : List (List Bool)} (h : KAt H bs ks) (t : Tk H H') : KAt H' bs ks := Paired.mapP h fun _ _ e => t _ _ e
def DBat (H : Hp) (a : Addr) (kvs : List (List Bool × V)) : Prop := ∃ bs, H a = some (bD a bs kvs) ∧ KAt H bs (kvs.map (·.1)) ∧ (kvs.map (·.1)).Nodup
theorem DBat.same {H H' : Hp} {a : Addr} {kvs : List (List Bool × V)} (h : DBat H a kvs) (s : Same H H') : DBat H' a kvs := by
  obtain ⟨bs, e, k, n⟩ := h
  exact ⟨bs, s _ _ e, k.tk (Same.tk s), n⟩
theorem DBat.at {H H' : Hp} {a : Addr} {kvs : List (List Bool × V)} (h : DBat H a kvs) (e : H' a = H a) (t : Tk H H') : DBat H' a kvs := by
  obtain ⟨bs, e1, k, n⟩ := h
  exact ⟨bs, e.trans e1, k.tk t, n⟩
theorem DBat.nodup {H : Hp} {a : Addr} {kvs : List (List Bool × V)} (h : DBat H a kvs) : (kvs.map (·.1)).Nodup := let ⟨_, _, _, n⟩ := h; n
theorem bItems {P : Program} {w : World} : ∀ {k : List Bool} {us : List Value}, Vals (k.map V.bl) us → ItemsAre (PpSet.boolK P w) k us
  | [], _, r => by rw [List.map_nil] at r; cases r; exact .nil
  | b :: k, _, r => by
    rw [List.map_cons] at r
    cases r with
    | @cons _ u _ _ h t =>
      cases (show u = Value.bool b from h)
      exact .cons (PpSet.boolK_is P w b) (bItems t)
theorem bKey {P : Program} {w : World} {H : Hp} {h : Heap} {a : Addr} {k : List Bool} (ok : HOk P w H h) (e : H a = some (.tup (k.map V.bl))) : (BK P w).is h k a := by
  obtain ⟨_, its, r, ob, e1, e2, n, e3⟩ := (show ObjOk P w H h a (.tup (k.map V.bl)) from ok a _ e)
  exact ⟨ob, its.toArray, n, e1, e2, e3, by simpa using bItems r⟩
theorem kat_iff {H : Hp} : ∀ {xs : List (List Bool × Addr × Value)}, KAt H (xs.map fun x => x.2.1) (xs.map (·.1)) ↔ ∀ x ∈ xs, H x.2.1 = some (.tup (x.1.map V.bl))
  | [] => ⟨(fun _ _ h => nomatch h), (fun _ => .nil)⟩
  | x :: xs => by
    rw [List.map_cons, List.map_cons]
    constructor
    · intro h
      cases h with
      | cons r t =>
        intro y hy
        rcases List.mem_cons.mp hy with rfl | hy
        · exact r
        · exact (kat_iff.mp t) y hy
    · intro h
      exact .cons (h x List.mem_cons_self) (kat_iff.mpr fun y hy => h y (List.mem_cons_of_mem _ hy))
theorem pairs_keys (xs : List (List Bool × Addr × Value)) : (pairsH xs).map (·.1) = xs.map (·.1) := by
  unfold pairsH; rw [List.map_map]; rfl
theorem bOf {P : Program} {w : World} {H : Hp} {h : Heap} {a : Addr} {bs : List Addr} {kvs : List (List Bool × V)} (ok : HOk P w H h) (q : bFits a bs kvs h) (k : KAt H bs (kvs.map (·.1))) :
    kvs.length ≤ sizeLine ∧ (a == sysModules) = false ∧ ∃ xs : List (List Bool × Addr × Value), KV kvs (pairsH xs) ∧ xs.map (fun x => x.2.1) = bs ∧ h.DictOfH (BK P w) a xs := by
  obtain ⟨z, y, xs, r, l, o, ens, ep, e, c, d, f, n⟩ := q
  refine ⟨z, y, xs, r, l, o, ens, ep, e, c, d, f, fun x hx => ?_, n⟩
  rw [← l, KV.keys r, pairs_keys] at k
  exact bKey ok (kat_iff.mp k x hx)
theorem DBat.of {P : Program} {w : World} {H : Hp} {h : Heap} {a : Addr} {kvs : List (List Bool × V)} (ok : HOk P w H h) (d : DBat H a kvs) :
    ∃ bs, H a = some (bD a bs kvs) ∧ KAt H bs (kvs.map (·.1)) ∧ kvs.length ≤ sizeLine ∧ (a == sysModules) = false ∧ ∃ xs : List (List Bool × Addr × Value), KV kvs (pairsH xs) ∧ xs.map (fun x => x.2.1) = bs ∧ h.DictOfH (BK P w) a xs := by
  obtain ⟨bs, e, k, _⟩ := d
  have q : ObjOk P w H h a (bD a bs kvs) := ok a _ e
  exact ⟨bs, e, k, bOf ok q.1 k⟩
theorem dictH_bFits {P : Program} {w : World} {h : Heap} {a : Addr} {kvs : List (List Bool × V)} {xs : List (List Bool × Addr × Value)} (z : kvs.length ≤ sizeLine) (y : (a == sysModules) = false) (r : KV kvs (pairsH xs)) (d : h.DictOfH (BK P w) a xs) :
    bFits a (xs.map fun x => x.2.1) kvs h := by
  obtain ⟨o, ens, ep, e, c, dd, f, _, n⟩ := d
  exact ⟨z, y, xs, r, rfl, o, ens, ep, e, c, dd, f, n⟩
theorem nodup_of {P : Program} {w : World} {h : Heap} {a : Addr} {kvs : List (List Bool × V)} {xs : List (List Bool × Addr × Value)} (r : KV kvs (pairsH xs)) (d : h.DictOfH (BK P w) a xs) : (kvs.map (·.1)).Nodup := by
  obtain ⟨o, ens, ep, e, c, dd, f, _, n⟩ := d
  rw [KV.keys r, pairs_keys]; exact n
theorem bVal {kvs : List (List Bool × V)} {xs : List (List Bool × Addr × Value)} (r : KV kvs (pairsH xs)) (k : List Bool) : RelO (valV kvs k) ((atKey xs k).map (·.2)) := by
  rw [← valueAt_pairsH]
  exact KV.val r k
theorem kat_put {H : Hp} {xs : List (List Bool × Addr × Value)} {k : List Bool} {b : Addr} {v : Value} (h : ∀ x ∈ xs, H x.2.1 = some (.tup (x.1.map V.bl))) (e : H b = some (.tup (k.map V.bl))) : ∀ x ∈ storedH xs k b v, H x.2.1 = some (.tup (x.1.map V.bl)) := by
  intro x hx
  unfold storedH at hx
  split at hx
  · obtain ⟨y, hy, rfl⟩ := List.mem_map.mp hx
    unfold putAt
    split
    · exact h y hy
    · exact h y hy
  · rcases List.mem_append.mp hx with q | q
    · exact h x q
    · rw [List.mem_singleton.mp q]; exact e
/-- all but a stay -/
def But (a : Addr) (H H' : Hp) : Prop := ∀ c, c ≠ a → H' c = H c
theorem But.upd {a : Addr} {H : Hp} {o : HO} : But a H (upd H a o) := fun c hc => upd_ne hc
theorem But.tk {a : Addr} {H H' : Hp} {kvs : List (List Bool × V)} (b : But a H H') (d : DBat H a kvs) : Tk H H' := fun c xs e => by
  obtain ⟨bs, q, _⟩ := d
  rw [b c (ne_of e q (by intro z; cases z))]; exact e
theorem But.get {a c : Addr} {H H' : Hp} (b : But a H H') (h : c ≠ a) : H' c = H c := b c h
theorem Same.but {H0 H H' : Hp} {a : Addr} (s : Same H0 H) (n : H0 a = none) (b : But a H H') : Same H0 H' := fun c o e => by
  rw [b c (ne_of_none e n)]; exact s c o e
section
variable {X : Cx} {pins : List (Addr × Obj)} {σ : St} {H : Hp} {s : Shared} {a b : Addr} {v : V} {r : Value} {A : Around} {E : Value → Shared → Prop} {kvs : List (List Bool × V)} {k : List Bool}
theorem b_getItem {Q : Value → Shared → Prop} (hu : A.units + 1 < cLine) (I : Inv X pins σ H s) (d : DBat H a kvs) (eb : H b = some (.tup (k.map V.bl))) (hv : valV kvs k = some v) (h : ∀ w' s', Inv X pins σ H s' → RelV v w' → Q w' s') :
    wpAny (model X.prog X.w) A (getItem (.ref a) (.ref b)) Q E s := by
  obtain ⟨bs, e, ka, z, y, xs, rel, _, dd⟩ := d.of I.hok
  have q := bVal rel k
  rw [hv] at q
  obtain ⟨u, hu2, ru⟩ := RelO.some_of q
  obtain ⟨p, hp, rfl⟩ := Option.map_eq_some_iff.mp hu2
  exact wpAny_getItem_heap (tupleKind_room_in1 hu) (bKey I.hok eb) dd hp (h _ _ (I.tok _) ru)
theorem b_in {Q : Value → Shared → Prop} (hu : A.units + 1 < cLine) (I : Inv X pins σ H s) (d : DBat H a kvs) (eb : H b = some (.tup (k.map V.bl))) (h : ∀ s', Inv X pins σ H s' → Q (.bool (valV kvs k).isSome) s') :
    wpAny (model X.prog X.w) A (compareOp .In (.ref b) (.ref a)) Q E s := by
  obtain ⟨bs, e, ka, z, y, xs, rel, _, dd⟩ := d.of I.hok
  have q := (bVal rel k).isSome_eq
  rw [Option.isSome_map] at q
  refine wpAny_in_heap (tupleKind_room_in1 hu) (bKey I.hok eb) y dd ?_
  rw [← q]; exact h _ (I.tok _)
theorem b_notIn {Q : Value → Shared → Prop} (hu : A.units + 1 < cLine) (I : Inv X pins σ H s) (d : DBat H a kvs) (eb : H b = some (.tup (k.map V.bl))) (h : ∀ s', Inv X pins σ H s' → Q (.bool (!(valV kvs k).isSome)) s') :
    wpAny (model X.prog X.w) A (compareOp .NotIn (.ref b) (.ref a)) Q E s := by
  obtain ⟨bs, e, ka, z, y, xs, rel, _, dd⟩ := d.of I.hok
  have q := (bVal rel k).isSome_eq
  rw [Option.isSome_map] at q
  refine PyProof.Rows.wpAny_notIn_heap (tupleKind_room_in1 hu) (bKey I.hok eb) y dd ?_
  rw [← q]; exact h _ (I.tok _)
/-- the dict at a is written -/
theorem b_write {h' : Heap} {t' : Nat} {kvs2 : List (List Bool × V)} {xs2 : List (List Bool × Addr × Value)} (I : Inv X pins σ H s) (d : DBat H a kvs) (hs : Heap.SameBut a s.heap h') (z : kvs2.length ≤ sizeLine) (rel : KV kvs2 (pairsH xs2)) (dd : h'.DictOfH (BK X.prog X.w) a xs2)
    (hk : ∀ x ∈ xs2, H x.2.1 = some (.tup (x.1.map V.bl))) : ∃ H', Inv X pins σ H' { s with heap := h', toks := t' } ∧ DBat H' a kvs2 ∧ But a H H' := by
  obtain ⟨bs, e, ka, z0, y, xs, rel0, _, dd0⟩ := d.of I.hok
  have e2 : ∃ q, h'.get? a = some q := let ⟨q, _, _, hq, _⟩ := dd; ⟨q, hq⟩
  have t : Tk H (upd H a (bD a (xs2.map fun x => x.2.1) kvs2)) := fun c ys q => by rw [upd_ne (ne_of q e (by intro z; cases z))]; exact q
  refine ⟨upd H a (bD a (xs2.map fun x => x.2.1) kvs2), I.write (x := a) (e := a) (by rw [e]; exact True.intro) (.inl rfl) (fun c q hc u => (hs.2 c hc).trans u) e2 (bD_ok (dictH_bFits z y rel dd)), ⟨_, upd_same, ?_, nodup_of rel dd⟩, But.upd⟩
  have w : KAt H (xs2.map fun x => x.2.1) (kvs2.map (·.1)) := by
    rw [KV.keys rel, pairs_keys]; exact kat_iff.mpr hk
  exact w.tk t
theorem b_setItem {Q : Unit → Shared → Prop} (hu : A.units + 1 < cLine) (I : Inv X pins σ H s) (d : DBat H a kvs) (eb : H b = some (.tup (k.map V.bl))) (hl : kvs.length < sizeLine) (rv : RelV v r)
    (h : ∀ H' s', Inv X pins σ H' s' → DBat H' a (putK kvs k v) → But a H H' → Q () s') : wpAny (model X.prog X.w) A (setItem (.ref a) (.ref b) r) Q E s := by
  obtain ⟨bs, e, ka, z, y, xs, rel, hbs, dd⟩ := d.of I.hok
  have hz : xs.length ≤ sizeLine := by
    have : kvs.length = xs.length := by rw [KV.length rel]; unfold pairsH; rw [List.length_map]
    omega
  refine wpAny_setItem_heap (hsz := hz) (tupleKind_room_in1 hu) (bKey I.hok eb) dd fun h' dd' hs => ?_
  have hl2 : (putK kvs k v).length ≤ sizeLine := by have := length_putK kvs k v; omega
  rw [← hbs, KV.keys rel, pairs_keys] at ka
  obtain ⟨H', I', d', b'⟩ := b_write (t' := s.toks + (BK X.prog X.w).draws k) I d hs hl2 (xs2 := storedH xs k b r) (by rw [pairsH_storedH]; exact KV.put rel k rv) dd' (kat_put (kat_iff.mp ka) eb)
  exact h H' _ I' d' b'
end
/-! ### readings and rules -/
def tBGet (td ty : TE) : TE := fun σ H Q => td σ H fun x H1 => ty σ H1 fun y H2 => ∃ a b kvs k v, x = .ref a ∧ y = .ref b ∧ DBat H2 a kvs ∧ H2 b = some (.tup (k.map V.bl)) ∧ valV kvs k = some v ∧ Q v H2
def tBIn (ty td : TE) : TE := fun σ H Q => ty σ H fun y H1 => td σ H1 fun x H2 => ∃ a b kvs k, x = .ref a ∧ y = .ref b ∧ DBat H2 a kvs ∧ H2 b = some (.tup (k.map V.bl)) ∧ Q (.bl (valV kvs k).isSome) H2
def tBNotIn (ty td : TE) : TE := fun σ H Q => ty σ H fun y H1 => td σ H1 fun x H2 => ∃ a b kvs k, x = .ref a ∧ y = .ref b ∧ DBat H2 a kvs ∧ H2 b = some (.tup (k.map V.bl)) ∧ Q (.bl (!(valV kvs k).isSome)) H2
def sBPut (td ty tv : TE) : TS := fun D σ H => tv σ H fun v H1 => td σ H1 fun x H2 => ty σ H2 fun y H3 => ∃ a b kvs k, x = .ref a ∧ y = .ref b ∧ DBat H3 a kvs ∧ H3 b = some (.tup (k.map V.bl)) ∧ kvs.length < sizeLine ∧
  ∀ H4, DBat H4 a (putK kvs k v) → But a H3 H4 → D.nx σ H4
def tBNew : TE := fun _ H Q => ∀ p H', H p = none → Same H H' → But p H H' → DBat H' p [] → Q (.ref p) H'
section
variable {X : Cx} {o i e value : Expr} {pos pos' tpos : Pos} {td ty tv : TE}
theorem DBat.typeIs {pins : List (Addr × Obj)} {σ : St} {H : Hp} {s : Shared} {a : Addr} {kvs : List (List Bool × V)} (I : Inv X pins σ H s) (d : DBat H a kvs) : s.TypeIs (.ref a) "dict" := by
  obtain ⟨_, _, _, _, _, xs, _, _, dd⟩ := d.of I.hok
  exact dd.typeIs
theorem DBat.noDict {pins : List (Addr × Obj)} {σ : St} {H : Hp} {s : Shared} {a : Addr} {kvs : List (List Bool × V)} (I : Inv X pins σ H s) (d : DBat H a kvs) : ∀ b, Value.ref a = .ref b → ∃ ob, s.heap.get? b = some ob ∧ ob.dict = none := fun b q => by
  cases q
  obtain ⟨_, _, _, _, _, xs, _, _, ob, _, _, e1, e2, _⟩ := d.of I.hok
  exact ⟨ob, e1, e2.2.1⟩
theorem pe_bget (hu : X.A.units + 1 < cLine) (ho : PE X o td) (hi : PE X i ty) (hs : NoSl i) : PE X (.Subscript o i pos) (tBGet td ty) := by
  refine ⟨fun pins s σ H Q I h => subD_of PySem.F.slot_dict_getitem.lookup hs (thn (ho.run pins s σ H _ I h) fun u s1 ⟨x, H1, I1, rx, q1⟩ => thn (hi.run pins s1 σ H1 _ I1 q1) ?_)⟩
  rintro iv s2 ⟨y, H2, I2, ry, a, b, kvs, k, v, rfl, rfl, d, eb, hv, q2⟩
  obtain rfl : u = Value.ref a := rx
  obtain rfl : iv = Value.ref b := ry
  exact ⟨d.typeIs I2, b_getItem hu I2 d eb hv fun w' s3 I3 rw' => ⟨v, H2, I3, rw', q2⟩⟩
theorem pc_bin (hu : X.A.units + 1 < cLine) (hi : PE X i ty) (ho : PE X o td) : PC X .In i o (tBIn ty td) := by
  refine ⟨fun pins s σ H Q I h => thn (hi.run pins s σ H _ I h) fun iv s1 ⟨y, H1, I1, ry, q1⟩ => thn (ho.run pins s1 σ H1 _ I1 q1) ?_⟩
  rintro u s2 ⟨x, H2, I2, rx, a, b, kvs, k, rfl, rfl, d, eb, q2⟩
  obtain rfl : u = Value.ref a := rx
  obtain rfl : iv = Value.ref b := ry
  exact b_in hu I2 d eb fun s3 I3 => ⟨.bl (valV kvs k).isSome, H2, I3, rfl, q2⟩
theorem pc_bnotin (hu : X.A.units + 1 < cLine) (hi : PE X i ty) (ho : PE X o td) : PC X .NotIn i o (tBNotIn ty td) := by
  refine ⟨fun pins s σ H Q I h => thn (hi.run pins s σ H _ I h) fun iv s1 ⟨y, H1, I1, ry, q1⟩ => thn (ho.run pins s1 σ H1 _ I1 q1) ?_⟩
  rintro u s2 ⟨x, H2, I2, rx, a, b, kvs, k, rfl, rfl, d, eb, q2⟩
  obtain rfl : u = Value.ref a := rx
  obtain rfl : iv = Value.ref b := ry
  exact b_notIn hu I2 d eb fun s3 I3 => ⟨.bl (!(valV kvs k).isSome), H2, I3, rfl, q2⟩
theorem ps_bput (hu : X.A.units + 1 < cLine) (ho : PE X o td) (hi : PE X i ty) (hv : PE X value tv) (hs : swapsWith value (some (.Subscript o i pos')) pos.line X.env = pure false) : PS X (.Assign [.Subscript o i pos'] value pos) (sBPut td ty tv) := by
  refine ⟨fun pins s σ H D I h => wpAny_Assign_Subscript (thn (hv.run pins s σ H _ I h) fun r s1 ⟨v, H1, I1, rv, q1⟩ => thn (ho.run pins s1 σ H1 _ I1 q1) fun u s2 ⟨x, H2, I2, rx, q2⟩ => thn (hi.run pins s2 σ H2 _ I2 q2) ?_) hs⟩
  rintro iv s3 ⟨y, H3, I3, ry, a, b, kvs, k, rfl, rfl, d, eb, hl, q3⟩
  obtain rfl : u = Value.ref a := rx
  obtain rfl : iv = Value.ref b := ry
  exact b_setItem hu I3 d eb hl rv fun H4 s4 I4 d4 b4 => ⟨σ, H4, I4, q3 H4 d4 b4⟩
theorem b_fresh {P : Program} {w : World} (h : Heap) (hb : sysModules < h.objs.size) : bFits h.objs.size [] [] (h.push { cls := .type "dict", data := .dict #[] }) :=
  dictH_bFits (P := P) (w := w) (xs := []) (Nat.zero_le _) (beq_eq_false_iff_ne.mpr (Ne.symm (Nat.ne_of_lt hb))) .nil (Heap.DictOfH.new h)
theorem b_new {pins : List (Addr × Obj)} {σ : St} {H : Hp} {s : Shared} (t : Nat) (I : Inv X pins σ H s) : Inv X pins σ (upd H s.heap.objs.size (bD s.heap.objs.size [] [])) { s with heap := s.heap.push { cls := .type "dict", data := .dict #[] }, toks := t } :=
  I.laid (fun _ _ q => Heap.get?_push_of_some _ q) (Nat.le_refl _) (bD_ok (b_fresh (P := X.prog) (w := X.w) s.heap I.big))
theorem dbat_new {H : Hp} {p : Addr} : DBat (upd H p (bD p [] [])) p [] := ⟨[], upd_same, .nil, List.nodup_nil⟩
theorem pe_bnew : PE X (.Dict [] [] pos) tBNew := ⟨fun pins s σ H Q I h => by
  have hn : H s.heap.objs.size = none := I.hok.fresh (Nat.le_refl _)
  exact wpAny_Dict_empty ⟨.ref s.heap.objs.size, _, b_new s.toks I, rfl, h _ _ hn (Same.new hn) But.upd dbat_new⟩⟩
/-- {k: v} -/
def tBOne (tk tv : TE) : TE := fun σ H Q => ∀ p H0, H p = none → Same H H0 → But p H H0 → DBat H0 p [] → tk σ H0 fun x H1 => tv σ H1 fun v H2 => DBat H2 p [] ∧ ∃ b k, x = .ref b ∧ H2 b = some (.tup (k.map V.bl)) ∧
  ∀ H3, DBat H3 p [(k, v)] → But p H2 H3 → Q (.ref p) H3
theorem pe_bone {k v : Expr} {tk tv : TE} (hu : X.A.units + 1 < cLine) (hk : PE X k tk) (hv : PE X v tv) : PE X (.Dict [some k] [v] pos) (tBOne tk tv) := by
  refine ⟨fun pins s σ H Q I h => ?_⟩
  have hn : H s.heap.objs.size = none := I.hok.fresh (Nat.le_refl _)
  have I0 := b_new s.toks I
  have h0 := h _ _ hn (Same.new hn) But.upd dbat_new
  have np : pairTrees [some k] [v] X.env pos ≠ [] := by
    intro z
    have e := congrArg List.length z
    rw [pairTrees_length [some k] [v] X.env pos rfl rfl] at e
    exact absurd (show 1 = 0 from e) (by decide)
  have nl : (pairTrees [some k] [v] X.env pos).length = 1 := pairTrees_length [some k] [v] X.env pos rfl rfl
  rw [arm_eval_Dict, zip_pairTrees [some k] [v] X.env pos rfl rfl, dictDisplay_pairs (pairTrees [some k] [v] X.env pos) np (by rw [nl]; exact Nat.le_of_ble_eq_true rfl)]
  refine wpAny_bind (wpAny_standAt (wpAny_bind (wpAny_subDictH (knd := BK X.prog X.w) (show X.A.units < cLine from by omega) (by rw [nl]; exact Nat.le_of_ble_eq_true rfl) ?_)))
  refine pairTrees_cons_walk (thn (hk.run pins _ σ _ _ I0 h0) fun u s1 ⟨x, H1, I1, rx, q1⟩ => thn (hv.run pins s1 σ H1 _ I1 q1) fun w2 s2 ⟨y, H2, I2, ry, d2, b, kk, ex, eb, q2⟩ => pairTrees_nil_walk ?_)
  subst ex
  obtain rfl : u = Value.ref b := rx
  obtain ⟨bs, e, ka, z, yy, xs, rel, hbs, dd⟩ := d2.of I2.hok
  have hx : xs = [] := by
    have := KV.length rel
    unfold pairsH at this
    rw [List.length_map] at this
    exact List.eq_nil_of_length_eq_zero this.symm
  subst hx
  refine ⟨[(kk, b, w2)], ⟨rfl, rfl, bKey I2.hok eb, True.intro⟩, dd, fun h' t dd2 hs => ?_⟩
  obtain ⟨H3, I3, d3, b3⟩ := b_write (t' := t) I2 d2 hs (kvs2 := [(kk, y)]) (xs2 := [(kk, b, w2)]) (small10 (Nat.le_of_ble_eq_true rfl)) (.cons ⟨rfl, ry⟩ .nil) dd2 (fun x hx => by rw [List.mem_singleton.mp hx]; exact eb)
  exact wpAny_pure ⟨.ref s.heap.objs.size, H3, I3, rfl, q2 H3 d3 b3⟩
end
/-! ### calls and methods -/
section
variable {X : Cx}
def rBLen : List V → Hp → VK → Prop := fun xs H Q => ∃ a kvs, xs = [.ref a] ∧ DBat H a kvs ∧ Q (.int ((kvs.length : Nat) : Int)) H
theorem call_blen : CallR X (.builtin "len") rBLen := by
  rintro pins s σ H xs us Q I r ⟨a, kvs, rfl, d, q⟩
  obtain ⟨u, rfl, rx⟩ := vals1 r
  obtain rfl : u = .ref a := rx
  obtain ⟨bs, e, ka, z, y, ys, rel, _, dd⟩ := d.of I.hok
  have hl : kvs.length = ys.length := by rw [KV.length rel]; unfold pairsH; rw [List.length_map]
  refine call_len_dictH y dd (by rw [← hl]; rw [sizeLine_eq] at z; omega) ?_
  rw [← hl]
  exact ⟨.int ((kvs.length : Nat) : Int), H, I.tok _, ⟨_, rfl⟩, q⟩
/-- list(d) -/
def rBList : List V → Hp → VK → Prop := fun xs H Q => ∃ a kvs, xs = [.ref a] ∧ DBat H a kvs ∧ ∀ p H' us, H p = none → Same H H' → H' p = some (.lst us) → Tups H' (kvs.map (·.1)) us → Q (.ref p) H'
theorem kat_tups {H : Hp} : ∀ {bs : List Addr} {ks : List (List Bool)}, KAt H bs ks → Tups H ks (bs.map V.ref)
  | _, _, .nil => .nil
  | _, _, .cons r t => .cons ⟨_, rfl, r⟩ (kat_tups t)
theorem call_blist (hc : X.calm = true) : CallR X (.type "list") rBList := by
  rintro pins s σ H vs us Q I r ⟨a, kvs, rfl, d, q⟩
  obtain ⟨u, rfl, rx⟩ := r.one
  cases rx
  obtain ⟨bs, e, ka, z, y, xs, rel, hbs, dd⟩ := d.of I.hok
  obtain ⟨o, ens, ep, ho, hx, hd, hen, _, hn⟩ := dd
  have l1 : ens.size = xs.length := size_of_entries hen
  have l2 : kvs.length = xs.length := by rw [KV.length rel]; unfold pairsH; rw [List.length_map]
  refine PySem.W.kdl_call (kdl_raw y hx hd) (I.ok.hd hc) ho (by omega) fun h' tk acc c kp e1 it => ?_
  have ea : acc.toList = bs.map Value.ref := by
    rw [← hbs, List.map_map]
    apply List.ext_getElem?
    intro j
    rw [List.getElem?_map]
    cases hj : acc.toList[j]? with
    | none =>
      have g := List.getElem?_eq_none_iff.mp hj
      rw [Array.length_toList, it.1] at g
      rw [List.getElem?_eq_none (by omega)]; rfl
    | some v =>
      obtain ⟨en, he, rfl⟩ := it.2 j v (by rw [← Array.getElem?_toList]; exact hj)
      rw [entry_at hen j] at he
      obtain ⟨x, hx1, rfl⟩ := Option.map_eq_some_iff.mp he
      rw [hx1]; rfl
  have hl : (bs.map V.ref).length ≤ sizeLine := by rw [← hbs, List.length_map, List.length_map]; omega
  have hnew : H s.heap.objs.size = none := I.hok.fresh (Nat.le_refl _)
  refine ⟨.ref s.heap.objs.size, upd H s.heap.objs.size (.lst (bs.map V.ref)), I.laid kp (Nat.le_refl _) ⟨hl, acc.toList, c, by rw [ea]; exact vals_refs bs, by rw [Array.toArray_toList]; exact e1⟩, rfl, ?_⟩
  exact q _ _ _ hnew (Same.new hnew) upd_same (Tups.same (Same.new hnew) (kat_tups ka))
/-- isinstance(d, dict) -/
def rBIsi : List V → Hp → VK → Prop := fun xs H Q => ∃ a kvs, xs = [.ref a, .ty "dict"] ∧ DBat H a kvs ∧ Q (.bl true) H
theorem call_bisi : CallR X (.builtin "isinstance") rBIsi := by
  rintro pins s σ H xs us Q I r ⟨a, kvs, rfl, d, q⟩
  obtain ⟨u, w', rfl, rx, ry⟩ := vals2 r
  obtain rfl : u = .ref a := rx
  obtain rfl : w' = .type "dict" := ry
  obtain ⟨bs, e, ka, z, y, xs, rel, hbs, o, ens, ep, ho, hx, _⟩ := d.of I.hok
  exact PySem.W.kia_one PySem.W.kitx_dict I.kIn ⟨o, ho, hx.1⟩ (kit_ty (a := "dict") (b := "dict") (r := true) (by decide +kernel)) (fun z => nomatch z) fun tk => ⟨.bl true, H, I.tok tk, rfl, q⟩
end
/-! ### max with a default -/
def rMaxD (K : PySem.W.Frag) : List V → List V → Hp → VK → Prop := fun vs zs H Q => ∃ (a : Addr) (ns : List Int) (d : Int), vs = [.ref a] ∧ zs = [.int d] ∧ SqL K H a (ns.map V.int) ∧ Q (.int (maxI d ns)) H
theorem reads_ints {h : Heap} : ∀ {ns : List Int} {us : List Value}, Vals (ns.map V.int) us → ∃ as, ReadsAll h us (ns.map PyData.int) as
  | [], _, r => by rw [List.map_nil] at r; cases r; exact ⟨_, .nil⟩
  | n :: ns, _, r => by
    rw [List.map_cons] at r
    cases r with
    | cons h1 t =>
      obtain ⟨tk, rfl⟩ := h1
      obtain ⟨as, q⟩ := reads_ints (h := h) t
      exact ⟨_, .cons (.int n tk) q⟩
theorem depth_ints : ∀ ns : List Int, PyData.depthAll (ns.map PyData.int) = 0
  | [] => rfl
  | n :: ns => by
    rw [List.map_cons]
    show max (PyData.depth (.int n)) (PyData.depthAll (ns.map PyData.int)) = 0
    rw [depth_ints ns]; rfl
theorem call_maxD {X : Cx} (hc : X.calm = true) (hu : X.A.units + 1 < cLine) : CallRK X (.builtin "max") ["default"] (rMaxD X.K) := by
  rintro pins s σ H vs zs us ws Q I r rz ⟨a, ns, d, rfl, rfl, hs, q⟩
  obtain ⟨u, rfl, rx⟩ := vals1 r
  obtain rfl : u = .ref a := rx
  obtain ⟨u2, rfl, rd⟩ := vals1 rz
  obtain ⟨its, rv, hl, hz⟩ := I.list hs
  obtain ⟨as, hr⟩ := reads_ints (h := s.heap) rv
  have al : PySem.W.AlikeAll (ns.map PyData.int) := by
    refine ⟨fun x hx y hy => ?_, fun x hx => ?_⟩
    · obtain ⟨i, _, rfl⟩ := List.mem_map.mp hx
      obtain ⟨j, _, rfl⟩ := List.mem_map.mp hy
      rfl
    · obtain ⟨i, _, rfl⟩ := List.mem_map.mp hx
      intro z; cases z
  refine PySem.W.max_list_default (xs := ns.map PyData.int) (as := as) (I.ok.hd hc) hl.isList (by simpa using hr) al (by rw [depth_ints]; omega) (fun hn h' tk k => ?_) (fun y ys i v h' tk bs hn hi rd2 k => ?_)
  · cases ns with
    | nil => exact ⟨.int d, H, I.kept k, rd, q⟩
    | cons n ns => exact nomatch hn
  · cases ns with
    | nil => exact nomatch hn
    | cons n ns =>
      rw [List.map_cons] at hn
      cases hn
      rw [PySem.W.maxD_ints] at rd2
      cases rd2 with
      | int _ t => exact ⟨.int (ns.foldl max n), H, I.kept k, ⟨t, rfl⟩, q⟩
/-! ### a walk over the keys -/
section
variable {X : Cx} {pins : List (Addr × Obj)} {σ : St} {H : Hp} {s : Shared} {d : Addr} {o : Obj} {bs : List Addr} {kvs : List (List Bool × V)}
theorem frzB (I : Inv X pins σ H s) (h : H d = some (.frz o (bD d bs kvs))) :
    (d == sysModules) = false ∧ s.heap.get? d = some o ∧ o.ExactDict ∧ ∃ (es : Array DictEntry) (ep : Nat), o.data = .dict es ep ∧ es.size = bs.length ∧ ∀ (i : Nat) (b : Addr), bs[i]? = some b → ∃ en : DictEntry, es[i]? = some en ∧ en.key = .ref b := by
  obtain ⟨hd, q⟩ := I.hok d _ h
  obtain ⟨_, y, xs, r, l, o2, ens, ep, e, c, dd, f, _⟩ := q.1
  rw [hd] at e
  cases e
  refine ⟨y, hd, c, ens, ep, dd, ?_, fun i b hb => ?_⟩
  · rw [← l, List.length_map]; exact size_of_entries (knd := BK X.prog X.w) f
  · rw [← l, List.getElem?_map] at hb
    obtain ⟨x, hx, rfl⟩ := Option.map_eq_some_iff.mp hb
    have g := entry_at (knd := BK X.prog X.w) f i
    rw [hx] at g
    exact ⟨_, g, rfl⟩
end
/-- the keys of the locked dict at d -/
def ItB (d : Addr) (o : Obj) (bs : List Addr) (kvs : List (List Bool × V)) : It :=
  ⟨fun i H => H d = some (.frz o (bD d bs kvs)) ∧ i < bs.length, fun i H x H' => H' = H ∧ ∃ b, bs[i]? = some b ∧ x = .ref b, fun i H => H d = some (.frz o (bD d bs kvs)) ∧ bs.length ≤ i⟩
theorem turn_B {P : Program} {w : World} {K : PySem.W.Frag} {tg : Expr} {d : Addr} {o : Obj} {es : Array DictEntry} {ep : Nat} {bs : List Addr} {kvs : List (List Bool × V)} (it : Addr) (hod : o.data = .dict es ep) :
    Turn P w K tg (ItB d o bs kvs) [it] it (fun i h => h.IsKeyIter it d i bs.length ep) where
  mem := List.mem_singleton.mpr rfl
  obj := fun i h st b hb => by
    cases List.mem_singleton.mp hb
    obtain ⟨oi, e1, _, e3⟩ := st
    exact ⟨oi, e1, fun v z => by rw [e3] at z; cases z⟩
  keep := fun i h h2 st k => st.at fun oi e => k it (List.mem_singleton.mpr rfl) oi e
  item := by
    rintro X rfl rfl rfl hc i pins s σ H E I hf st ⟨hd, hi⟩
    obtain ⟨f0, f1, f2, f3, f4, f5⟩ := hf it (List.mem_singleton.mpr rfl)
    obtain ⟨y, hgd, hx, es2, ep2, hdt, hsz, ent⟩ := frzB I hd
    cases (dict_ep hod hdt).1
    cases (dict_ep hod hdt).2
    have hb : bs[i]? = some bs[i] := List.getElem?_eq_getElem hi
    obtain ⟨en, hen, hk⟩ := ent i _ hb
    refine next_key_item st hgd hdt hsz hen fun h2 st2 sb => ?_
    have I2 : Inv X pins σ H { s with heap := h2 } := I.turned (t' := s.toks) (fun b ob hb e => (sb.2 b hb).trans e) f0 f1 f3 f4 f5
    obtain ⟨oi, e1, c1, d1⟩ := id st2
    exact ⟨en.key, rfl, go_of (s := { s with heap := h2 }) e1 c1 d1 (by decide) ⟨.ref bs[i], H, I2, hk, ⟨rfl, _, hb, rfl⟩, st2, fun b hb => (hf b hb).1⟩⟩
  done := by
    rintro X rfl rfl rfl hc i pins s σ H E I hf st ⟨hd, hi⟩
    obtain ⟨f0, f1, f2, f3, f4, f5⟩ := hf it (List.mem_singleton.mpr rfl)
    obtain ⟨y, hgd, hx, es2, ep2, hdt, hsz, ent⟩ := frzB I hd
    cases (dict_ep hod hdt).1
    cases (dict_ep hod hdt).2
    exact next_key_end (I.ok.hd hc) st hgd hdt hsz hi fun h2 eb => ⟨rfl, I.turned (t' := s.toks) (fun b ob hb e => eb b ob hb e) f0 f1 f3 f4 f5⟩
  self := fun A i s Q E st h => by
    have ty := st.typeIs (s := s)
    refine wpAny_pyIter_slot ty F.slot_dict_keyiterator_iter ?_
    refine wpAny_call_entry F.slot_dict_keyiterator_iter ty F.entry_dict_keyiterator_iter ?_ (F.args_dict_keyiterator_iter_1 _)
    exact wpAny_pure ⟨.ref it, rfl, "dict_keyiterator", _, ty, F.slot_dict_keyiterator_next.lookup, h⟩
def iBKeys (td : TE) : TI := fun σ H R => td σ H fun x H1 => ∃ d o bs kvs, x = .ref d ∧ H1 d = some (.frz o (bD d bs kvs)) ∧ R (ItB d o bs kvs) H1
theorem pi_bkeys {X : Cx} {tg e : Expr} {td : TE} (he : PE X e td) : PI X tg e (iBKeys td) := by
  refine ⟨fun pins s σ H R I h => thn (he.run pins s σ H _ I h) ?_⟩
  rintro u s1 ⟨x, H1, I1, rx, d, o, bs, kvs, rfl, hd, q⟩
  obtain rfl : u = Value.ref d := rx
  obtain ⟨y, hgd, hx, es, ep, hdt, hsz, ent⟩ := frzB I1 hd
  refine iter_keys y hgd hx hdt (pi_one (tk := s1.toks) I1 _ (turn_B _ hdt) ⟨_, Heap.get?_push_size _ rfl, rfl, ?_⟩ q)
  rw [hsz]; rfl
theorem walk_B {d : Addr} {o : Obj} {bs : List Addr} {kvs : List (List Bool × V)} : Walk (ItB d o bs kvs) bs.length (fun H => H d = some (.frz o (bD d bs kvs))) (YAt (bs.map V.ref)) :=
  ⟨fun i H hi h => ⟨h, hi⟩, fun H h => ⟨h, Nat.le_refl _⟩, fun i H x H' hi h ⟨e, b, hb, hx⟩ => ⟨e, by rw [List.getElem?_map, hb, hx]; rfl⟩⟩
/-! ### x.clear(), a list or a dict -/
def tClear (to : TE) : TE := fun σ H Q => to σ H fun x H1 => (∃ l xs, x = .ref l ∧ H1 l = some (.lst xs) ∧ Q .non (upd H1 l (.lst []))) ∨ (∃ a kvs, x = .ref a ∧ DBat H1 a kvs ∧ ∀ H2, DBat H2 a [] → But a H1 H2 → Q .non H2)
theorem pe_clear {X : Cx} {o : Expr} {to : TE} {apos cpos : Pos} (ho : PE X o to) (hbase : attributeBase o "clear" X.env (eval o X.env) = eval o X.env := by rfl) (hline : (apos.endLine == cpos.line) = true := by rfl) :
    PE X (.Call (.Attribute o "clear" apos) [] [] cpos) (tClear to) := by
  refine ⟨fun pins s σ H Q I h => wpAny_Call_method0_late hbase hline (thn (ho.run pins s σ H _ I h) ?_)⟩
  rintro v s1 ⟨x, H1, I1, r1, ⟨l, xs, rfl, hl, q⟩ | ⟨a, kvs, rfl, d, q⟩⟩
  · have ty : tyV X.K "list" (.ref l) H1 := .inl ⟨rfl, _, SqL.of hl⟩
    obtain ⟨h1, h2⟩ := tyV_is I1 r1 ty
    exact ⟨"list", "list.clear", PySem.F.plainAttrs_list, PySem.F.slot_list_clear, PySem.F.type_list_clear, h1, h2, Calls.callWith_builtin rfl (PySem.evalArgs_none (mt_clear pins s1 σ H1 _ [] v [] Q I1 r1 .nil ⟨l, xs, rfl, rfl, hl, q⟩))⟩
  · obtain rfl : v = .ref a := r1
    refine ⟨"dict", "dict.clear", PySem.F.plainAttrs_dict, PySem.F.slot_dict_clear, PySem.F.type_dict_clear, d.typeIs I1, d.noDict I1, Calls.callWith_builtin rfl (PySem.evalArgs_none ?_)⟩
    obtain ⟨bs, e, ka, z, y, xs, rel, hbs, dd⟩ := d.of I1.hok
    have hl : kvs.length = xs.length := by rw [KV.length rel]; unfold pairsH; rw [List.length_map]
    refine clear_keyed (knd := BK X.prog X.w) ⟨xs, dd, rfl⟩ (fun h2 ⟨ys, d2, e2⟩ hs => ?_) (by unfold pairsH; rw [List.length_map, ← hl]; exact z)
    have hy : ys = [] := by
      unfold pairsH at e2
      exact List.map_eq_nil_iff.mp e2
    subst hy
    obtain ⟨H2, I2, d3, b3⟩ := b_write (t' := s1.toks) I1 d hs (kvs2 := []) (xs2 := []) (Nat.zero_le _) .nil d2 (fun x hx => nomatch hx)
    exact ⟨.non, H2, I2, rfl, q H2 d3 b3⟩
theorem units65 {k : Nat} {A : Around} (hr : Room k A) : A.units + 65 < cLine := by have := hr.un; omega
end Rl

namespace Rl
open PySem PySem.Spec L2
/-! ### dict(xs), xs a list of pairs (tuple of truth values, value), no key twice -/
abbrev BE := List Bool × Addr × V
def BPair (H : Hp) (t : Addr) (e : BE) : Prop := H t = some (.tup [.ref e.2.1, e.2.2]) ∧ H e.2.1 = some (.tup (e.1.map V.bl))
def rBPairs : List V → Hp → VK → Prop := fun xs H Q => ∃ (a : Addr) (ts : List Addr) (es : List BE), xs = [.ref a] ∧ H a = some (.lst (ts.map V.ref)) ∧ Paired (BPair H) ts es ∧ (es.map (·.1)).Nodup ∧
  ∀ p H', H p = none → Same H H' → DBat H' p (es.map fun e => (e.1, e.2.2)) → Q (.ref p) H'
theorem bpairs_of {P : Program} {w : World} {H : Hp} {h : Heap} (ok : HOk P w H h) : ∀ {ts : List Addr} {es : List BE}, Paired (BPair H) ts es →
    ∃ ps : List (List Bool × Addr × Value), Paired (fun (e : BE) (q : List Bool × Addr × Value) => q.1 = e.1 ∧ q.2.1 = e.2.1 ∧ RelV e.2.2 q.2.2) es ps ∧ ps.length = ts.length ∧ (∀ x ∈ ps, H x.2.1 = some (.tup (x.1.map V.bl))) ∧
      ∀ (j : Nat) (q : List Bool × Addr × Value), ps[j]? = some q → ∃ t, ts[j]? = some t ∧ PairAt h t (.ref q.2.1) q.2.2
  | _, _, .nil => ⟨[], .nil, rfl, (fun _ h => nomatch h), fun j q e => by simp at e⟩
  | _, _, .cons (a := t) (b := e) r rest => by
    obtain ⟨ps, h1, h2, h3, h4⟩ := bpairs_of ok rest
    obtain ⟨r1, r2⟩ := r
    obtain ⟨_, its, rv, it⟩ := (show ObjOk P w H h t (.tup [.ref e.2.1, e.2.2]) from ok t _ r1)
    obtain ⟨u, y, rfl, ru, ry⟩ := vals2 rv
    cases (show u = Value.ref e.2.1 from ru)
    refine ⟨(e.1, e.2.1, y) :: ps, .cons ⟨rfl, rfl, ry⟩ h1, by rw [List.length_cons, List.length_cons, h2], fun x hx => ?_, fun j q hq => ?_⟩
    · rcases List.mem_cons.mp hx with rfl | hx
      · exact r2
      · exact h3 x hx
    · cases j with
      | zero => cases hq; exact ⟨t, rfl, .inl it⟩
      | succ j => exact h4 j q hq
theorem storedAll_new : ∀ (ps acc : List (List Bool × Addr × Value)), ((acc ++ ps).map (·.1)).Nodup → storedAllH acc ps = acc ++ ps
  | [], acc, _ => (List.append_nil acc).symm
  | p :: ps, acc, h => by
    have hn : atKey acc p.1 = none := by
      refine atKey_none_of_get fun j q hj => ?_
      rw [List.map_append, List.nodup_append] at h
      exact h.2.2 p.1 (List.mem_map.mpr ⟨_, List.mem_of_getElem? hj, rfl⟩) p.1 List.mem_cons_self rfl
    show storedAllH (storedH acc p.1 p.2.1 p.2.2) ps = _
    rw [storedH_new hn, storedAll_new ps (acc ++ [(p.1, p.2.1, p.2.2)]) (by rw [List.append_assoc]; exact h), List.append_assoc]; rfl
theorem kv_bpairs : ∀ {es : List BE} {ps : List (List Bool × Addr × Value)}, Paired (fun (e : BE) (q : List Bool × Addr × Value) => q.1 = e.1 ∧ q.2.1 = e.2.1 ∧ RelV e.2.2 q.2.2) es ps → KV (es.map fun e => (e.1, e.2.2)) (pairsH ps)
  | _, _, .nil => .nil
  | _, _, .cons r t => .cons ⟨r.1.symm, r.2.2⟩ (kv_bpairs t)
theorem keys_bpairs : ∀ {es : List BE} {ps : List (List Bool × Addr × Value)}, Paired (fun (e : BE) (q : List Bool × Addr × Value) => q.1 = e.1 ∧ q.2.1 = e.2.1 ∧ RelV e.2.2 q.2.2) es ps → ps.map (·.1) = es.map (·.1)
  | _, _, .nil => rfl
  | _, _, .cons r t => by rw [List.map_cons, List.map_cons, keys_bpairs t, r.1]
theorem call_bpairs {X : Cx} (hc : X.calm = true) (hu : X.A.units + 2 < cLine) : CallR X (.type "dict") rBPairs := by
  rintro pins s σ H xs us Q I r ⟨a, ts, es, rfl, ha, hp, nd, q⟩
  obtain ⟨u, rfl, rx⟩ := vals1 r
  obtain rfl : u = .ref a := rx
  obtain ⟨z, its, n, rv, e⟩ := (show ObjOk X.prog X.w H s.heap a (.lst (ts.map V.ref)) from I.hok a _ ha)
  obtain rfl := refs_at rv
  obtain ⟨ps, h1, h2, h3, h4⟩ := bpairs_of I.hok hp
  rw [List.length_map] at z
  have P := PairArg.list (prog := X.prog) (w := X.w) a (ts.map Value.ref).toArray (fun j => ts.getD j 0) (ps.map fun q => (Value.ref q.2.1, q.2.2))
  have hk := keys_bpairs h1
  refine call_dict_pairsH (knd := BK X.prog X.w) (ps := ps) P (I.ok.hd hc) (show X.A.units + 2 < cLine from hu) ⟨⟨_, n, e, rfl, rfl, rfl⟩, ?_, ?_⟩ ⟨by rw [List.length_map], ?_⟩ ?_ (by rw [List.length_map, h2]; exact z) ?_
  · rw [List.size_toArray, List.length_map, List.length_map, h2]
  · intro j k v hj
    rw [List.getElem?_map] at hj
    obtain ⟨x, hx, ex⟩ := Option.map_eq_some_iff.mp hj
    cases ex
    obtain ⟨t, ht, pa⟩ := h4 j x hx
    refine ⟨by simp [ht], ?_⟩
    show PairAt s.heap (ts.getD j 0) _ _
    rw [List.getD_eq_getElem?_getD, ht]; exact pa
  · intro i key v hv
    have hv : (ps.map fun q => (Value.ref q.2.1, q.2.2))[i]? = some (key, v) := hv
    rw [List.getElem?_map] at hv
    obtain ⟨x, hx, ex⟩ := Option.map_eq_some_iff.mp hv
    cases ex
    exact ⟨x.1, x.2.1, hx, rfl⟩
  · intro h' kp x hx
    have g := bKey (P := X.prog) (w := X.w) I.hok (h3 x hx)
    obtain ⟨o, items, m, e1, e2, e3, e4⟩ := g
    exact ⟨o, items, m, kp _ _ (Nat.ne_of_lt (Heap.lt_size e1)) (fun z => nomatch z) e1, e2, e3, e4⟩
  · intro h' tk dd kp
    rw [storedAll_new ps [] (by rw [List.nil_append, hk]; exact nd), List.nil_append] at dd
    have hn : H s.heap.objs.size = none := I.hok.fresh (Nat.le_refl _)
    have rel := kv_bpairs h1
    have hl : (es.map fun e => (e.1, e.2.2)).length ≤ sizeLine := by rw [KV.length rel]; unfold pairsH; rw [List.length_map, h2]; exact z
    have hm : (s.heap.objs.size == sysModules) = false := beq_eq_false_iff_ne.mpr (Ne.symm (Nat.ne_of_lt I.big))
    refine ⟨.ref s.heap.objs.size, upd H s.heap.objs.size (bD s.heap.objs.size (ps.map fun x => x.2.1) (es.map fun e => (e.1, e.2.2))), I.laid (t' := tk) (fun b o e => kp b o (fun z => nomatch z) e) (Nat.le_refl _) (bD_ok (dictH_bFits hl hm rel dd)), rfl, ?_⟩
    refine q _ _ hn (Same.new hn) ⟨_, upd_same, ?_, nodup_of rel dd⟩
    have w : KAt H (ps.map fun x => x.2.1) ((es.map fun e => (e.1, e.2.2)).map (·.1)) := by
      rw [KV.keys rel, pairs_keys]; exact kat_iff.mpr h3
    exact w.tk (Same.tk (Same.new hn))
theorem units2 {k : Nat} {A : Around} (hr : Room k A) : A.units + 2 < cLine := by have := hr.un; omega
end Rl

local macro_rules
  | `(tactic| wtm_at $s:str) => do
    match s.getString.splitOn " " with
    | ["new", p, h, ss, e] =>
      let n := Lean.mkIdent (Lean.Name.mkSimple ("n" ++ p))
      let p := Lean.mkIdent (Lean.Name.mkSimple p)
      let h := Lean.mkIdent (Lean.Name.mkSimple h)
      let ss := Lean.mkIdent (Lean.Name.mkSimple ss)
      let e := Lean.mkIdent (Lean.Name.mkSimple e)
      `(tactic| (intro $p $n; generalize eNew : L2.upd _ $p _ = $h; have $ss : L2.Same _ $h := eNew ▸ Rl.Same.new $n; have $e : $h $p = some _ := eNew ▸ L2.upd_same; clear eNew))
    | ["hp"] => `(tactic| first | assumption | exact L2.SqL.of (by wtm_at "hp") | exact L2.SqT.of (by wtm_at "hp") | (refine Rl.Same.get (by assumption) ?_; wtm_at "hp") | (refine L2.Same.seq (by assumption) ?_; wtm_at "hp") | (refine Rl.WA.same (by assumption) ?_; wtm_at "hp") | (refine Rl.WAs.same (by assumption) ?_; wtm_at "hp"))
    | ["cond"] => `(tactic| first | omega | decide | exact Rl.small10 (Nat.le_of_ble_eq_true rfl) | exact ⟨by decide, by decide⟩ | exact ⟨by omega, by omega⟩ | exact .inr ⟨by decide, by decide⟩ | exact .inl ⟨by decide, by decide⟩ | exact .inl ⟨by omega, by omega⟩ | exact .inr ⟨by omega, by omega⟩)
    | ["r1"] => `(tactic| first | refine ⟨_, rfl, ?_⟩ | refine ⟨_, _, rfl, rfl, ?_⟩ | refine ⟨rfl, ?_⟩ | refine ⟨show (_ : Prop) from (by wtm_at "cond"), ?_⟩)
    | ["rd"] => `(tactic| ((repeat wtm_at "r1"); (try dsimp -proj -eta -iota only)))
    | ["dF"] => `(tactic| refine Rl.iF (decide_eq_false (by first | decide +kernel | (dsimp only [Rl.W.tag]; decide +kernel))) ?_)
    | ["dT"] => `(tactic| refine Rl.iT (decide_eq_true (by first | decide +kernel | rfl | (dsimp only [Rl.W.tag]; decide +kernel))) ?_)
    | ["lc"] => `(tactic| (refine ⟨rfl, ?_⟩; dsimp -proj -eta -iota only [L2.tYes]; refine Rl.iT rfl ?_))
    | ["ds"] => `(tactic| dsimp -proj -eta -iota only)
    | ["szs"] => `(tactic| try refine ⟨by exact Rl.small10 (Nat.le_of_ble_eq_true rfl), ?_⟩)
    | ["sz"] => `(tactic| exact Rl.small10 (Nat.le_of_ble_eq_true rfl))
    | _ => Lean.Macro.throwUnsupported

namespace Rl
open PySem L2
def topS (i : Nat) : Stmt := PySem.Challenge.pw_relayroom_k07_judged_which.main.body.getD i (.Pass ⟨0, 0, 0, 0⟩)
abbrev sworth : Stmt := topS 1
abbrev scan_move : Stmt := topS 3
abbrev smovable : Stmt := topS 4
abbrev smoved : Stmt := topS 5
abbrev scome_to : Stmt := topS 7
abbrev snumbered : Stmt := topS 8
abbrev sring_from : Stmt := topS 9
abbrev sjudged : Stmt := topS 10
abbrev s_law_cell_at : Stmt := topS 12
abbrev s_law_pick : Stmt := topS 13
abbrev s_law_mix : Stmt := topS 14
abbrev s_law_leaf : Stmt := topS 15
abbrev s_law_word : Stmt := topS 16
abbrev s_law_board : Stmt := topS 17
abbrev s_law_bits : Stmt := topS 18
abbrev s_law_wrapped : Stmt := topS 19
abbrev s_law_room : Stmt := topS 20
abbrev s_law_worth : Stmt := topS 21
abbrev s_law_movable : Stmt := topS 22
abbrev s_law_moved : Stmt := topS 23
abbrev s_law_reach : Stmt := topS 24
abbrev s_law_endless : Stmt := topS 25
abbrev slaw : Stmt := topS 26
theorem scworth : FnScope ["word", "stand", "pressed"] ["word", "stand", "pressed"] (defScope sworth) := ⟨rfl, rfl, rfl, by decide +kernel, rfl, by decide +kernel, by decide +kernel⟩
theorem sccan_move : FnScope ["board", "pressed", "stand", "relay"] ["board", "pressed", "stand", "relay"] (defScope scan_move) := ⟨rfl, rfl, rfl, by decide +kernel, rfl, by decide +kernel, by decide +kernel⟩
theorem scmovable : FnScope ["board", "pressed", "stand", "relay"] ["board", "pressed", "stand"] (defScope smovable) := ⟨rfl, rfl, rfl, by decide +kernel, rfl, by decide +kernel, by decide +kernel⟩
theorem scmoved : FnScope ["stand", "relay"] ["stand", "relay"] (defScope smoved) := ⟨rfl, rfl, rfl, by decide +kernel, rfl, by decide +kernel, by decide +kernel⟩
theorem sccome_to : FnScope ["board", "pressed", "stand", "found", "left", "here", "relay", "then"] ["board", "pressed", "stand"] (defScope scome_to) := ⟨rfl, rfl, rfl, by decide +kernel, rfl, by decide +kernel, by decide +kernel⟩
theorem scnumbered : FnScope ["board", "pressed", "stands", "paper", "more", "stand", "after", "relay", "then"] ["board", "pressed", "stands"] (defScope snumbered) := ⟨rfl, rfl, rfl, by decide +kernel, rfl, by decide +kernel, by decide +kernel⟩
theorem scring_from : FnScope ["board", "pressed", "stands", "paper", "here", "seen", "moves", "relay", "stand", "k"] ["board", "pressed", "stands", "paper"] (defScope sring_from) := ⟨rfl, rfl, rfl, by decide +kernel, rfl, by decide +kernel, by decide +kernel⟩
theorem scjudged : FnScope ["board", "pressed", "stand", "roads", "paper", "ring", "ends", "one"] ["board", "pressed", "stand"] (defScope sjudged) := ⟨rfl, rfl, rfl, by decide +kernel, rfl, by decide +kernel, by decide +kernel⟩
theorem sc_law_cell_at : FnScope ["script", "k"] ["script", "k"] (defScope s_law_cell_at) := ⟨rfl, rfl, rfl, by decide +kernel, rfl, by decide +kernel, by decide +kernel⟩
theorem sc_law_pick : FnScope ["script", "k"] ["script", "k"] (defScope s_law_pick) := ⟨rfl, rfl, rfl, by decide +kernel, rfl, by decide +kernel, by decide +kernel⟩
theorem sc_law_mix : FnScope ["cell", "k", "mixed"] ["cell", "k"] (defScope s_law_mix) := ⟨rfl, rfl, rfl, by decide +kernel, rfl, by decide +kernel, by decide +kernel⟩
theorem sc_law_leaf : FnScope ["mixed", "relays", "buttons", "spot"] ["mixed", "relays", "buttons"] (defScope s_law_leaf) := ⟨rfl, rfl, rfl, by decide +kernel, rfl, by decide +kernel, by decide +kernel⟩
theorem sc_law_word : FnScope ["cell", "k", "deep", "relays", "buttons", "mixed", "kind", "first"] ["cell", "k", "deep", "relays", "buttons"] (defScope s_law_word) := ⟨rfl, rfl, rfl, by decide +kernel, rfl, by decide +kernel, by decide +kernel⟩
theorem sc_law_board : FnScope ["script", "start", "relays", "buttons", "deep", "k"] ["script", "start", "relays", "buttons", "deep"] (defScope s_law_board) := ⟨rfl, rfl, rfl, by decide +kernel, rfl, by decide +kernel, by decide +kernel⟩
theorem sc_law_bits : FnScope ["number", "size", "k"] ["number", "size"] (defScope s_law_bits) := ⟨rfl, rfl, rfl, by decide +kernel, rfl, by decide +kernel, by decide +kernel⟩
theorem sc_law_wrapped : FnScope ["word", "mixed", "k"] ["word", "mixed"] (defScope s_law_wrapped) := ⟨rfl, rfl, rfl, by decide +kernel, rfl, by decide +kernel, by decide +kernel⟩
theorem sc_law_room : FnScope ["script", "cell", "relays", "buttons", "board", "pressed", "k"] ["script"] (defScope s_law_room) := ⟨rfl, rfl, rfl, by decide +kernel, rfl, by decide +kernel, by decide +kernel⟩
theorem sc_law_worth : FnScope ["word", "stand", "pressed", "worths", "part"] ["word", "stand", "pressed"] (defScope s_law_worth) := ⟨rfl, rfl, rfl, by decide +kernel, rfl, by decide +kernel, by decide +kernel⟩
theorem sc_law_movable : FnScope ["board", "pressed", "stand", "k"] ["board", "pressed", "stand"] (defScope s_law_movable) := ⟨rfl, rfl, rfl, by decide +kernel, rfl, by decide +kernel, by decide +kernel⟩
theorem sc_law_moved : FnScope ["stand", "relay", "k"] ["stand", "relay"] (defScope s_law_moved) := ⟨rfl, rfl, rfl, by decide +kernel, rfl, by decide +kernel, by decide +kernel⟩
theorem sc_law_reach : FnScope ["board", "pressed", "stand", "seen", "left", "here", "relay", "then"] ["board", "pressed", "stand"] (defScope s_law_reach) := ⟨rfl, rfl, rfl, by decide +kernel, rfl, by decide +kernel, by decide +kernel⟩
theorem sc_law_endless : FnScope ["board", "pressed", "stands", "left", "more", "kept", "one", "k"] ["board", "pressed", "stands"] (defScope s_law_endless) := ⟨rfl, rfl, rfl, by decide +kernel, rfl, by decide +kernel, by decide +kernel⟩
theorem sclaw : FnScope ["script", "room", "stands", "ends", "endless", "found", "one"] ["script"] (defScope slaw) := ⟨rfl, rfl, rfl, by decide +kernel, rfl, by decide +kernel, by decide +kernel⟩
structure Ad where
  (aworth acan_move amovable amoved acome_to anumbered aring_from ajudged a_law_cell_at a_law_pick a_law_mix a_law_leaf a_law_word a_law_board a_law_bits a_law_wrapped a_law_room a_law_worth a_law_movable a_law_moved a_law_reach a_law_endless alaw : Addr)
  (dworth dcan_move dmovable dmoved dcome_to dnumbered dring_from djudged d_law_cell_at d_law_pick d_law_mix d_law_leaf d_law_word d_law_board d_law_bits d_law_wrapped d_law_room d_law_worth d_law_movable d_law_moved d_law_reach d_law_endless dlaw : FuncData)
structure Txt (K : PySem.W.Frag) (mg : Str → Option Value) (A : Ad) : Prop where
  F_worth : Fun K "worth" "worth" sworth A.aworth A.dworth
  m_worth : mg "worth" = some (.ref A.aworth)
  b_worth : Binds K A.dworth ["word", "stand", "pressed"] []
  F_can_move : Fun K "can_move" "can_move" scan_move A.acan_move A.dcan_move
  m_can_move : mg "can_move" = some (.ref A.acan_move)
  b_can_move : Binds K A.dcan_move ["board", "pressed", "stand", "relay"] []
  F_movable : Fun K "movable" "movable" smovable A.amovable A.dmovable
  m_movable : mg "movable" = some (.ref A.amovable)
  b_movable : Binds K A.dmovable ["board", "pressed", "stand"] []
  F_moved : Fun K "moved" "moved" smoved A.amoved A.dmoved
  m_moved : mg "moved" = some (.ref A.amoved)
  b_moved : Binds K A.dmoved ["stand", "relay"] []
  F_come_to : Fun K "come_to" "come_to" scome_to A.acome_to A.dcome_to
  m_come_to : mg "come_to" = some (.ref A.acome_to)
  b_come_to : Binds K A.dcome_to ["board", "pressed", "stand"] []
  F_numbered : Fun K "numbered" "numbered" snumbered A.anumbered A.dnumbered
  m_numbered : mg "numbered" = some (.ref A.anumbered)
  b_numbered : Binds K A.dnumbered ["board", "pressed", "stands"] []
  F_ring_from : Fun K "ring_from" "ring_from" sring_from A.aring_from A.dring_from
  m_ring_from : mg "ring_from" = some (.ref A.aring_from)
  b_ring_from : Binds K A.dring_from ["board", "pressed", "stands", "paper"] []
  F_judged : Fun K "judged" "judged" sjudged A.ajudged A.djudged
  m_judged : mg "judged" = some (.ref A.ajudged)
  b_judged : Binds K A.djudged ["board", "pressed", "stand"] []
  F__law_cell_at : Fun K "_law_cell_at" "_law_cell_at" s_law_cell_at A.a_law_cell_at A.d_law_cell_at
  m__law_cell_at : mg "_law_cell_at" = some (.ref A.a_law_cell_at)
  b__law_cell_at : Binds K A.d_law_cell_at ["script", "k"] []
  F__law_pick : Fun K "_law_pick" "_law_pick" s_law_pick A.a_law_pick A.d_law_pick
  m__law_pick : mg "_law_pick" = some (.ref A.a_law_pick)
  b__law_pick : Binds K A.d_law_pick ["script", "k"] []
  F__law_mix : Fun K "_law_mix" "_law_mix" s_law_mix A.a_law_mix A.d_law_mix
  m__law_mix : mg "_law_mix" = some (.ref A.a_law_mix)
  b__law_mix : Binds K A.d_law_mix ["cell", "k"] []
  F__law_leaf : Fun K "_law_leaf" "_law_leaf" s_law_leaf A.a_law_leaf A.d_law_leaf
  m__law_leaf : mg "_law_leaf" = some (.ref A.a_law_leaf)
  b__law_leaf : Binds K A.d_law_leaf ["mixed", "relays", "buttons"] []
  F__law_word : Fun K "_law_word" "_law_word" s_law_word A.a_law_word A.d_law_word
  m__law_word : mg "_law_word" = some (.ref A.a_law_word)
  b__law_word : Binds K A.d_law_word ["cell", "k", "deep", "relays", "buttons"] []
  F__law_board : Fun K "_law_board" "_law_board" s_law_board A.a_law_board A.d_law_board
  m__law_board : mg "_law_board" = some (.ref A.a_law_board)
  b__law_board : Binds K A.d_law_board ["script", "start", "relays", "buttons", "deep"] []
  F__law_bits : Fun K "_law_bits" "_law_bits" s_law_bits A.a_law_bits A.d_law_bits
  m__law_bits : mg "_law_bits" = some (.ref A.a_law_bits)
  b__law_bits : Binds K A.d_law_bits ["number", "size"] []
  F__law_wrapped : Fun K "_law_wrapped" "_law_wrapped" s_law_wrapped A.a_law_wrapped A.d_law_wrapped
  m__law_wrapped : mg "_law_wrapped" = some (.ref A.a_law_wrapped)
  b__law_wrapped : Binds K A.d_law_wrapped ["word", "mixed"] []
  F__law_room : Fun K "_law_room" "_law_room" s_law_room A.a_law_room A.d_law_room
  m__law_room : mg "_law_room" = some (.ref A.a_law_room)
  b__law_room : Binds K A.d_law_room ["script"] []
  F__law_worth : Fun K "_law_worth" "_law_worth" s_law_worth A.a_law_worth A.d_law_worth
  m__law_worth : mg "_law_worth" = some (.ref A.a_law_worth)
  b__law_worth : Binds K A.d_law_worth ["word", "stand", "pressed"] []
  F__law_movable : Fun K "_law_movable" "_law_movable" s_law_movable A.a_law_movable A.d_law_movable
  m__law_movable : mg "_law_movable" = some (.ref A.a_law_movable)
  b__law_movable : Binds K A.d_law_movable ["board", "pressed", "stand"] []
  F__law_moved : Fun K "_law_moved" "_law_moved" s_law_moved A.a_law_moved A.d_law_moved
  m__law_moved : mg "_law_moved" = some (.ref A.a_law_moved)
  b__law_moved : Binds K A.d_law_moved ["stand", "relay"] []
  F__law_reach : Fun K "_law_reach" "_law_reach" s_law_reach A.a_law_reach A.d_law_reach
  m__law_reach : mg "_law_reach" = some (.ref A.a_law_reach)
  b__law_reach : Binds K A.d_law_reach ["board", "pressed", "stand"] []
  F__law_endless : Fun K "_law_endless" "_law_endless" s_law_endless A.a_law_endless A.d_law_endless
  m__law_endless : mg "_law_endless" = some (.ref A.a_law_endless)
  b__law_endless : Binds K A.d_law_endless ["board", "pressed", "stands"] []
  F_law : Fun K "law" "law" slaw A.alaw A.dlaw
  m_law : mg "law" = some (.ref A.alaw)
  b_law : Binds K A.dlaw ["script"] []
  n_range : mg "range" = none
  n_len : mg "len" = none
  n_all : mg "all" = none
  n_max : mg "max" = none
  n_list : mg "list" = none
  n_tuple : mg "tuple" = none
  n_int : mg "int" = none
  n_dict : mg "dict" = none
section
variable {P : Program} {w : World} {K : PySem.W.Frag} {mg : Str → Option Value} {base : Heap} {Z : Ad}
def sp_law_cell_at (K : PySem.W.Frag) : Sp := fun vs H Q _ => ∃ (a : Addr) (ns : List Int) (k : Int), vs = [.ref a, .int k] ∧ SqL K H a (ns.map V.int) ∧ 0 ≤ k ∧ ∀ n : Int, Q (.int n) H
theorem ok_law_cell_at (T : Txt K mg Z) : FnOk P w K mg base CX0 1 Z.a_law_cell_at Z.d_law_cell_at ["script", "k"] (sp_law_cell_at K) := by
  refine T.F__law_cell_at.ok sc_law_cell_at (fun vs H Q E h => by obtain ⟨_, _, _, rfl, _⟩ := h; rfl) (fun cdv A outer s H vs Q E hr h => ?_)
  obtain ⟨a, ns, k, rfl, hS, h0, q⟩ := h
  refine ⟨_, (pss_cons (ps_if (pt_cmpR op_lt (pv 1) (pe_callB (r := rLenSeq K) call_len_seq (by rfl) T.n_len PySem.boot_len (pa_cons (pv 0) pa_nil)) (nomark _)) (pss_one (ps_ret (pe_ix (r := rIxL K) ix_list (pv 0) (pv 1) (fun _ _ => rfl)))) pss_nil)
      (pss_one (ps_ret pe_int))), ?_⟩
  refine ⟨_, rfl, _, rfl, a, _, rfl, .inl hS, ?_⟩
  wtm_at "rd"
  refine iB (fun c => ?_) (fun c => ?_)
  · have c' := of_decide_eq_true c
    rw [List.length_map] at c'
    obtain ⟨j, rfl⟩ : ∃ j : Nat, k = (j : Int) := ⟨k.toNat, by omega⟩
    have hj : j < ns.length := by omega
    refine ⟨_, rfl, _, rfl, a, _, _, .int ns[j], rfl, rfl, hS, atI_nat (by rw [List.getElem?_map, List.getElem?_eq_getElem hj]; rfl), ?_⟩
    exact q _
  · exact q _

def sp_law_pick (K : PySem.W.Frag) : Sp := sp_law_cell_at K
theorem ok_law_pick (T : Txt K mg Z) : FnOk P w K mg base CX0 2 Z.a_law_pick Z.d_law_pick ["script", "k"] (sp_law_pick K) := by
  have G_law_cell_at := ok_law_cell_at (P := P) (w := w) (base := base) T
  refine T.F__law_pick.ok sc_law_pick (fun vs H Q E h => by obtain ⟨_, _, _, rfl, _⟩ := h; rfl) (fun cdv A outer s H vs Q E hr h => ?_)
  obtain ⟨a, ns, k, rfl, hS, h0, q⟩ := h
  refine ⟨_, (pss_cons (ps_if (pt_cmpR op_lt (pv 1) (pe_callB (r := rLenSeq K) call_len_seq (by rfl) T.n_len PySem.boot_len (pa_cons (pv 0) pa_nil)) (nomark _)) (pss_one (ps_ret (pe_ix (r := rIxL K) ix_list (pv 0) (pv 1) (fun _ _ => rfl)))) pss_nil)
      (pss_one (ps_ret (pe_op op_fdiv (pe_op op_mod (pe_op op_mul (pe_op op_add (pe_op op_add (pe_call G_law_cell_at (hr.mono (by omega)) (by rfl) T.m__law_cell_at T.F__law_cell_at.kp T.b__law_cell_at .nil pass0 (pa_cons (pv 0) (pa_cons pe_int pa_nil))) (pe_op op_mul pe_int (pv 1))) pe_int) pe_int) pe_int) pe_int)))), ?_⟩
  refine ⟨_, rfl, _, rfl, a, _, rfl, .inl hS, ?_⟩
  wtm_at "rd"
  refine iB (fun c => ?_) (fun c => ?_)
  · have c' := of_decide_eq_true c
    rw [List.length_map] at c'
    obtain ⟨j, rfl⟩ : ∃ j : Nat, k = (j : Int) := ⟨k.toNat, by omega⟩
    have hj : j < ns.length := by omega
    refine ⟨_, rfl, _, rfl, a, _, _, .int ns[j], rfl, rfl, hS, atI_nat (by rw [List.getElem?_map, List.getElem?_eq_getElem hj]; rfl), ?_⟩
    exact q _
  · refine ⟨_, rfl, a, ns, 0, rfl, hS, by omega, fun n => ?_⟩
    wtm_at "rd"
    exact q _

def sp_law_mix : Sp := fun vs H Q _ => ∃ (c k : Int), vs = [.int c, .int k] ∧ ∀ n : Int, 0 ≤ n → n < 2147483587 → Q (.int n) H
theorem ok_law_mix (T : Txt K mg Z) : FnOk P w K mg base CX0 1 Z.a_law_mix Z.d_law_mix ["cell", "k"] sp_law_mix := by
  refine T.F__law_mix.ok sc_law_mix (fun vs H Q E h => by obtain ⟨_, _, rfl, _⟩ := h; rfl) (fun cdv A outer s H vs Q E hr h => ?_)
  obtain ⟨c, k, rfl, q⟩ := h
  refine ⟨_, (pss_cons (ps_set (i := 2) sc_law_mix.nd rfl (Or.inl rfl) (pe_op op_mod (pe_op op_add (pe_op op_add (pe_op op_mul (pv 0) pe_int) (pe_op op_mul pe_int (pv 1))) pe_int) pe_int))
      (pss_cons (ps_set (i := 2) sc_law_mix.nd rfl (Or.inl rfl) (pe_op op_mod (pe_op op_add (pe_op op_add (pe_op op_mul (pv 2) (pv 2)) (pe_op op_mul pe_int (pv 2))) (pv 1)) pe_int))
      (pss_one (ps_ret (pe_op op_mod (pe_op op_add (pe_op op_add (pe_op op_mul (pv 2) (pv 2)) (pe_op op_mul pe_int (pv 2))) (pe_op op_mul pe_int (pv 1))) pe_int))))), ?_⟩
  wtm_at "rd"
  have b1 : 0 ≤ (c * 69621 + 7001 * k + 3) % 2147483629 ∧ (c * 69621 + 7001 * k + 3) % 2147483629 < 2147483629 := ⟨Int.emod_nonneg _ (by decide), Int.emod_lt_of_pos _ (by decide)⟩
  generalize (c * 69621 + 7001 * k + 3) % 2147483629 = m1 at *
  wtm_at "rd"
  have b2 : 0 ≤ (m1 * m1 + 39373 * m1 + k) % 2147483647 ∧ (m1 * m1 + 39373 * m1 + k) % 2147483647 < 2147483647 := ⟨Int.emod_nonneg _ (by decide), Int.emod_lt_of_pos _ (by decide)⟩
  generalize (m1 * m1 + 39373 * m1 + k) % 2147483647 = m2 at *
  wtm_at "rd"
  exact q _ (Int.emod_nonneg _ (by decide)) (Int.emod_lt_of_pos _ (by decide))

def sp_law_leaf : Sp := fun vs H Q _ => ∃ (c : Int) (n m : Nat), vs = [.int c, .int n, .int m] ∧ ∀ (H' : Hp) (a : Addr) (w : W), Same H H' → WA H' w a → Fit n m 1 w → Q (.ref a) H'
theorem ok_law_leaf (T : Txt K mg Z) : FnOk P w K mg base CX0 1 Z.a_law_leaf Z.d_law_leaf ["mixed", "relays", "buttons"] sp_law_leaf := by
  refine T.F__law_leaf.ok sc_law_leaf (fun vs H Q E h => by obtain ⟨_, _, _, rfl, _⟩ := h; rfl) (fun cdv A outer s H vs Q E hr h => ?_)
  obtain ⟨c, n, m, rfl, q⟩ := h
  refine ⟨_, (pss_cons (ps_set (i := 3) sc_law_leaf.nd rfl (Or.inl rfl) (pe_op op_mod (pv 0) (pe_op op_add (pe_op op_add (pv 1) (pv 2)) pe_int)))
      (pss_cons (ps_if (pt_cmpR op_lt (pv 3) (pv 1) (nomark _)) (pss_one (ps_ret (pe_tup (pa_cons pe_str (pa_cons (pv 3) pa_nil))))) pss_nil)
      (pss_cons (ps_if (pt_cmpR op_lt (pv 3) (pe_op op_add (pv 1) (pv 2)) (nomark _)) (pss_one (ps_ret (pe_tup (pa_cons pe_str (pa_cons (pe_op op_sub (pv 3) (pv 1)) pa_nil))))) pss_nil)
      (pss_one (ps_ret (pe_ix (r := rIxL K) ix_list (pe_lst (pa_cons (pe_tup (pa_cons pe_str pa_nil)) (pa_cons (pe_tup (pa_cons pe_str pa_nil)) pa_nil))) (pe_op op_mod (pe_op op_fdiv (pv 0) pe_int) pe_int) (fun _ _ => rfl))))))), ?_⟩
  wtm_at "rd"
  have b1 : 0 ≤ c % ((n : Int) + m + 1) ∧ c % ((n : Int) + m + 1) < (n : Int) + m + 1 := ⟨Int.emod_nonneg _ (by omega), Int.emod_lt_of_pos _ (by omega)⟩
  generalize c % ((n : Int) + m + 1) = z at *
  refine iB (fun c1 => ?_) (fun c1 => ?_)
  · have c1' := of_decide_eq_true c1
    wtm_at "rd"
    wtm_at "szs"
    wtm_at "new p H1 s1 e1"
    exact q _ _ (.relay z) s1 e1 ⟨⟨by omega, by omega⟩, Int.le_refl 1⟩
  · have c1' := of_decide_eq_false c1
    wtm_at "rd"
    refine iB (fun c2 => ?_) (fun c2 => ?_)
    · have c2' := of_decide_eq_true c2
      wtm_at "rd"
      wtm_at "szs"
      wtm_at "new p H1 s1 e1"
      exact q _ _ (.button (z - n)) s1 e1 ⟨⟨by omega, by omega⟩, Int.le_refl 1⟩
    · wtm_at "szs"
      wtm_at "new p1 H1 s1 e1"
      wtm_at "szs"
      wtm_at "new p2 H2 s2 e2"
      wtm_at "szs"
      wtm_at "new p3 H3 s3 e3"
      wtm_at "rd"
      rcases (by omega : c / 64 % 2 = 0 ∨ c / 64 % 2 = 1) with e | e
      · exact ⟨_, _, _, _, rfl, rfl, .of e3, at_of (j := 0) e rfl, q _ _ .on (s1.trans (s2.trans s3)) (by wtm_at "hp") ⟨trivial, Int.le_refl 1⟩⟩
      · exact ⟨_, _, _, _, rfl, rfl, .of e3, at_of (j := 1) e rfl, q _ _ .off (s1.trans (s2.trans s3)) (by wtm_at "hp") ⟨trivial, Int.le_refl 1⟩⟩

def sp_law_word (N : Nat) : Sp := fun vs H Q _ => ∃ (c k d : Int) (n m : Nat), vs = [.int c, .int k, .int d, .int n, .int m] ∧ 1 ≤ d ∧ d ≤ N ∧ ∀ (H' : Hp) (a : Addr) (w : W), Same H H' → WA H' w a → Fit n m d w → Q (.ref a) H'
theorem st_law_word (T : Txt K mg Z) {N : Nat} (G_law_word : FnOk P w K mg base CX0 (N + 1) Z.a_law_word Z.d_law_word ["cell", "k", "deep", "relays", "buttons"] (sp_law_word N)) : FnOk P w K mg base CX0 (N + 2) Z.a_law_word Z.d_law_word ["cell", "k", "deep", "relays", "buttons"] (sp_law_word (N + 1)) := by
  have G_law_mix := ok_law_mix (P := P) (w := w) (base := base) T
  have G_law_leaf := ok_law_leaf (P := P) (w := w) (base := base) T
  refine T.F__law_word.ok sc_law_word (fun vs H Q E h => by obtain ⟨_, _, _, _, _, rfl, _⟩ := h; rfl) (fun cdv A outer s H vs Q E hr h => ?_)
  obtain ⟨c, k, d, n, m, rfl, hd1, hd2, q⟩ := h
  refine ⟨_, (pss_cons (ps_set (i := 5) sc_law_word.nd rfl (Or.inl rfl) (pe_op op_fdiv (pe_call G_law_mix (hr.mono (by omega)) (by rfl) T.m__law_mix T.F__law_mix.kp T.b__law_mix .nil pass0 (pa_cons (pv 0) (pa_cons (pv 1) pa_nil))) pe_int))
      (pss_cons (ps_set (i := 6) sc_law_word.nd rfl (Or.inl rfl) (pe_op op_mod (pv 5) pe_int))
      (pss_cons (ps_if (PW.pt (pw_or (pt_cmpR op_lt (pv 2) pe_int (nomark _)) (pw_or1 (pt_cmpR op_lt (pv 6) pe_int (nomark _))))) (pss_one (ps_ret (pe_call G_law_leaf (hr.mono (by omega)) (by rfl) T.m__law_leaf T.F__law_leaf.kp T.b__law_leaf .nil pass0 (pa_cons (pe_op op_fdiv (pv 5) pe_int) (pa_cons (pv 3) (pa_cons (pv 4) pa_nil)))))) pss_nil)
      (pss_cons (ps_set (i := 7) sc_law_word.nd rfl (Or.inl rfl) (pe_call G_law_word (hr.mono (by omega)) (by rfl) T.m__law_word T.F__law_word.kp T.b__law_word .nil pass0 (pa_cons (pv 0) (pa_cons (pe_op op_add (pe_op op_mul pe_int (pv 1)) pe_int) (pa_cons (pe_op op_sub (pv 2) pe_int) (pa_cons (pv 3) (pa_cons (pv 4) pa_nil)))))))
      (pss_cons (ps_if (pt_cmpR op_lt (pv 6) pe_int (nomark _)) (pss_one (ps_ret (pe_tup (pa_cons pe_str (pa_cons (pv 7) pa_nil))))) pss_nil)
      (pss_one (ps_ret (pe_tup (pa_cons (pe_ix (r := rIxL K) ix_list (pe_lst (pa_cons pe_str (pa_cons pe_str pa_nil))) (pe_op op_mod (pv 6) pe_int) (fun _ _ => rfl)) (pa_cons (pv 7) (pa_cons (pe_call G_law_word (hr.mono (by omega)) (by rfl) T.m__law_word T.F__law_word.kp T.b__law_word .nil pass0 (pa_cons (pv 0) (pa_cons (pe_op op_add (pe_op op_mul pe_int (pv 1)) pe_int) (pa_cons (pe_op op_sub (pv 2) pe_int) (pa_cons (pv 3) (pa_cons (pv 4) pa_nil)))))) pa_nil))))))))))), ?_⟩
  wtm_at "rd"
  refine ⟨c, k, rfl, fun x hx0 hx1 => ?_⟩
  wtm_at "rd"
  have leaf : ∀ (σ : St) (D : Ends), D.rt = Q → σ[5]? = some (some (.int (x / 7))) → σ[3]? = some (some (.int n)) → σ[4]? = some (some (.int m)) → tRet (tCall sp_law_leaf [] E0 (tCons (tOp (rI CDiv fun i j => .int (i / j)) (tVar 5) (tC (.int 10))) (tCons (tVar 3) (tCons (tVar 4) tNil)))) D σ H := by
    intro σ D hD h5 h3 h4
    refine ⟨_, h5, _, _, rfl, rfl, ⟨by decide, by decide⟩, _, h3, _, h4, _, n, m, rfl, fun H' a w s1 e1 f1 => ?_⟩
    rw [hD]
    exact q _ _ _ s1 e1 ⟨f1.1, Int.le_trans f1.2 hd1⟩
  refine iB (fun c1 => ?_) (fun c1 => ?_)
  · exact iT rfl (leaf _ _ rfl rfl rfl rfl)
  have c1' := of_decide_eq_false c1
  wtm_at "rd"
  have hk : 0 ≤ x / 7 % 10 ∧ x / 7 % 10 < 10 := by omega
  generalize x / 7 % 10 = kd at *
  refine iB (fun c2 => ?_) (fun c2 => ?_)
  · exact leaf _ _ rfl rfl rfl rfl
  have c2' := of_decide_eq_false c2
  wtm_at "rd"
  refine ⟨c, 2 * k + 1, d - 1, n, m, rfl, by omega, by omega, fun H1 a1 w1 s1 e1 f1 => ?_⟩
  wtm_at "rd"
  refine iB (fun c3 => ?_) (fun c3 => ?_)
  · wtm_at "rd"
    wtm_at "szs"
    wtm_at "new p H2 s2 e2"
    refine q _ _ (.not w1) (s1.trans s2) ⟨_, e2, WA.same s2 e1⟩ ⟨f1.1, ?_⟩
    have := f1.2
    show ((w1.depth + 1 : Nat) : Int) ≤ d
    omega
  · wtm_at "szs"
    wtm_at "new p H2 s2 e2"
    wtm_at "rd"
    have fin : ∀ (H3 : Hp) (a2 : Addr) (w2 : W), Same H2 H3 → WA H3 w2 a2 → Fit n m (d - 1) w2 → ∀ p, H3 p = none →
        Q (.ref p) (upd H3 p (.tup [.str "and", .ref a1, .ref a2])) ∧ Q (.ref p) (upd H3 p (.tup [.str "or", .ref a1, .ref a2])) := by
      intro H3 a2 w2 s3 e3 f2 p np
      have s4 : ∀ o, Same H3 (upd H3 p o) := fun o => Same.new np
      have dp : ((max w1.depth w2.depth + 1 : Nat) : Int) ≤ d := by
        have := f1.2
        have := f2.2
        omega
      exact ⟨q _ _ (.and w1 w2) (s1.trans (s2.trans (s3.trans (s4 _)))) ⟨_, _, upd_same, WA.same (s2.trans (s3.trans (s4 _))) e1, WA.same (s4 _) e3⟩ ⟨⟨f1.1, f2.1⟩, dp⟩,
        q _ _ (.or w1 w2) (s1.trans (s2.trans (s3.trans (s4 _)))) ⟨_, _, upd_same, WA.same (s2.trans (s3.trans (s4 _))) e1, WA.same (s4 _) e3⟩ ⟨⟨f1.1, f2.1⟩, dp⟩⟩
    rcases (by omega : kd % 2 = 0 ∨ kd % 2 = 1) with e | e
    · refine ⟨_, _, _, _, rfl, rfl, .of e2, at_of (j := 0) e rfl, ?_⟩
      wtm_at "rd"
      refine ⟨c, 2 * k + 2, d - 1, n, m, rfl, by omega, by omega, fun H3 a2 w2 s3 e3 f2 => ?_⟩
      exact ⟨by wtm_at "sz", fun p np => (fin H3 a2 w2 s3 e3 f2 p np).1⟩
    · refine ⟨_, _, _, _, rfl, rfl, .of e2, at_of (j := 1) e rfl, ?_⟩
      wtm_at "rd"
      refine ⟨c, 2 * k + 2, d - 1, n, m, rfl, by omega, by omega, fun H3 a2 w2 s3 e3 f2 => ?_⟩
      exact ⟨by wtm_at "sz", fun p np => (fin H3 a2 w2 s3 e3 f2 p np).2⟩
theorem ok_law_word (T : Txt K mg Z) : ∀ N : Nat, FnOk P w K mg base CX0 (N + 1) Z.a_law_word Z.d_law_word ["cell", "k", "deep", "relays", "buttons"] (sp_law_word N)
  | 0 => fn_none (by rintro vs H Q E ⟨c, k, d, n, m, _, h1, h2, _⟩; omega)
  | N + 1 => st_law_word T (ok_law_word T N)

def sp_law_board (K : PySem.W.Frag) : Sp := fun vs H Q _ => ∃ (a : Addr) (ns : List Int) (st d : Int) (n m : Nat), vs = [.ref a, .int st, .int n, .int m, .int d] ∧ SqL K H a (ns.map V.int) ∧ 0 ≤ st ∧ 1 ≤ d ∧ d ≤ 8 ∧ n ≤ 10 ∧
  ∀ (H' : Hp) (p : Addr) (ws : List W) (us : List V), Same H H' → H p = none → H' p = some (.lst us) → WAs H' ws us → ws.length = n → Fits n m d ws → Q (.ref p) H'
theorem ok_law_board (T : Txt K mg Z) : FnOk P w K mg base CX0 10 Z.a_law_board Z.d_law_board ["script", "start", "relays", "buttons", "deep"] (sp_law_board K) := by
  have G_law_pick := ok_law_pick (P := P) (w := w) (base := base) T
  have G_law_word := ok_law_word (P := P) (w := w) (base := base) T 8
  refine T.F__law_board.ok sc_law_board (fun vs H Q E h => by obtain ⟨_, _, _, _, _, _, rfl, _⟩ := h; rfl) (fun cdv A outer s H vs Q E hr h => ?_)
  obtain ⟨a, ns, st, d, n, m, rfl, hS, h0, hd1, hd2, hn, q⟩ := h
  refine ⟨_, (pss_one (ps_ret (pe_lc (own := [("k", 5)]) (g := gName 5) (tt := tYes) rfl sc_law_board.nd (pi_range1 rfl T.n_range (pa_cons (pv 2) pa_nil)) (blkOk_by (own := [("k", 5)]) (N := ["script", "start", "relays", "buttons", "deep", "k"]) (sc := defScope s_law_board) (by decide +kernel)) (fun _ _ _ _ _ => pg_name (i := 5) sc_law_board.nd rfl (Or.inl rfl)) (fun _ _ _ _ _ => pts_nil) (fun _ _ _ _ _ => (pe_call G_law_word (hr.mono (by omega)) (by rfl) T.m__law_word T.F__law_word.kp T.b__law_word .nil pass0 (pa_cons (pe_call G_law_pick (hr.mono (by omega)) (by rfl) T.m__law_pick T.F__law_pick.kp T.b__law_pick .nil pass0 (pa_cons (pv 0) (pa_cons (pe_op op_add (pv 1) (pv 5)) pa_nil))) (pa_cons (pv 5) (pa_cons (pv 4) (pa_cons (pv 2) (pa_cons (pv 3) pa_nil)))))))))), ?_⟩
  refine ⟨_, rfl, n, rfl, by omega, by omega, fun D nD => lc_range (lo := 0) (n := n) (fun i H' => ∃ ws us, Same H H' ∧ H' D = some (.lst us) ∧ WAs H' ws us ∧ ws.length = i ∧ Fits n m d ws) ?_ ?_ ?_⟩
  · exact ⟨[], [], Same.new nD, upd_same, .nil, rfl, fun _ h => nomatch h⟩
  · rintro i H1 hi ⟨ws, us, s1, hD, hw, hl, hf⟩
    wtm_at "lc"
    wtm_at "rd"
    refine ⟨a, ns, st + (0 + (i : Int)), rfl, s1.seq hS, by omega, fun c => ?_⟩
    wtm_at "rd"
    refine ⟨c, 0 + (i : Int), d, n, m, rfl, hd1, hd2, fun H2 b w1 s2 e2 f2 => ?_⟩
    have hlen := hw.length
    have t2 : Tk H2 (upd H2 D (.lst (us ++ [.ref b]))) := Tk.lst (s2 _ _ hD)
    exact ⟨us, s2 _ _ hD, small11 (by omega), ws ++ [w1], us ++ [.ref b], Same.lst (s1.trans s2) nD, upd_same, paired_snoc (WAs.tk ((Same.tk s2).trans t2) hw) ⟨b, rfl, WA.tk t2 e2⟩, by simp [hl], hf.snoc f2⟩
  · rintro H1 ⟨ws, us, s1, hD, hw, hl, hf⟩
    exact q _ _ _ _ s1 nD hD hw hl hf

def sp_law_bits : Sp := fun vs H Q _ => ∃ (z : Int) (n : Nat), vs = [.int z, .int n] ∧ n ≤ 1000 ∧
  ∀ (H' : Hp) (p : Addr), Same H H' → H p = none → H' p = some (.tup ((bits z n).map V.bl)) → Q (.ref p) H'
theorem ok_law_bits (T : Txt K mg Z) : FnOk P w K mg base CX0 1 Z.a_law_bits Z.d_law_bits ["number", "size"] sp_law_bits := by
  refine T.F__law_bits.ok sc_law_bits (fun vs H Q E h => by obtain ⟨_, _, rfl, _⟩ := h; rfl) (fun cdv A outer s H vs Q E hr h => ?_)
  obtain ⟨z, n, rfl, hn, q⟩ := h
  refine ⟨_, (pss_one (ps_ret (pe_callTy call_tuple_of (by rfl) T.n_tuple (by decide +kernel) (pa_cons (pe_lc (own := [("k", 2)]) (g := gName 2) (tt := tYes) rfl sc_law_bits.nd (pi_range1 rfl T.n_range (pa_cons (pv 1) pa_nil)) (blkOk_by (own := [("k", 2)]) (N := ["number", "size", "k"]) (sc := defScope s_law_bits) (by decide +kernel)) (fun _ _ _ _ _ => pg_name (i := 2) sc_law_bits.nd rfl (Or.inl rfl)) (fun _ _ _ _ _ => pts_nil) (fun _ _ _ _ _ => (pe_cmpR op_eq (pe_op op_mod (pe_op op_shr (pv 0) (pv 2)) pe_int) pe_int (nomark _)))) pa_nil)))), ?_⟩
  refine ⟨_, rfl, n, rfl, by omega, by omega, fun D nD => lc_range (lo := 0) (n := n) (fun i H' => Same H H' ∧ H' D = some (.lst ((bits z i).map V.bl))) ?_ ?_ ?_⟩
  · exact ⟨Same.new nD, upd_same⟩
  · rintro i H1 hi ⟨s1, hD⟩
    wtm_at "lc"
    wtm_at "rd"
    refine ⟨_, hD, small11 (by rw [List.length_map, bits_len]; omega), Same.lst s1 nD, ?_⟩
    rw [upd_same, bits_succ, List.map_append, dec_vi, toNat0]
    rfl
  · rintro H1 ⟨s1, hD⟩
    refine ⟨D, _, rfl, .inl ⟨.of hD, ?_⟩⟩
    wtm_at "new p H2 s2 e2"
    exact q _ _ (s1.trans s2) (s1.free np) e2

def sp_law_wrapped : Sp := fun vs H Q _ => ∃ (a : Addr) (c : Int) (w : W), vs = [.ref a, .int c] ∧ WA H w a ∧
  ∀ (H' : Hp) (b : Addr) (w' : W), Same H H' → WA H' w' b → (∀ n m d, Fit n m d w → Fit n m (d + 3) w') → Q (.ref b) H'
theorem ok_law_wrapped (T : Txt K mg Z) : FnOk P w K mg base CX0 1 Z.a_law_wrapped Z.d_law_wrapped ["word", "mixed"] sp_law_wrapped := by
  refine T.F__law_wrapped.ok sc_law_wrapped (fun vs H Q E h => by obtain ⟨_, _, _, rfl, _⟩ := h; rfl) (fun cdv A outer s H vs Q E hr h => ?_)
  obtain ⟨a, c, w0, rfl, hw, q⟩ := h
  refine ⟨_, (pss_cons (ps_for PassesOwn.never rfl (pi_range1 rfl T.n_range (pa_cons (pe_op op_mul (pe_op op_mod (pv 1) pe_int) (pe_callTy call_int1 (by rfl) T.n_int (by decide +kernel) (pa_cons (pe_cmpR op_eq (pe_op op_mod (pe_op op_fdiv (pv 1) pe_int) pe_int) pe_int (nomark _)) pa_nil))) pa_nil)) (pg_name (i := 2) sc_law_wrapped.nd rfl (Or.inl rfl))
      (pss_one (ps_set (i := 0) sc_law_wrapped.nd rfl (Or.inl rfl) (pe_tup (pa_cons pe_str (pa_cons (pv 0) pa_nil))))))
      (pss_one (ps_ret (pv 0)))), ?_⟩
  wtm_at "rd"
  refine .inr ⟨_, rfl, ?_⟩
  wtm_at "rd"
  have hj : ∀ b : Bool, 0 ≤ c % 4 * (if b = true then 1 else 0) ∧ c % 4 * (if b = true then 1 else 0) ≤ 3 := fun b => by cases b <;> simp <;> omega
  have hj := hj (decide (V.int (c / 4 % 4) = V.int 1))
  generalize c % 4 * (if decide (V.int (c / 4 % 4) = V.int 1) = true then (1 : Int) else 0) = j at *
  refine ⟨by omega, by omega, for_range (lo := 0) (n := j.toNat) (fun i σ H' => ∃ b w1 k, σ = [some (.ref b), some (.int c), k] ∧ Same H H' ∧ WA H' w1 b ∧ (∀ n m d, Fit n m d w0 → Fit n m (d + i) w1)) ?_ ?_ ?_⟩
  · exact ⟨a, w0, none, rfl, Same.refl _, hw, fun n m d f => ⟨f.1, by have := f.2; omega⟩⟩
  · rintro i σ H1 hi ⟨b, w1, k, rfl, s1, hb, f⟩
    wtm_at "rd"
    wtm_at "szs"
    wtm_at "new p H2 s2 e2"
    refine ⟨p, .not w1, _, rfl, s1.trans s2, ⟨_, e2, WA.same s2 hb⟩, fun n m d g => ⟨(f n m d g).1, ?_⟩⟩
    have := (f n m d g).2
    show ((w1.depth + 1 : Nat) : Int) ≤ d + ((i + 1 : Nat) : Int)
    omega
  · rintro σ H1 ⟨b, w1, k, rfl, s1, hb, f⟩
    refine ⟨_, rfl, q _ _ w1 s1 hb fun n m d g => ⟨(f n m d g).1, ?_⟩⟩
    have := (f n m d g).2
    omega

/-- a room at p: board, pressed, stand; made behind H -/
structure RoomAt (H H' : Hp) (p b pr st : Addr) (n m : Nat) (ws : List W) (us : List V) (ps ss : List Bool) : Prop where
  same : Same H H'
  tup : H' p = some (.tup [.ref b, .ref pr, .ref st])
  nb : H b = none
  lst : H' b = some (.lst us)
  was : WAs H' ws us
  pr : H' pr = some (.tup (ps.map V.bl))
  st : H' st = some (.tup (ss.map V.bl))
  n1 : 1 ≤ n
  n6 : n ≤ 6
  m4 : m ≤ 4
  len : ws.length = n
  plen : ps.length = m
  slen : ss.length = n
  fit : Fits n m 8 ws
def sp_law_room (K : PySem.W.Frag) : Sp := fun vs H Q _ => ∃ (a : Addr) (ns : List Int), vs = [.ref a] ∧ SqL K H a (ns.map V.int) ∧
  ∀ (H' : Hp) (p b pr st : Addr) (n m : Nat) (ws : List W) (us : List V) (ps ss : List Bool), RoomAt H H' p b pr st n m ws us ps ss → Q (.ref p) H'
theorem ok_law_room (T : Txt K mg Z) : FnOk P w K mg base CX0 11 Z.a_law_room Z.d_law_room ["script"] (sp_law_room K) := by
  have G_law_cell_at := ok_law_cell_at (P := P) (w := w) (base := base) T
  have G_law_board := ok_law_board (P := P) (w := w) (base := base) T
  have G_law_mix := ok_law_mix (P := P) (w := w) (base := base) T
  have G_law_wrapped := ok_law_wrapped (P := P) (w := w) (base := base) T
  have G_law_bits := ok_law_bits (P := P) (w := w) (base := base) T
  refine T.F__law_room.ok sc_law_room (fun vs H Q E h => by obtain ⟨_, _, rfl, _⟩ := h; rfl) (fun cdv A outer s H vs Q E hr h => ?_)
  obtain ⟨a, ns, rfl, hS, q⟩ := h
  refine ⟨_, (pss_cons (ps_set (i := 1) sc_law_room.nd rfl (Or.inr rfl) (pe_call G_law_cell_at (hr.mono (by omega)) (by rfl) T.m__law_cell_at T.F__law_cell_at.kp T.b__law_cell_at .nil pass0 (pa_cons (pv 0) (pa_cons pe_int pa_nil))))
      (pss_cons (ps_set (i := 2) sc_law_room.nd rfl (Or.inl rfl) (pe_op op_add pe_int (pe_op op_mod (pv 1) pe_int)))
      (C8.pss_cut (ps_if (pt_cmpR op_eq (pe_op op_mod (pe_op op_fdiv (pv 1) pe_int) pe_int) pe_int (nomark _)) (pss_one (ps_set (i := 2) sc_law_room.nd rfl (Or.inl rfl) pe_int)) pss_nil)
      (pss_cons (ps_set (i := 3) sc_law_room.nd rfl (Or.inl rfl) (pe_op op_mod (pe_op op_fdiv (pv 1) pe_int) pe_int))
      (pss_cons (ps_set (i := 4) sc_law_room.nd rfl (Or.inr rfl) (pe_call G_law_board (hr.mono (by omega)) (by rfl) T.m__law_board T.F__law_board.kp T.b__law_board .nil pass0 (pa_cons (pv 0) (pa_cons pe_int (pa_cons (pv 2) (pa_cons (pv 3) (pa_cons (pe_op op_add pe_int (pe_op op_mod (pe_op op_fdiv (pv 1) pe_int) pe_int)) pa_nil)))))))
      (pss_cons (ps_set (i := 4) sc_law_room.nd rfl (Or.inr rfl) (pe_lc (own := [("k", 6)]) (g := gName 6) (tt := tYes) rfl sc_law_room.nd (pi_range1 rfl T.n_range (pa_cons (pv 2) pa_nil)) (blkOk_by (own := [("k", 6)]) (N := ["script", "cell", "relays", "buttons", "board", "pressed", "k"]) (sc := defScope s_law_room) (by decide +kernel)) (fun _ _ _ _ _ => pg_name (i := 6) sc_law_room.nd rfl (Or.inl rfl)) (fun _ _ _ _ _ => pts_nil) (fun _ _ _ _ _ => (pe_call G_law_wrapped (hr.mono (by omega)) (by rfl) T.m__law_wrapped T.F__law_wrapped.kp T.b__law_wrapped .nil pass0 (pa_cons (pe_ix (r := rIxL K) ix_list (pv 4) (pv 6) (fun _ _ => rfl)) (pa_cons (pe_op op_fdiv (pe_call G_law_mix (hr.mono (by omega)) (by rfl) T.m__law_mix T.F__law_mix.kp T.b__law_mix .nil pass0 (pa_cons (pv 1) (pa_cons (pe_op op_add pe_int (pv 6)) pa_nil))) pe_int) pa_nil))))))
      (pss_cons (ps_set (i := 5) sc_law_room.nd rfl (Or.inl rfl) (pe_call G_law_bits (hr.mono (by omega)) (by rfl) T.m__law_bits T.F__law_bits.kp T.b__law_bits .nil pass0 (pa_cons (pe_call G_law_cell_at (hr.mono (by omega)) (by rfl) T.m__law_cell_at T.F__law_cell_at.kp T.b__law_cell_at .nil pass0 (pa_cons (pv 0) (pa_cons pe_int pa_nil))) (pa_cons (pv 3) pa_nil))))
      (pss_one (ps_ret (pe_tup (pa_cons (pv 4) (pa_cons (pv 5) (pa_cons (pe_call G_law_bits (hr.mono (by omega)) (by rfl) T.m__law_bits T.F__law_bits.kp T.b__law_bits .nil pass0 (pa_cons (pe_call G_law_cell_at (hr.mono (by omega)) (by rfl) T.m__law_cell_at T.F__law_cell_at.kp T.b__law_cell_at .nil pass0 (pa_cons (pv 0) (pa_cons pe_int pa_nil))) (pa_cons (pv 2) pa_nil))) pa_nil))))))))))))), ?_⟩
  wtm_at "rd"
  refine ⟨a, ns, 0, rfl, hS, by omega, fun c => ?_⟩
  wtm_at "rd"
  have hm : ∃ m : Nat, c / 45 % 5 = (m : Int) ∧ m ≤ 4 := ⟨(c / 45 % 5).toNat, by omega, by omega⟩
  obtain ⟨m, em, hm4⟩ := hm
  refine ⟨fun σ' H' => ∃ n : Nat, 1 ≤ n ∧ n ≤ 6 ∧ H' = H ∧ σ' = [some (.ref a), some (.int c), some (.int n), none, none, none, none], ?_, ?_⟩
  · wtm_at "rd"
    refine iB (fun c1 => ?_) (fun c1 => ?_)
    · exact ⟨6, by omega, by omega, rfl, rfl⟩
    · refine ⟨(1 + c % 5).toNat, by omega, by omega, rfl, ?_⟩
      show [some (.ref a), some (.int c), some (V.int (1 + c % 5)), none, none, none, none] = _
      rw [show (((1 + c % 5).toNat : Nat) : Int) = 1 + c % 5 by omega]
  rintro σ' H' ⟨n, hn1, hn6, rfl, rfl⟩
  wtm_at "rd"
  rw [em]
  refine ⟨a, ns, 4, 2 + c / 225 % 4, n, m, rfl, hS, by omega, by omega, by omega, by omega, fun H1 p1 ws us s1 n1 e1 w1 l1 f1 => ?_⟩
  refine ⟨_, rfl, n, rfl, by omega, by omega, fun D nD => lc_range (lo := 0) (n := n) (fun i H2 => ∃ ws2 us2, Same H1 H2 ∧ H2 D = some (.lst us2) ∧ WAs H2 ws2 us2 ∧ ws2.length = i ∧ Fits n m 8 ws2) ?_ ?_ ?_⟩
  · exact ⟨[], [], Same.new nD, upd_same, .nil, rfl, fun _ h => nomatch h⟩
  · rintro i H2 hi ⟨ws2, us2, s2, hD, hw, hl, hf⟩
    wtm_at "lc"
    wtm_at "rd"
    have hiw : i < ws.length := by omega
    obtain ⟨v, hv, b, rfl, hb⟩ := paired_getl w1 (List.getElem?_eq_getElem hiw)
    refine ⟨_, _, _, _, rfl, rfl, .of (s2 _ _ e1), at_of (j := i) (by omega) hv, ?_⟩
    wtm_at "rd"
    refine ⟨c, _, rfl, fun x hx0 hx1 => ?_⟩
    wtm_at "rd"
    refine ⟨b, _, ws[i], rfl, WA.same s2 hb, fun H3 b' w' s3 e3 g3 => ?_⟩
    have hlen := hw.length
    have t3 : Tk H3 (upd H3 D (.lst (us2 ++ [.ref b']))) := Tk.lst (s3 _ _ hD)
    have f8 : Fit n m 8 w' := by
      have f := g3 n m _ (f1 ws[i] (List.getElem_mem hiw))
      exact ⟨f.1, by have := f.2; omega⟩
    exact ⟨us2, s3 _ _ hD, small11 (by omega), ws2 ++ [w'], us2 ++ [.ref b'], Same.lst (s2.trans s3) nD, upd_same, paired_snoc (WAs.tk ((Same.tk s3).trans t3) hw) ⟨b', rfl, WA.tk t3 e3⟩, by simp [hl], hf.snoc f8⟩
  rintro H2 ⟨ws2, us2, s2, hD, hw, hl, hf⟩
  wtm_at "rd"
  refine ⟨a, ns, 1, rfl, (s1.trans s2).seq hS, by omega, fun c1 => ?_⟩
  wtm_at "rd"
  refine ⟨c1, m, rfl, by omega, fun H3 p3 s3 n3 e3 => ?_⟩
  wtm_at "rd"
  refine ⟨a, ns, 2, rfl, (s1.trans (s2.trans s3)).seq hS, by omega, fun c2 => ?_⟩
  wtm_at "rd"
  refine ⟨c2, n, rfl, by omega, fun H4 p4 s4 n4 e4 => ?_⟩
  wtm_at "szs"
  wtm_at "new p H5 s5 e5"
  have s45 := s4.trans s5
  exact q _ _ _ _ _ n m ws2 us2 _ _ ⟨s1.trans (s2.trans (s3.trans s45)), e5, s1.free nD, (s3.trans s45) _ _ hD, WAs.same (s3.trans s45) hw, s45 _ _ e3, s5 _ _ e4, hn1, hn6, hm4, hl, bits_len _ _, bits_len _ _, hf⟩

def sp_worth (N : Nat) : Sp := fun vs H Q _ => ∃ (a st pr : Addr) (w : W) (ss ps : List Bool), vs = [.ref a, .ref st, .ref pr] ∧ WA H w a ∧ H st = some (.tup (ss.map V.bl)) ∧ H pr = some (.tup (ps.map V.bl)) ∧
  w.wired ss.length ps.length ∧ w.depth ≤ N ∧ Q (.bl (w.eval ss ps)) H
theorem st_worth (T : Txt K mg Z) {N : Nat} (Gworth : FnOk P w K mg base CX0 N Z.aworth Z.dworth ["word", "stand", "pressed"] (sp_worth N)) : FnOk P w K mg base CX0 (N + 1) Z.aworth Z.dworth ["word", "stand", "pressed"] (sp_worth (N + 1)) := by
  refine T.F_worth.ok scworth (fun vs H Q E h => by obtain ⟨_, _, _, _, _, _, rfl, _⟩ := h; rfl) (fun cdv A outer s H vs Q E hr h => ?_)
  obtain ⟨a, st, pr, w, ss, ps, rfl, hw, hst, hpr, hwd, hd, q⟩ := h
  refine ⟨_, (pss_cons (ps_if (pt_cmpR op_eq (pe_ix (r := rIxT K) ix_tup (pv 0) pe_int (fun _ _ => rfl)) pe_str (nomark _)) (pss_one (ps_ret (pe_ix (r := rIxT K) ix_tup (pv 1) (pe_ix (r := rIxT K) ix_tup (pv 0) pe_int (fun _ _ => rfl)) (fun _ _ => rfl)))) pss_nil)
      (pss_cons (ps_if (pt_cmpR op_eq (pe_ix (r := rIxT K) ix_tup (pv 0) pe_int (fun _ _ => rfl)) pe_str (nomark _)) (pss_one (ps_ret (pe_ix (r := rIxT K) ix_tup (pv 2) (pe_ix (r := rIxT K) ix_tup (pv 0) pe_int (fun _ _ => rfl)) (fun _ _ => rfl)))) pss_nil)
      (pss_cons (ps_if (pt_cmpR op_eq (pe_ix (r := rIxT K) ix_tup (pv 0) pe_int (fun _ _ => rfl)) pe_str (nomark _)) (pss_one (ps_ret (pe_not (pe_call Gworth (hr.mono (by omega)) (by rfl) T.m_worth T.F_worth.kp T.b_worth .nil pass0 (pa_cons (pe_ix (r := rIxT K) ix_tup (pv 0) pe_int (fun _ _ => rfl)) (pa_cons (pv 1) (pa_cons (pv 2) pa_nil))))))) pss_nil)
      (pss_cons (ps_if (pt_cmpR op_eq (pe_ix (r := rIxT K) ix_tup (pv 0) pe_int (fun _ _ => rfl)) pe_str (nomark _)) (pss_one (ps_ret (pe_and (pe_call Gworth (hr.mono (by omega)) (by rfl) T.m_worth T.F_worth.kp T.b_worth .nil pass0 (pa_cons (pe_ix (r := rIxT K) ix_tup (pv 0) pe_int (fun _ _ => rfl)) (pa_cons (pv 1) (pa_cons (pv 2) pa_nil)))) (pe_one (pe_call Gworth (hr.mono (by omega)) (by rfl) T.m_worth T.F_worth.kp T.b_worth .nil pass0 (pa_cons (pe_ix (r := rIxT K) ix_tup (pv 0) pe_int (fun _ _ => rfl)) (pa_cons (pv 1) (pa_cons (pv 2) pa_nil)))))))) pss_nil)
      (pss_cons (ps_if (pt_cmpR op_eq (pe_ix (r := rIxT K) ix_tup (pv 0) pe_int (fun _ _ => rfl)) pe_str (nomark _)) (pss_one (ps_ret (pe_or (pe_call Gworth (hr.mono (by omega)) (by rfl) T.m_worth T.F_worth.kp T.b_worth .nil pass0 (pa_cons (pe_ix (r := rIxT K) ix_tup (pv 0) pe_int (fun _ _ => rfl)) (pa_cons (pv 1) (pa_cons (pv 2) pa_nil)))) (pe_one (pe_call Gworth (hr.mono (by omega)) (by rfl) T.m_worth T.F_worth.kp T.b_worth .nil pass0 (pa_cons (pe_ix (r := rIxT K) ix_tup (pv 0) pe_int (fun _ _ => rfl)) (pa_cons (pv 1) (pa_cons (pv 2) pa_nil)))))))) pss_nil)
      (pss_one (ps_ret (pe_cmpR op_eq (pe_ix (r := rIxT K) ix_tup (pv 0) pe_int (fun _ _ => rfl)) pe_str (nomark _))))))))), ?_⟩
  cases w with
  | on => 
    have e0 : H a = some (.tup [.str "on"]) := hw
    refine tag_test rfl e0 ?_; wtm_at "dF"
    refine tag_test rfl e0 ?_; wtm_at "dF"
    refine tag_test rfl e0 ?_; wtm_at "dF"
    refine tag_test rfl e0 ?_; wtm_at "dF"
    refine tag_test rfl e0 ?_; wtm_at "dF"
    refine tag_val rfl e0 ?_
    rw [show decide (V.str "on" = V.str "on") = true by decide +kernel]
    exact q
  | off => 
    have e0 : H a = some (.tup [.str "off"]) := hw
    refine tag_test rfl e0 ?_; wtm_at "dF"
    refine tag_test rfl e0 ?_; wtm_at "dF"
    refine tag_test rfl e0 ?_; wtm_at "dF"
    refine tag_test rfl e0 ?_; wtm_at "dF"
    refine tag_test rfl e0 ?_; wtm_at "dF"
    refine tag_val rfl e0 ?_
    rw [show decide (V.str "off" = V.str "on") = false by decide +kernel]
    exact q
  | relay k =>
    have e0 : H a = some (.tup [.str "relay", .int k]) := hw
    refine tag_test rfl e0 ?_; wtm_at "dT"
    exact ⟨_, rfl, _, rfl, a, _, 1, _, rfl, rfl, .of e0, atI_nat (j := 1) rfl, st, _, k, _, rfl, rfl, .of hst, at_bl hwd.1 hwd.2, q⟩
  | button k =>
    have e0 : H a = some (.tup [.str "button", .int k]) := hw
    refine tag_test rfl e0 ?_; wtm_at "dF"
    refine tag_test rfl e0 ?_; wtm_at "dT"
    exact ⟨_, rfl, _, rfl, a, _, 1, _, rfl, rfl, .of e0, atI_nat (j := 1) rfl, pr, _, k, _, rfl, rfl, .of hpr, at_bl hwd.1 hwd.2, q⟩
  | not x =>
    obtain ⟨b, e0, hx⟩ := hw
    have hd' : x.depth + 1 ≤ N + 1 := hd
    refine tag_test rfl e0 ?_; wtm_at "dF"
    refine tag_test rfl e0 ?_; wtm_at "dF"
    refine tag_test rfl e0 ?_; wtm_at "dT"
    exact ⟨_, rfl, a, _, 1, _, rfl, rfl, .of e0, atI_nat (j := 1) rfl, _, rfl, _, rfl, b, st, pr, x, ss, ps, rfl, hx, hst, hpr, hwd, by omega, _, rfl, q⟩
  | and x y =>
    obtain ⟨b, c, e0, hx, hy⟩ := hw
    have hd' : max x.depth y.depth + 1 ≤ N + 1 := hd
    refine tag_test rfl e0 ?_; wtm_at "dF"
    refine tag_test rfl e0 ?_; wtm_at "dF"
    refine tag_test rfl e0 ?_; wtm_at "dF"
    refine tag_test rfl e0 ?_; wtm_at "dT"
    refine ⟨_, rfl, a, _, 1, _, rfl, rfl, .of e0, atI_nat (j := 1) rfl, _, rfl, _, rfl, b, st, pr, x, ss, ps, rfl, hx, hst, hpr, hwd.1, by omega, _, rfl, ?_⟩
    have q' : Q (.bl (x.eval ss ps && y.eval ss ps)) H := q
    refine iB (fun z => ?_) (fun z => ?_)
    · rw [z] at q'
      exact ⟨_, rfl, a, _, 2, _, rfl, rfl, .of e0, atI_nat (j := 2) rfl, _, rfl, _, rfl, c, st, pr, y, ss, ps, rfl, hy, hst, hpr, hwd.2, by omega, q'⟩
    · rw [z] at q'
      exact q'
  | or x y =>
    obtain ⟨b, c, e0, hx, hy⟩ := hw
    have hd' : max x.depth y.depth + 1 ≤ N + 1 := hd
    refine tag_test rfl e0 ?_; wtm_at "dF"
    refine tag_test rfl e0 ?_; wtm_at "dF"
    refine tag_test rfl e0 ?_; wtm_at "dF"
    refine tag_test rfl e0 ?_; wtm_at "dF"
    refine tag_test rfl e0 ?_; wtm_at "dT"
    refine ⟨_, rfl, a, _, 1, _, rfl, rfl, .of e0, atI_nat (j := 1) rfl, _, rfl, _, rfl, b, st, pr, x, ss, ps, rfl, hx, hst, hpr, hwd.1, by omega, _, rfl, ?_⟩
    have q' : Q (.bl (x.eval ss ps || y.eval ss ps)) H := q
    refine iB (fun z => ?_) (fun z => ?_)
    · rw [z] at q'
      exact q'
    · rw [z] at q'
      exact ⟨_, rfl, a, _, 2, _, rfl, rfl, .of e0, atI_nat (j := 2) rfl, _, rfl, _, rfl, c, st, pr, y, ss, ps, rfl, hy, hst, hpr, hwd.2, by omega, q'⟩
theorem ok_worth (T : Txt K mg Z) : ∀ N : Nat, FnOk P w K mg base CX0 N Z.aworth Z.dworth ["word", "stand", "pressed"] (sp_worth N)
  | 0 => fn_none (by rintro vs H Q E ⟨_, _, _, w, _, _, _, _, _, _, _, h2, _⟩; have := w.depth_pos; omega)
  | N + 1 => st_worth T (ok_worth T N)

def sp_law_worth (N : Nat) : Sp := fun vs H Q _ => ∃ (a st pr : Addr) (w : W) (ss ps : List Bool), vs = [.ref a, .ref st, .ref pr] ∧ WA H w a ∧ H st = some (.tup (ss.map V.bl)) ∧ H pr = some (.tup (ps.map V.bl)) ∧
  w.wired ss.length ps.length ∧ w.depth ≤ N ∧ ∀ H', Same H H' → Q (.bl (w.eval ss ps)) H'
theorem st_law_worth (T : Txt K mg Z) {N : Nat} (G_law_worth : FnOk P w K mg base CX0 N Z.a_law_worth Z.d_law_worth ["word", "stand", "pressed"] (sp_law_worth N)) : FnOk P w K mg base CX0 (N + 1) Z.a_law_worth Z.d_law_worth ["word", "stand", "pressed"] (sp_law_worth (N + 1)) := by
  refine T.F__law_worth.ok sc_law_worth (fun vs H Q E h => by obtain ⟨_, _, _, _, _, _, rfl, _⟩ := h; rfl) (fun cdv A outer s H vs Q E hr h => ?_)
  obtain ⟨a, st, pr, w, ss, ps, rfl, hw, hst, hpr, hwd, hd, q⟩ := h
  refine ⟨_, (pss_cons (ps_if (PW.pt (pw_or (pt_cmpR op_eq (pe_ix (r := rIxT K) ix_tup (pv 0) pe_int (fun _ _ => rfl)) pe_str (nomark _)) (pw_or1 (pt_cmpR op_eq (pe_ix (r := rIxT K) ix_tup (pv 0) pe_int (fun _ _ => rfl)) pe_str (nomark _))))) (pss_one (ps_ret (pe_cmpR op_eq (pe_ix (r := rIxT K) ix_tup (pv 0) pe_int (fun _ _ => rfl)) pe_str (nomark _)))) pss_nil)
      (pss_cons (ps_if (pt_cmpR op_eq (pe_ix (r := rIxT K) ix_tup (pv 0) pe_int (fun _ _ => rfl)) pe_str (nomark _)) (pss_one (ps_ret (pe_ix (r := rIxT K) ix_tup (pv 1) (pe_ix (r := rIxT K) ix_tup (pv 0) pe_int (fun _ _ => rfl)) (fun _ _ => rfl)))) pss_nil)
      (pss_cons (ps_if (pt_cmpR op_eq (pe_ix (r := rIxT K) ix_tup (pv 0) pe_int (fun _ _ => rfl)) pe_str (nomark _)) (pss_one (ps_ret (pe_ix (r := rIxT K) ix_tup (pv 2) (pe_ix (r := rIxT K) ix_tup (pv 0) pe_int (fun _ _ => rfl)) (fun _ _ => rfl)))) pss_nil)
      (pss_cons (ps_setLc (i := 3) (own := [("part", 4)]) (g := gName 4) (tt := tYes) rfl sc_law_worth.nd rfl rfl (sw_true rfl rfl rfl (by decide +kernel)) (pi_tup (pe_slice (r := rSlT K) sl_tup (pv 0) (po_some pe_int) po_none)) (blkOk_by (own := [("part", 4)]) (N := ["word", "stand", "pressed", "worths", "part"]) (sc := defScope s_law_worth) (by decide +kernel)) (fun _ _ _ _ _ => pg_name (i := 4) sc_law_worth.nd rfl (Or.inl rfl)) (fun _ _ _ _ _ => pts_nil) (fun _ _ _ _ _ => (pe_call G_law_worth (hr.mono (by omega)) (by rfl) T.m__law_worth T.F__law_worth.kp T.b__law_worth .nil pass0 (pa_cons (pv 4) (pa_cons (pv 1) (pa_cons (pv 2) pa_nil))))))
      (pss_cons (ps_if (pt_cmpR op_eq (pe_ix (r := rIxT K) ix_tup (pv 0) pe_int (fun _ _ => rfl)) pe_str (nomark _)) (pss_one (ps_ret (pe_not (pe_ix (r := rIxL K) ix_list (pv 3) pe_int (fun _ _ => rfl))))) pss_nil)
      (pss_cons (ps_if (pt_cmpR op_eq (pe_ix (r := rIxT K) ix_tup (pv 0) pe_int (fun _ _ => rfl)) pe_str (nomark _)) (pss_one (ps_ret (pe_cmpR (r := rIn K true) op_notIn_seq pe_bl (pv 3) (by rfl)))) pss_nil)
      (pss_one (ps_ret (pe_cmpR (r := rIn K false) op_in_seq pe_bl (pv 3) (by rfl)))))))))), ?_⟩
  have leaf : w = .on ∨ w = .off ∨ (∃ k, w = .relay k) ∨ (∃ k, w = .button k) ∨ ((∀ k, w ≠ .relay k) ∧ (∀ k, w ≠ .button k) ∧ ∀ s : Str, s = "on" ∨ s = "off" ∨ s = "relay" ∨ s = "button" → decide (V.str w.tag = V.str s) = false) := by
    cases w with
    | on => exact .inl rfl
    | off => exact .inr (.inl rfl)
    | relay k => exact .inr (.inr (.inl ⟨k, rfl⟩))
    | button k => exact .inr (.inr (.inr (.inl ⟨k, rfl⟩)))
    | not x => exact .inr (.inr (.inr (.inr ⟨(fun _ z => W.noConfusion z), (fun _ z => W.noConfusion z), by rintro s (rfl | rfl | rfl | rfl) <;> exact decide_eq_false (by dsimp only [W.tag]; decide +kernel)⟩)))
    | and x y => exact .inr (.inr (.inr (.inr ⟨(fun _ z => W.noConfusion z), (fun _ z => W.noConfusion z), by rintro s (rfl | rfl | rfl | rfl) <;> exact decide_eq_false (by dsimp only [W.tag]; decide +kernel)⟩)))
    | or x y => exact .inr (.inr (.inr (.inr ⟨(fun _ z => W.noConfusion z), (fun _ z => W.noConfusion z), by rintro s (rfl | rfl | rfl | rfl) <;> exact decide_eq_false (by dsimp only [W.tag]; decide +kernel)⟩)))
  rcases leaf with rfl | rfl | ⟨k, rfl⟩ | ⟨k, rfl⟩ | ⟨n1, n2, nd⟩
  · have e0 : H a = some (.tup [.str "on"]) := hw
    refine tag_test rfl e0 ?_; wtm_at "dT"
    refine iT rfl ?_
    refine tag_val rfl e0 ?_
    rw [show decide (V.str "on" = V.str "on") = true by decide +kernel]
    exact q _ (Same.refl _)
  · have e0 : H a = some (.tup [.str "off"]) := hw
    refine tag_test rfl e0 ?_; wtm_at "dF"
    refine tag_test rfl e0 ?_; wtm_at "dT"
    refine tag_val rfl e0 ?_
    rw [show decide (V.str "off" = V.str "on") = false by decide +kernel]
    exact q _ (Same.refl _)
  · have e0 : H a = some (.tup [.str "relay", .int k]) := hw
    refine tag_test rfl e0 ?_; wtm_at "dF"
    refine tag_test rfl e0 ?_; wtm_at "dF"
    refine tag_test rfl e0 ?_; wtm_at "dT"
    exact ⟨_, rfl, _, rfl, a, _, 1, _, rfl, rfl, .of e0, atI_nat (j := 1) rfl, st, _, k, _, rfl, rfl, .of hst, at_bl hwd.1 hwd.2, q _ (Same.refl _)⟩
  · have e0 : H a = some (.tup [.str "button", .int k]) := hw
    refine tag_test rfl e0 ?_; wtm_at "dF"
    refine tag_test rfl e0 ?_; wtm_at "dF"
    refine tag_test rfl e0 ?_; wtm_at "dF"
    refine tag_test rfl e0 ?_; wtm_at "dT"
    exact ⟨_, rfl, _, rfl, a, _, 1, _, rfl, rfl, .of e0, atI_nat (j := 1) rfl, pr, _, k, _, rfl, rfl, .of hpr, at_bl hwd.1 hwd.2, q _ (Same.refl _)⟩
  obtain ⟨us, e0, hus⟩ := WA.parts hw n1 n2
  refine tag_test rfl e0 ?_; refine iF (nd _ (.inl rfl)) ?_
  refine tag_test rfl e0 ?_; refine iF (nd _ (.inr (.inl rfl))) ?_
  refine tag_test rfl e0 ?_; refine iF (nd _ (.inr (.inr (.inl rfl)))) ?_
  refine tag_test rfl e0 ?_; refine iF (nd _ (.inr (.inr (.inr rfl)))) ?_
  refine ⟨_, rfl, 1, rfl, a, _, rfl, .of e0, ?_⟩
  refine ⟨fun z => ?_, ?_⟩
  · have z1 := z.1
    rw [show HT.sIx (V.str w.tag :: us).length 0 (some 1) = min 1 (V.str w.tag :: us).length from HT.sIx_nat _ 0 1, List.length_cons] at z1
    omega
  rw [cut1]
  wtm_at "new p H1 s1 e1"
  have u1 := WAs.same s1 hus
  have hlen := hus.length
  refine ⟨p, rfl, ⟨_, .of e1⟩, fun D nD => lc_tup (K := K) (a := p) (xs := us) (fun i H' => Same H1 H' ∧ H' D = some (.lst ((w.parts.take i).map fun x => .bl (x.eval ss ps)))) ?_ ?_ ?_ ?_⟩
  · exact ⟨Same.new nD, upd_same⟩
  · rintro i H2 _ ⟨s2, _⟩
    exact .of (s2 _ _ e1)
  · rintro i v H2 hi ⟨s2, hD⟩
    obtain ⟨x, hx, b, rfl, hb⟩ := paired_get u1 hi
    have hp := parts_ok (List.mem_of_getElem? hx) hwd hd
    wtm_at "lc"
    refine ⟨_, rfl, _, rfl, _, rfl, b, st, pr, x, ss, ps, rfl, WA.same s2 hb, s2 _ _ (s1 _ _ hst), s2 _ _ (s1 _ _ hpr), hp.1, hp.2, fun H3 s3 => ?_⟩
    refine ⟨_, s3 _ _ hD, ?_, Same.lst (s2.trans s3) nD, ?_⟩
    · rw [List.length_map, List.length_take]
      have h2 : w.parts.length ≤ 2 := by cases w <;> simp [W.parts]
      exact small11 (by omega)
    · rw [upd_same, List.take_add_one, hx, List.map_append]
      rfl
  rintro H2 ⟨s2, hD⟩
  rw [← hlen, List.take_length] at hD
  have s12 := s1.trans s2
  have e2 := s12 _ _ e0
  cases w with
  | on => exact absurd (nd "on" (.inl rfl)) (by decide +kernel)
  | off => exact absurd (nd "off" (.inr (.inl rfl))) (by decide +kernel)
  | relay k => exact absurd rfl (n1 k)
  | button k => exact absurd rfl (n2 k)
  | not x =>
    refine tag_test rfl e2 ?_; wtm_at "dT"
    exact ⟨_, rfl, _, _, _, _, rfl, rfl, .of hD, atI_nat (j := 0) rfl, _, rfl, q _ s12⟩
  | and x y =>
    refine tag_test rfl e2 ?_; wtm_at "dF"
    refine tag_test rfl e2 ?_; wtm_at "dT"
    refine ⟨_, rfl, D, [x.eval ss ps, y.eval ss ps].map V.bl, rfl, .inl (.of hD), rfl, flat_bl _, ?_⟩
    have := q _ s12
    rw [inV_bl]
    revert this
    show Q (.bl (x.eval ss ps && y.eval ss ps)) H2 → Q (.bl (!([x.eval ss ps, y.eval ss ps].any fun x => x == false))) H2
    cases x.eval ss ps <;> cases y.eval ss ps <;> exact id
  | or x y =>
    refine tag_test rfl e2 ?_; wtm_at "dF"
    refine tag_test rfl e2 ?_; wtm_at "dF"
    refine ⟨_, rfl, D, [x.eval ss ps, y.eval ss ps].map V.bl, rfl, .inl (.of hD), rfl, flat_bl _, ?_⟩
    have := q _ s12
    rw [inV_bl]
    revert this
    show Q (.bl (x.eval ss ps || y.eval ss ps)) H2 → Q (.bl ([x.eval ss ps, y.eval ss ps].any fun x => x == true)) H2
    cases x.eval ss ps <;> cases y.eval ss ps <;> exact id
theorem ok_law_worth (T : Txt K mg Z) : ∀ N : Nat, FnOk P w K mg base CX0 N Z.a_law_worth Z.d_law_worth ["word", "stand", "pressed"] (sp_law_worth N)
  | 0 => fn_none (by rintro vs H Q E ⟨_, _, _, w, _, _, _, _, _, _, _, h2, _⟩; have := w.depth_pos; omega)
  | N + 1 => st_law_worth T (ok_law_worth T N)

def sp_can_move : Sp := fun vs H Q _ => ∃ (b pr st : Addr) (k n m : Nat) (us : List V) (ws : List W) (ps ss : List Bool), vs = [.ref b, .ref pr, .ref st, vn k] ∧ k < n ∧ BoardAt H b us ws n m ∧ H pr = some (.tup (ps.map V.bl)) ∧ H st = some (.tup (ss.map V.bl)) ∧ ss.length = n ∧ ps.length = m ∧ Q (.bl (canMove ws ps ss k)) H
theorem ok_can_move (T : Txt K mg Z) : FnOk P w K mg base CX0 11 Z.acan_move Z.dcan_move ["board", "pressed", "stand", "relay"] sp_can_move := by
  have Gworth := ok_worth (P := P) (w := w) (base := base) T 10
  refine T.F_can_move.ok sccan_move (fun vs H Q E h => by obtain ⟨_, _, _, _, _, _, _, _, _, _, rfl, _⟩ := h; rfl) (fun cdv A outer s H vs Q E hr h => ?_)
  obtain ⟨b, pr, st, k, n, m, us, ws, ps, ss, rfl, hk, B, hp, hs, hsl, hpl, q⟩ := h
  refine ⟨_, (pss_one (ps_ret (pe_cmpR op_ne (pe_call Gworth (hr.mono (by omega)) (by rfl) T.m_worth T.F_worth.kp T.b_worth .nil pass0 (pa_cons (pe_ix (r := rIxL K) ix_list (pv 0) (pv 3) (fun _ _ => rfl)) (pa_cons (pv 2) (pa_cons (pv 1) pa_nil)))) (pe_ix (r := rIxT K) ix_tup (pv 2) (pv 3) (fun _ _ => rfl)) (nomark _)))), ?_⟩
  obtain ⟨c, hc, hw, hf⟩ := B.at hk
  refine ⟨_, rfl, _, rfl, b, us, (k : Int), _, rfl, rfl, .of B.lst, at_of (j := k) rfl hc, _, rfl, _, rfl, c, st, pr, ws.getD k .off, ss, ps, rfl, hw, hs, hp, by rw [hsl, hpl]; exact hf.1, by have := hf.2; omega, ?_⟩
  refine ⟨_, rfl, _, rfl, st, _, (k : Int), _, rfl, rfl, .of hs, at_bl (by omega) (by omega), rfl, ?_⟩
  have e : (!decide (V.bl ((ws.getD k .off).eval ss ps) = V.bl (ss.getD ((k : Int).toNat) false))) = canMove ws ps ss k := by
    unfold canMove
    rw [Int.toNat_natCast]
    cases (ws.getD k W.off).eval ss ps <;> cases ss.getD k false <;> rfl
  show Q (.bl (!decide (V.bl ((ws.getD k .off).eval ss ps) = V.bl (ss.getD ((k : Int).toNat) false)))) H
  rw [e]
  exact q

def sp_movable : Sp := fun vs H Q _ => ∃ (b pr st : Addr) (n m : Nat) (us : List V) (ws : List W) (ps ss : List Bool), vs = [.ref b, .ref pr, .ref st] ∧ BoardAt H b us ws n m ∧ H pr = some (.tup (ps.map V.bl)) ∧ H st = some (.tup (ss.map V.bl)) ∧ ss.length = n ∧ ps.length = m ∧
  ∀ (H' : Hp) (p : Addr), Same H H' → H p = none → H' p = some (.lst ((movL ws ps ss).map vn)) → Q (.ref p) H'
theorem ok_movable (T : Txt K mg Z) : FnOk P w K mg base CX0 12 Z.amovable Z.dmovable ["board", "pressed", "stand"] sp_movable := by
  have Gcan_move := ok_can_move (P := P) (w := w) (base := base) T
  refine T.F_movable.ok scmovable (fun vs H Q E h => by obtain ⟨_, _, _, _, _, _, _, _, _, rfl, _⟩ := h; rfl) (fun cdv A outer s H vs Q E hr h => ?_)
  obtain ⟨b, pr, st, n, m, us, ws, ps, ss, rfl, B, hp, hs, hsl, hpl, q⟩ := h
  refine ⟨_, (pss_one (ps_ret (pe_lc (own := [("relay", 3)]) (g := gName 3) rfl scmovable.nd (pi_range1 rfl T.n_range (pa_cons (pe_callB (r := rLenSeq K) call_len_seq (by rfl) T.n_len PySem.boot_len (pa_cons (pv 0) pa_nil)) pa_nil)) (blkOk_by (own := [("relay", 3)]) (N := ["board", "pressed", "stand", "relay"]) (sc := defScope smovable) (by decide +kernel)) (fun _ _ _ _ _ => pg_name (i := 3) scmovable.nd rfl (Or.inl rfl)) (fun _ _ _ _ _ => (pts_one (pt_val (pe_call Gcan_move (hr.mono (by omega)) (by rfl) T.m_can_move T.F_can_move.kp T.b_can_move .nil pass0 (pa_cons (pv 0) (pa_cons (pv 1) (pa_cons (pv 2) (pa_cons (pv 3) pa_nil)))))))) (fun _ _ _ _ _ => (pv 3))))), ?_⟩
  have hu := B.ulen
  have h6 := B.n6
  refine ⟨_, rfl, b, us, rfl, .inl (.of B.lst), _, rfl, by omega, by omega, fun D nD => lc_range (lo := 0) (n := us.length) (fun i H' => Same H H' ∧ H' D = some (.lst (((List.range i).filter (canMove ws ps ss)).map vn))) ?_ ?_ ?_⟩
  · exact ⟨Same.new nD, upd_same⟩
  · rintro i H2 hi ⟨s2, hD⟩
    refine ⟨rfl, ?_⟩
    refine ⟨_, rfl, _, rfl, _, rfl, _, rfl, b, pr, st, i, n, m, us, ws, ps, ss, by rw [Int.zero_add]; rfl, by omega, B.same s2, s2 _ _ hp, s2 _ _ hs, hsl, hpl, _, rfl, ?_⟩
    refine iB (fun c => ?_) (fun c => ?_)
    · refine ⟨_, rfl, _, hD, small11 ?_, Same.lst s2 nD, ?_⟩
      · rw [List.length_map]
        have := List.length_filter_le (canMove ws ps ss) (List.range i)
        rw [List.length_range] at this
        omega
      · rw [upd_same, List.range_succ, filter_snoc, if_pos c, List.map_append, Int.zero_add]
        rfl
    · refine ⟨s2, ?_⟩
      rw [hD, List.range_succ, filter_snoc, if_neg (by rw [c]; decide)]
  · rintro H2 ⟨s2, hD⟩
    refine q _ _ s2 nD ?_
    rw [hD, hu, ← B.len]
    rfl

def sp_law_movable : Sp := fun vs H Q _ => ∃ (b pr st : Addr) (n m : Nat) (us : List V) (ws : List W) (ps ss : List Bool), vs = [.ref b, .ref pr, .ref st] ∧ BoardAt H b us ws n m ∧ H pr = some (.tup (ps.map V.bl)) ∧ H st = some (.tup (ss.map V.bl)) ∧ ss.length = n ∧ ps.length = m ∧
  ∀ (H' : Hp) (p : Addr), Same H H' → H p = none → H' p = some (.lst ((movL ws ps ss).map vn)) → Q (.ref p) H'
theorem ok_law_movable (T : Txt K mg Z) : FnOk P w K mg base CX0 11 Z.a_law_movable Z.d_law_movable ["board", "pressed", "stand"] sp_law_movable := by
  have G_law_worth := ok_law_worth (P := P) (w := w) (base := base) T 10
  refine T.F__law_movable.ok sc_law_movable (fun vs H Q E h => by obtain ⟨_, _, _, _, _, _, _, _, _, rfl, _⟩ := h; rfl) (fun cdv A outer s H vs Q E hr h => ?_)
  obtain ⟨b, pr, st, n, m, us, ws, ps, ss, rfl, B, hp, hs, hsl, hpl, q⟩ := h
  refine ⟨_, (pss_one (ps_ret (pe_lc (own := [("k", 3)]) (g := gName 3) rfl sc_law_movable.nd (pi_range1 rfl T.n_range (pa_cons (pe_callB (r := rLenSeq K) call_len_seq (by rfl) T.n_len PySem.boot_len (pa_cons (pv 0) pa_nil)) pa_nil)) (blkOk_by (own := [("k", 3)]) (N := ["board", "pressed", "stand", "k"]) (sc := defScope s_law_movable) (by decide +kernel)) (fun _ _ _ _ _ => pg_name (i := 3) sc_law_movable.nd rfl (Or.inl rfl)) (fun _ _ _ _ _ => (pts_one (pt_cmpR op_ne (pe_call G_law_worth (hr.mono (by omega)) (by rfl) T.m__law_worth T.F__law_worth.kp T.b__law_worth .nil pass0 (pa_cons (pe_ix (r := rIxL K) ix_list (pv 0) (pv 3) (fun _ _ => rfl)) (pa_cons (pv 2) (pa_cons (pv 1) pa_nil)))) (pe_ix (r := rIxT K) ix_tup (pv 2) (pv 3) (fun _ _ => rfl)) (nomark _)))) (fun _ _ _ _ _ => (pv 3))))), ?_⟩
  have hu := B.ulen
  have h6 := B.n6
  refine ⟨_, rfl, b, us, rfl, .inl (.of B.lst), _, rfl, by omega, by omega, fun D nD => lc_range (lo := 0) (n := us.length) (fun i H' => Same H H' ∧ H' D = some (.lst (((List.range i).filter (canMove ws ps ss)).map vn))) ?_ ?_ ?_⟩
  · exact ⟨Same.new nD, upd_same⟩
  · rintro i H2 hi ⟨s2, hD⟩
    refine ⟨rfl, ?_⟩
    obtain ⟨c, hc, hw, hf⟩ := B.at (k := i) (by omega)
    refine ⟨_, rfl, _, rfl, b, us, 0 + (i : Int), _, rfl, rfl, .of (s2 _ _ B.lst), at_of (j := i) (Int.zero_add _) hc, _, rfl, _, rfl, c, st, pr, ws.getD i .off, ss, ps, rfl, WA.same s2 hw, s2 _ _ hs, s2 _ _ hp, by rw [hsl, hpl]; exact hf.1, by have := hf.2; omega, fun H3 s3 => ?_⟩
    have s23 := s2.trans s3
    refine ⟨_, rfl, _, rfl, st, _, 0 + (i : Int), _, rfl, rfl, .of (s23 _ _ hs), at_bl (by omega) (by omega), rfl, _, rfl, ?_⟩
    have e : (!decide (V.bl ((ws.getD i .off).eval ss ps) = V.bl (ss.getD ((0 + (i : Int)).toNat) false))) = canMove ws ps ss i := by
      unfold canMove
      rw [toNat0]
      cases (ws.getD i W.off).eval ss ps <;> cases ss.getD i false <;> rfl
    rw [e]
    refine iB (fun c => ?_) (fun c => ?_)
    · refine ⟨_, rfl, _, s3 _ _ hD, small11 ?_, Same.lst s23 nD, ?_⟩
      · rw [List.length_map]
        have := List.length_filter_le (canMove ws ps ss) (List.range i)
        rw [List.length_range] at this
        omega
      · rw [upd_same, List.range_succ, filter_snoc, if_pos c, List.map_append, Int.zero_add]
        rfl
    · refine ⟨s23, ?_⟩
      rw [s3 _ _ hD, List.range_succ, filter_snoc, if_neg (by rw [c]; decide)]
  · rintro H2 ⟨s2, hD⟩
    refine q _ _ s2 nD ?_
    rw [hD, hu, ← B.len]
    rfl

theorem cut_lo (xs : List V) (k : Nat) (h : k ≤ xs.length) : cutV xs none (some (k : Int)) = xs.take k := by
  unfold cutV
  rw [HT.sIx_none, HT.sIx_nat, Nat.min_eq_left h]
  rfl
theorem cut_hi (xs : List V) (k : Nat) : cutV xs (some (k : Int)) none = xs.drop k := by
  unfold cutV
  rw [HT.sIx_none, HT.sIx_nat]
  by_cases h : k ≤ xs.length
  · rw [Nat.min_eq_left h, List.take_of_length_le (by rw [List.length_drop]; exact Nat.le_refl _)]
  · rw [Nat.min_eq_right (by omega), Nat.sub_self, List.take_zero, List.drop_eq_nil_of_le (by omega)]
theorem flip_split (ss : List Bool) (k : Nat) (h : k < ss.length) : (flip ss k).map V.bl = (ss.map V.bl).take k ++ [V.bl (!ss.getD k false)] ++ (ss.map V.bl).drop (k + 1) := by
  unfold flip
  rw [List.set_eq_take_append_cons_drop, if_pos h]
  simp
def sp_moved : Sp := fun vs H Q _ => ∃ (st : Addr) (k : Nat) (ss : List Bool), vs = [.ref st, vn k] ∧ H st = some (.tup (ss.map V.bl)) ∧ k < ss.length ∧ ss.length ≤ 1000 ∧
  ∀ (H' : Hp) (p : Addr), Same H H' → H' p = some (.tup ((flip ss k).map V.bl)) → Q (.ref p) H'
theorem cat_any {K : PySem.W.Frag} {H : Hp} {Q : VK} {a b : Addr} {xs ys : List V} (ha : H a = some (.tup xs)) (hb : H b = some (.tup ys)) (hz : xs.length + ys.length ≤ sizeLine)
    (q : ∀ (H' : Hp) (p : Addr), Same H H' → H' p = some (.tup (xs ++ ys)) → Q (.ref p) H') : rCatA K (.ref a) (.ref b) H Q := by
  refine ⟨a, b, xs, ys, rfl, rfl, .of ha, .of hb, hz, fun e => ?_, fun _ e => ?_, fun _ _ p np => q _ p (Same.new np) upd_same⟩
  · subst e; exact q _ _ (Same.refl _) hb
  · subst e; exact q _ _ (Same.refl _) (by rw [List.append_nil]; exact ha)
theorem ok_moved (T : Txt K mg Z) : FnOk P w K mg base CX0 1 Z.amoved Z.dmoved ["stand", "relay"] sp_moved := by
  refine T.F_moved.ok scmoved (fun vs H Q E h => by obtain ⟨_, _, _, rfl, _⟩ := h; rfl) (fun cdv A outer s H vs Q E hr h => ?_)
  obtain ⟨st, k, ss, rfl, hs, hk, h1000, q⟩ := h
  refine ⟨_, (pss_one (ps_ret (pe_op (r := rCatA K) op_catA (pe_op (r := rCatA K) op_catA (pe_slice (r := rSlT K) sl_tup (pv 0) po_none (po_some (pv 1))) (pe_tup (pa_cons (pe_not (pe_ix (r := rIxT K) ix_tup (pv 0) (pv 1) (fun _ _ => rfl))) pa_nil))) (pe_slice (r := rSlT K) sl_tup (pv 0) (po_some (pe_op op_add (pv 1) pe_int)) po_none)))), ?_⟩
  have hl : (ss.map V.bl).length = ss.length := List.length_map _
  refine ⟨_, rfl, _, rfl, _, rfl, st, _, rfl, .of hs, fun z => ?_, ?_⟩
  · have z2 := z.2
    rw [HT.sIx_nat, hl] at z2
    omega
  wtm_at "new p1 H1 s1 e1"
  rw [cut_lo _ _ (by omega)] at e1
  refine ⟨_, rfl, _, rfl, st, _, (k : Int), _, rfl, rfl, .of (s1 _ _ hs), at_bl (by omega) (by omega), _, rfl, by wtm_at "sz", ?_⟩
  wtm_at "new p2 H2 s2 e2"
  have l1 : ((ss.map V.bl).take k).length ≤ 1000 := by rw [List.length_take, hl]; omega
  refine cat_any (s2 _ _ e1) e2 (small10 (by show _ + 1 ≤ _; omega)) fun H3 p3 s3 e3 => ?_
  refine ⟨_, rfl, _, rfl, _, _, rfl, rfl, _, rfl, st, _, rfl, .of (s3 _ _ (s2 _ _ (s1 _ _ hs))), fun z => ?_, ?_⟩
  · have z1 := z.1
    rw [show ((k : Int) + 1) = ((k + 1 : Nat) : Int) from rfl, HT.sIx_nat, hl] at z1
    omega
  wtm_at "new p4 H4 s4 e4"
  rw [show ((k : Int) + 1) = ((k + 1 : Nat) : Int) from rfl, cut_hi] at e4
  refine cat_any (s4 _ _ e3) e4 (small10 ?_) fun H5 p5 s5 e5 => ?_
  · rw [List.length_append, List.length_drop, hl]
    show _ + 1 + _ ≤ _
    omega
  · refine q _ p5 (s1.trans (s2.trans (s3.trans (s4.trans s5)))) ?_
    rw [flip_split _ _ hk, e5, Int.toNat_natCast]

def sp_law_moved : Sp := fun vs H Q _ => ∃ (st : Addr) (k : Nat) (ss : List Bool), vs = [.ref st, vn k] ∧ H st = some (.tup (ss.map V.bl)) ∧ ss.length ≤ 1000 ∧
  ∀ (H' : Hp) (p : Addr), Same H H' → H p = none → H' p = some (.tup ((flip ss k).map V.bl)) → Q (.ref p) H'
theorem ok_law_moved (T : Txt K mg Z) : FnOk P w K mg base CX0 1 Z.a_law_moved Z.d_law_moved ["stand", "relay"] sp_law_moved := by
  refine T.F__law_moved.ok sc_law_moved (fun vs H Q E h => by obtain ⟨_, _, _, rfl, _⟩ := h; rfl) (fun cdv A outer s H vs Q E hr h => ?_)
  obtain ⟨st, k, ss, rfl, hs, h1000, q⟩ := h
  refine ⟨_, (pss_one (ps_ret (pe_callTy call_tuple_of (by rfl) T.n_tuple (by decide +kernel) (pa_cons (pe_lc (own := [("k", 2)]) (g := gName 2) (tt := tYes) rfl sc_law_moved.nd (pi_range1 rfl T.n_range (pa_cons (pe_callB (r := rLenSeq K) call_len_seq (by rfl) T.n_len PySem.boot_len (pa_cons (pv 0) pa_nil)) pa_nil)) (blkOk_by (own := [("k", 2)]) (N := ["stand", "relay", "k"]) (sc := defScope s_law_moved) (by decide +kernel)) (fun _ _ _ _ _ => pg_name (i := 2) sc_law_moved.nd rfl (Or.inl rfl)) (fun _ _ _ _ _ => pts_nil) (fun _ _ _ _ _ => (pe_cmpR op_ne (pe_ix (r := rIxT K) ix_tup (pv 0) (pv 2) (fun _ _ => rfl)) (pe_cmpR op_eq (pv 2) (pv 1) (nomark _)) (nomark _)))) pa_nil)))), ?_⟩
  have hl : (ss.map V.bl).length = ss.length := List.length_map _
  refine ⟨_, rfl, st, _, rfl, .inr (.of hs), _, rfl, by omega, by omega, fun D nD => lc_range (lo := 0) (n := (ss.map V.bl).length) (fun i H' => Same H H' ∧ H' D = some (.lst (((flip ss k).take i).map V.bl))) ?_ ?_ ?_⟩
  · exact ⟨Same.new nD, upd_same⟩
  · rintro i H2 hi ⟨s2, hD⟩
    wtm_at "lc"
    refine ⟨_, rfl, _, rfl, st, _, 0 + (i : Int), _, rfl, rfl, .of (s2 _ _ hs), at_bl (by omega) (by omega), _, rfl, _, rfl, rfl, rfl, ?_⟩
    refine ⟨_, hD, small11 (by rw [List.length_map, List.length_take]; omega), Same.lst s2 nD, ?_⟩
    rw [upd_same, List.take_add_one, flip_get _ _ _ (by omega), List.map_append, toNat0]
    have e1 : decide (V.int (0 + (i : Int)) = vn k) = decide (i = k) := decide_eq_decide.mpr ⟨fun e => by have := V.int.inj e; omega, fun e => by rw [e, Int.zero_add]; rfl⟩
    rw [e1]
    have e2 : (!decide (V.bl (ss.getD i false) = V.bl (decide (i = k)))) = (ss.getD i false != decide (i = k)) := by cases ss.getD i false <;> cases decide (i = k) <;> rfl
    rw [e2]
    rfl
  · rintro H2 ⟨s2, hD⟩
    refine ⟨D, _, rfl, .inl ⟨.of hD, ?_⟩⟩
    wtm_at "new p H3 s3 e3"
    rw [List.take_of_length_le (by rw [flip_len]; omega)] at e3
    exact q _ _ (s2.trans s3) (s2.free np) e3

/-- the roads that a dict tells; none is L -/
def RoadsAt (ws : List W) (ps ss : List Bool) (H0 : Hp) (L : Addr) (H : Hp) (kvs : List (List Bool × V)) : Prop := ∀ x ∈ kvs, ∃ (a : Addr) (rs : List Nat), x.2 = .ref a ∧ H0 a = none ∧ a ≠ L ∧ H a = some (.lst (rs.map vn)) ∧ rs.length < kvs.length ∧ Road ws ps ss rs x.1
theorem RoadsAt.at {ws : List W} {ps ss : List Bool} {H0 H H2 : Hp} {L : Addr} {kvs : List (List Bool × V)} (h : RoadsAt ws ps ss H0 L H kvs) (k : ∀ a xs, a ≠ L → H a = some (.lst xs) → H2 a = some (.lst xs)) : RoadsAt ws ps ss H0 L H2 kvs := fun x hx => by
  obtain ⟨a, rs, e, n, ne, l, q⟩ := h x hx
  exact ⟨a, rs, e, n, ne, k a _ ne l, q⟩
structure ComeAt (ws : List W) (ps ss : List Bool) (H0 : Hp) (F L : Addr) (hh : Option (List Bool)) (H : Hp) (kvs : List (List Bool × V)) (lefts : List (List Bool)) (us : List V) : Prop where
  same : Same H0 H
  dict : DBat H F kvs
  roads : RoadsAt ws ps ss H0 L H kvs
  left : H L = some (.lst us)
  tups : Tups H lefts us
  sub : ∀ t ∈ lefts, t ∈ kvs.map (·.1)
  self : ss ∈ kvs.map (·.1)
  done : ∀ t ∈ kvs.map (·.1), t ∈ lefts ∨ hh = some t ∨ ∀ k ∈ movL ws ps t, flip t k ∈ kvs.map (·.1)
theorem roads_mem {ws : List W} {ps ss t : List Bool} {H0 H : Hp} {L : Addr} {kvs : List (List Bool × V)} (h : RoadsAt ws ps ss H0 L H kvs) (ht : t ∈ kvs.map (·.1)) : ∃ (a : Addr) (rs : List Nat), (t, .ref a) ∈ kvs ∧ H0 a = none ∧ a ≠ L ∧ H a = some (.lst (rs.map vn)) ∧ rs.length < kvs.length ∧ Road ws ps ss rs t := by
  obtain ⟨⟨t', v⟩, hx, rfl⟩ := List.mem_map.mp ht
  obtain ⟨a, rs, e, q⟩ := h _ hx
  cases (show v = .ref a from e)
  exact ⟨a, rs, hx, q⟩
theorem roads_len {ws : List W} {ps ss : List Bool} {H0 H : Hp} {L : Addr} {kvs : List (List Bool × V)} (h : RoadsAt ws ps ss H0 L H kvs) : ∀ t ∈ kvs.map (·.1), t.length = ss.length := fun t ht => by
  obtain ⟨a, rs, _, _, _, _, _, r⟩ := roads_mem h ht
  exact r.len
theorem ComeAt.le {ws : List W} {ps ss : List Bool} {H0 H : Hp} {F L : Addr} {hh : Option (List Bool)} {kvs : List (List Bool × V)} {lefts : List (List Bool)} {us : List V} (C : ComeAt ws ps ss H0 F L hh H kvs lefts us) (h6 : ss.length ≤ 6) : kvs.length ≤ 64 := by
  have := stands_le C.dict.nodup (roads_len C.roads) h6
  rw [List.length_map] at this; exact this
theorem ComeAt.later {ws : List W} {ps ss : List Bool} {H0 H H2 : Hp} {F L : Addr} {hh : Option (List Bool)} {kvs : List (List Bool × V)} {lefts : List (List Bool)} {us : List V} (C : ComeAt ws ps ss H0 F L hh H kvs lefts us) (s : Same H H2) : ComeAt ws ps ss H0 F L hh H2 kvs lefts us :=
  ⟨C.same.trans s, C.dict.same s, C.roads.at fun a xs _ e => s _ _ e, s _ _ C.left, Tups.same s C.tups, C.sub, C.self, C.done⟩
def sp_come_to : Sp := fun vs H Q _ => ∃ (b pr st : Addr) (n m : Nat) (us : List V) (ws : List W) (ps ss : List Bool), vs = [.ref b, .ref pr, .ref st] ∧ BoardAt H b us ws n m ∧ H pr = some (.tup (ps.map V.bl)) ∧ H st = some (.tup (ss.map V.bl)) ∧ ss.length = n ∧ ps.length = m ∧
  ∀ (H' : Hp) (F L : Addr) (kvs : List (List Bool × V)), Same H H' → H F = none → DBat H' F kvs → RoadsAt ws ps ss H L H' kvs → Stands ws ps ss (kvs.map (·.1)) → Q (.ref F) H'
theorem ok_come_to (T : Txt K mg Z) : FnOk P w K mg base CX0 13 Z.acome_to Z.dcome_to ["board", "pressed", "stand"] sp_come_to := by
  have Gmovable := ok_movable (P := P) (w := w) (base := base) T
  have Gmoved := ok_moved (P := P) (w := w) (base := base) T
  refine T.F_come_to.ok sccome_to (fun vs H Q E h => by obtain ⟨_, _, _, _, _, _, _, _, _, rfl, _⟩ := h; rfl) (fun cdv A outer s H vs Q E hr h => ?_)
  obtain ⟨b, pr, st, n, m, us, ws, ps, ss, rfl, B, hp, hs, hsl, hpl, q⟩ := h
  refine ⟨_, (pss_cons (ps_set (i := 3) sccome_to.nd rfl (Or.inl rfl) (pe_bone (hu_of hr) (pv 2) (pe_lst pa_nil)))
      (pss_cons (ps_set (i := 4) sccome_to.nd rfl (Or.inl rfl) (pe_lst (pa_cons (pv 2) pa_nil)))
      (pss_cons (ps_while PassesOwn.never (pt_cmpR op_gt (pe_callB (r := rLenSeq K) call_len_seq (by rfl) T.n_len PySem.boot_len (pa_cons (pv 4) pa_nil)) pe_int (nomark _))
      (pss_cons (ps_set (i := 5) sccome_to.nd rfl (Or.inl rfl) (pe_bm PySem.F.plainAttrs_list PySem.F.slot_list_pop PySem.F.type_list_pop mt_popAt (pv 4) (pa_cons pe_int pa_nil)))
      (pss_one (ps_for PassesOwn.never rfl (pi_list (pe_call Gmovable (hr.mono (by omega)) (by rfl) T.m_movable T.F_movable.kp T.b_movable .nil pass0 (pa_cons (pv 0) (pa_cons (pv 1) (pa_cons (pv 5) pa_nil))))) (pg_name (i := 6) sccome_to.nd rfl (Or.inl rfl))
      (pss_cons (ps_set (i := 7) sccome_to.nd rfl (Or.inl rfl) (pe_call Gmoved (hr.mono (by omega)) (by rfl) T.m_moved T.F_moved.kp T.b_moved .nil pass0 (pa_cons (pv 5) (pa_cons (pv 6) pa_nil))))
      (pss_one (ps_if (pt_cmp (pc_bnotin (hu_of hr) (pv 7) (pv 3))) (pss_cons (ps_bput (hu_of hr) (pv 3) (pv 7) (pe_op op_cat (pe_bget (hu_of hr) (pv 3) (pv 5) (fun _ _ => rfl)) (pe_lst (pa_cons (pv 6) pa_nil))) rfl)
      (pss_one (ps_expr (pe_bm PySem.F.plainAttrs_list PySem.F.slot_list_append PySem.F.type_list_append mt_append (pv 4) (pa_cons (pv 7) pa_nil))))) pss_nil)))))))
      (pss_one (ps_ret (pv 3)))))), ?_⟩
  have h6 := B.n6
  have hwl := B.len
  intro F H1 nF s1 b1 d1
  refine ⟨_, rfl, Nat.zero_le _, ?_⟩
  wtm_at "new R H2 s2 e2"
  have d2 := d1.same s2
  refine ⟨d2, st, ss, rfl, (s1.trans s2) _ _ hs, fun H3 d3 b3 => ?_⟩
  have s3 : Same H H3 := Same.but (s1.trans s2) nF b3
  have RF : R ≠ F := by
    intro e; subst e
    obtain ⟨_, e1, _⟩ := d1
    rw [e1] at nR; cases nR
  have e3 : H3 R = some (.lst []) := (b3 R RF).trans e2
  refine ⟨_, rfl, Nat.le_of_ble_eq_true (n := 1) rfl, ?_⟩
  wtm_at "new L H4 s4 e4"
  have s34 := s3.trans s4
  have nL0 : H L = none := s3.free nL
  have RL : R ≠ L := fun e => by subst e; rw [e3] at nL; cases nL
  have C0 : ComeAt ws ps ss H F L none H4 [(ss, .ref R)] [ss] [.ref st] := by
    refine ⟨s34, d3.same s4, ?_, e4, .cons ⟨st, rfl, s34 _ _ hs⟩ .nil, ?_, List.mem_singleton.mpr rfl, ?_⟩
    · intro x hx
      rw [List.mem_singleton.mp hx]
      exact ⟨R, [], rfl, s1.free nR, RL, s4 _ _ e3, Nat.lt_of_lt_of_le Nat.zero_lt_one (Nat.le_refl _), rfl⟩
    · intro t ht
      rw [List.mem_singleton.mp ht]; exact List.mem_singleton.mpr rfl
    · intro t ht
      rw [List.mem_singleton.mp ht]; exact .inl (List.mem_singleton.mpr rfl)
  refine ⟨fun m σ H' => ∃ kvs lefts us' x1 x2 x3, σ = [some (.ref b), some (.ref pr), some (.ref st), some (.ref F), some (.ref L), x1, x2, x3] ∧ ComeAt ws ps ss H F L none H' kvs lefts us' ∧ m = 64 - kvs.length + lefts.length ∧ m ≤ 64, ⟨_, _, _, _, none, none, none, rfl, C0, rfl, Nat.le_refl _⟩, ?_⟩
  rintro m0 σ H5 ⟨kvs, lefts, us', x1, x2, x3, rfl, C, rfl, hm64⟩
  refine ⟨_, rfl, L, us', rfl, .inl (.of C.left), _, _, rfl, rfl, _, rfl, ?_⟩
  refine iB (fun c => ?_) (fun c => ?_)
  · have c := of_decide_eq_true c
    refine ⟨fun σ' H' => ∃ m', m' < 64 - kvs.length + lefts.length ∧ ∃ kvs lefts us' x1 x2 x3, σ' = [some (.ref b), some (.ref pr), some (.ref st), some (.ref F), some (.ref L), x1, x2, x3] ∧ ComeAt ws ps ss H F L none H' kvs lefts us' ∧ m' = 64 - kvs.length + lefts.length ∧ m' ≤ 64, fun _ _ h => h, ?_⟩
    have hT := C.tups
    cases lefts with
    | nil => have := hT.length; rw [← this] at c; exact absurd c (by decide)
    | cons hh rest =>
    cases hT with
    | @cons _ u0 _ usr r0 rt =>
    obtain ⟨ha, rfl, eha⟩ := r0
    have hhk := C.sub hh List.mem_cons_self
    have hhl : hh.length = n := by rw [roads_len C.roads hh hhk, hsl]
    refine ⟨_, rfl, .inl ⟨rfl, _, .of C.left⟩, L, _, 0, 0, .ref ha, rfl, rfl, C.left, by decide, by decide, by unfold seqIndex?; simp, rfl, ?_⟩
    have e6 : (upd H5 L (.lst usr)) L = some (.lst usr) := upd_same
    have k6 : ∀ c, c ≠ L → (upd H5 L (.lst usr)) c = H5 c := fun c hc => upd_ne hc
    have t6 : Tk H5 (upd H5 L (.lst usr)) := Tk.lst C.left
    have s6 : Same H (upd H5 L (.lst usr)) := Same.lst C.same nL0
    show tSeq _ _ _ _ (upd H5 L (.lst usr))
    generalize upd H5 L (.lst usr) = H6 at *
    have FL : F ≠ L := by
      intro e; subst e
      obtain ⟨_, e1, _⟩ := C.dict
      rw [C.left] at e1; cases e1
    have C6 : ComeAt ws ps ss H F L (some hh) H6 kvs rest usr := by
      refine ⟨s6, C.dict.at (k6 F FL) t6, C.roads.at fun a xs ne e => (k6 a ne).trans e, e6, Tups.tk t6 rt, fun t ht => C.sub t (List.mem_cons_of_mem _ ht), C.self, fun t ht => ?_⟩
      rcases C.done t ht with h | h | h
      · rcases List.mem_cons.mp h with rfl | h
        · exact .inr (.inl rfl)
        · exact .inl h
      · cases h
      · exact .inr (.inr h)
    have eh6 := t6 _ _ eha
    have hk64 := C.le (by omega)
    refine ⟨_, rfl, _, rfl, _, rfl, b, pr, ha, n, m, us, ws, ps, hh, rfl, B.same s6, s6 _ _ hp, eh6, hhl, hpl, fun H7 M s7 nM e7 => ?_⟩
    have ML : M ≠ L := fun e => by subst e; rw [e6] at nM; cases nM
    have MF : M ≠ F := fun e => by subst e; obtain ⟨_, e1, _⟩ := C6.dict; rw [e1] at nM; cases nM
    refine ⟨M, rfl, ⟨_, .of e7⟩, for_list (K := K) (a := M) (xs := (movL ws ps hh).map vn) (fun i σ H' => ∃ kvs2 lefts us' x2 x3, σ = [some (.ref b), some (.ref pr), some (.ref st), some (.ref F), some (.ref L), some (.ref ha), x2, x3] ∧ ComeAt ws ps ss H F L (some hh) H' kvs2 lefts us' ∧ (∀ k ∈ (movL ws ps hh).take i, flip hh k ∈ kvs2.map (·.1)) ∧ hh ∈ kvs2.map (·.1) ∧ H' ha = some (.tup (hh.map V.bl)) ∧ H' M = some (.lst ((movL ws ps hh).map vn)) ∧ 64 - kvs2.length + lefts.length = 64 - kvs.length + rest.length) ?_ ?_ ?_ ?_⟩
    · exact ⟨kvs, rest, usr, x2, x3, rfl, C6.later s7, (fun k hk => nomatch hk), hhk, s7 _ _ eh6, e7, rfl⟩
    · rintro i σ H' _ ⟨_, _, _, _, _, _, _, _, _, _, e, _⟩
      exact .of e
    · rintro i v σ H8 hi ⟨kvs2, lefts, us', x2, x3, rfl, C8, hdone, hhk2, eh8, eM, hmeas⟩
      obtain ⟨k, hk, rfl⟩ : ∃ k, (movL ws ps hh)[i]? = some k ∧ v = vn k := by
        rw [List.getElem?_map] at hi
        obtain ⟨k, hk, e⟩ := Option.map_eq_some_iff.mp hi
        exact ⟨k, hk, e.symm⟩
      have hkm := List.mem_of_getElem? hk
      have hkn : k < hh.length := by rw [hhl, ← hwl]; exact (mem_movL.mp hkm).1
      have htake : (movL ws ps hh).take (i + 1) = (movL ws ps hh).take i ++ [k] := by rw [List.take_add_one, hk]; rfl
      refine ⟨_, rfl, _, rfl, ha, k, hh, rfl, eh8, hkn, by omega, fun H9 p9 s9 e9 => ?_⟩
      have C9 := C8.later s9
      refine ⟨_, rfl, _, rfl, F, p9, kvs2, flip hh k, rfl, rfl, C9.dict, e9, _, rfl, ?_⟩
      refine iB (fun z => ?_) (fun z => ?_)
      · have hnew : flip hh k ∉ kvs2.map (·.1) := val_out (notT z)
        obtain ⟨ra, rs, hmem, nra, raL, era, hrl, hroad⟩ := roads_mem C9.roads hhk2
        have hk2 := C9.le (by omega)
        refine ⟨_, rfl, _, rfl, F, ha, kvs2, hh, .ref ra, rfl, rfl, C9.dict, s9 _ _ eh8, valV_of C9.dict.nodup hmem, ?_⟩
        refine ⟨_, rfl, Nat.le_of_ble_eq_true (n := 1) rfl, ?_⟩
        wtm_at "new l1 Ha sa ea"
        refine ⟨ra, l1, _, _, rfl, rfl, sa _ _ era, ea, small10 (by rw [List.length_map]; show _ + 1 ≤ _; omega), ?_⟩
        wtm_at "new l2 Hb sb eb"
        have sab := sa.trans sb
        have Cb := C9.later sab
        have eb' : Hb l2 = some (.lst ((rs ++ [k]).map vn)) := by rw [eb, List.map_append]; rfl
        have l2L : l2 ≠ L := fun e => by subst e; rw [sa _ _ C9.left] at nl2; cases nl2
        have nl2H : H l2 = none := (C9.same.trans sa).free nl2
        refine ⟨_, rfl, _, rfl, F, p9, kvs2, flip hh k, rfl, rfl, Cb.dict, sab _ _ e9, small11 (by omega), fun Hc dc bc => ?_⟩
        rw [putK_fresh _ hnew] at dc
        have sc := Same.but Cb.same nF bc
        have tc := bc.tk Cb.dict
        have FL2 : F ≠ L := FL
        have lst_ne : ∀ a xs, Hb a = some (.lst xs) → Hc a = some (.lst xs) := fun a xs e => by
          obtain ⟨_, e1, _⟩ := Cb.dict
          rw [bc a (ne_of e e1 (by intro z; cases z))]; exact e
        have ec := lst_ne _ _ Cb.left
        have hkeys : (kvs2 ++ [(flip hh k, V.ref l2)]).map (·.1) = kvs2.map (·.1) ++ [flip hh k] := by rw [List.map_append]; rfl
        have hul := Cb.tups.length
        have hcard : (kvs2 ++ [(flip hh k, V.ref l2)]).length ≤ 64 := by
          have := stands_le (n := n) dc.nodup (fun t ht => by
            rw [hkeys] at ht
            rcases List.mem_append.mp ht with h | h
            · rw [roads_len Cb.roads t h, hsl]
            · rw [List.mem_singleton.mp h, flip_len, hhl]) h6
          rw [List.length_map] at this; exact this
        rw [List.length_append, List.length_singleton] at hcard
        have hlefts : lefts.length ≤ 64 := by rw [List.length_cons] at hm64; omega
        refine ⟨_, rfl, .inl ⟨rfl, _, .of ec⟩, _, rfl, L, _, .ref p9, rfl, rfl, ec, small11 (by omega), ?_⟩
        have td : Tk Hc (upd Hc L (.lst (us' ++ [.ref p9]))) := Tk.lst ec
        have kd : ∀ c, c ≠ L → (upd Hc L (.lst (us' ++ [.ref p9]))) c = Hc c := fun c hc => upd_ne hc
        have tall := (Tk.trans tc td)
        refine ⟨_, lefts ++ [flip hh k], us' ++ [.ref p9], _, _, rfl, ⟨Same.lst sc nL0, dc.at (kd F FL) td, ?_, upd_same, ?_, ?_, ?_, ?_⟩, ?_, ?_, ?_, ?_, ?_⟩
        · intro x hx
          rcases List.mem_append.mp hx with h | h
          · obtain ⟨a, rs', ea1, ea2, ea3, ea4, ea5, ea6⟩ := Cb.roads x h
            exact ⟨a, rs', ea1, ea2, ea3, (kd a ea3).trans (lst_ne _ _ ea4), by rw [List.length_append]; omega, ea6⟩
          · rw [List.mem_singleton.mp h]
            exact ⟨l2, rs ++ [k], rfl, nl2H, l2L, (kd l2 l2L).trans (lst_ne _ _ eb'), by rw [List.length_append, List.length_append]; show _ + 1 < _ + 1; omega, hroad.snoc hkm⟩
        · exact paired_snoc (Tups.tk tall Cb.tups) ⟨p9, rfl, tall _ _ (sab _ _ e9)⟩
        · intro t ht
          rw [hkeys]
          rcases List.mem_append.mp ht with h | h
          · exact List.mem_append.mpr (.inl (Cb.sub t h))
          · exact List.mem_append.mpr (.inr h)
        · rw [hkeys]; exact List.mem_append.mpr (.inl Cb.self)
        · intro t ht
          rw [hkeys] at ht ⊢
          rcases List.mem_append.mp ht with h | h
          · rcases Cb.done t h with h | h | h
            · exact .inl (List.mem_append.mpr (.inl h))
            · exact .inr (.inl h)
            · exact .inr (.inr fun j hj => List.mem_append.mpr (.inl (h j hj)))
          · exact .inl (List.mem_append.mpr (.inr h))
        · intro j hj
          rw [htake] at hj
          rw [hkeys]
          rcases List.mem_append.mp hj with h | h
          · exact List.mem_append.mpr (.inl (hdone j h))
          · rw [List.mem_singleton.mp h]; exact List.mem_append.mpr (.inr (List.mem_singleton.mpr rfl))
        · rw [hkeys]; exact List.mem_append.mpr (.inl hhk2)
        · exact tall _ _ (sab _ _ (s9 _ _ eh8))
        · rw [kd M ML]; exact lst_ne _ _ (sab _ _ (s9 _ _ eM))
        · rw [List.length_append, List.length_append, List.length_singleton, List.length_singleton]; omega
      · have hold : flip hh k ∈ kvs2.map (·.1) := val_in (notF z)
        refine ⟨kvs2, lefts, us', _, _, rfl, C9, ?_, hhk2, s9 _ _ eh8, s9 _ _ eM, hmeas⟩
        intro j hj
        rw [htake] at hj
        rcases List.mem_append.mp hj with h | h
        · exact hdone j h
        · rw [List.mem_singleton.mp h]; exact hold
    · rintro σ H8 ⟨kvs2, lefts, us', x2, x3, rfl, C8, hdone, hhk2, eh8, eM, hmeas⟩
      rw [List.length_map, List.take_length] at hdone
      rw [List.length_cons] at hm64 ⊢
      refine ⟨_, by omega, kvs2, lefts, us', _, _, _, rfl, ⟨C8.same, C8.dict, C8.roads, C8.left, C8.tups, C8.sub, C8.self, fun t ht => ?_⟩, rfl, by omega⟩
      rcases C8.done t ht with h | h | h
      · exact .inl h
      · cases h; exact .inr (.inr hdone)
      · exact .inr (.inr h)
  · have c := of_decide_eq_false c
    have hl := C.tups.length
    have hnil : lefts = [] := List.eq_nil_of_length_eq_zero (by omega)
    subst hnil
    refine ⟨_, rfl, q H5 F L kvs C.same nF C.dict C.roads (.of C.dict.nodup C.self (fun t ht => ?_) fun t ht => ?_)⟩
    · rcases C.done t ht with h | h | h
      · cases h
      · cases h
      · exact h
    · obtain ⟨_, rs, _, _, _, _, _, r⟩ := roads_mem C.roads ht
      exact ⟨rs, r⟩

structure NumAt (ws : List W) (ps : List Bool) (sts : List (List Bool)) (H0 : Hp) (F : Addr) (H : Hp) (P : Pap) : Prop where
  same : Same H0 H
  dict : DBat H F (papV P)
  falls : Falls ws ps P
  sub : ∀ t ∈ P.map (·.1), t ∈ sts
theorem NumAt.later {ws : List W} {ps : List Bool} {sts : List (List Bool)} {H0 H H2 : Hp} {F : Addr} {P : Pap} (N : NumAt ws ps sts H0 F H P) (s : Same H H2) : NumAt ws ps sts H0 F H2 P := ⟨N.same.trans s, N.dict.same s, N.falls, N.sub⟩
theorem NumAt.le {ws : List W} {ps ss : List Bool} {sts : List (List Bool)} {H0 H : Hp} {F : Addr} {P : Pap} (N : NumAt ws ps sts H0 F H P) (S : Stands ws ps ss sts) (h6 : ss.length ≤ 6) : P.length ≤ 64 := by
  have h := nodup_len N.falls.nodup N.sub
  rw [List.length_map] at h
  exact Nat.le_trans h (S.le h6)
/-- numbered, or with a move to what isn't -/
def Met (ws : List W) (ps : List Bool) (P : Pap) (t : List Bool) : Prop := t ∈ P.map (·.1) ∨ ∃ k ∈ movL ws ps t, flip t k ∉ P.map (·.1)
def sp_numbered : Sp := fun vs H Q _ => ∃ (b pr sa : Addr) (n m : Nat) (us vs2 : List V) (ws : List W) (ps ss : List Bool) (sts : List (List Bool)), vs = [.ref b, .ref pr, .ref sa] ∧ BoardAt H b us ws n m ∧ H pr = some (.tup (ps.map V.bl)) ∧ H sa = some (.lst vs2) ∧ Tups H sts vs2 ∧ Stands ws ps ss sts ∧ ss.length = n ∧ ps.length = m ∧
  ∀ (H' : Hp) (F : Addr) (P : Pap), Same H H' → H F = none → DBat H' F (papV P) → Falls ws ps P → (∀ t ∈ P.map (·.1), t ∈ sts) → (∀ t ∈ sts, Met ws ps P t) → Q (.ref F) H'
theorem all_take {l : List (List Bool)} {f : List Bool → Bool} : ((l.map f).all id = true) ↔ ∀ x ∈ l, f x = true := by
  rw [List.all_map, List.all_eq_true]; exact Iff.rfl
theorem ok_numbered (T : Txt K mg Z) : FnOk P w K mg base CX0 13 Z.anumbered Z.dnumbered ["board", "pressed", "stands"] sp_numbered := by
  have Gmovable := ok_movable (P := P) (w := w) (base := base) T
  have Gmoved := ok_moved (P := P) (w := w) (base := base) T
  refine T.F_numbered.ok scnumbered (fun vs H Q E h => by obtain ⟨_, _, _, _, _, _, _, _, _, _, _, rfl, _⟩ := h; rfl) (fun cdv A outer s H vs Q E hr h => ?_)
  obtain ⟨b, pr, sa, n, m, us, vs2, ws, ps, ss, sts, rfl, B, hp, hsa, hT, S, hsl, hpl, q⟩ := h
  refine ⟨_, (pss_cons (ps_set (i := 3) scnumbered.nd rfl (Or.inr rfl) pe_bnew)
      (pss_cons (ps_set (i := 4) scnumbered.nd rfl (Or.inl rfl) pe_bl)
      (pss_cons (ps_while PassesOwn.never (pt_val (pv 4))
      (pss_cons (ps_set (i := 4) scnumbered.nd rfl (Or.inl rfl) pe_bl)
      (pss_one (ps_for PassesOwn.never rfl (pi_list (pv 2)) (pg_name (i := 5) scnumbered.nd rfl (Or.inr rfl))
      (pss_cons (ps_setLc (i := 6) (own := [("relay", 7)]) (g := gName 7) (tt := tYes) rfl scnumbered.nd rfl rfl (sw_true rfl rfl rfl (by decide +kernel)) (pi_list (pe_call Gmovable (hr.mono (by omega)) (by rfl) T.m_movable T.F_movable.kp T.b_movable .nil pass0 (pa_cons (pv 0) (pa_cons (pv 1) (pa_cons (pv 5) pa_nil))))) (blkOk_by (own := [("relay", 7)]) (N := ["board", "pressed", "stands", "paper", "more", "stand", "after", "relay", "then"]) (sc := defScope snumbered) (by decide +kernel)) (fun _ _ _ _ _ => pg_name (i := 7) scnumbered.nd rfl (Or.inl rfl)) (fun _ _ _ _ _ => pts_nil) (fun _ _ _ _ _ => (pe_call Gmoved (hr.mono (by omega)) (by rfl) T.m_moved T.F_moved.kp T.b_moved .nil pass0 (pa_cons (pv 5) (pa_cons (pv 7) pa_nil)))))
      (pss_one (ps_if (PW.pt (pw_and (pt_cmp (pc_bnotin (hu_of hr) (pv 5) (pv 3))) (pw_and1 (pt_val (pe_callB (r := rAll K) (cr_all rfl) (by rfl) T.n_all (by decide +kernel) (pa_cons (pe_lc (own := [("then", 8)]) (g := gName 8) (tt := tYes) rfl scnumbered.nd (pi_list (pv 6)) (blkOk_by (own := [("then", 8)]) (N := ["board", "pressed", "stands", "paper", "more", "stand", "after", "relay", "then"]) (sc := defScope snumbered) (by decide +kernel)) (fun _ _ _ _ _ => pg_name (i := 8) scnumbered.nd rfl (Or.inl rfl)) (fun _ _ _ _ _ => pts_nil) (fun _ _ _ _ _ => (pe_cmp (pc_bin (hu_of hr) (pv 8) (pv 3))))) pa_nil)))))) (pss_cons (ps_bput (hu_of hr) (pv 3) (pv 5) (pe_op op_add pe_int (pe_callBK (r := rMaxD K) (call_maxD rfl (hu_of hr)) (by rfl) T.n_max (by decide +kernel) (pa_cons (pe_lc (own := [("then", 8)]) (g := gName 8) (tt := tYes) rfl scnumbered.nd (pi_list (pv 6)) (blkOk_by (own := [("then", 8)]) (N := ["board", "pressed", "stands", "paper", "more", "stand", "after", "relay", "then"]) (sc := defScope snumbered) (by decide +kernel)) (fun _ _ _ _ _ => pg_name (i := 8) scnumbered.nd rfl (Or.inl rfl)) (fun _ _ _ _ _ => pts_nil) (fun _ _ _ _ _ => (pe_bget (hu_of hr) (pv 3) (pv 8) (fun _ _ => rfl)))) pa_nil) (pk_cons (pe_un un_neg pe_int) pk_nil))) rfl)
      (pss_one (ps_set (i := 4) scnumbered.nd rfl (Or.inl rfl) pe_bl))) pss_nil)))))))
      (pss_one (ps_ret (pv 3)))))), ?_⟩
  have h6 := B.n6
  have hwl := B.len
  intro F H1 nF s1 b1 d1
  have F0 : Falls ws ps [] := ⟨List.nodup_nil, (fun _ _ h => nomatch h), (fun t => ⟨(fun h => nomatch h), (fun h => nomatch h.1)⟩), (fun _ _ h => nomatch h)⟩
  refine ⟨fun m σ H' => ∃ P more x1 x2 x3 x4, σ = [some (.ref b), some (.ref pr), some (.ref sa), some (.ref F), some (.bl more), x1, x2, x3, x4] ∧ NumAt ws ps sts H F H' P ∧ (more = false → ∀ t ∈ sts, Met ws ps P t) ∧ m = 2 * (64 - P.length) + more.toNat, ⟨_, [], true, none, none, none, none, rfl, ⟨s1, d1, F0, fun _ h => nomatch h⟩, (fun h => nomatch h), rfl⟩, ?_⟩
  rintro m0 σ H5 ⟨P0, more, x1, x2, x3, x4, rfl, N0, hmet, rfl⟩
  refine ⟨_, rfl, _, rfl, ?_⟩
  cases more with
  | false => exact iteF ⟨_, rfl, q H5 F P0 N0.same nF N0.dict N0.falls N0.sub (hmet rfl)⟩
  | true =>
  refine iteT ⟨fun σ' H' => ∃ m', m' < 2 * (64 - P0.length) + true.toNat ∧ ∃ P more x1 x2 x3 x4, σ' = [some (.ref b), some (.ref pr), some (.ref sa), some (.ref F), some (.bl more), x1, x2, x3, x4] ∧ NumAt ws ps sts H F H' P ∧ (more = false → ∀ t ∈ sts, Met ws ps P t) ∧ m' = 2 * (64 - P.length) + more.toNat, fun _ _ h => h, ?_⟩
  refine ⟨_, rfl, sa, rfl, ⟨_, .of (N0.same _ _ hsa)⟩, for_list (K := K) (a := sa) (xs := vs2) (fun i σ H' => ∃ P more x1 x2 x3 x4, σ = [some (.ref b), some (.ref pr), some (.ref sa), some (.ref F), some (.bl more), x1, x2, x3, x4] ∧ NumAt ws ps sts H F H' P ∧ P0.length ≤ P.length ∧ (more = true → P0.length < P.length) ∧ (more = false → ∀ t ∈ sts.take i, Met ws ps P t)) ?_ ?_ ?_ ?_⟩
  · exact ⟨P0, false, x1, x2, x3, x4, rfl, N0, Nat.le_refl _, (fun h => nomatch h), fun _ t h => nomatch h⟩
  · rintro i σ H' _ ⟨_, _, _, _, _, _, _, N, _⟩
    exact .of (N.same _ _ hsa)
  · rintro i v σ H6 hi ⟨P1, more, x1, x2, x3, x4, rfl, N, hle, hmo, hm⟩
    obtain ⟨t, ht, ta, rfl, eta⟩ := paired_get hT hi
    have htm := List.mem_of_getElem? ht
    have htl : t.length = n := by rw [((S.mem t).mp htm).len, hsl]
    have htake : sts.take (i + 1) = sts.take i ++ [t] := by rw [List.take_add_one, ht]; rfl
    refine ⟨_, rfl, _, rfl, _, rfl, b, pr, ta, n, m, us, ws, ps, t, rfl, B.same N.same, N.same _ _ hp, N.same _ _ eta, htl, hpl, fun H7 M s7 nM e7 => ?_⟩
    have N7 := N.later s7
    refine ⟨M, rfl, ⟨_, .of e7⟩, fun D nD => lc_list (K := K) (a := M) (xs := (movL ws ps t).map vn) (fun i H' => Same H7 H' ∧ ∃ ys, H' D = some (.lst ys) ∧ Tups H' (((movL ws ps t).take i).map (flip t)) ys) ?_ ?_ ?_ ?_⟩
    · exact ⟨Same.new nD, [], upd_same, .nil⟩
    · rintro i H2 _ ⟨s2, _⟩
      exact .of (s2 _ _ e7)
    · rintro j v H8 hj ⟨s8, ys, hD, hY⟩
      obtain ⟨k, hk, rfl⟩ : ∃ k, (movL ws ps t)[j]? = some k ∧ v = vn k := by
        rw [List.getElem?_map] at hj
        obtain ⟨k, hk, e⟩ := Option.map_eq_some_iff.mp hj
        exact ⟨k, hk, e.symm⟩
      have hkm := List.mem_of_getElem? hk
      have hkn : k < t.length := by rw [htl, ← hwl]; exact (mem_movL.mp hkm).1
      wtm_at "lc"
      refine ⟨_, rfl, _, rfl, ta, k, t, rfl, s8 _ _ (N7.same _ _ eta), hkn, by omega, fun H9 p9 s9 e9 => ?_⟩
      have hylen := hY.length
      have hjl := (List.getElem?_eq_some_iff.mp hk).1
      have hml := movL_le ws ps t
      rw [List.length_map, List.length_take] at hylen
      have t9 : Tk H9 (upd H9 D (.lst (ys ++ [.ref p9]))) := Tk.lst (s9 _ _ hD)
      refine ⟨ys, s9 _ _ hD, small11 (by omega), Same.lst (s8.trans s9) nD, _, upd_same, ?_⟩
      rw [List.take_add_one, hk, List.map_append]
      exact paired_snoc (Tups.tk ((Same.tk s9).trans t9) hY) ⟨p9, rfl, t9 _ _ e9⟩
    rintro H8 ⟨s8, ys, hD, hY⟩
    rw [List.length_map, List.take_length] at hY
    have N8 := N7.later s8
    have hylen := hY.length
    have hml := movL_le ws ps t
    rw [List.length_map] at hylen
    have ta8 := N8.same _ _ eta
    refine ⟨_, rfl, _, rfl, F, ta, papV P1, t, rfl, rfl, N8.dict, ta8, _, rfl, ?_⟩
    refine iB (fun z => ?_) (fun z => ?_)
    · have hnew : t ∉ P1.map (·.1) := by have := val_out (notT z); rw [papV_keys] at this; exact this
      refine ⟨_, rfl, D, rfl, ⟨_, .of hD⟩, fun D2 nD2 => lc_list (K := K) (a := D) (xs := ys) (fun i H' => Same H8 H' ∧ H' D2 = some (.lst (((((movL ws ps t).map (flip t)).take i).map fun u => (valV (papV P1) u).isSome).map V.bl))) ?_ ?_ ?_ ?_⟩
      · exact ⟨Same.new nD2, upd_same⟩
      · rintro i H2 _ ⟨s2, _⟩
        exact .of (s2 _ _ hD)
      · rintro j v H9 hj ⟨s9, hD9⟩
        obtain ⟨u, hu, ua, rfl, eua⟩ := paired_get hY hj
        wtm_at "lc"
        refine ⟨_, rfl, _, rfl, F, ua, papV P1, u, rfl, rfl, N8.dict.same s9, s9 _ _ eua, ?_⟩
        refine ⟨_, hD9, small11 ?_, Same.lst s9 nD2, ?_⟩
        · rw [List.length_map, List.length_map, List.length_take, List.length_map]; omega
        · rw [upd_same, List.take_add_one, hu, List.map_append, List.map_append]; rfl
      rintro H9 ⟨s9, hD9⟩
      rw [List.take_of_length_le (by rw [List.length_map]; omega)] at hD9
      refine ⟨D2, _, rfl, .of hD9, _, rfl, ?_⟩
      have N9 := N8.later s9
      refine iB (fun y => ?_) (fun y => ?_)
      · have hall : ∀ k ∈ movL ws ps t, flip t k ∈ P1.map (·.1) := fun k hk => by
          have := val_in (all_take.mp y (flip t k) (List.mem_map.mpr ⟨k, hk, rfl⟩))
          rw [papV_keys] at this; exact this
        have hY9 := Tups.same s9 hY
        refine ⟨_, rfl, D, rfl, ⟨_, .of (s9 _ _ hD)⟩, fun D3 nD3 => lc_list (K := K) (a := D) (xs := ys) (fun i H' => Same H9 H' ∧ H' D3 = some (.lst ((((behind ws ps P1 t).take i).map fun (k : Nat) => (k : Int)).map V.int))) ?_ ?_ ?_ ?_⟩
        · exact ⟨Same.new nD3, upd_same⟩
        · rintro i H2 _ ⟨s2, _⟩
          exact .of (s2 _ _ (s9 _ _ hD))
        · rintro j v Ha hj ⟨sa2, hDa⟩
          obtain ⟨u, hu, ua, rfl, eua⟩ := paired_get hY9 hj
          rw [List.getElem?_map] at hu
          obtain ⟨k, hk, rfl⟩ := Option.map_eq_some_iff.mp hu
          obtain ⟨x, hx⟩ := look_some.mp (hall k (List.mem_of_getElem? hk))
          wtm_at "lc"
          refine ⟨_, rfl, _, rfl, F, ua, papV P1, flip t k, vn x, rfl, rfl, N9.dict.same sa2, sa2 _ _ eua, by rw [valV_papV, hx]; rfl, ?_⟩
          have hb : (behind ws ps P1 t)[j]? = some x := by
            unfold behind
            rw [List.getElem?_map, hk, Option.map_some, hx]; rfl
          refine ⟨_, hDa, small11 ?_, Same.lst sa2 nD3, ?_⟩
          · rw [List.length_map, List.length_map, List.length_take]
            unfold behind
            rw [List.length_map]; omega
          · rw [upd_same, List.take_add_one, hb, List.map_append, List.map_append]; rfl
        rintro Ha ⟨sa2, hDa⟩
        have Na := N9.later sa2
        rw [List.take_of_length_le (by rw [← hylen]; unfold behind; rw [List.length_map]; exact Nat.le_refl _)] at hDa
        refine ⟨_, rfl, D3, _, _, rfl, rfl, .of hDa, _, _, rfl, rfl, ?_⟩
        have hP := Na.le S (by omega)
        refine ⟨_, rfl, _, rfl, F, ta, papV P1, t, rfl, rfl, Na.dict, Na.same _ _ eta, small11 (by rw [papV_len]; omega), fun Hb db bb => ?_⟩
        have hval : V.int ((1 : Int) + maxI (-1) ((behind ws ps P1 t).map fun (k : Nat) => (k : Int))) = vn (tops (behind ws ps P1 t)) := congrArg V.int (tops_int _)
        have db2 : DBat Hb F (putK (papV P1) t (vn (tops (behind ws ps P1 t)))) := hval ▸ db
        rw [putK_fresh _ (by rw [papV_keys]; exact hnew), papV_snoc] at db2
        have F1 := Na.falls.snoc hnew hall
        have hkeys : (P1 ++ [(t, tops (behind ws ps P1 t))]).map (·.1) = P1.map (·.1) ++ [t] := by rw [List.map_append]; rfl
        refine ⟨_, true, _, _, _, _, rfl, ⟨Same.but Na.same nF bb, db2, F1, fun u hu => ?_⟩, ?_, fun _ => ?_, fun z => nomatch z⟩
        · rw [hkeys] at hu
          rcases List.mem_append.mp hu with h | h
          · exact Na.sub u h
          · rw [List.mem_singleton.mp h]; exact htm
        · rw [List.length_append]; omega
        · rw [List.length_append, List.length_singleton]; omega
      · have hno : ∃ k ∈ movL ws ps t, flip t k ∉ P1.map (·.1) := by
          obtain ⟨u, hu, hv⟩ := List.all_eq_false.mp y
          obtain ⟨u2, hu2, rfl⟩ := List.mem_map.mp hu
          obtain ⟨k, hk, rfl⟩ := List.mem_map.mp hu2
          have : (valV (papV P1) (flip t k)).isSome = false := Bool.eq_false_iff.mpr hv
          have := val_out this
          rw [papV_keys] at this
          exact ⟨k, hk, this⟩
        refine ⟨P1, more, _, _, _, _, rfl, N9, hle, hmo, fun z u hu => ?_⟩
        rw [htake] at hu
        rcases List.mem_append.mp hu with h | h
        · exact hm z u h
        · rw [List.mem_singleton.mp h]; exact .inr hno
    · have hold : t ∈ P1.map (·.1) := by have := val_in (notF z); rw [papV_keys] at this; exact this
      refine ⟨P1, more, _, _, _, _, rfl, N8, hle, hmo, fun z u hu => ?_⟩
      rw [htake] at hu
      rcases List.mem_append.mp hu with h | h
      · exact hm z u h
      · rw [List.mem_singleton.mp h]; exact .inl hold
  · rintro σ H6 ⟨P1, more, x1, x2, x3, x4, rfl, N, hle, hmo, hm⟩
    have hP := N.le S (by omega)
    have hl := hT.length
    rw [← hl, List.take_length] at hm
    refine ⟨_, ?_, P1, more, _, _, _, _, rfl, N, hm, rfl⟩
    cases more with
    | false => show _ + 0 < _ + 1; omega
    | true => have := hmo rfl; show _ + 1 < _ + 1; omega

/-- what a walk among the unnumbered carries: the stands seen, the moves -/
structure Trail (ws : List W) (ps : List Bool) (sts : List (List Bool)) (P : Pap) (seen : List (List Bool)) (rs : List Nat) (cur : List Bool) : Prop where
  len : seen.length = rs.length + 1
  roads : ∀ (j : Nat) (t : List Bool), seen[j]? = some t → Road ws ps t (rs.drop j) cur
  last : cur ∈ seen
  nodup : seen.Nodup
  sub : ∀ t ∈ seen, t ∈ sts ∧ t ∉ P.map (·.1)
theorem Trail.le {ws : List W} {ps ss : List Bool} {sts seen : List (List Bool)} {P : Pap} {rs : List Nat} {cur : List Bool} (t : Trail ws ps sts P seen rs cur) (S : Stands ws ps ss sts) (h6 : ss.length ≤ 6) : seen.length ≤ 64 :=
  Nat.le_trans (nodup_len t.nodup fun x hx => (t.sub x hx).1) (S.le h6)
theorem Trail.step {ws : List W} {ps : List Bool} {sts seen : List (List Bool)} {P : Pap} {rs : List Nat} {cur : List Bool} {r : Nat} (t : Trail ws ps sts P seen rs cur) (hr : r ∈ movL ws ps cur) :
    ∀ (j : Nat) (u : List Bool), seen[j]? = some u → Road ws ps u ((rs ++ [r]).drop j) (flip cur r) := fun j u hu => by
  have hj := (List.getElem?_eq_some_iff.mp hu).1
  have hl := t.len
  rw [List.drop_append_of_le_length (by omega)]
  exact (t.roads j u hu).snoc hr
theorem Trail.push {ws : List W} {ps : List Bool} {sts seen : List (List Bool)} {P : Pap} {rs : List Nat} {cur : List Bool} {r : Nat} (t : Trail ws ps sts P seen rs cur) (hr : r ∈ movL ws ps cur) (hn : flip cur r ∉ seen) (hs : flip cur r ∈ sts) (hp : flip cur r ∉ P.map (·.1)) :
    Trail ws ps sts P (seen ++ [flip cur r]) (rs ++ [r]) (flip cur r) := by
  refine ⟨?_, fun j u hu => ?_, List.mem_append.mpr (.inr (List.mem_singleton.mpr rfl)), ?_, fun u hu => ?_⟩
  · rw [List.length_append, List.length_append, t.len]; rfl
  · have hl := t.len
    by_cases hj : j < seen.length
    · rw [List.getElem?_append_left hj] at hu
      exact t.step hr j u hu
    · have hj2 := (List.getElem?_eq_some_iff.mp hu).1
      rw [List.length_append, List.length_singleton] at hj2
      have e : j = seen.length := by omega
      subst e
      rw [List.getElem?_append_right (Nat.le_refl _), Nat.sub_self] at hu
      cases hu
      rw [List.drop_eq_nil_of_le (by rw [List.length_append, List.length_singleton]; omega)]
      rfl
  · refine List.nodup_append.mpr ⟨t.nodup, List.nodup_cons.mpr ⟨(fun h => nomatch h), List.nodup_nil⟩, fun a ha b hb e => ?_⟩
    rw [List.mem_singleton.mp hb] at e
    exact hn (e ▸ ha)
  · rcases List.mem_append.mp hu with h | h
    · exact t.sub u h
    · rw [List.mem_singleton.mp h]; exact ⟨hs, hp⟩
theorem first_at {l : List (List Bool)} {x : List Bool} (h : x ∈ l) : ∃ j : Nat, l[j]? = some x ∧ ∀ (m : Nat) (y : List Bool), m < j → l[m]? = some y → y ≠ x := by
  induction l with
  | nil => cases h
  | cons a l ih =>
    by_cases e : a = x
    · exact ⟨0, by rw [e]; rfl, fun m y hm => absurd hm (Nat.not_lt_zero m)⟩
    · obtain ⟨j, hj, k⟩ := ih ((List.mem_cons.mp h).resolve_left fun z => e z.symm)
      refine ⟨j + 1, hj, fun m y hm hy => ?_⟩
      cases m with
      | zero => cases hy; exact e
      | succ m => exact k m y (by omega) hy
theorem dpTsL {K : PySem.W.Frag} {H : Hp} {a : Addr} {bss : List (List Bool)} {us : List V} (h : H a = some (.lst us)) (t : Tups H bss us) : Dp K H (.ref a) (.list (bss.map bd)) := .lst (.of h) (dpTs t)
theorem any_bd (l : List (List Bool)) (x : List Bool) : ((l.map bd).any fun z => PyData.eqv z (bd x)) = true ↔ x ∈ l := by
  rw [List.any_map, List.any_eq_true]
  constructor
  · rintro ⟨y, hy, e⟩
    rw [Function.comp_apply, eqv_bd] at e
    rw [← of_decide_eq_true e]; exact hy
  · intro h
    exact ⟨x, h, by rw [Function.comp_apply, eqv_bd]; exact decide_eq_true rfl⟩
def sp_ring_from : Sp := fun vs H Q _ => ∃ (b pr sa F : Addr) (n m : Nat) (us vs2 : List V) (ws : List W) (ps ss : List Bool) (sts : List (List Bool)) (P : Pap), vs = [.ref b, .ref pr, .ref sa, .ref F] ∧ BoardAt H b us ws n m ∧ H pr = some (.tup (ps.map V.bl)) ∧ H sa = some (.lst vs2) ∧ Tups H sts vs2 ∧ Stands ws ps ss sts ∧ ss.length = n ∧ ps.length = m ∧
  DBat H F (papV P) ∧ (∀ t ∈ sts, Met ws ps P t) ∧ (∃ t ∈ sts, t ∉ P.map (·.1)) ∧
  ∀ (H' : Hp) (p ha ra : Addr) (t : List Bool) (rs : List Nat), Same H H' → H' p = some (.tup [.ref ha, .ref ra]) → H' ha = some (.tup (t.map V.bl)) → H ra = none → H' ra = some (.lst (rs.map vn)) → t ∈ sts → Road ws ps t rs t → rs ≠ [] → rs.length ≤ 1000 → Q (.ref p) H'
theorem ok_ring_from (T : Txt K mg Z) : FnOk P w K mg base CX0 13 Z.aring_from Z.dring_from ["board", "pressed", "stands", "paper"] sp_ring_from := by
  have Gmovable := ok_movable (P := P) (w := w) (base := base) T
  have Gmoved := ok_moved (P := P) (w := w) (base := base) T
  refine T.F_ring_from.ok scring_from (fun vs H Q E h => by obtain ⟨_, _, _, _, _, _, _, _, _, _, _, _, _, rfl, _⟩ := h; rfl) (fun cdv A outer s H vs Q E hr h => ?_)
  obtain ⟨b, pr, sa, F, n, m, us, vs2, ws, ps, ss, sts, P, rfl, B, hp, hsa, hT, S, hsl, hpl, hF, hmet, hout, q⟩ := h
  refine ⟨_, (pss_cons (ps_set (i := 4) scring_from.nd rfl (Or.inr rfl) (pe_ix (r := rIxL K) ix_list (pe_lc (own := [("stand", 8)]) (g := gName 8) rfl scring_from.nd (pi_list (pv 2)) (blkOk_by (own := [("stand", 8)]) (N := ["board", "pressed", "stands", "paper", "here", "seen", "moves", "relay", "stand", "k"]) (sc := defScope sring_from) (by decide +kernel)) (fun _ _ _ _ _ => pg_name (i := 8) scring_from.nd rfl (Or.inl rfl)) (fun _ _ _ _ _ => (pts_one (pt_cmp (pc_bnotin (hu_of hr) (pv 8) (pv 3))))) (fun _ _ _ _ _ => (pv 8))) pe_int (fun _ _ => rfl)))
      (pss_cons (ps_set (i := 5) scring_from.nd rfl (Or.inl rfl) (pe_lst (pa_cons (pv 4) pa_nil)))
      (pss_cons (ps_set (i := 6) scring_from.nd rfl (Or.inl rfl) (pe_lst pa_nil))
      (pss_one (ps_while PassesOwn.never (pt_val pe_bl)
      (pss_cons (ps_set (i := 7) scring_from.nd rfl (Or.inl rfl) (pe_ix (r := rIxL K) ix_list (pe_lc (own := [("k", 9)]) (g := gName 9) rfl scring_from.nd (pi_list (pe_call Gmovable (hr.mono (by omega)) (by rfl) T.m_movable T.F_movable.kp T.b_movable .nil pass0 (pa_cons (pv 0) (pa_cons (pv 1) (pa_cons (pv 4) pa_nil))))) (blkOk_by (own := [("k", 9)]) (N := ["board", "pressed", "stands", "paper", "here", "seen", "moves", "relay", "stand", "k"]) (sc := defScope sring_from) (by decide +kernel)) (fun _ _ _ _ _ => pg_name (i := 9) scring_from.nd rfl (Or.inl rfl)) (fun _ _ _ _ _ => (pts_one (pt_cmp (pc_bnotin (hu_of hr) (pe_call Gmoved (hr.mono (by omega)) (by rfl) T.m_moved T.F_moved.kp T.b_moved .nil pass0 (pa_cons (pv 4) (pa_cons (pv 9) pa_nil))) (pv 3))))) (fun _ _ _ _ _ => (pv 9))) pe_int (fun _ _ => rfl)))
      (pss_cons (ps_expr (pe_bm PySem.F.plainAttrs_list PySem.F.slot_list_append PySem.F.type_list_append mt_append (pv 6) (pa_cons (pv 7) pa_nil)))
      (pss_cons (ps_set (i := 4) scring_from.nd rfl (Or.inr rfl) (pe_call Gmoved (hr.mono (by omega)) (by rfl) T.m_moved T.F_moved.kp T.b_moved .nil pass0 (pa_cons (pv 4) (pa_cons (pv 7) pa_nil))))
      (pss_cons (ps_if (pt_cmpR (r := rInD K) (op_inD (units65 hr)) (pv 4) (pv 5) (by rfl)) (pss_one (ps_ret (pe_tup (pa_cons (pv 4) (pa_cons (pe_slice (r := rSlL K) sl_list (pv 6) (po_some (pe_bm PySem.F.plainAttrs_list PySem.F.slot_list_index PySem.F.type_list_index (r := rIndexD K) (mt_indexD (units65 hr)) (pv 5) (pa_cons (pv 4) pa_nil))) po_none) pa_nil))))) pss_nil)
      (pss_one (ps_expr (pe_bm PySem.F.plainAttrs_list PySem.F.slot_list_append PySem.F.type_list_append mt_append (pv 5) (pa_cons (pv 4) pa_nil))))))))))))), ?_⟩
  have h6 := B.n6
  have hwl := B.len
  have hsts := S.le (by omega)
  have hvl := hT.length
  refine ⟨_, rfl, sa, rfl, ⟨_, .of hsa⟩, fun D nD => lc_list (K := K) (a := sa) (xs := vs2) (fun i H' => Same H H' ∧ ∃ ys, H' D = some (.lst ys) ∧ Tups H' ((sts.take i).filter fun u => !(valV (papV P) u).isSome) ys) ?_ ?_ ?_ ?_⟩
  · exact ⟨Same.new nD, [], upd_same, .nil⟩
  · rintro i H2 _ ⟨s2, _⟩
    exact .of (s2 _ _ hsa)
  · rintro i v H1 hi ⟨s1, ys, hD, hY⟩
    obtain ⟨t, ht, ta, rfl, eta⟩ := paired_get hT hi
    refine ⟨rfl, ?_⟩
    refine ⟨_, rfl, _, rfl, F, ta, papV P, t, rfl, rfl, hF.same s1, s1 _ _ eta, _, rfl, ?_⟩
    have hyl := hY.length
    have hfl := List.length_filter_le (fun u => !(valV (papV P) u).isSome) (sts.take i)
    rw [List.length_take] at hfl
    refine iB (fun z => ?_) (fun z => ?_)
    · have t1 : Tk H1 (upd H1 D (.lst (ys ++ [.ref ta]))) := Tk.lst hD
      refine ⟨_, rfl, ys, hD, small11 (by omega), Same.lst s1 nD, _, upd_same, ?_⟩
      rw [take_filt _ ht, if_pos z]
      exact paired_snoc (Tups.tk t1 hY) ⟨ta, rfl, t1 _ _ (s1 _ _ eta)⟩
    · refine ⟨s1, ys, hD, ?_⟩
      rw [take_filt _ ht, if_neg (by rw [z]; decide)]
      exact hY
  rintro H1 ⟨s1, ys, hD, hY⟩
  rw [← hvl, List.take_length] at hY
  obtain ⟨t0, ht0, hn0⟩ := hout
  have hmem0 : t0 ∈ sts.filter fun u => !(valV (papV P) u).isSome := List.mem_filter.mpr ⟨ht0, by rw [out_val (by rw [papV_keys]; exact hn0)]; rfl⟩
  generalize hfil : (sts.filter fun u => !(valV (papV P) u).isSome) = fil at hY hmem0
  cases fil with
  | nil => cases hmem0
  | cons c0 frest =>
  cases hY with
  | @cons _ v0 _ yrest r0 rt =>
  obtain ⟨ca, rfl, eca⟩ := r0
  have hc0 : c0 ∈ sts ∧ c0 ∉ P.map (·.1) := by
    have : c0 ∈ sts.filter fun u => !(valV (papV P) u).isSome := by rw [hfil]; exact List.mem_cons_self
    obtain ⟨a1, a2⟩ := List.mem_filter.mp this
    have := val_out (notT a2)
    rw [papV_keys] at this
    exact ⟨a1, this⟩
  refine ⟨D, _, 0, _, rfl, rfl, .of hD, atI_nat (j := 0) rfl, ?_⟩
  refine ⟨_, rfl, Nat.le_of_ble_eq_true (n := 1) rfl, ?_⟩
  wtm_at "new G H2 s2 e2"
  refine ⟨Nat.zero_le _, ?_⟩
  wtm_at "new M H3 s3 e3"
  have nG0 : H G = none := s1.free nG
  have nM0 : H M = none := (s1.trans s2).free nM
  have GM : G ≠ M := fun e => by subst e; rw [e2] at nM; cases nM
  have T0 : Trail ws ps sts P [c0] [] c0 := ⟨rfl, (fun j t hj => by
    cases j with
    | zero => cases hj; rfl
    | succ j => cases hj), List.mem_singleton.mpr rfl, List.nodup_cons.mpr ⟨(fun h => nomatch h), List.nodup_nil⟩, fun t ht => by rw [List.mem_singleton.mp ht]; exact hc0⟩
  refine ⟨fun m σ H' => ∃ seen rs cur ca us2 x1 x2 x3, σ = [some (.ref b), some (.ref pr), some (.ref sa), some (.ref F), some (.ref ca), some (.ref G), some (.ref M), x1, x2, x3] ∧ Same H H' ∧ Trail ws ps sts P seen rs cur ∧ H' ca = some (.tup (cur.map V.bl)) ∧ H' G = some (.lst us2) ∧ Tups H' seen us2 ∧ H' M = some (.lst (rs.map vn)) ∧ m = 64 - seen.length, ⟨_, [c0], [], c0, ca, [.ref ca], none, none, none, rfl, s1.trans (s2.trans s3), T0, (s2.trans s3) _ _ eca, s3 _ _ e2, .cons ⟨ca, rfl, (s2.trans s3) _ _ eca⟩ .nil, e3, rfl⟩, ?_⟩
  rintro m0 σ H4 ⟨seen, rs, cur, ca, us2, x1, x2, x3, rfl, s4, t4, eca4, eG4, T4, eM4, rfl⟩
  refine ⟨_, rfl, ?_⟩
  refine iteT ⟨fun σ' H' => ∃ m', m' < 64 - seen.length ∧ ∃ seen rs cur ca us2 x1 x2 x3, σ' = [some (.ref b), some (.ref pr), some (.ref sa), some (.ref F), some (.ref ca), some (.ref G), some (.ref M), x1, x2, x3] ∧ Same H H' ∧ Trail ws ps sts P seen rs cur ∧ H' ca = some (.tup (cur.map V.bl)) ∧ H' G = some (.lst us2) ∧ Tups H' seen us2 ∧ H' M = some (.lst (rs.map vn)) ∧ m' = 64 - seen.length, fun _ _ h => h, ?_⟩
  have hcur := t4.sub cur t4.last
  have hcl : cur.length = n := by rw [((S.mem cur).mp hcur.1).len, hsl]
  have hs64 := t4.le S (by omega)
  have htl := t4.len
  refine ⟨_, rfl, _, rfl, _, rfl, b, pr, ca, n, m, us, ws, ps, cur, rfl, B.same s4, s4 _ _ hp, eca4, hcl, hpl, fun H5 N s5 nN e5 => ?_⟩
  have hF4 := hF.same s4
  refine ⟨N, rfl, ⟨_, .of e5⟩, fun D2 nD2 => lc_list (K := K) (a := N) (xs := (movL ws ps cur).map vn) (fun i H' => Same H5 H' ∧ H' D2 = some (.lst ((((movL ws ps cur).take i).filter fun k => !(valV (papV P) (flip cur k)).isSome).map vn))) ?_ ?_ ?_ ?_⟩
  · exact ⟨Same.new nD2, upd_same⟩
  · rintro i H2 _ ⟨s2, _⟩
    exact .of (s2 _ _ e5)
  · rintro i v H6 hi ⟨s6, hD6⟩
    obtain ⟨k, hk, rfl⟩ : ∃ k, (movL ws ps cur)[i]? = some k ∧ v = vn k := by
      rw [List.getElem?_map] at hi
      obtain ⟨k, hk, e⟩ := Option.map_eq_some_iff.mp hi
      exact ⟨k, hk, e.symm⟩
    have hkm := List.mem_of_getElem? hk
    have hkn : k < cur.length := by rw [hcl, ← hwl]; exact (mem_movL.mp hkm).1
    refine ⟨rfl, ?_⟩
    refine ⟨_, rfl, _, rfl, ca, k, cur, rfl, (s5.trans s6) _ _ eca4, hkn, by omega, fun H7 p7 s7 e7 => ?_⟩
    refine ⟨_, rfl, F, p7, papV P, flip cur k, rfl, rfl, hF4.same (s5.trans (s6.trans s7)), e7, _, rfl, ?_⟩
    have hfl := List.length_filter_le (fun k => !(valV (papV P) (flip cur k)).isSome) ((movL ws ps cur).take i)
    rw [List.length_take] at hfl
    have hml := movL_le ws ps cur
    refine iB (fun z => ?_) (fun z => ?_)
    · refine ⟨_, rfl, _, s7 _ _ hD6, small11 (by rw [List.length_map]; omega), Same.lst (s6.trans s7) nD2, ?_⟩
      rw [upd_same, take_filt _ hk, if_pos z, List.map_append]; rfl
    · refine ⟨s6.trans s7, ?_⟩
      rw [take_filt _ hk, if_neg (by rw [z]; decide)]
      exact s7 _ _ hD6
  rintro H6 ⟨s6, hD6⟩
  rw [List.length_map, List.take_length] at hD6
  have hex : ∃ k ∈ movL ws ps cur, flip cur k ∉ P.map (·.1) := (hmet cur hcur.1).resolve_left hcur.2
  obtain ⟨k0, hk0, hk0n⟩ := hex
  have hkm0 : k0 ∈ (movL ws ps cur).filter fun k => !(valV (papV P) (flip cur k)).isSome := List.mem_filter.mpr ⟨hk0, by rw [out_val (by rw [papV_keys]; exact hk0n)]; rfl⟩
  generalize hfil2 : ((movL ws ps cur).filter fun k => !(valV (papV P) (flip cur k)).isSome) = fil2 at hD6 hkm0
  cases fil2 with
  | nil => cases hkm0
  | cons r frest2 =>
  have hr : r ∈ movL ws ps cur ∧ flip cur r ∉ P.map (·.1) := by
    have : r ∈ (movL ws ps cur).filter fun k => !(valV (papV P) (flip cur k)).isSome := by rw [hfil2]; exact List.mem_cons_self
    obtain ⟨a1, a2⟩ := List.mem_filter.mp this
    have := val_out (notT a2)
    rw [papV_keys] at this
    exact ⟨a1, this⟩
  refine ⟨D2, _, 0, _, rfl, rfl, .of hD6, atI_nat (j := 0) rfl, ?_⟩
  have s56 := s5.trans s6
  have eM6 := s56 _ _ eM4
  refine ⟨_, rfl, .inl ⟨rfl, _, .of eM6⟩, _, rfl, M, _, _, rfl, rfl, eM6, small11 (by rw [List.length_map]; omega), ?_⟩
  have k7 : ∀ c, c ≠ M → (upd H6 M (.lst (rs.map vn ++ [vn r]))) c = H6 c := fun c hc => upd_ne hc
  have t7 : Tk H6 (upd H6 M (.lst (rs.map vn ++ [vn r]))) := Tk.lst eM6
  have e7 : (upd H6 M (.lst (rs.map vn ++ [vn r]))) M = some (.lst ((rs ++ [r]).map vn)) := by rw [upd_same, List.map_append]; rfl
  have s7 : Same H (upd H6 M (.lst (rs.map vn ++ [vn r]))) := Same.lst (s4.trans s56) nM0
  show tSeq _ _ _ _ (upd H6 M (.lst (rs.map vn ++ [vn r])))
  generalize upd H6 M (.lst (rs.map vn ++ [vn r])) = H7 at *
  have eca7 := t7 _ _ (s56 _ _ eca4)
  have hrn : r < cur.length := by rw [hcl, ← hwl]; exact (mem_movL.mp hr.1).1
  refine ⟨_, rfl, _, rfl, ca, r, cur, rfl, eca7, hrn, by omega, fun H8 p8 s8 e8 => ?_⟩
  have eG8 : H8 G = some (.lst us2) := s8 _ _ ((k7 G GM).trans (s56 _ _ eG4))
  have T8 : Tups H8 seen us2 := Tups.same s8 (Tups.tk t7 (Tups.same s56 T4))
  have shS : Sh (.list (seen.map bd)) 2 := shTs seen
  refine ⟨_, rfl, _, rfl, _, _, dpB e8, dpTsL eG8 T8, (shB _).shaped (by decide), shS.shaped (by decide), _, rfl, ?_⟩
  have hcs : flip cur r ∈ sts := S.closed cur hcur.1 r hr.1
  refine iB (fun z => ?_) (fun z => ?_)
  · have hin := (any_bd _ _).mp z
    obtain ⟨j, hj, hfirst⟩ := first_at hin
    have hjl := (List.getElem?_eq_some_iff.mp hj).1
    have eM8 := s8 _ _ e7
    refine ⟨_, rfl, _, rfl, _, rfl, .inl ⟨rfl, _, .of eG8⟩, _, rfl, G, .ref p8, bd (flip cur r), seen.map bd, j, bd (flip cur r), rfl, rfl, dpTsL eG8 T8, dpB e8, shS.shaped (by decide), (shB _).shaped (by decide), by rw [List.getElem?_map, hj]; rfl, by rw [eqv_bd]; exact decide_eq_true rfl, fun m z' hm hz => ?_, ?_⟩
    · rw [List.getElem?_map] at hz
      obtain ⟨y, hy, rfl⟩ := Option.map_eq_some_iff.mp hz
      rw [eqv_bd]; exact decide_eq_false (hfirst m y hm hy)
    · refine ⟨_, rfl, M, _, rfl, .of eM8, ?_⟩
      wtm_at "new E H9 s9 e9"
      rw [cut_hi, ← List.map_drop] at e9
      refine ⟨Nat.le_of_ble_eq_true (n := 2) rfl, ?_⟩
      wtm_at "new O Ha sa' ea"
      have hd : ((rs ++ [r]).drop j).length = rs.length + 1 - j := by rw [List.length_drop, List.length_append, List.length_singleton]
      refine q Ha O p8 E (flip cur r) ((rs ++ [r]).drop j) (s7.trans (s8.trans (s9.trans sa'))) ea ((s9.trans sa') _ _ e8) (s7.free (s8.free nE)) (sa' _ _ e9) hcs (t4.step hr.1 j _ hj) (fun e => ?_) (by omega)
      rw [e] at hd
      have : 0 = rs.length + 1 - j := hd
      omega
  · have hnot : flip cur r ∉ seen := fun h => by rw [(any_bd _ _).mpr h] at z; cases z
    have hul := T8.length
    refine ⟨_, rfl, .inl ⟨rfl, _, .of eG8⟩, _, rfl, G, us2, .ref p8, rfl, rfl, eG8, small11 (by omega), ?_⟩
    have t9 : Tk H8 (upd H8 G (.lst (us2 ++ [.ref p8]))) := Tk.lst eG8
    have t5 := t4.push hr.1 hnot hcs hr.2
    have h5 := t5.le S (by omega)
    rw [List.length_append, List.length_singleton] at h5
    refine ⟨64 - (seen ++ [flip cur r]).length, by rw [List.length_append, List.length_singleton]; omega, _, _, _, p8, _, _, _, _, rfl, Same.lst (s7.trans s8) nG0, t5, t9 _ _ e8, upd_same, paired_snoc (Tups.tk t9 T8) ⟨p8, rfl, t9 _ _ e8⟩, ?_, rfl⟩
    rw [upd_ne (Ne.symm GM)]
    exact s8 _ _ e7

def JudgedAt (ws : List W) (ps ss : List Bool) (H H' : Hp) (p : Addr) : Prop :=
  (∃ (e d : Addr) (rest : List Bool) (P : Pap), H' p = some (.tup [.str "settles", .ref e, .ref d]) ∧ H' e = some (.tup (rest.map V.bl)) ∧ H d = none ∧ DBat H' d (papV P) ∧ Settles ws ps ss rest P) ∨
  (∃ (a1 a2 : Addr) (r1 r2 : List Nat) (t1 t2 : List Bool), H' p = some (.tup [.str "parts", .ref a1, .ref a2]) ∧ H a1 = none ∧ H a2 = none ∧ H' a1 = some (.lst (r1.map vn)) ∧ H' a2 = some (.lst (r2.map vn)) ∧ r1.length ≤ 1000 ∧ r2.length ≤ 1000 ∧ Parts ws ps ss r1 r2 t1 t2) ∨
  (∃ (a1 a2 : Addr) (r1 r2 : List Nat) (t : List Bool), H' p = some (.tup [.str "rounds", .ref a1, .ref a2]) ∧ H a1 = none ∧ H a2 = none ∧ H' a1 = some (.lst (r1.map vn)) ∧ H' a2 = some (.lst (r2.map vn)) ∧ r1.length ≤ 1000 ∧ r2.length ≤ 1000 ∧ Rounds ws ps ss r1 r2 t)
def sp_judged : Sp := fun vs H Q _ => ∃ (b pr st : Addr) (n m : Nat) (us : List V) (ws : List W) (ps ss : List Bool), vs = [.ref b, .ref pr, .ref st] ∧ BoardAt H b us ws n m ∧ H pr = some (.tup (ps.map V.bl)) ∧ H st = some (.tup (ss.map V.bl)) ∧ ss.length = n ∧ ps.length = m ∧
  ∀ (H' : Hp) (p : Addr), Same H H' → JudgedAt ws ps ss H H' p → Q (.ref p) H'
theorem ok_judged (T : Txt K mg Z) : FnOk P w K mg base CX0 14 Z.ajudged Z.djudged ["board", "pressed", "stand"] sp_judged := by
  have Gcome_to := ok_come_to (P := P) (w := w) (base := base) T
  have Gnumbered := ok_numbered (P := P) (w := w) (base := base) T
  have Gring_from := ok_ring_from (P := P) (w := w) (base := base) T
  refine T.F_judged.ok scjudged (fun vs H Q E h => by obtain ⟨_, _, _, _, _, _, _, _, _, rfl, _⟩ := h; rfl) (fun cdv A outer s H vs Q E hr h => ?_)
  obtain ⟨b, pr, st, n, m, us, ws, ps, ss, rfl, B, hp, hs, hsl, hpl, q⟩ := h
  refine ⟨_, (pss_cons (ps_set (i := 3) scjudged.nd rfl (Or.inl rfl) (pe_call Gcome_to (hr.mono (by omega)) (by rfl) T.m_come_to T.F_come_to.kp T.b_come_to .nil pass0 (pa_cons (pv 0) (pa_cons (pv 1) (pa_cons (pv 2) pa_nil)))))
      (pss_cons (ps_set (i := 4) scjudged.nd rfl (Or.inr rfl) (pe_call Gnumbered (hr.mono (by omega)) (by rfl) T.m_numbered T.F_numbered.kp T.b_numbered .nil pass0 (pa_cons (pv 0) (pa_cons (pv 1) (pa_cons (pe_callTy (r := rBList) (call_blist rfl) (by rfl) T.n_list (by decide +kernel) (pa_cons (pv 3) pa_nil)) pa_nil)))))
      (pss_cons (ps_if (pt_cmpR op_lt (pe_callB (r := rBLen) call_blen (by rfl) T.n_len PySem.boot_len (pa_cons (pv 4) pa_nil)) (pe_callB (r := rBLen) call_blen (by rfl) T.n_len PySem.boot_len (pa_cons (pv 3) pa_nil)) (nomark _)) (pss_cons (ps_set (i := 5) scjudged.nd rfl (Or.inl rfl) (pe_call Gring_from (hr.mono (by omega)) (by rfl) T.m_ring_from T.F_ring_from.kp T.b_ring_from .nil pass0 (pa_cons (pv 0) (pa_cons (pv 1) (pa_cons (pe_callTy (r := rBList) (call_blist rfl) (by rfl) T.n_list (by decide +kernel) (pa_cons (pv 3) pa_nil)) (pa_cons (pv 4) pa_nil))))))
      (pss_one (ps_ret (pe_tup (pa_cons pe_str (pa_cons (pe_bget (hu_of hr) (pv 3) (pe_ix (r := rIxT K) ix_tup (pv 5) pe_int (fun _ _ => rfl)) (fun _ _ => rfl)) (pa_cons (pe_ix (r := rIxT K) ix_tup (pv 5) pe_int (fun _ _ => rfl)) pa_nil))))))) pss_nil)
      (pss_cons (ps_lock (ps_setLc (i := 6) (own := [("one", 7)]) (g := gName 7) rfl scjudged.nd rfl rfl (sw_true rfl rfl rfl (by decide +kernel)) (pi_bkeys (pv 3)) (blkOk_by (own := [("one", 7)]) (N := ["board", "pressed", "stand", "roads", "paper", "ring", "ends", "one"]) (sc := defScope sjudged) (by decide +kernel)) (fun _ _ _ _ _ => pg_name (i := 7) scjudged.nd rfl (Or.inl rfl)) (fun _ _ _ _ _ => (pts_one (pt_cmpR op_eq (pe_bget (hu_of hr) (pv 4) (pv 7) (fun _ _ => rfl)) pe_int (nomark _)))) (fun _ _ _ _ _ => (pv 7))))
      (pss_cons (ps_if (pt_cmpR op_gt (pe_callB (r := rLenSeq K) call_len_seq (by rfl) T.n_len PySem.boot_len (pa_cons (pv 6) pa_nil)) pe_int (nomark _)) (pss_one (ps_ret (pe_tup (pa_cons pe_str (pa_cons (pe_bget (hu_of hr) (pv 3) (pe_ix (r := rIxL K) ix_list (pv 6) pe_int (fun _ _ => rfl)) (fun _ _ => rfl)) (pa_cons (pe_bget (hu_of hr) (pv 3) (pe_ix (r := rIxL K) ix_list (pv 6) pe_int (fun _ _ => rfl)) (fun _ _ => rfl)) pa_nil)))))) pss_nil)
      (pss_one (ps_ret (pe_tup (pa_cons pe_str (pa_cons (pe_ix (r := rIxL K) ix_list (pv 6) pe_int (fun _ _ => rfl)) (pa_cons (pv 4) pa_nil))))))))))), ?_⟩
  have h6 := B.n6
  refine ⟨_, rfl, _, rfl, _, rfl, b, pr, st, n, m, us, ws, ps, ss, rfl, B, hp, hs, hsl, hpl, fun H1 F L kvs s1 nF d1 R1 S => ?_⟩
  have hk64 := S.le (by omega)
  rw [List.length_map] at hk64
  refine ⟨_, rfl, _, rfl, _, rfl, F, kvs, rfl, d1, fun sa H2 vs2 n2 s2 e2 T2 => ?_⟩
  have s12 := s1.trans s2
  refine ⟨b, pr, sa, n, m, us, vs2, ws, ps, ss, kvs.map (·.1), rfl, B.same s12, s12 _ _ hp, e2, T2, S, hsl, hpl, fun H3 G P s3 nG d3 F3 sub3 met3 => ?_⟩
  have s13 := s12.trans s3
  have d13 := d1.same (s2.trans s3)
  have R3 : RoadsAt ws ps ss H L H3 kvs := R1.at fun a xs _ e => (s2.trans s3) _ _ e
  have nG0 : H G = none := s12.free nG
  refine ⟨_, rfl, G, papV P, rfl, d3, _, rfl, F, kvs, rfl, d13, _, _, rfl, rfl, _, rfl, ?_⟩
  rw [papV_len]
  refine iB (fun c => ?_) (fun c => ?_)
  · have c := of_decide_eq_true c
    have hout : ∃ t ∈ kvs.map (·.1), t ∉ P.map (·.1) := by
      refine Classical.byContradiction fun hno => ?_
      have := nodup_len S.nodup (m := P.map (·.1)) fun t ht => Classical.byContradiction fun hn => hno ⟨t, ht, hn⟩
      rw [List.length_map, List.length_map] at this
      omega
    refine ⟨_, rfl, _, rfl, _, rfl, F, kvs, rfl, d13, fun sb H4 vs4 n4 s4 e4 T4 => ?_⟩
    have s14 := s13.trans s4
    refine ⟨_, rfl, b, pr, sb, G, n, m, us, vs4, ws, ps, ss, kvs.map (·.1), P, rfl, B.same s14, s14 _ _ hp, e4, T4, S, hsl, hpl, d3.same s4, met3, hout, fun H5 p5 ha ra t rs s5 e5 eha nra era ht hroad hne hrl => ?_⟩
    have s15 := s14.trans s5
    obtain ⟨a1, r1, hmem, na1, _, ea1, hl1, hroad1⟩ := roads_mem R3 ht
    have d5 := d13.same (s4.trans s5)
    refine ⟨_, rfl, _, rfl, p5, _, 0, _, rfl, rfl, .of e5, atI_nat (j := 0) rfl, F, ha, kvs, t, .ref a1, rfl, rfl, d5, eha, valV_of d5.nodup hmem, ?_⟩
    refine ⟨_, rfl, p5, _, 1, _, rfl, rfl, .of e5, atI_nat (j := 1) rfl, Nat.le_of_ble_eq_true (n := 3) rfl, ?_⟩
    wtm_at "new p6 H6 s6 e6"
    exact q H6 p6 (s15.trans s6) (.inr (.inr ⟨a1, ra, r1, rs, t, e6, na1, s14.free nra, s6 _ _ ((s4.trans s5) _ _ ea1), s6 _ _ era, by omega, hrl, ⟨hroad1, hroad, hne⟩⟩))
  · have c := of_decide_eq_false c
    have hall : ∀ t ∈ kvs.map (·.1), t ∈ P.map (·.1) := fun t ht => Classical.byContradiction fun hn => by
      have := nodup_len (l := t :: P.map (·.1)) (m := kvs.map (·.1)) (List.nodup_cons.mpr ⟨hn, F3.nodup⟩) fun x hx => by
        rcases List.mem_cons.mp hx with rfl | hx
        · exact ht
        · exact sub3 x hx
      rw [List.length_cons, List.length_map, List.length_map] at this
      omega
    obtain ⟨bs, eF, ka, nd⟩ := id d13
    refine ⟨F, _, eF, True.intro, fun od => ?_⟩
    have tL : Tk H3 (upd H3 F (.frz od (bD F bs kvs))) := fun c xs e => by rw [upd_ne (ne_of e eF (by intro z; cases z))]; exact e
    have eL : (upd H3 F (.frz od (bD F bs kvs))) F = some (.frz od (bD F bs kvs)) := upd_same
    have oL : ∀ c, c ≠ F → (upd H3 F (.frz od (bD F bs kvs))) c = H3 c := fun c hc => upd_ne hc
    have GF : G ≠ F := by
      intro e; subst e
      obtain ⟨b2, eb2, _⟩ := d1
      rw [s2 _ _ eb2] at nG; cases nG
    show tLc _ _ _ _ _ _ (upd H3 F (.frz od (bD F bs kvs))) _
    generalize upd H3 F (.frz od (bD F bs kvs)) = HL at *
    have dL : DBat HL G (papV P) := d3.at (oL G GF) tL
    have hbl : bs.length = kvs.length := by have := Paired.length ka; rw [List.length_map] at this; exact this
    refine ⟨_, rfl, F, od, bs, kvs, rfl, eL, fun D nD => lc_it walk_B (fun i H' => Same HL H' ∧ ∃ ys, H' D = some (.lst ys) ∧ Tups H' (((kvs.map (·.1)).take i).filter fun t => decide (look P t = some 0)) ys) ?_ ?_ ?_ ?_⟩
    · exact ⟨Same.new nD, [], upd_same, .nil⟩
    · rintro i H' _ ⟨s', _⟩
      exact s' _ _ eL
    · rintro i v H4 H5 hi ⟨s4, ys, hD, hY⟩ ⟨rfl, hv⟩
      rw [List.getElem?_map] at hv
      obtain ⟨ta, hta, rfl⟩ := Option.map_eq_some_iff.mp hv
      obtain ⟨t, ht, eta⟩ := paired_getl ka hta
      have eta4 := s4 _ _ (tL _ _ eta)
      obtain ⟨x, hx⟩ := look_some.mp (hall t (List.mem_of_getElem? ht))
      have hyl := hY.length
      have hfl := List.length_filter_le (fun t => decide (look P t = some 0)) ((kvs.map (·.1)).take i)
      rw [List.length_take, List.length_map] at hfl
      refine ⟨rfl, ?_⟩
      refine ⟨_, rfl, _, rfl, G, ta, papV P, t, vn x, rfl, rfl, dL.same s4, eta4, by rw [valV_papV, hx]; rfl, rfl, _, rfl, ?_⟩
      have ex : decide (vn x = V.int 0) = decide (look P t = some 0) := by
        rw [hx]
        exact decide_eq_decide.mpr ⟨fun e => by have := V.int.inj e; congr 1; omega, fun e => by cases e; rfl⟩
      rw [ex]
      refine iB (fun z => ?_) (fun z => ?_)
      · have t5 : Tk H5 (upd H5 D (.lst (ys ++ [.ref ta]))) := Tk.lst hD
        refine ⟨_, rfl, ys, hD, small11 (by omega), Same.lst s4 nD, _, upd_same, ?_⟩
        rw [take_filt _ ht, if_pos z]
        exact paired_snoc (Tups.tk t5 hY) ⟨ta, rfl, t5 _ _ eta4⟩
      · refine ⟨s4, ys, hD, ?_⟩
        rw [take_filt _ ht, if_neg (by rw [z]; decide)]
        exact hY
    rintro H4 ⟨s4, ys, hD, hY⟩
    rw [hbl, List.take_of_length_le (by rw [List.length_map]; exact Nat.le_refl _)] at hY
    refine ⟨s4 _ _ eL, ?_⟩
    have s34 : Same H3 (upd H4 F (bD F bs kvs)) := fun c o e => by
      by_cases hc : c = F
      · subst hc
        rw [eF] at e; cases e
        exact upd_same
      · rw [upd_ne hc]
        exact s4 _ _ ((oL c hc).trans e)
    have DF : D ≠ F := fun e => by rw [e, eL] at nD; cases nD
    have hD5 : (upd H4 F (bD F bs kvs)) D = some (.lst ys) := by rw [upd_ne DF]; exact hD
    have tU : Tk H4 (upd H4 F (bD F bs kvs)) := fun c xs e => by
      have : c ≠ F := fun z => by rw [z, s4 _ _ eL] at e; cases e
      rw [upd_ne this]; exact e
    have hY5 := Tups.tk tU hY
    generalize upd H4 F (bD F bs kvs) = H5 at *
    have s15 := s13.trans s34
    have d5 := d13.same s34
    have d5P := d3.same s34
    have hyl := hY5.length
    have memE : ∀ t, t ∈ (kvs.map (·.1)).filter (fun t => decide (look P t = some 0)) ↔ t ∈ kvs.map (·.1) ∧ movL ws ps t = [] := fun t => by
      rw [List.mem_filter]
      constructor
      · rintro ⟨a1, a2⟩
        exact ⟨a1, ((F3.zero t).mp (of_decide_eq_true a2)).2⟩
      · rintro ⟨a1, a2⟩
        exact ⟨a1, decide_eq_true ((F3.zero t).mpr ⟨hall t a1, a2⟩)⟩
    have ndE : ((kvs.map (·.1)).filter (fun t => decide (look P t = some 0))).Nodup := S.nodup.filter _
    generalize hE : (kvs.map (·.1)).filter (fun t => decide (look P t = some 0)) = E at hY5 memE ndE hyl
    have hE0 : E ≠ [] := by
      obtain ⟨v, hv⟩ := look_some.mp (hall ss S.self)
      obtain ⟨u, hu, hm⟩ := F3.ends v ss hv
      intro e
      have := (memE u).mpr ⟨sub3 u hu, hm⟩
      rw [e] at this; cases this
    refine ⟨_, rfl, D, ys, rfl, .inl (.of hD5), _, _, rfl, rfl, _, rfl, ?_⟩
    refine iB (fun c2 => ?_) (fun c2 => ?_)
    · have c2 := of_decide_eq_true c2
      cases E with
      | nil => exact absurd rfl hE0
      | cons e0 E =>
      cases E with
      | nil => rw [← hyl] at c2; exact absurd (show (1 : Int) < 1 from c2) (by decide)
      | cons e1 E =>
      cases hY5 with
      | @cons _ v0 _ yr r0 hY6 =>
      cases hY6 with
      | @cons _ v1 _ yr2 r1 _ =>
      obtain ⟨p0, rfl, ep0⟩ := r0
      obtain ⟨p1, rfl, ep1⟩ := r1
      have m0 := (memE e0).mp List.mem_cons_self
      have m1 := (memE e1).mp (List.mem_cons_of_mem _ List.mem_cons_self)
      have ne : e0 ≠ e1 := fun e => (List.nodup_cons.mp ndE).1 (e ▸ List.mem_cons_self)
      obtain ⟨a0, rs0, hmem0, na0, _, ea0, hl0, hroad0⟩ := roads_mem R3 m0.1
      obtain ⟨a1, rs1, hmem1, na1, _, ea1, hl1, hroad1⟩ := roads_mem R3 m1.1
      refine ⟨_, rfl, _, rfl, D, _, 0, _, rfl, rfl, .of hD5, atI_nat (j := 0) rfl, F, p0, kvs, e0, .ref a0, rfl, rfl, d5, ep0, valV_of d5.nodup hmem0, ?_⟩
      refine ⟨_, rfl, _, rfl, D, _, 1, _, rfl, rfl, .of hD5, atI_nat (j := 1) rfl, F, p1, kvs, e1, .ref a1, rfl, rfl, d5, ep1, valV_of d5.nodup hmem1, Nat.le_of_ble_eq_true (n := 3) rfl, ?_⟩
      wtm_at "new p6 H6 s6 e6"
      exact q H6 p6 (s15.trans s6) (.inr (.inl ⟨a0, a1, rs0, rs1, e0, e1, e6, na0, na1, s6 _ _ (s34 _ _ ea0), s6 _ _ (s34 _ _ ea1), by omega, by omega, ⟨hroad0, hroad1, m0.2, m1.2, ne⟩⟩))
    · have c2 := of_decide_eq_false c2
      cases E with
      | nil => exact absurd rfl hE0
      | cons e0 E =>
      cases E with
      | cons e1 E => rw [← hyl] at c2; exact absurd (show (1 : Int) < ((E.length + 1 + 1 : Nat) : Int) by omega) c2
      | nil =>
      cases hY5 with
      | @cons _ v0 _ yr r0 hY6 =>
      obtain ⟨p0, rfl, ep0⟩ := r0
      have m0 := (memE e0).mp List.mem_cons_self
      refine ⟨_, rfl, D, _, 0, _, rfl, rfl, .of hD5, atI_nat (j := 0) rfl, _, rfl, Nat.le_of_ble_eq_true (n := 3) rfl, ?_⟩
      wtm_at "new p6 H6 s6 e6"
      refine q H6 p6 (s15.trans s6) (.inl ⟨p0, G, e0, P, e6, s6 _ _ ep0, nG0, d5P.same s6, ⟨⟨F3.nodup, fun t => ⟨fun h => (S.mem t).mp (sub3 t h), fun h => hall t ((S.mem t).mpr h)⟩⟩, F3, hall e0 m0.1, fun t ht => ⟨fun h => List.mem_singleton.mp ((memE t).mpr ⟨sub3 t ht, h⟩), fun h => h ▸ m0.2⟩⟩⟩)

theorem paired_last {α β : Type} {F : α → β → Prop} : ∀ {l : List α} {r : List β}, Paired F l r → l ≠ [] → ∃ l' a r' b, l = l' ++ [a] ∧ r = r' ++ [b] ∧ Paired F l' r' ∧ F a b
  | _, _, .nil, h => absurd rfl h
  | _, _, .cons (a := a) (b := b) h .nil, _ => ⟨[], a, [], b, rfl, rfl, .nil, h⟩
  | _, _, .cons (a := a) (b := b) h (.cons h2 t), _ => by
    obtain ⟨l', x, r', y, e1, e2, p, q⟩ := paired_last (.cons h2 t) (fun z => nomatch z)
    exact ⟨a :: l', x, b :: r', y, by rw [e1]; rfl, by rw [e2]; rfl, .cons h p, q⟩
theorem eqv_nil (ds : List PyData) : PyData.eqv (.list ds) (.list []) = decide (ds = []) := by
  cases ds with
  | nil => simp [PyData.eqv, PyData.eqvAll]
  | cons d ds => simp [PyData.eqv, PyData.eqvAll]
structure ReachAt (ws : List W) (ps ss : List Bool) (H0 : Hp) (F L : Addr) (hh : Option (List Bool)) (H : Hp) (kvs : List (List Bool × V)) (lefts : List (List Bool)) (us : List V) : Prop where
  same : Same H0 H
  dict : DBat H F kvs
  reach : ∀ t ∈ kvs.map (·.1), Reach ws ps ss t
  left : H L = some (.lst us)
  tups : Tups H lefts us
  sub : ∀ t ∈ lefts, t ∈ kvs.map (·.1)
  self : ss ∈ kvs.map (·.1)
  done : ∀ t ∈ kvs.map (·.1), t ∈ lefts ∨ hh = some t ∨ ∀ k ∈ movL ws ps t, flip t k ∈ kvs.map (·.1)
theorem ReachAt.later {ws : List W} {ps ss : List Bool} {H0 H H2 : Hp} {F L : Addr} {hh : Option (List Bool)} {kvs : List (List Bool × V)} {lefts : List (List Bool)} {us : List V} (C : ReachAt ws ps ss H0 F L hh H kvs lefts us) (s : Same H H2) : ReachAt ws ps ss H0 F L hh H2 kvs lefts us :=
  ⟨C.same.trans s, C.dict.same s, C.reach, s _ _ C.left, Tups.same s C.tups, C.sub, C.self, C.done⟩
def sp_law_reach : Sp := fun vs H Q _ => ∃ (b pr st : Addr) (n m : Nat) (us : List V) (ws : List W) (ps ss : List Bool), vs = [.ref b, .ref pr, .ref st] ∧ BoardAt H b us ws n m ∧ H pr = some (.tup (ps.map V.bl)) ∧ H st = some (.tup (ss.map V.bl)) ∧ ss.length = n ∧ ps.length = m ∧
  ∀ (H' : Hp) (p : Addr) (vs2 : List V) (sts : List (List Bool)), Same H H' → H p = none → H' p = some (.lst vs2) → Tups H' sts vs2 → Stands ws ps ss sts → Q (.ref p) H'
theorem ok_law_reach (T : Txt K mg Z) : FnOk P w K mg base CX0 12 Z.a_law_reach Z.d_law_reach ["board", "pressed", "stand"] sp_law_reach := by
  have G_law_movable := ok_law_movable (P := P) (w := w) (base := base) T
  have G_law_moved := ok_law_moved (P := P) (w := w) (base := base) T
  refine T.F__law_reach.ok sc_law_reach (fun vs H Q E h => by obtain ⟨_, _, _, _, _, _, _, _, _, rfl, _⟩ := h; rfl) (fun cdv A outer s H vs Q E hr h => ?_)
  obtain ⟨b, pr, st, n, m, us, ws, ps, ss, rfl, B, hp, hs, hsl, hpl, q⟩ := h
  refine ⟨_, (pss_cons (ps_set (i := 3) sc_law_reach.nd rfl (Or.inl rfl) (pe_bone (hu_of hr) (pv 2) pe_bl))
      (pss_cons (ps_set (i := 4) sc_law_reach.nd rfl (Or.inl rfl) (pe_lst (pa_cons (pv 2) pa_nil)))
      (pss_cons (ps_while PassesOwn.never (pt_cmpR (r := rNeD K) (op_neD hr.units) (pv 4) (pe_lst pa_nil) (nomark _))
      (pss_cons (ps_set (i := 5) sc_law_reach.nd rfl (Or.inl rfl) (pe_bm0 PySem.F.plainAttrs_list PySem.F.slot_list_pop PySem.F.type_list_pop mt_pop (pv 4)))
      (pss_one (ps_for PassesOwn.never rfl (pi_list (pe_call G_law_movable (hr.mono (by omega)) (by rfl) T.m__law_movable T.F__law_movable.kp T.b__law_movable .nil pass0 (pa_cons (pv 0) (pa_cons (pv 1) (pa_cons (pv 5) pa_nil))))) (pg_name (i := 6) sc_law_reach.nd rfl (Or.inl rfl))
      (pss_cons (ps_set (i := 7) sc_law_reach.nd rfl (Or.inl rfl) (pe_call G_law_moved (hr.mono (by omega)) (by rfl) T.m__law_moved T.F__law_moved.kp T.b__law_moved .nil pass0 (pa_cons (pv 5) (pa_cons (pv 6) pa_nil))))
      (pss_one (ps_if (pt_cmp (pc_bnotin (hu_of hr) (pv 7) (pv 3))) (pss_cons (ps_bput (hu_of hr) (pv 3) (pv 7) pe_bl rfl)
      (pss_one (ps_expr (pe_bm PySem.F.plainAttrs_list PySem.F.slot_list_append PySem.F.type_list_append mt_append (pv 4) (pa_cons (pv 7) pa_nil))))) pss_nil)))))))
      (pss_one (ps_ret (pe_callTy (r := rBList) (call_blist rfl) (by rfl) T.n_list (by decide +kernel) (pa_cons (pv 3) pa_nil))))))), ?_⟩
  have h6 := B.n6
  have hwl := B.len
  intro F H1 nF s1 b1 d1
  refine ⟨_, rfl, d1, st, ss, rfl, s1 _ _ hs, fun H3 d3 b3 => ?_⟩
  have s3 : Same H H3 := Same.but s1 nF b3
  refine ⟨_, rfl, Nat.le_of_ble_eq_true (n := 1) rfl, ?_⟩
  wtm_at "new L H4 s4 e4"
  have s34 := s3.trans s4
  have nL0 : H L = none := s3.free nL
  have C0 : ReachAt ws ps ss H F L none H4 [(ss, .bl true)] [ss] [.ref st] := by
    refine ⟨s34, d3.same s4, ?_, e4, .cons ⟨st, rfl, s34 _ _ hs⟩ .nil, ?_, List.mem_singleton.mpr rfl, ?_⟩
    · intro t ht
      rw [List.mem_singleton.mp ht]; exact .refl ss
    · intro t ht
      rw [List.mem_singleton.mp ht]; exact List.mem_singleton.mpr rfl
    · intro t ht
      rw [List.mem_singleton.mp ht]; exact .inl (List.mem_singleton.mpr rfl)
  refine ⟨fun m σ H' => ∃ kvs lefts us' x1 x2 x3, σ = [some (.ref b), some (.ref pr), some (.ref st), some (.ref F), some (.ref L), x1, x2, x3] ∧ ReachAt ws ps ss H F L none H' kvs lefts us' ∧ m = 64 - kvs.length + lefts.length ∧ m ≤ 64, ⟨_, _, _, _, none, none, none, rfl, C0, rfl, Nat.le_refl _⟩, ?_⟩
  rintro m0 σ H5 ⟨kvs, lefts, us', x1, x2, x3, rfl, C, rfl, hm64⟩
  refine ⟨_, rfl, Nat.zero_le _, ?_⟩
  wtm_at "new X H6 s6 e6"
  have C6 := C.later s6
  refine ⟨_, _, dpTsL C6.left C6.tups, .lst (.of e6) .nil, (shTs lefts).shaped (by decide), (shTs []).shaped (by decide), _, rfl, ?_⟩
  rw [eqv_nil]
  refine iB (fun c => ?_) (fun c => ?_)
  · have c := of_decide_eq_false (notT c)
    have hne : lefts ≠ [] := fun e => c (by rw [e]; rfl)
    refine ⟨fun σ' H' => ∃ m', m' < 64 - kvs.length + lefts.length ∧ ∃ kvs lefts us' x1 x2 x3, σ' = [some (.ref b), some (.ref pr), some (.ref st), some (.ref F), some (.ref L), x1, x2, x3] ∧ ReachAt ws ps ss H F L none H' kvs lefts us' ∧ m' = 64 - kvs.length + lefts.length ∧ m' ≤ 64, fun _ _ h => h, ?_⟩
    obtain ⟨rest, hh, usr, u0, rfl, rfl, rt, ha, rfl, eha⟩ := paired_last C6.tups hne
    have hhk := C6.sub hh (List.mem_append.mpr (.inr (List.mem_singleton.mpr rfl)))
    have hhl : hh.length = n := by rw [(C6.reach hh hhk).len, hsl]
    have hlast : (usr ++ [V.ref ha])[(usr ++ [V.ref ha]).length - 1]? = some (V.ref ha) := by
      rw [List.length_append, List.length_singleton, Nat.add_sub_cancel, List.getElem?_append_right (Nat.le_refl _), Nat.sub_self]; rfl
    refine ⟨_, rfl, .inl ⟨rfl, _, .of C6.left⟩, L, _, .ref ha, rfl, rfl, C6.left, hlast, ?_⟩
    have hdl : (usr ++ [V.ref ha]).dropLast = usr := List.dropLast_concat
    rw [hdl]
    have e7 : (upd H6 L (.lst usr)) L = some (.lst usr) := upd_same
    have k7 : ∀ c, c ≠ L → (upd H6 L (.lst usr)) c = H6 c := fun c hc => upd_ne hc
    have t7 : Tk H6 (upd H6 L (.lst usr)) := Tk.lst C6.left
    have s7 : Same H (upd H6 L (.lst usr)) := Same.lst C6.same nL0
    show tSeq _ _ _ _ (upd H6 L (.lst usr))
    generalize upd H6 L (.lst usr) = H7 at *
    have FL : F ≠ L := by
      intro e; subst e
      obtain ⟨_, e1, _⟩ := C6.dict
      rw [C6.left] at e1; cases e1
    have C7 : ReachAt ws ps ss H F L (some hh) H7 kvs rest usr := by
      refine ⟨s7, C6.dict.at (k7 F FL) t7, C6.reach, e7, Tups.tk t7 rt, fun t ht => C6.sub t (List.mem_append.mpr (.inl ht)), C6.self, fun t ht => ?_⟩
      rcases C6.done t ht with h | h | h
      · rcases List.mem_append.mp h with h | h
        · exact .inl h
        · exact .inr (.inl (by rw [List.mem_singleton.mp h]))
      · cases h
      · exact .inr (.inr h)
    have eh7 := t7 _ _ eha
    have lens : ∀ {H' : Hp} {kv : List (List Bool × V)}, DBat H' F kv → (∀ t ∈ kv.map (·.1), Reach ws ps ss t) → kv.length ≤ 64 := fun d r => by
      have := stands_le (n := n) d.nodup (fun t ht => by rw [(r t ht).len, hsl]) h6
      rw [List.length_map] at this; exact this
    have hk64 := lens C7.dict C7.reach
    rw [List.length_append, List.length_singleton] at hm64 ⊢
    refine ⟨_, rfl, _, rfl, _, rfl, b, pr, ha, n, m, us, ws, ps, hh, rfl, B.same s7, s7 _ _ hp, eh7, hhl, hpl, fun H8 M s8 nM e8 => ?_⟩
    have ML : M ≠ L := fun e => by subst e; rw [e7] at nM; cases nM
    have MF : M ≠ F := fun e => by subst e; obtain ⟨_, e1, _⟩ := C7.dict; rw [e1] at nM; cases nM
    refine ⟨M, rfl, ⟨_, .of e8⟩, for_list (K := K) (a := M) (xs := (movL ws ps hh).map vn) (fun i σ H' => ∃ kvs2 lefts us' x2 x3, σ = [some (.ref b), some (.ref pr), some (.ref st), some (.ref F), some (.ref L), some (.ref ha), x2, x3] ∧ ReachAt ws ps ss H F L (some hh) H' kvs2 lefts us' ∧ (∀ k ∈ (movL ws ps hh).take i, flip hh k ∈ kvs2.map (·.1)) ∧ hh ∈ kvs2.map (·.1) ∧ H' ha = some (.tup (hh.map V.bl)) ∧ H' M = some (.lst ((movL ws ps hh).map vn)) ∧ 64 - kvs2.length + lefts.length = 64 - kvs.length + rest.length) ?_ ?_ ?_ ?_⟩
    · exact ⟨kvs, rest, usr, x2, x3, rfl, C7.later s8, (fun k hk => nomatch hk), hhk, s8 _ _ eh7, e8, rfl⟩
    · rintro i σ H' _ ⟨_, _, _, _, _, _, _, _, _, _, e, _⟩
      exact .of e
    · rintro i v σ H8 hi ⟨kvs2, lefts, us', x2, x3, rfl, C8, hdone, hhk2, eh8, eM, hmeas⟩
      obtain ⟨k, hk, rfl⟩ : ∃ k, (movL ws ps hh)[i]? = some k ∧ v = vn k := by
        rw [List.getElem?_map] at hi
        obtain ⟨k, hk, e⟩ := Option.map_eq_some_iff.mp hi
        exact ⟨k, hk, e.symm⟩
      have hkm := List.mem_of_getElem? hk
      have htake : (movL ws ps hh).take (i + 1) = (movL ws ps hh).take i ++ [k] := by rw [List.take_add_one, hk]; rfl
      refine ⟨_, rfl, _, rfl, ha, k, hh, rfl, eh8, by omega, fun H9 p9 s9 np9 e9 => ?_⟩
      have C9 := C8.later s9
      refine ⟨_, rfl, _, rfl, F, p9, kvs2, flip hh k, rfl, rfl, C9.dict, e9, _, rfl, ?_⟩
      refine iB (fun z => ?_) (fun z => ?_)
      · have hnew : flip hh k ∉ kvs2.map (·.1) := val_out (notT z)
        have hk2 := lens C9.dict C9.reach
        refine ⟨_, rfl, _, rfl, F, p9, kvs2, flip hh k, rfl, rfl, C9.dict, e9, small11 (by omega), fun Hc dc bc => ?_⟩
        rw [putK_fresh _ hnew] at dc
        have sc := Same.but C9.same nF bc
        have tc := bc.tk C9.dict
        have lst_ne : ∀ a xs, H9 a = some (.lst xs) → Hc a = some (.lst xs) := fun a xs e => by
          obtain ⟨_, e1, _⟩ := C9.dict
          rw [bc a (ne_of e e1 (by intro z; cases z))]; exact e
        have ec := lst_ne _ _ C9.left
        have hkeys : (kvs2 ++ [(flip hh k, V.bl true)]).map (·.1) = kvs2.map (·.1) ++ [flip hh k] := by rw [List.map_append]; rfl
        have hul := C9.tups.length
        have hreach : ∀ t ∈ (kvs2 ++ [(flip hh k, V.bl true)]).map (·.1), Reach ws ps ss t := fun t ht => by
          rw [hkeys] at ht
          rcases List.mem_append.mp ht with h | h
          · exact C9.reach t h
          · rw [List.mem_singleton.mp h]; exact (C9.reach hh hhk2).step hkm
        have hcard := lens dc hreach
        rw [List.length_append, List.length_singleton] at hcard
        have hlefts : lefts.length ≤ 64 := by omega
        refine ⟨_, rfl, .inl ⟨rfl, _, .of ec⟩, _, rfl, L, _, .ref p9, rfl, rfl, ec, small11 (by omega), ?_⟩
        have td : Tk Hc (upd Hc L (.lst (us' ++ [.ref p9]))) := Tk.lst ec
        have kd : ∀ c, c ≠ L → (upd Hc L (.lst (us' ++ [.ref p9]))) c = Hc c := fun c hc => upd_ne hc
        have tall := (Tk.trans tc td)
        refine ⟨_, lefts ++ [flip hh k], us' ++ [.ref p9], _, _, rfl, ⟨Same.lst sc nL0, dc.at (kd F FL) td, hreach, upd_same, ?_, ?_, ?_, ?_⟩, ?_, ?_, ?_, ?_, ?_⟩
        · exact paired_snoc (Tups.tk tall C9.tups) ⟨p9, rfl, tall _ _ e9⟩
        · intro t ht
          rw [hkeys]
          rcases List.mem_append.mp ht with h | h
          · exact List.mem_append.mpr (.inl (C9.sub t h))
          · exact List.mem_append.mpr (.inr h)
        · rw [hkeys]; exact List.mem_append.mpr (.inl C9.self)
        · intro t ht
          rw [hkeys] at ht ⊢
          rcases List.mem_append.mp ht with h | h
          · rcases C9.done t h with h | h | h
            · exact .inl (List.mem_append.mpr (.inl h))
            · exact .inr (.inl h)
            · exact .inr (.inr fun j hj => List.mem_append.mpr (.inl (h j hj)))
          · exact .inl (List.mem_append.mpr (.inr h))
        · intro j hj
          rw [htake] at hj
          rw [hkeys]
          rcases List.mem_append.mp hj with h | h
          · exact List.mem_append.mpr (.inl (hdone j h))
          · rw [List.mem_singleton.mp h]; exact List.mem_append.mpr (.inr (List.mem_singleton.mpr rfl))
        · rw [hkeys]; exact List.mem_append.mpr (.inl hhk2)
        · exact tall _ _ (s9 _ _ eh8)
        · rw [kd M ML]; exact lst_ne _ _ (s9 _ _ eM)
        · rw [List.length_append, List.length_append, List.length_singleton, List.length_singleton]; omega
      · have hold : flip hh k ∈ kvs2.map (·.1) := val_in (notF z)
        refine ⟨kvs2, lefts, us', _, _, rfl, C9, ?_, hhk2, s9 _ _ eh8, s9 _ _ eM, hmeas⟩
        intro j hj
        rw [htake] at hj
        rcases List.mem_append.mp hj with h | h
        · exact hdone j h
        · rw [List.mem_singleton.mp h]; exact hold
    · rintro σ H8 ⟨kvs2, lefts, us', x2, x3, rfl, C8, hdone, hhk2, eh8, eM, hmeas⟩
      rw [List.length_map, List.take_length] at hdone
      refine ⟨_, by omega, kvs2, lefts, us', _, _, _, rfl, ⟨C8.same, C8.dict, C8.reach, C8.left, C8.tups, C8.sub, C8.self, fun t ht => ?_⟩, rfl, by omega⟩
      rcases C8.done t ht with h | h | h
      · exact .inl h
      · cases h; exact .inr (.inr hdone)
      · exact .inr (.inr h)
  · have c := of_decide_eq_true (notF c)
    have hnil : lefts = [] := List.map_eq_nil_iff.mp c
    subst hnil
    refine ⟨_, rfl, F, kvs, rfl, C6.dict, fun p H7 us7 n7 s7 e7 T7 => q H7 p us7 (kvs.map (·.1)) (C6.same.trans s7) (C6.same.free n7) e7 T7 (.of C6.dict.nodup C6.self (fun t ht => ?_) C6.reach)⟩
    rcases C6.done t ht with h | h | h
    · cases h
    · cases h
    · exact h

def kvT (l : List (List Bool)) : List (List Bool × V) := l.map fun t => (t, V.bl true)
theorem kvT_keys (l : List (List Bool)) : (kvT l).map (·.1) = l := by unfold kvT; rw [List.map_map]; exact List.map_id _
theorem kvT_len (l : List (List Bool)) : (kvT l).length = l.length := List.length_map _
theorem kvT_snoc (l : List (List Bool)) (t : List Bool) : kvT l ++ [(t, V.bl true)] = kvT (l ++ [t]) := by unfold kvT; rw [List.map_append]; rfl
/-- a move of t stays within l -/
def goesIn (ws : List W) (ps : List Bool) (l : List (List Bool)) (t : List Bool) : Bool := !decide ((movL ws ps t).filter (fun k => (valV (kvT l) (flip t k)).isSome) = [])
theorem goesIn_iff {ws : List W} {ps : List Bool} {l : List (List Bool)} {t : List Bool} : goesIn ws ps l t = true ↔ ∃ k ∈ movL ws ps t, flip t k ∈ l := by
  unfold goesIn
  constructor
  · intro h
    have h := of_decide_eq_false (notT h)
    obtain ⟨k, hk⟩ := List.exists_mem_of_ne_nil _ h
    obtain ⟨a1, a2⟩ := List.mem_filter.mp hk
    have := val_in a2
    rw [kvT_keys] at this
    exact ⟨k, a1, this⟩
  · rintro ⟨k, hk, hm⟩
    rw [decide_eq_false]; rfl
    intro e
    have : k ∈ (movL ws ps t).filter (fun k => (valV (kvT l) (flip t k)).isSome) := List.mem_filter.mpr ⟨hk, in_val (by rw [kvT_keys]; exact hm)⟩
    rw [e] at this; cases this
theorem filter_same {α : Type} {f : α → Bool} : ∀ {l : List α}, l.length ≤ (l.filter f).length → ∀ x ∈ l, f x = true
  | [], _, _, h => nomatch h
  | a :: l, hl, x, hx => by
    by_cases ha : f a = true
    · rw [List.filter_cons_of_pos ha, List.length_cons, List.length_cons] at hl
      rcases List.mem_cons.mp hx with rfl | hx
      · exact ha
      · exact filter_same (by omega) x hx
    · rw [List.filter_cons_of_neg ha, List.length_cons] at hl
      have := List.length_filter_le f l
      omega
theorem Falls.no_goes {ws : List W} {ps : List Bool} {P : Pap} (F : Falls ws ps P) {l : List (List Bool)} (hl : ∀ t ∈ l, t ∈ P.map (·.1)) (hg : ∀ t ∈ l, ∃ k ∈ movL ws ps t, flip t k ∈ l) : l = [] := by
  have h : ∀ (v : Nat) (t : List Bool), t ∈ l → look P t = some v → False := by
    intro v
    induction v using Nat.strongRecOn with
    | _ v ih =>
      intro t ht hv
      obtain ⟨k, hk, hm⟩ := hg t ht
      obtain ⟨u, hu, lt⟩ := F.fall t v hv k hk
      exact ih u lt _ hm hu
  cases l with
  | nil => rfl
  | cons t l =>
    obtain ⟨v, hv⟩ := look_some.mp (hl t List.mem_cons_self)
    exact (h v t List.mem_cons_self hv).elim
def OnRing (ws : List W) (ps : List Bool) (t : List Bool) : Prop := ∃ rs, rs ≠ [] ∧ Road ws ps t rs t
theorem OnRing.next {ws : List W} {ps : List Bool} {t : List Bool} (h : OnRing ws ps t) : ∃ k ∈ movL ws ps t, OnRing ws ps (flip t k) := by
  obtain ⟨rs, hne, hr⟩ := h
  cases rs with
  | nil => exact absurd rfl hne
  | cons k rs => exact ⟨k, hr.1, rs ++ [k], (fun e => by have := congrArg List.length e; rw [List.length_append, List.length_singleton] at this; exact absurd this (by show ¬ (_ + 1 = 0); omega)), hr.2.snoc hr.1⟩
def sp_law_endless : Sp := fun vs H Q _ => ∃ (b pr sa : Addr) (n m : Nat) (us vs2 : List V) (ws : List W) (ps ss : List Bool) (sts : List (List Bool)), vs = [.ref b, .ref pr, .ref sa] ∧ BoardAt H b us ws n m ∧ H pr = some (.tup (ps.map V.bl)) ∧ H sa = some (.lst vs2) ∧ Tups H sts vs2 ∧ Stands ws ps ss sts ∧ ss.length = n ∧ ps.length = m ∧
  ∀ (H' : Hp) (e : Bool), Same H H' → ((∃ P, Falls ws ps P ∧ ∀ t ∈ sts, t ∈ P.map (·.1)) → e = false) → ((∃ t ∈ sts, OnRing ws ps t) → e = true) → Q (.bl e) H'
theorem ok_law_endless (T : Txt K mg Z) : FnOk P w K mg base CX0 12 Z.a_law_endless Z.d_law_endless ["board", "pressed", "stands"] sp_law_endless := by
  have G_law_movable := ok_law_movable (P := P) (w := w) (base := base) T
  have G_law_moved := ok_law_moved (P := P) (w := w) (base := base) T
  refine T.F__law_endless.ok sc_law_endless (fun vs H Q E h => by obtain ⟨_, _, _, _, _, _, _, _, _, _, _, rfl, _⟩ := h; rfl) (fun cdv A outer s H vs Q E hr h => ?_)
  obtain ⟨b, pr, sa, n, m, us, vs2, ws, ps, ss, sts, rfl, B, hp, hsa, hT, S, hsl, hpl, q⟩ := h
  refine ⟨_, (pss_cons (ps_set (i := 3) sc_law_endless.nd rfl (Or.inr rfl) (pe_callTy (r := rBPairs) (call_bpairs rfl (units2 hr)) (by rfl) T.n_dict (by decide +kernel) (pa_cons (pe_lc (own := [("one", 6)]) (g := gName 6) (tt := tYes) rfl sc_law_endless.nd (pi_list (pv 2)) (blkOk_by (own := [("one", 6)]) (N := ["board", "pressed", "stands", "left", "more", "kept", "one", "k"]) (sc := defScope s_law_endless) (by decide +kernel)) (fun _ _ _ _ _ => pg_name (i := 6) sc_law_endless.nd rfl (Or.inl rfl)) (fun _ _ _ _ _ => pts_nil) (fun _ _ _ _ _ => (pe_tup (pa_cons (pv 6) (pa_cons pe_bl pa_nil))))) pa_nil)))
      (pss_cons (ps_set (i := 4) sc_law_endless.nd rfl (Or.inl rfl) pe_bl)
      (pss_cons (ps_while PassesOwn.never (pt_val (pv 4))
      (pss_cons (ps_set (i := 5) sc_law_endless.nd rfl (Or.inl rfl) pe_bnew)
      (pss_cons (ps_for PassesOwn.never rfl (pi_list (pe_callTy (r := rBList) (call_blist rfl) (by rfl) T.n_list (by decide +kernel) (pa_cons (pv 3) pa_nil))) (pg_name (i := 6) sc_law_endless.nd rfl (Or.inr rfl))
      (pss_one (ps_if (pt_cmpR (r := rNeD K) (op_neD hr.units) (pe_lc (own := [("k", 7)]) (g := gName 7) rfl sc_law_endless.nd (pi_list (pe_call G_law_movable (hr.mono (by omega)) (by rfl) T.m__law_movable T.F__law_movable.kp T.b__law_movable .nil pass0 (pa_cons (pv 0) (pa_cons (pv 1) (pa_cons (pv 6) pa_nil))))) (blkOk_by (own := [("k", 7)]) (N := ["board", "pressed", "stands", "left", "more", "kept", "one", "k"]) (sc := defScope s_law_endless) (by decide +kernel)) (fun _ _ _ _ _ => pg_name (i := 7) sc_law_endless.nd rfl (Or.inl rfl)) (fun _ _ _ _ _ => (pts_one (pt_cmp (pc_bin (hu_of hr) (pe_call G_law_moved (hr.mono (by omega)) (by rfl) T.m__law_moved T.F__law_moved.kp T.b__law_moved .nil pass0 (pa_cons (pv 6) (pa_cons (pv 7) pa_nil))) (pv 3))))) (fun _ _ _ _ _ => (pv 7))) (pe_lst pa_nil) (nomark _)) (pss_one (ps_bput (hu_of hr) (pv 5) (pv 6) pe_bl rfl)) pss_nil)))
      (pss_cons (ps_set (i := 4) sc_law_endless.nd rfl (Or.inl rfl) (pe_cmpR op_lt (pe_callB (r := rBLen) call_blen (by rfl) T.n_len PySem.boot_len (pa_cons (pv 5) pa_nil)) (pe_callB (r := rBLen) call_blen (by rfl) T.n_len PySem.boot_len (pa_cons (pv 3) pa_nil)) (nomark _)))
      (pss_one (ps_set (i := 3) sc_law_endless.nd rfl (Or.inr rfl) (pv 5)))))))
      (pss_one (ps_ret (pe_cmpR op_gt (pe_callB (r := rBLen) call_blen (by rfl) T.n_len PySem.boot_len (pa_cons (pv 3) pa_nil)) pe_int (nomark _))))))), ?_⟩
  have h6 := B.n6
  have hwl := B.len
  have hsts := S.le (by omega)
  have hvl := hT.length
  refine ⟨_, rfl, sa, rfl, ⟨_, .of hsa⟩, fun D nD => lc_list (K := K) (a := sa) (xs := vs2) (fun i H' => Same H H' ∧ ∃ (ts : List Addr) (es : List BE), H' D = some (.lst (ts.map V.ref)) ∧ Paired (BPair H') ts es ∧ es.map (·.1) = sts.take i ∧ es.map (fun e => (e.1, e.2.2)) = kvT (sts.take i)) ?_ ?_ ?_ ?_⟩
  · exact ⟨Same.new nD, [], [], upd_same, .nil, rfl, rfl⟩
  · rintro i H2 _ ⟨s2, _⟩
    exact .of (s2 _ _ hsa)
  · rintro i v H1 hi ⟨s1, ts, es, hD, hP, hk, hv⟩
    obtain ⟨t, ht, ta, rfl, eta⟩ := paired_get hT hi
    wtm_at "lc"
    refine ⟨_, rfl, Nat.le_of_ble_eq_true (n := 2) rfl, ?_⟩
    wtm_at "new p H2 s2 e2"
    have hD2 := s2 _ _ hD
    have hl1 := congrArg List.length hk
    have hl2 := Paired.length hP
    rw [List.length_map, List.length_take] at hl1
    have t3 : Tk H2 (upd H2 D (.lst (ts.map V.ref ++ [.ref p]))) := Tk.lst hD2
    refine ⟨_, hD2, small11 (by rw [List.length_map]; omega), Same.lst (s1.trans s2) nD, ts ++ [p], es ++ [(t, ta, V.bl true)], by rw [upd_same, List.map_append]; rfl, ?_, ?_, ?_⟩
    · refine paired_snoc (Paired.mapP hP fun t e ⟨r1, r2⟩ => ⟨t3 _ _ (s2 _ _ r1), t3 _ _ (s2 _ _ r2)⟩) ⟨t3 _ _ e2, t3 _ _ (s2 _ _ (s1 _ _ eta))⟩
    · rw [List.take_add_one, ht, List.map_append, hk]; rfl
    · rw [List.take_add_one, ht, List.map_append, hv]
      exact kvT_snoc _ _
  rintro H1 ⟨s1, ts, es, hD, hP, hk, hv⟩
  rw [← hvl, List.take_length] at hk hv
  refine ⟨D, ts, es, rfl, hD, hP, by rw [hk]; exact S.nodup, fun L0 H2 nL0 s2 d2 => ?_⟩
  rw [hv] at d2
  refine ⟨fun m σ H' => ∃ L lk more x5 x6, σ = [some (.ref b), some (.ref pr), some (.ref sa), some (.ref L), some (.bl more), x5, x6, none] ∧ Same H H' ∧ DBat H' L (kvT lk) ∧ (∀ t ∈ lk, t ∈ sts) ∧ (more = false → ∀ t ∈ lk, ∃ k ∈ movL ws ps t, flip t k ∈ lk) ∧ (∀ t ∈ sts, OnRing ws ps t → t ∈ lk) ∧ m = 2 * lk.length + more.toNat, ⟨_, L0, sts, true, none, none, rfl, s1.trans s2, d2, fun _ h => h, (fun h => nomatch h), fun _ h _ => h, rfl⟩, ?_⟩
  rintro m0 σ H3 ⟨L, lk, more, x5, x6, rfl, s3, d3, hsub, hgo, hring, rfl⟩
  have nd3 := d3.nodup
  rw [kvT_keys] at nd3
  have hlk := Nat.le_trans (nodup_len nd3 hsub) hsts
  refine ⟨_, rfl, _, rfl, ?_⟩
  cases more with
  | false =>
    refine iteF ⟨_, rfl, L, kvT lk, rfl, d3, _, _, rfl, rfl, ?_⟩
    rw [kvT_len]
    refine q H3 _ s3 (fun ⟨P, FP, hP⟩ => ?_) fun ⟨t, ht, hr⟩ => ?_
    · have := FP.no_goes (fun t ht => hP t (hsub t ht)) (hgo rfl)
      rw [this]; rfl
    · have := List.length_pos_of_mem (hring t ht hr)
      exact decide_eq_true (by omega)
  | true =>
  refine iteT ⟨fun σ' H' => ∃ m', m' < 2 * lk.length + true.toNat ∧ ∃ L lk more x5 x6, σ' = [some (.ref b), some (.ref pr), some (.ref sa), some (.ref L), some (.bl more), x5, x6, none] ∧ Same H H' ∧ DBat H' L (kvT lk) ∧ (∀ t ∈ lk, t ∈ sts) ∧ (more = false → ∀ t ∈ lk, ∃ k ∈ movL ws ps t, flip t k ∈ lk) ∧ (∀ t ∈ sts, OnRing ws ps t → t ∈ lk) ∧ m' = 2 * lk.length + more.toNat, fun _ _ h => h, ?_⟩
  intro N H4 nN s4 b4 d4
  have d34 := d3.same s4
  refine ⟨_, rfl, L, kvT lk, rfl, d34, fun la H5 us5 n5 s5 e5 T5 => ?_⟩
  rw [kvT_keys] at T5
  have nN0 : H3 N = none := nN
  have d35 := d34.same s5
  have laN : la ≠ N := fun e => by subst e; obtain ⟨_, e1, _⟩ := d4; rw [e1] at n5; cases n5
  have LN : L ≠ N := fun e => by subst e; obtain ⟨_, e1, _⟩ := d3; rw [e1] at nN; cases nN
  have s35 := s4.trans s5
  refine ⟨la, rfl, ⟨_, .of e5⟩, for_list (K := K) (a := la) (xs := us5) (fun i σ H' => ∃ x6, σ = [some (.ref b), some (.ref pr), some (.ref sa), some (.ref L), some (.bl true), some (.ref N), x6, none] ∧ Same H3 H' ∧ H' la = some (.lst us5) ∧ DBat H' N (kvT ((lk.take i).filter (goesIn ws ps lk))) ∧ Tups H' lk us5) ?_ ?_ ?_ ?_⟩
  · exact ⟨x6, rfl, s35, e5, d4.same s5, T5⟩
  · rintro i σ H' _ ⟨_, _, _, e, _⟩
    exact .of e
  · rintro i v σ H6 hi ⟨x6, rfl, s6, el6, d6, T6⟩
    obtain ⟨t, ht, ta, rfl, eta⟩ := paired_get T6 hi
    have htm := List.mem_of_getElem? ht
    have htl : t.length = n := by rw [((S.mem t).mp (hsub t htm)).len, hsl]
    have s06 := s3.trans s6
    refine ⟨_, rfl, _, rfl, _, rfl, b, pr, ta, n, m, us, ws, ps, t, rfl, B.same s06, s06 _ _ hp, eta, htl, hpl, fun H7 M s7 nM e7 => ?_⟩
    refine ⟨M, rfl, ⟨_, .of e7⟩, fun D2 nD2 => lc_list (K := K) (a := M) (xs := (movL ws ps t).map vn) (fun i H' => Same H7 H' ∧ H' D2 = some (.lst ((((movL ws ps t).take i).filter fun k => (valV (kvT lk) (flip t k)).isSome).map vn))) ?_ ?_ ?_ ?_⟩
    · exact ⟨Same.new nD2, upd_same⟩
    · rintro i H2 _ ⟨s2, _⟩
      exact .of (s2 _ _ e7)
    · rintro j v H8 hj ⟨s8, hD8⟩
      obtain ⟨k, hk, rfl⟩ : ∃ k, (movL ws ps t)[j]? = some k ∧ v = vn k := by
        rw [List.getElem?_map] at hj
        obtain ⟨k, hk, e⟩ := Option.map_eq_some_iff.mp hj
        exact ⟨k, hk, e.symm⟩
      refine ⟨rfl, ?_⟩
      refine ⟨_, rfl, _, rfl, ta, k, t, rfl, (s7.trans s8) _ _ eta, by omega, fun H9 p9 s9 n9 e9 => ?_⟩
      have d39 := d3.same (s6.trans (s7.trans (s8.trans s9)))
      refine ⟨_, rfl, L, p9, kvT lk, flip t k, rfl, rfl, d39, e9, _, rfl, ?_⟩
      have hfl := List.length_filter_le (fun k => (valV (kvT lk) (flip t k)).isSome) ((movL ws ps t).take j)
      rw [List.length_take] at hfl
      have hml := movL_le ws ps t
      refine iB (fun z => ?_) (fun z => ?_)
      · refine ⟨_, rfl, _, s9 _ _ hD8, small11 (by rw [List.length_map]; omega), Same.lst (s8.trans s9) nD2, ?_⟩
        rw [upd_same, take_filt _ hk, if_pos z, List.map_append]; rfl
      · refine ⟨s8.trans s9, ?_⟩
        rw [take_filt _ hk, if_neg (by rw [z]; decide)]
        exact s9 _ _ hD8
    rintro H8 ⟨s8, hD8⟩
    rw [List.length_map, List.take_length] at hD8
    refine ⟨Nat.zero_le _, ?_⟩
    wtm_at "new X H9 s9 e9"
    refine ⟨_, _, dpI (s9 _ _ hD8), dpI (ks := []) e9, (shI _).shaped (by decide), (shI _).shaped (by decide), _, rfl, ?_⟩
    rw [eqv_il]
    have s69 := s7.trans (s8.trans s9)
    have d9 := d6.same s69
    have eta9 := s69 _ _ eta
    have hfl := List.length_filter_le (goesIn ws ps lk) (lk.take i)
    rw [List.length_take] at hfl
    refine iB (fun z => ?_) (fun z => ?_)
    · have hnot : t ∉ (kvT ((lk.take i).filter (goesIn ws ps lk))).map (·.1) := by
        rw [kvT_keys]
        intro h
        have h1 := (List.mem_filter.mp h).1
        have e1 : lk.take (i + 1) = lk.take i ++ [t] := by rw [List.take_add_one, ht]; rfl
        have := List.Nodup.sublist (List.take_sublist (i + 1) lk) nd3
        rw [e1, List.nodup_append] at this
        exact this.2.2 t h1 t (List.mem_singleton.mpr rfl) rfl
      refine ⟨_, rfl, _, rfl, N, ta, _, t, rfl, rfl, d9, eta9, small11 (by rw [kvT_len]; omega), fun Ha da ba => ?_⟩
      rw [putK_fresh _ hnot, kvT_snoc] at da
      have ta' := ba.tk d9
      refine ⟨_, rfl, Same.but (s6.trans s69) nN0 ba, (ba la laN).trans (s69 _ _ el6), ?_, Tups.tk ta' (Tups.same s69 T6)⟩
      rw [take_filt _ ht, if_pos (show goesIn ws ps lk t = true from z)]
      exact da
    · refine ⟨_, rfl, s6.trans s69, s69 _ _ el6, ?_, Tups.same s69 T6⟩
      rw [take_filt _ ht, if_neg (by rw [show goesIn ws ps lk t = false from z]; decide)]
      exact d9
  · rintro σ H6 ⟨x6, rfl, s6, el6, d6, T6⟩
    rw [← Tups.length T6, List.take_length] at d6
    have d36 := d3.same s6
    refine ⟨_, rfl, N, _, rfl, d6, _, rfl, L, _, rfl, d36, _, _, rfl, rfl, ?_⟩
    rw [kvT_len, kvT_len]
    have hfl := List.length_filter_le (goesIn ws ps lk) lk
    refine ⟨_, rfl, 2 * (lk.filter (goesIn ws ps lk)).length + (decide (((lk.filter (goesIn ws ps lk)).length : Int) < (lk.length : Int))).toNat, ?_, N, lk.filter (goesIn ws ps lk), _, _, _, rfl, s3.trans s6, d6, fun t ht => hsub t (List.mem_filter.mp ht).1, fun z t ht => ?_, fun t ht hr => ?_, rfl⟩
    · by_cases hlt : ((lk.filter (goesIn ws ps lk)).length : Int) < (lk.length : Int)
      · rw [decide_eq_true hlt]
        show _ + 1 < _ + 1
        omega
      · rw [decide_eq_false hlt]
        show _ + 0 < _ + 1
        omega
    · have z := of_decide_eq_false z
      have hall := filter_same (f := goesIn ws ps lk) (l := lk) (by omega)
      obtain ⟨k, hk, hm⟩ := goesIn_iff.mp (hall t (List.mem_filter.mp ht).1)
      exact ⟨k, hk, List.mem_filter.mpr ⟨hm, hall _ hm⟩⟩
    · have hin := hring t ht hr
      obtain ⟨k, hk, hn⟩ := hr.next
      exact List.mem_filter.mpr ⟨hin, goesIn_iff.mpr ⟨k, hk, hring _ (S.closed t ht k hk) hn⟩⟩

theorem RoomAt.board {H H' : Hp} {p b pr st : Addr} {n m : Nat} {ws : List W} {us : List V} {ps ss : List Bool} (R : RoomAt H H' p b pr st n m ws us ps ss) : BoardAt H' b us ws n m := ⟨R.lst, R.was, R.len, R.n6, R.fit.mono (by decide)⟩
def sp_law (K : PySem.W.Frag) : Sp := fun vs H Q _ => ∃ (a : Addr) (ns : List Int), vs = [.ref a] ∧ SqL K H a (ns.map V.int) ∧ ns.length ≤ 63 ∧ ∀ H', Q (.bl true) H'
theorem ok_law (T : Txt K mg Z) : FnOk P w K mg base CX0 15 Z.alaw Z.dlaw ["script"] (sp_law K) := by
  have G_law_room := ok_law_room (P := P) (w := w) (base := base) T
  have Gjudged := ok_judged (P := P) (w := w) (base := base) T
  have G_law_reach := ok_law_reach (P := P) (w := w) (base := base) T
  have G_law_movable := ok_law_movable (P := P) (w := w) (base := base) T
  have G_law_endless := ok_law_endless (P := P) (w := w) (base := base) T
  refine T.F_law.ok sclaw (fun vs H Q E h => by obtain ⟨_, _, rfl, _⟩ := h; rfl) (fun cdv A outer s H vs Q E hr h => ?_)
  obtain ⟨a, ns, rfl, hS, hlen, q⟩ := h
  refine ⟨_, (pss_cons (ps_set (i := 1) sclaw.nd rfl (Or.inr rfl) (pe_call G_law_room (hr.mono (by omega)) (by rfl) T.m__law_room T.F__law_room.kp T.b__law_room .nil pass0 (pa_cons (pv 0) pa_nil)))
      (pss_cons (ps_set (i := 2) sclaw.nd rfl (Or.inl rfl) (pe_call G_law_reach (hr.mono (by omega)) (by rfl) T.m__law_reach T.F__law_reach.kp T.b__law_reach .nil pass0 (pa_cons (pe_ix (r := rIxT K) ix_tup (pv 1) pe_int (fun _ _ => rfl)) (pa_cons (pe_ix (r := rIxT K) ix_tup (pv 1) pe_int (fun _ _ => rfl)) (pa_cons (pe_ix (r := rIxT K) ix_tup (pv 1) pe_int (fun _ _ => rfl)) pa_nil)))))
      (pss_cons (ps_setLc (i := 3) (own := [("one", 6)]) (g := gName 6) rfl sclaw.nd rfl rfl (sw_true rfl rfl rfl (by decide +kernel)) (pi_list (pv 2)) (blkOk_by (own := [("one", 6)]) (N := ["script", "room", "stands", "ends", "endless", "found", "one"]) (sc := defScope slaw) (by decide +kernel)) (fun _ _ _ _ _ => pg_name (i := 6) sclaw.nd rfl (Or.inl rfl)) (fun _ _ _ _ _ => (pts_one (pt_cmpR (r := rEqD K) (op_eqD hr.units) (pe_call G_law_movable (hr.mono (by omega)) (by rfl) T.m__law_movable T.F__law_movable.kp T.b__law_movable .nil pass0 (pa_cons (pe_ix (r := rIxT K) ix_tup (pv 1) pe_int (fun _ _ => rfl)) (pa_cons (pe_ix (r := rIxT K) ix_tup (pv 1) pe_int (fun _ _ => rfl)) (pa_cons (pv 6) pa_nil)))) (pe_lst pa_nil) (nomark _)))) (fun _ _ _ _ _ => (pv 6)))
      (pss_cons (ps_set (i := 4) sclaw.nd rfl (Or.inl rfl) (pe_call G_law_endless (hr.mono (by omega)) (by rfl) T.m__law_endless T.F__law_endless.kp T.b__law_endless .nil pass0 (pa_cons (pe_ix (r := rIxT K) ix_tup (pv 1) pe_int (fun _ _ => rfl)) (pa_cons (pe_ix (r := rIxT K) ix_tup (pv 1) pe_int (fun _ _ => rfl)) (pa_cons (pv 2) pa_nil)))))
      (pss_cons (ps_set (i := 5) sclaw.nd rfl (Or.inl rfl) (pe_ix (r := rIxT K) ix_tup (pe_call Gjudged (hr.mono (by omega)) (by rfl) T.m_judged T.F_judged.kp T.b_judged .nil pass0 (pa_cons (pe_ix (r := rIxT K) ix_tup (pv 1) pe_int (fun _ _ => rfl)) (pa_cons (pe_ix (r := rIxT K) ix_tup (pv 1) pe_int (fun _ _ => rfl)) (pa_cons (pe_ix (r := rIxT K) ix_tup (pv 1) pe_int (fun _ _ => rfl)) pa_nil)))) pe_int (fun _ _ => rfl)))
      (pss_cons (ps_if (pt_cmpR op_eq (pv 5) pe_str (nomark _)) (pss_one (ps_ret (pe_and (pe_not (pv 4)) (pe_one (pe_cmpR op_eq (pe_callB (r := rLenSeq K) call_len_seq (by rfl) T.n_len PySem.boot_len (pa_cons (pv 3) pa_nil)) pe_int (nomark _)))))) pss_nil)
      (pss_cons (ps_if (pt_cmpR op_eq (pv 5) pe_str (nomark _)) (pss_one (ps_ret (pe_cmpR op_gt (pe_callB (r := rLenSeq K) call_len_seq (by rfl) T.n_len PySem.boot_len (pa_cons (pv 3) pa_nil)) pe_int (nomark _)))) pss_nil)
      (pss_one (ps_ret (pe_and (pe_cmpR op_eq (pv 5) pe_str (nomark _)) (pe_one (pv 4)))))))))))), ?_⟩
  wtm_at "rd"
  refine ⟨a, ns, rfl, hS, fun H1 p b pr st n m ws us ps ss R => ?_⟩
  have B1 := R.board
  have p1 := R.tup
  have pr1 := R.pr
  have st1 := R.st
  have h6 := B1.n6
  refine ⟨_, rfl, p, _, 0, _, rfl, rfl, .of p1, atI_nat (j := 0) rfl, _, rfl, p, _, 1, _, rfl, rfl, .of p1, atI_nat (j := 1) rfl, _, rfl, p, _, 2, _, rfl, rfl, .of p1, atI_nat (j := 2) rfl, b, pr, st, n, m, us, ws, ps, ss, rfl, B1, pr1, st1, R.slen, R.plen, fun H2 sa vs2 sts s2 n2 e2 T2 S => ?_⟩
  have hsts := S.le (by rw [R.slen]; exact h6)
  have hvl := T2.length
  refine ⟨_, rfl, sa, rfl, ⟨_, .of e2⟩, fun D nD => lc_list (K := K) (a := sa) (xs := vs2) (fun i H' => Same H2 H' ∧ ∃ ys, H' D = some (.lst ys) ∧ Tups H' ((sts.take i).filter fun t => decide (movL ws ps t = [])) ys) ?_ ?_ ?_ ?_⟩
  · exact ⟨Same.new nD, [], upd_same, .nil⟩
  · rintro i H' _ ⟨s', _⟩
    exact .of (s' _ _ e2)
  · rintro i v H3 hi ⟨s3, ys, hD, hY⟩
    obtain ⟨t, ht, ta, rfl, eta⟩ := paired_get T2 hi
    have htl : t.length = n := by rw [((S.mem t).mp (List.mem_of_getElem? ht)).len, R.slen]
    have s13 := s2.trans s3
    refine ⟨rfl, ?_⟩
    refine ⟨_, rfl, p, _, 0, _, rfl, rfl, .of (s13 _ _ p1), atI_nat (j := 0) rfl, _, rfl, p, _, 1, _, rfl, rfl, .of (s13 _ _ p1), atI_nat (j := 1) rfl, _, rfl, b, pr, ta, n, m, us, ws, ps, t, rfl, B1.same s13, s13 _ _ pr1, s3 _ _ eta, htl, R.plen, fun H4 c s4 nc ec => ?_⟩
    refine ⟨Nat.zero_le _, ?_⟩
    wtm_at "new X H5 s5 e5"
    refine ⟨_, _, dpI (s5 _ _ ec), dpI (ks := []) e5, (shI _).shaped (by decide), (shI _).shaped (by decide), _, rfl, ?_⟩
    rw [eqv_il]
    have s45 := s4.trans s5
    have hyl := hY.length
    have hfl := List.length_filter_le (fun t => decide (movL ws ps t = [])) (sts.take i)
    rw [List.length_take] at hfl
    have hD5 := s45 _ _ hD
    refine iB (fun z => ?_) (fun z => ?_)
    · have t5 : Tk H5 (upd H5 D (.lst (ys ++ [.ref ta]))) := Tk.lst hD5
      refine ⟨_, rfl, ys, hD5, small11 (by omega), Same.lst (s3.trans s45) nD, _, upd_same, ?_⟩
      rw [take_filt _ ht, if_pos z]
      exact paired_snoc (Tups.tk ((Same.tk s45).trans t5) hY) ⟨ta, rfl, t5 _ _ ((s3.trans s45) _ _ eta)⟩
    · refine ⟨s3.trans s45, ys, hD5, ?_⟩
      rw [take_filt _ ht, if_neg (by rw [z]; decide)]
      exact Tups.same s45 hY
  rintro H3 ⟨s3, ys, hD, hY⟩
  rw [← hvl, List.take_length] at hY
  have s13 := s2.trans s3
  refine ⟨_, rfl, p, _, 0, _, rfl, rfl, .of (s13 _ _ p1), atI_nat (j := 0) rfl, _, rfl, p, _, 1, _, rfl, rfl, .of (s13 _ _ p1), atI_nat (j := 1) rfl, _, rfl, b, pr, sa, n, m, us, vs2, ws, ps, ss, sts, rfl, B1.same s13, s13 _ _ pr1, s3 _ _ e2, Tups.same s3 T2, S, R.slen, R.plen, fun H4 e s4 he1 he2 => ?_⟩
  have s14 := s13.trans s4
  refine ⟨_, rfl, p, _, 0, _, rfl, rfl, .of (s14 _ _ p1), atI_nat (j := 0) rfl, _, rfl, p, _, 1, _, rfl, rfl, .of (s14 _ _ p1), atI_nat (j := 1) rfl, _, rfl, p, _, 2, _, rfl, rfl, .of (s14 _ _ p1), atI_nat (j := 2) rfl, b, pr, st, n, m, us, ws, ps, ss, rfl, B1.same s14, s14 _ _ pr1, s14 _ _ st1, R.slen, R.plen, fun H5 f s5 J => ?_⟩
  have hD5 := s5 _ _ (s4 _ _ hD)
  have hyl := hY.length
  have memE : ∀ t, t ∈ sts.filter (fun t => decide (movL ws ps t = [])) ↔ t ∈ sts ∧ movL ws ps t = [] := fun t => by
    rw [List.mem_filter]
    exact ⟨fun ⟨a1, a2⟩ => ⟨a1, of_decide_eq_true a2⟩, fun ⟨a1, a2⟩ => ⟨a1, decide_eq_true a2⟩⟩
  have ndE : (sts.filter (fun t => decide (movL ws ps t = []))).Nodup := S.nodup.filter _
  rcases J with ⟨x, d, rest, P, ep, ee, nd, dd, SE⟩ | ⟨a1, a2, r1, r2, t1, t2, ep, n1, n2, e1, e2', l1, l2, RR⟩ | ⟨a1, a2, r1, r2, t, ep, n1, n2, e1, e2', l1, l2, RR⟩
  · refine ⟨f, _, 0, _, rfl, rfl, .of ep, atI_nat (j := 0) rfl, ?_⟩
    refine ⟨_, rfl, rfl, _, rfl, ?_⟩
    refine iT (decide_eq_true rfl) ?_
    have hef := he1 ⟨P, SE.falls, fun t ht => (SE.stands.mem t).mpr ((S.mem t).mp ht)⟩
    subst hef
    refine ⟨_, rfl, _, rfl, true, rfl, iteT ?_⟩
    refine ⟨_, rfl, D, ys, rfl, .inl (.of hD5), rfl, ?_⟩
    have h1 : (sts.filter (fun t => decide (movL ws ps t = []))).length = 1 := by
      have a := nodup_len ndE (m := [rest]) fun t ht => by
        obtain ⟨h1, h2⟩ := (memE t).mp ht
        exact List.mem_singleton.mpr ((SE.rest t ((SE.stands.mem t).mpr ((S.mem t).mp h1))).mp h2)
      have b := List.length_pos_of_mem ((memE rest).mpr ⟨(S.mem rest).mpr ((SE.stands.mem rest).mp SE.here), (SE.rest rest SE.here).mpr rfl⟩)
      rw [List.length_singleton] at a
      omega
    have := q H5
    rw [← hyl, h1]
    exact this
  · refine ⟨f, _, 0, _, rfl, rfl, .of ep, atI_nat (j := 0) rfl, ?_⟩
    refine ⟨_, rfl, rfl, _, rfl, ?_⟩
    refine iF (decide_eq_false (by decide +kernel)) ?_
    refine ⟨_, rfl, rfl, _, rfl, ?_⟩
    refine iT (decide_eq_true rfl) ?_
    refine ⟨_, rfl, D, ys, rfl, .inl (.of hD5), _, _, rfl, rfl, ?_⟩
    have a := nodup_len (l := [t1, t2]) (m := sts.filter (fun t => decide (movL ws ps t = []))) (List.nodup_cons.mpr ⟨fun h => RR.ne (List.mem_singleton.mp h), List.nodup_cons.mpr ⟨(fun h => nomatch h), List.nodup_nil⟩⟩) fun t ht => by
      rcases List.mem_cons.mp ht with rfl | ht
      · exact (memE t).mpr ⟨(S.mem t).mpr ⟨_, RR.road1⟩, RR.rest1⟩
      · rw [List.mem_singleton.mp ht]; exact (memE t2).mpr ⟨(S.mem t2).mpr ⟨_, RR.road2⟩, RR.rest2⟩
    have h2 : (2 : Nat) ≤ (sts.filter (fun t => decide (movL ws ps t = []))).length := a
    show Q (V.bl (decide ((1 : Int) < (ys.length : Int)))) H5
    rw [decide_eq_true (show (1 : Int) < (ys.length : Int) by omega)]
    exact q H5
  · refine ⟨f, _, 0, _, rfl, rfl, .of ep, atI_nat (j := 0) rfl, ?_⟩
    refine ⟨_, rfl, rfl, _, rfl, ?_⟩
    refine iF (decide_eq_false (by decide +kernel)) ?_
    refine ⟨_, rfl, rfl, _, rfl, ?_⟩
    refine iF (decide_eq_false (by decide +kernel)) ?_
    refine ⟨_, rfl, rfl, _, rfl, ?_⟩
    refine iT (decide_eq_true rfl) ?_
    have het := he2 ⟨t, (S.mem t).mpr ⟨_, RR.road⟩, r2, RR.ne, RR.ring⟩
    subst het
    exact ⟨_, rfl, q H5⟩

end
theorem all_mk {l : PySem.W.OpenLaw} {w : World} {K : PySem.W.Frag} {h : Heap} {mg : Str → Option Value} {fa : Addr} (X : K.In h) (G : h.Ns mainGlobals mg) (hfa : mg "law" = some (.ref fa))
    {f0 f1 f2 f3 f4 f5 f6 f7 f8 f9 f10 f11 f12 f13 f14 f15 f16 f17 f18 f19 f20 f21 f22 : Addr}
    {od0 an0 : Option Addr} {sl0 : Array (Option Value)} {oc0 kV0 dc0 pm0 cd0 ct0 : Value}
    (a0 : PySem.W.nsIn K mainGlobals "worth" = some (some (.ref f0))) (l0 : K.lookup f0 = some ⟨oc0, od0, .func (PySem.W.fnOf "worth" "worth" (defArgs sworth) (defBody sworth) (defScope sworth) .none kV0 dc0 pm0 an0 cd0 ct0), sl0⟩) (c0 : PySem.W.codeIn K cd0 "worth" = true) (k0 : PySem.W.keepIn K (.ref f0) = true)
    {od1 an1 : Option Addr} {sl1 : Array (Option Value)} {oc1 kV1 dc1 pm1 cd1 ct1 : Value}
    (a1 : PySem.W.nsIn K mainGlobals "can_move" = some (some (.ref f1))) (l1 : K.lookup f1 = some ⟨oc1, od1, .func (PySem.W.fnOf "can_move" "can_move" (defArgs scan_move) (defBody scan_move) (defScope scan_move) .none kV1 dc1 pm1 an1 cd1 ct1), sl1⟩) (c1 : PySem.W.codeIn K cd1 "can_move" = true) (k1 : PySem.W.keepIn K (.ref f1) = true)
    {od2 an2 : Option Addr} {sl2 : Array (Option Value)} {oc2 kV2 dc2 pm2 cd2 ct2 : Value}
    (a2 : PySem.W.nsIn K mainGlobals "movable" = some (some (.ref f2))) (l2 : K.lookup f2 = some ⟨oc2, od2, .func (PySem.W.fnOf "movable" "movable" (defArgs smovable) (defBody smovable) (defScope smovable) .none kV2 dc2 pm2 an2 cd2 ct2), sl2⟩) (c2 : PySem.W.codeIn K cd2 "movable" = true) (k2 : PySem.W.keepIn K (.ref f2) = true)
    {od3 an3 : Option Addr} {sl3 : Array (Option Value)} {oc3 kV3 dc3 pm3 cd3 ct3 : Value}
    (a3 : PySem.W.nsIn K mainGlobals "moved" = some (some (.ref f3))) (l3 : K.lookup f3 = some ⟨oc3, od3, .func (PySem.W.fnOf "moved" "moved" (defArgs smoved) (defBody smoved) (defScope smoved) .none kV3 dc3 pm3 an3 cd3 ct3), sl3⟩) (c3 : PySem.W.codeIn K cd3 "moved" = true) (k3 : PySem.W.keepIn K (.ref f3) = true)
    {od4 an4 : Option Addr} {sl4 : Array (Option Value)} {oc4 kV4 dc4 pm4 cd4 ct4 : Value}
    (a4 : PySem.W.nsIn K mainGlobals "come_to" = some (some (.ref f4))) (l4 : K.lookup f4 = some ⟨oc4, od4, .func (PySem.W.fnOf "come_to" "come_to" (defArgs scome_to) (defBody scome_to) (defScope scome_to) .none kV4 dc4 pm4 an4 cd4 ct4), sl4⟩) (c4 : PySem.W.codeIn K cd4 "come_to" = true) (k4 : PySem.W.keepIn K (.ref f4) = true)
    {od5 an5 : Option Addr} {sl5 : Array (Option Value)} {oc5 kV5 dc5 pm5 cd5 ct5 : Value}
    (a5 : PySem.W.nsIn K mainGlobals "numbered" = some (some (.ref f5))) (l5 : K.lookup f5 = some ⟨oc5, od5, .func (PySem.W.fnOf "numbered" "numbered" (defArgs snumbered) (defBody snumbered) (defScope snumbered) .none kV5 dc5 pm5 an5 cd5 ct5), sl5⟩) (c5 : PySem.W.codeIn K cd5 "numbered" = true) (k5 : PySem.W.keepIn K (.ref f5) = true)
    {od6 an6 : Option Addr} {sl6 : Array (Option Value)} {oc6 kV6 dc6 pm6 cd6 ct6 : Value}
    (a6 : PySem.W.nsIn K mainGlobals "ring_from" = some (some (.ref f6))) (l6 : K.lookup f6 = some ⟨oc6, od6, .func (PySem.W.fnOf "ring_from" "ring_from" (defArgs sring_from) (defBody sring_from) (defScope sring_from) .none kV6 dc6 pm6 an6 cd6 ct6), sl6⟩) (c6 : PySem.W.codeIn K cd6 "ring_from" = true) (k6 : PySem.W.keepIn K (.ref f6) = true)
    {od7 an7 : Option Addr} {sl7 : Array (Option Value)} {oc7 kV7 dc7 pm7 cd7 ct7 : Value}
    (a7 : PySem.W.nsIn K mainGlobals "judged" = some (some (.ref f7))) (l7 : K.lookup f7 = some ⟨oc7, od7, .func (PySem.W.fnOf "judged" "judged" (defArgs sjudged) (defBody sjudged) (defScope sjudged) .none kV7 dc7 pm7 an7 cd7 ct7), sl7⟩) (c7 : PySem.W.codeIn K cd7 "judged" = true) (k7 : PySem.W.keepIn K (.ref f7) = true)
    {od8 an8 : Option Addr} {sl8 : Array (Option Value)} {oc8 kV8 dc8 pm8 cd8 ct8 : Value}
    (a8 : PySem.W.nsIn K mainGlobals "_law_cell_at" = some (some (.ref f8))) (l8 : K.lookup f8 = some ⟨oc8, od8, .func (PySem.W.fnOf "_law_cell_at" "_law_cell_at" (defArgs s_law_cell_at) (defBody s_law_cell_at) (defScope s_law_cell_at) .none kV8 dc8 pm8 an8 cd8 ct8), sl8⟩) (c8 : PySem.W.codeIn K cd8 "_law_cell_at" = true) (k8 : PySem.W.keepIn K (.ref f8) = true)
    {od9 an9 : Option Addr} {sl9 : Array (Option Value)} {oc9 kV9 dc9 pm9 cd9 ct9 : Value}
    (a9 : PySem.W.nsIn K mainGlobals "_law_pick" = some (some (.ref f9))) (l9 : K.lookup f9 = some ⟨oc9, od9, .func (PySem.W.fnOf "_law_pick" "_law_pick" (defArgs s_law_pick) (defBody s_law_pick) (defScope s_law_pick) .none kV9 dc9 pm9 an9 cd9 ct9), sl9⟩) (c9 : PySem.W.codeIn K cd9 "_law_pick" = true) (k9 : PySem.W.keepIn K (.ref f9) = true)
    {od10 an10 : Option Addr} {sl10 : Array (Option Value)} {oc10 kV10 dc10 pm10 cd10 ct10 : Value}
    (a10 : PySem.W.nsIn K mainGlobals "_law_mix" = some (some (.ref f10))) (l10 : K.lookup f10 = some ⟨oc10, od10, .func (PySem.W.fnOf "_law_mix" "_law_mix" (defArgs s_law_mix) (defBody s_law_mix) (defScope s_law_mix) .none kV10 dc10 pm10 an10 cd10 ct10), sl10⟩) (c10 : PySem.W.codeIn K cd10 "_law_mix" = true) (k10 : PySem.W.keepIn K (.ref f10) = true)
    {od11 an11 : Option Addr} {sl11 : Array (Option Value)} {oc11 kV11 dc11 pm11 cd11 ct11 : Value}
    (a11 : PySem.W.nsIn K mainGlobals "_law_leaf" = some (some (.ref f11))) (l11 : K.lookup f11 = some ⟨oc11, od11, .func (PySem.W.fnOf "_law_leaf" "_law_leaf" (defArgs s_law_leaf) (defBody s_law_leaf) (defScope s_law_leaf) .none kV11 dc11 pm11 an11 cd11 ct11), sl11⟩) (c11 : PySem.W.codeIn K cd11 "_law_leaf" = true) (k11 : PySem.W.keepIn K (.ref f11) = true)
    {od12 an12 : Option Addr} {sl12 : Array (Option Value)} {oc12 kV12 dc12 pm12 cd12 ct12 : Value}
    (a12 : PySem.W.nsIn K mainGlobals "_law_word" = some (some (.ref f12))) (l12 : K.lookup f12 = some ⟨oc12, od12, .func (PySem.W.fnOf "_law_word" "_law_word" (defArgs s_law_word) (defBody s_law_word) (defScope s_law_word) .none kV12 dc12 pm12 an12 cd12 ct12), sl12⟩) (c12 : PySem.W.codeIn K cd12 "_law_word" = true) (k12 : PySem.W.keepIn K (.ref f12) = true)
    {od13 an13 : Option Addr} {sl13 : Array (Option Value)} {oc13 kV13 dc13 pm13 cd13 ct13 : Value}
    (a13 : PySem.W.nsIn K mainGlobals "_law_board" = some (some (.ref f13))) (l13 : K.lookup f13 = some ⟨oc13, od13, .func (PySem.W.fnOf "_law_board" "_law_board" (defArgs s_law_board) (defBody s_law_board) (defScope s_law_board) .none kV13 dc13 pm13 an13 cd13 ct13), sl13⟩) (c13 : PySem.W.codeIn K cd13 "_law_board" = true) (k13 : PySem.W.keepIn K (.ref f13) = true)
    {od14 an14 : Option Addr} {sl14 : Array (Option Value)} {oc14 kV14 dc14 pm14 cd14 ct14 : Value}
    (a14 : PySem.W.nsIn K mainGlobals "_law_bits" = some (some (.ref f14))) (l14 : K.lookup f14 = some ⟨oc14, od14, .func (PySem.W.fnOf "_law_bits" "_law_bits" (defArgs s_law_bits) (defBody s_law_bits) (defScope s_law_bits) .none kV14 dc14 pm14 an14 cd14 ct14), sl14⟩) (c14 : PySem.W.codeIn K cd14 "_law_bits" = true) (k14 : PySem.W.keepIn K (.ref f14) = true)
    {od15 an15 : Option Addr} {sl15 : Array (Option Value)} {oc15 kV15 dc15 pm15 cd15 ct15 : Value}
    (a15 : PySem.W.nsIn K mainGlobals "_law_wrapped" = some (some (.ref f15))) (l15 : K.lookup f15 = some ⟨oc15, od15, .func (PySem.W.fnOf "_law_wrapped" "_law_wrapped" (defArgs s_law_wrapped) (defBody s_law_wrapped) (defScope s_law_wrapped) .none kV15 dc15 pm15 an15 cd15 ct15), sl15⟩) (c15 : PySem.W.codeIn K cd15 "_law_wrapped" = true) (k15 : PySem.W.keepIn K (.ref f15) = true)
    {od16 an16 : Option Addr} {sl16 : Array (Option Value)} {oc16 kV16 dc16 pm16 cd16 ct16 : Value}
    (a16 : PySem.W.nsIn K mainGlobals "_law_room" = some (some (.ref f16))) (l16 : K.lookup f16 = some ⟨oc16, od16, .func (PySem.W.fnOf "_law_room" "_law_room" (defArgs s_law_room) (defBody s_law_room) (defScope s_law_room) .none kV16 dc16 pm16 an16 cd16 ct16), sl16⟩) (c16 : PySem.W.codeIn K cd16 "_law_room" = true) (k16 : PySem.W.keepIn K (.ref f16) = true)
    {od17 an17 : Option Addr} {sl17 : Array (Option Value)} {oc17 kV17 dc17 pm17 cd17 ct17 : Value}
    (a17 : PySem.W.nsIn K mainGlobals "_law_worth" = some (some (.ref f17))) (l17 : K.lookup f17 = some ⟨oc17, od17, .func (PySem.W.fnOf "_law_worth" "_law_worth" (defArgs s_law_worth) (defBody s_law_worth) (defScope s_law_worth) .none kV17 dc17 pm17 an17 cd17 ct17), sl17⟩) (c17 : PySem.W.codeIn K cd17 "_law_worth" = true) (k17 : PySem.W.keepIn K (.ref f17) = true)
    {od18 an18 : Option Addr} {sl18 : Array (Option Value)} {oc18 kV18 dc18 pm18 cd18 ct18 : Value}
    (a18 : PySem.W.nsIn K mainGlobals "_law_movable" = some (some (.ref f18))) (l18 : K.lookup f18 = some ⟨oc18, od18, .func (PySem.W.fnOf "_law_movable" "_law_movable" (defArgs s_law_movable) (defBody s_law_movable) (defScope s_law_movable) .none kV18 dc18 pm18 an18 cd18 ct18), sl18⟩) (c18 : PySem.W.codeIn K cd18 "_law_movable" = true) (k18 : PySem.W.keepIn K (.ref f18) = true)
    {od19 an19 : Option Addr} {sl19 : Array (Option Value)} {oc19 kV19 dc19 pm19 cd19 ct19 : Value}
    (a19 : PySem.W.nsIn K mainGlobals "_law_moved" = some (some (.ref f19))) (l19 : K.lookup f19 = some ⟨oc19, od19, .func (PySem.W.fnOf "_law_moved" "_law_moved" (defArgs s_law_moved) (defBody s_law_moved) (defScope s_law_moved) .none kV19 dc19 pm19 an19 cd19 ct19), sl19⟩) (c19 : PySem.W.codeIn K cd19 "_law_moved" = true) (k19 : PySem.W.keepIn K (.ref f19) = true)
    {od20 an20 : Option Addr} {sl20 : Array (Option Value)} {oc20 kV20 dc20 pm20 cd20 ct20 : Value}
    (a20 : PySem.W.nsIn K mainGlobals "_law_reach" = some (some (.ref f20))) (l20 : K.lookup f20 = some ⟨oc20, od20, .func (PySem.W.fnOf "_law_reach" "_law_reach" (defArgs s_law_reach) (defBody s_law_reach) (defScope s_law_reach) .none kV20 dc20 pm20 an20 cd20 ct20), sl20⟩) (c20 : PySem.W.codeIn K cd20 "_law_reach" = true) (k20 : PySem.W.keepIn K (.ref f20) = true)
    {od21 an21 : Option Addr} {sl21 : Array (Option Value)} {oc21 kV21 dc21 pm21 cd21 ct21 : Value}
    (a21 : PySem.W.nsIn K mainGlobals "_law_endless" = some (some (.ref f21))) (l21 : K.lookup f21 = some ⟨oc21, od21, .func (PySem.W.fnOf "_law_endless" "_law_endless" (defArgs s_law_endless) (defBody s_law_endless) (defScope s_law_endless) .none kV21 dc21 pm21 an21 cd21 ct21), sl21⟩) (c21 : PySem.W.codeIn K cd21 "_law_endless" = true) (k21 : PySem.W.keepIn K (.ref f21) = true)
    {od22 an22 : Option Addr} {sl22 : Array (Option Value)} {oc22 kV22 dc22 pm22 cd22 ct22 : Value}
    (a22 : PySem.W.nsIn K mainGlobals "law" = some (some (.ref f22))) (l22 : K.lookup f22 = some ⟨oc22, od22, .func (PySem.W.fnOf "law" "law" (defArgs slaw) (defBody slaw) (defScope slaw) .none kV22 dc22 pm22 an22 cd22 ct22), sl22⟩) (c22 : PySem.W.codeIn K cd22 "law" = true) (k22 : PySem.W.keepIn K (.ref f22) = true)
    (z_range : PySem.W.nsIn K mainGlobals "range" = some none)
    (z_len : PySem.W.nsIn K mainGlobals "len" = some none)
    (z_all : PySem.W.nsIn K mainGlobals "all" = some none)
    (z_max : PySem.W.nsIn K mainGlobals "max" = some none)
    (z_list : PySem.W.nsIn K mainGlobals "list" = some none)
    (z_tuple : PySem.W.nsIn K mainGlobals "tuple" = some none)
    (z_int : PySem.W.nsIn K mainGlobals "int" = some none)
    (z_dict : PySem.W.nsIn K mainGlobals "dict" = some none)
    : ∃ fd : FuncData, (∀ (s : Shared) (v : Value), BindsTo s fd ⟨[v], []⟩ [("script", v)]) ∧ ∀ base : Heap, K.In base → base.Ns mainGlobals mg → FnOk l.prog w K mg base CX0 15 fa fd ["script"] (sp_law K) := by
  have e := hfa.symm.trans (PySem.W.mg_of X G a22)
  cases e
  have F0 := fun_mk (st := sworth) l0 c0 k0
  have F1 := fun_mk (st := scan_move) l1 c1 k1
  have F2 := fun_mk (st := smovable) l2 c2 k2
  have F3 := fun_mk (st := smoved) l3 c3 k3
  have F4 := fun_mk (st := scome_to) l4 c4 k4
  have F5 := fun_mk (st := snumbered) l5 c5 k5
  have F6 := fun_mk (st := sring_from) l6 c6 k6
  have F7 := fun_mk (st := sjudged) l7 c7 k7
  have F8 := fun_mk (st := s_law_cell_at) l8 c8 k8
  have F9 := fun_mk (st := s_law_pick) l9 c9 k9
  have F10 := fun_mk (st := s_law_mix) l10 c10 k10
  have F11 := fun_mk (st := s_law_leaf) l11 c11 k11
  have F12 := fun_mk (st := s_law_word) l12 c12 k12
  have F13 := fun_mk (st := s_law_board) l13 c13 k13
  have F14 := fun_mk (st := s_law_bits) l14 c14 k14
  have F15 := fun_mk (st := s_law_wrapped) l15 c15 k15
  have F16 := fun_mk (st := s_law_room) l16 c16 k16
  have F17 := fun_mk (st := s_law_worth) l17 c17 k17
  have F18 := fun_mk (st := s_law_movable) l18 c18 k18
  have F19 := fun_mk (st := s_law_moved) l19 c19 k19
  have F20 := fun_mk (st := s_law_reach) l20 c20 k20
  have F21 := fun_mk (st := s_law_endless) l21 c21 k21
  have F22 := fun_mk (st := slaw) l22 c22 k22
  have T : Txt K mg { aworth := f0, acan_move := f1, amovable := f2, amoved := f3, acome_to := f4, anumbered := f5, aring_from := f6, ajudged := f7, a_law_cell_at := f8, a_law_pick := f9, a_law_mix := f10, a_law_leaf := f11, a_law_word := f12, a_law_board := f13, a_law_bits := f14, a_law_wrapped := f15, a_law_room := f16, a_law_worth := f17, a_law_movable := f18, a_law_moved := f19, a_law_reach := f20, a_law_endless := f21, alaw := fa, dworth := (PySem.W.fnOf "worth" "worth" (defArgs sworth) (defBody sworth) (defScope sworth) .none kV0 dc0 pm0 an0 cd0 ct0), dcan_move := (PySem.W.fnOf "can_move" "can_move" (defArgs scan_move) (defBody scan_move) (defScope scan_move) .none kV1 dc1 pm1 an1 cd1 ct1), dmovable := (PySem.W.fnOf "movable" "movable" (defArgs smovable) (defBody smovable) (defScope smovable) .none kV2 dc2 pm2 an2 cd2 ct2), dmoved := (PySem.W.fnOf "moved" "moved" (defArgs smoved) (defBody smoved) (defScope smoved) .none kV3 dc3 pm3 an3 cd3 ct3), dcome_to := (PySem.W.fnOf "come_to" "come_to" (defArgs scome_to) (defBody scome_to) (defScope scome_to) .none kV4 dc4 pm4 an4 cd4 ct4), dnumbered := (PySem.W.fnOf "numbered" "numbered" (defArgs snumbered) (defBody snumbered) (defScope snumbered) .none kV5 dc5 pm5 an5 cd5 ct5), dring_from := (PySem.W.fnOf "ring_from" "ring_from" (defArgs sring_from) (defBody sring_from) (defScope sring_from) .none kV6 dc6 pm6 an6 cd6 ct6), djudged := (PySem.W.fnOf "judged" "judged" (defArgs sjudged) (defBody sjudged) (defScope sjudged) .none kV7 dc7 pm7 an7 cd7 ct7), d_law_cell_at := (PySem.W.fnOf "_law_cell_at" "_law_cell_at" (defArgs s_law_cell_at) (defBody s_law_cell_at) (defScope s_law_cell_at) .none kV8 dc8 pm8 an8 cd8 ct8), d_law_pick := (PySem.W.fnOf "_law_pick" "_law_pick" (defArgs s_law_pick) (defBody s_law_pick) (defScope s_law_pick) .none kV9 dc9 pm9 an9 cd9 ct9), d_law_mix := (PySem.W.fnOf "_law_mix" "_law_mix" (defArgs s_law_mix) (defBody s_law_mix) (defScope s_law_mix) .none kV10 dc10 pm10 an10 cd10 ct10), d_law_leaf := (PySem.W.fnOf "_law_leaf" "_law_leaf" (defArgs s_law_leaf) (defBody s_law_leaf) (defScope s_law_leaf) .none kV11 dc11 pm11 an11 cd11 ct11), d_law_word := (PySem.W.fnOf "_law_word" "_law_word" (defArgs s_law_word) (defBody s_law_word) (defScope s_law_word) .none kV12 dc12 pm12 an12 cd12 ct12), d_law_board := (PySem.W.fnOf "_law_board" "_law_board" (defArgs s_law_board) (defBody s_law_board) (defScope s_law_board) .none kV13 dc13 pm13 an13 cd13 ct13), d_law_bits := (PySem.W.fnOf "_law_bits" "_law_bits" (defArgs s_law_bits) (defBody s_law_bits) (defScope s_law_bits) .none kV14 dc14 pm14 an14 cd14 ct14), d_law_wrapped := (PySem.W.fnOf "_law_wrapped" "_law_wrapped" (defArgs s_law_wrapped) (defBody s_law_wrapped) (defScope s_law_wrapped) .none kV15 dc15 pm15 an15 cd15 ct15), d_law_room := (PySem.W.fnOf "_law_room" "_law_room" (defArgs s_law_room) (defBody s_law_room) (defScope s_law_room) .none kV16 dc16 pm16 an16 cd16 ct16), d_law_worth := (PySem.W.fnOf "_law_worth" "_law_worth" (defArgs s_law_worth) (defBody s_law_worth) (defScope s_law_worth) .none kV17 dc17 pm17 an17 cd17 ct17), d_law_movable := (PySem.W.fnOf "_law_movable" "_law_movable" (defArgs s_law_movable) (defBody s_law_movable) (defScope s_law_movable) .none kV18 dc18 pm18 an18 cd18 ct18), d_law_moved := (PySem.W.fnOf "_law_moved" "_law_moved" (defArgs s_law_moved) (defBody s_law_moved) (defScope s_law_moved) .none kV19 dc19 pm19 an19 cd19 ct19), d_law_reach := (PySem.W.fnOf "_law_reach" "_law_reach" (defArgs s_law_reach) (defBody s_law_reach) (defScope s_law_reach) .none kV20 dc20 pm20 an20 cd20 ct20), d_law_endless := (PySem.W.fnOf "_law_endless" "_law_endless" (defArgs s_law_endless) (defBody s_law_endless) (defScope s_law_endless) .none kV21 dc21 pm21 an21 cd21 ct21), dlaw := (PySem.W.fnOf "law" "law" (defArgs slaw) (defBody slaw) (defScope slaw) .none kV22 dc22 pm22 an22 cd22 ct22) } := {
    F_worth := F0,
    m_worth := PySem.W.mg_of X G a0,
    b_worth := F0.binds (ps := ["word", "stand", "pressed"]) fun _ _ _ _ _ _ us hl => match us, hl with | [_, _, _], _ => rfl,
    F_can_move := F1,
    m_can_move := PySem.W.mg_of X G a1,
    b_can_move := F1.binds (ps := ["board", "pressed", "stand", "relay"]) fun _ _ _ _ _ _ us hl => match us, hl with | [_, _, _, _], _ => rfl,
    F_movable := F2,
    m_movable := PySem.W.mg_of X G a2,
    b_movable := F2.binds (ps := ["board", "pressed", "stand"]) fun _ _ _ _ _ _ us hl => match us, hl with | [_, _, _], _ => rfl,
    F_moved := F3,
    m_moved := PySem.W.mg_of X G a3,
    b_moved := F3.binds (ps := ["stand", "relay"]) fun _ _ _ _ _ _ us hl => match us, hl with | [_, _], _ => rfl,
    F_come_to := F4,
    m_come_to := PySem.W.mg_of X G a4,
    b_come_to := F4.binds (ps := ["board", "pressed", "stand"]) fun _ _ _ _ _ _ us hl => match us, hl with | [_, _, _], _ => rfl,
    F_numbered := F5,
    m_numbered := PySem.W.mg_of X G a5,
    b_numbered := F5.binds (ps := ["board", "pressed", "stands"]) fun _ _ _ _ _ _ us hl => match us, hl with | [_, _, _], _ => rfl,
    F_ring_from := F6,
    m_ring_from := PySem.W.mg_of X G a6,
    b_ring_from := F6.binds (ps := ["board", "pressed", "stands", "paper"]) fun _ _ _ _ _ _ us hl => match us, hl with | [_, _, _, _], _ => rfl,
    F_judged := F7,
    m_judged := PySem.W.mg_of X G a7,
    b_judged := F7.binds (ps := ["board", "pressed", "stand"]) fun _ _ _ _ _ _ us hl => match us, hl with | [_, _, _], _ => rfl,
    F__law_cell_at := F8,
    m__law_cell_at := PySem.W.mg_of X G a8,
    b__law_cell_at := F8.binds (ps := ["script", "k"]) fun _ _ _ _ _ _ us hl => match us, hl with | [_, _], _ => rfl,
    F__law_pick := F9,
    m__law_pick := PySem.W.mg_of X G a9,
    b__law_pick := F9.binds (ps := ["script", "k"]) fun _ _ _ _ _ _ us hl => match us, hl with | [_, _], _ => rfl,
    F__law_mix := F10,
    m__law_mix := PySem.W.mg_of X G a10,
    b__law_mix := F10.binds (ps := ["cell", "k"]) fun _ _ _ _ _ _ us hl => match us, hl with | [_, _], _ => rfl,
    F__law_leaf := F11,
    m__law_leaf := PySem.W.mg_of X G a11,
    b__law_leaf := F11.binds (ps := ["mixed", "relays", "buttons"]) fun _ _ _ _ _ _ us hl => match us, hl with | [_, _, _], _ => rfl,
    F__law_word := F12,
    m__law_word := PySem.W.mg_of X G a12,
    b__law_word := F12.binds (ps := ["cell", "k", "deep", "relays", "buttons"]) fun _ _ _ _ _ _ us hl => match us, hl with | [_, _, _, _, _], _ => rfl,
    F__law_board := F13,
    m__law_board := PySem.W.mg_of X G a13,
    b__law_board := F13.binds (ps := ["script", "start", "relays", "buttons", "deep"]) fun _ _ _ _ _ _ us hl => match us, hl with | [_, _, _, _, _], _ => rfl,
    F__law_bits := F14,
    m__law_bits := PySem.W.mg_of X G a14,
    b__law_bits := F14.binds (ps := ["number", "size"]) fun _ _ _ _ _ _ us hl => match us, hl with | [_, _], _ => rfl,
    F__law_wrapped := F15,
    m__law_wrapped := PySem.W.mg_of X G a15,
    b__law_wrapped := F15.binds (ps := ["word", "mixed"]) fun _ _ _ _ _ _ us hl => match us, hl with | [_, _], _ => rfl,
    F__law_room := F16,
    m__law_room := PySem.W.mg_of X G a16,
    b__law_room := F16.binds (ps := ["script"]) fun _ _ _ _ _ _ us hl => match us, hl with | [_], _ => rfl,
    F__law_worth := F17,
    m__law_worth := PySem.W.mg_of X G a17,
    b__law_worth := F17.binds (ps := ["word", "stand", "pressed"]) fun _ _ _ _ _ _ us hl => match us, hl with | [_, _, _], _ => rfl,
    F__law_movable := F18,
    m__law_movable := PySem.W.mg_of X G a18,
    b__law_movable := F18.binds (ps := ["board", "pressed", "stand"]) fun _ _ _ _ _ _ us hl => match us, hl with | [_, _, _], _ => rfl,
    F__law_moved := F19,
    m__law_moved := PySem.W.mg_of X G a19,
    b__law_moved := F19.binds (ps := ["stand", "relay"]) fun _ _ _ _ _ _ us hl => match us, hl with | [_, _], _ => rfl,
    F__law_reach := F20,
    m__law_reach := PySem.W.mg_of X G a20,
    b__law_reach := F20.binds (ps := ["board", "pressed", "stand"]) fun _ _ _ _ _ _ us hl => match us, hl with | [_, _, _], _ => rfl,
    F__law_endless := F21,
    m__law_endless := PySem.W.mg_of X G a21,
    b__law_endless := F21.binds (ps := ["board", "pressed", "stands"]) fun _ _ _ _ _ _ us hl => match us, hl with | [_, _, _], _ => rfl,
    F_law := F22,
    m_law := PySem.W.mg_of X G a22,
    b_law := F22.binds (ps := ["script"]) fun _ _ _ _ _ _ us hl => match us, hl with | [_], _ => rfl,
    n_range := PySem.W.mg_none_of X G z_range,
    n_len := PySem.W.mg_none_of X G z_len,
    n_all := PySem.W.mg_none_of X G z_all,
    n_max := PySem.W.mg_none_of X G z_max,
    n_list := PySem.W.mg_none_of X G z_list,
    n_tuple := PySem.W.mg_none_of X G z_tuple,
    n_int := PySem.W.mg_none_of X G z_int,
    n_dict := PySem.W.mg_none_of X G z_dict }
  exact ⟨(PySem.W.fnOf "law" "law" (defArgs slaw) (defBody slaw) (defScope slaw) .none kV22 dc22 pm22 an22 cd22 ct22), fun s v => .of_eq rfl, fun base _ _ => ok_law T⟩
end Rl
open PySem PySem.W PyProof.Rows in
set_option maxRecDepth 100000 in
set_option maxHeartbeats 0 in
theorem PySem.Challenge.cw_relayroom_k07_judged_which_holds : PySem.Challenge.rw_relayroom_k07_judged_which.Holds := by
  w_on; o_law; k_head; (case hw => w_witness2)
  k_fill
  refine L2.walk_of (l := PySem.Challenge.rw_relayroom_k07_judged_which) (n := 63) (k := 15) (x := "script") (CX := fun w => L2.CX0) (sp := fun w => Rl.sp_law _) rfl (by decide) rfl ⟨rfl, by decide, by decide⟩ (fun w h Y => PySem.W.kIn_of Y) ?F (fun _ _ a ns hl _ hS => ⟨a, ns, rfl, hS, hl, fun _ => rfl⟩) (fun _ _ _ _ _ h => h)
  case F =>
    intro w mg fa h KX G hmg
    refine' Rl.all_mk KX G hmg ?a0 ?l0 ?c0 ?k0 ?a1 ?l1 ?c1 ?k1 ?a2 ?l2 ?c2 ?k2 ?a3 ?l3 ?c3 ?k3 ?a4 ?l4 ?c4 ?k4 ?a5 ?l5 ?c5 ?k5 ?a6 ?l6 ?c6 ?k6 ?a7 ?l7 ?c7 ?k7 ?a8 ?l8 ?c8 ?k8 ?a9 ?l9 ?c9 ?k9 ?a10 ?l10 ?c10 ?k10 ?a11 ?l11 ?c11 ?k11 ?a12 ?l12 ?c12 ?k12 ?a13 ?l13 ?c13 ?k13 ?a14 ?l14 ?c14 ?k14 ?a15 ?l15 ?c15 ?k15 ?a16 ?l16 ?c16 ?k16 ?a17 ?l17 ?c17 ?k17 ?a18 ?l18 ?c18 ?k18 ?a19 ?l19 ?c19 ?k19 ?a20 ?l20 ?c20 ?k20 ?a21 ?l21 ?c21 ?k21 ?a22 ?l22 ?c22 ?k22 ?z_range ?z_len ?z_all ?z_max ?z_list ?z_tuple ?z_int ?z_dict
    (case a0 => k_is)
    (case l0 => k_is)
    (case c0 => k_is)
    (case k0 => k_is)
    (case a1 => k_is)
    (case l1 => k_is)
    (case c1 => k_is)
    (case k1 => k_is)
    (case a2 => k_is)
    (case l2 => k_is)
    (case c2 => k_is)
    (case k2 => k_is)
    (case a3 => k_is)
    (case l3 => k_is)
    (case c3 => k_is)
    (case k3 => k_is)
    (case a4 => k_is)
    (case l4 => k_is)
    (case c4 => k_is)
    (case k4 => k_is)
    (case a5 => k_is)
    (case l5 => k_is)
    (case c5 => k_is)
    (case k5 => k_is)
    (case a6 => k_is)
    (case l6 => k_is)
    (case c6 => k_is)
    (case k6 => k_is)
    (case a7 => k_is)
    (case l7 => k_is)
    (case c7 => k_is)
    (case k7 => k_is)
    (case a8 => k_is)
    (case l8 => k_is)
    (case c8 => k_is)
    (case k8 => k_is)
    (case a9 => k_is)
    (case l9 => k_is)
    (case c9 => k_is)
    (case k9 => k_is)
    (case a10 => k_is)
    (case l10 => k_is)
    (case c10 => k_is)
    (case k10 => k_is)
    (case a11 => k_is)
    (case l11 => k_is)
    (case c11 => k_is)
    (case k11 => k_is)
    (case a12 => k_is)
    (case l12 => k_is)
    (case c12 => k_is)
    (case k12 => k_is)
    (case a13 => k_is)
    (case l13 => k_is)
    (case c13 => k_is)
    (case k13 => k_is)
    (case a14 => k_is)
    (case l14 => k_is)
    (case c14 => k_is)
    (case k14 => k_is)
    (case a15 => k_is)
    (case l15 => k_is)
    (case c15 => k_is)
    (case k15 => k_is)
    (case a16 => k_is)
    (case l16 => k_is)
    (case c16 => k_is)
    (case k16 => k_is)
    (case a17 => k_is)
    (case l17 => k_is)
    (case c17 => k_is)
    (case k17 => k_is)
    (case a18 => k_is)
    (case l18 => k_is)
    (case c18 => k_is)
    (case k18 => k_is)
    (case a19 => k_is)
    (case l19 => k_is)
    (case c19 => k_is)
    (case k19 => k_is)
    (case a20 => k_is)
    (case l20 => k_is)
    (case c20 => k_is)
    (case k20 => k_is)
    (case a21 => k_is)
    (case l21 => k_is)
    (case c21 => k_is)
    (case k21 => k_is)
    (case a22 => k_is)
    (case l22 => k_is)
    (case c22 => k_is)
    (case k22 => k_is)
    (case z_range => k_is)
    (case z_len => k_is)
    (case z_all => k_is)
    (case z_max => k_is)
    (case z_list => k_is)
    (case z_tuple => k_is)
    (case z_int => k_is)
    (case z_dict => k_is)
#print axioms PySem.Challenge.cw_relayroom_k07_judged_which_holds
