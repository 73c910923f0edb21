import PyProof.Rows.All
import Wide.All
import OpenK.AllK
import Wide.FinOn
import HandS.ForMost
import HandS.ForExc
import HandS.IsInst
import HandS.ExcIs
import HandS.Flow
import HandS.WideBits
import HandS.Codes
import HandS.TupAny
import HandS.SetBool
import HandS.Conv
import HandS.TupLen
import HandS.Walk
import HandS.Deep
import HandS.SortKw
import KE.KDictDisplayH
import KE.DataMinMax
import HandS.SortOrd
import PyProof.Rows.RuleB_bool
import PySem.Challenge.RW_relayroom_k11_whole_side_by_side
set_option Elab.async false
set_option linter.all false
set_option maxRecDepth 100000
namespace Rl
open PySem L2
/-! ### words -/
inductive W where
  | on | off | relay (k : Int) | button (k : Int) | not (w : W) | and (a b : W) | or (a b : W)
  deriving DecidableEq
def W.depth : W → Nat
  | .not w => w.depth + 1
  | .and a b => max a.depth b.depth + 1
  | .or a b => max a.depth b.depth + 1
  | _ => 1
/-- all contacts are there: n relays, m buttons -/
def W.wired (n m : Nat) : W → Prop
  | .on => True
  | .off => True
  | .relay k => 0 ≤ k ∧ k < (n : Int)
  | .button k => 0 ≤ k ∧ k < (m : Int)
  | .not w => w.wired n m
  | .and a b => a.wired n m ∧ b.wired n m
  | .or a b => a.wired n m ∧ b.wired n m
theorem W.depth_pos : ∀ w : W, 1 ≤ w.depth
  | .on => Nat.le_refl _
  | .off => Nat.le_refl _
  | .relay _ => Nat.le_refl _
  | .button _ => Nat.le_refl _
  | .not _ => Nat.le_add_left _ _
  | .and _ _ => Nat.le_add_left _ _
  | .or _ _ => Nat.le_add_left _ _
def W.eval (st pr : List Bool) : W → Bool
  | .on => true
  | .off => false
  | .relay k => st.getD k.toNat false
  | .button k => pr.getD k.toNat false
  | .not w => !w.eval st pr
  | .and a b => a.eval st pr && b.eval st pr
  | .or a b => a.eval st pr || b.eval st pr
/-- a word stands at a -/
def WA (H : Hp) : W → Addr → Prop
  | .on, a => H a = some (.tup [.str "on"])
  | .off, a => H a = some (.tup [.str "off"])
  | .relay k, a => H a = some (.tup [.str "relay", .int k])
  | .button k, a => H a = some (.tup [.str "button", .int k])
  | .not w, a => ∃ b, H a = some (.tup [.str "not", .ref b]) ∧ WA H w b
  | .and x y, a => ∃ b c, H a = some (.tup [.str "and", .ref b, .ref c]) ∧ WA H x b ∧ WA H y c
  | .or x y, a => ∃ b c, H a = some (.tup [.str "or", .ref b, .ref c]) ∧ WA H x b ∧ WA H y c
/-- tuples stay -/
def Tk (H H' : Hp) : Prop := ∀ b xs, H b = some (.tup xs) → H' b = some (.tup xs)
theorem Tk.refl (H : Hp) : Tk H H := fun _ _ h => h
theorem Tk.trans {H H1 H2 : Hp} (a : Tk H H1) (b : Tk H1 H2) : Tk H H2 := fun c o h => b c o (a c o h)
theorem Same.tk {H H' : Hp} (s : Same H H') : Tk H H' := fun b xs h => s b _ h
theorem Tk.lst {H : Hp} {D : Addr} {xs ys : List V} (h : H D = some (.lst xs)) : Tk H (upd H D (.lst ys)) := fun b zs q => by
  rw [upd_ne (ne_of q h (by intro z; cases z))]; exact q
theorem Tk.new {H : Hp} {p : Addr} {o : HO} (h : H p = none) : Tk H (upd H p o) := fun b zs q => by
  rw [upd_ne (ne_of_none q h)]; exact q
theorem Same.new {H : Hp} {p : Addr} {o : HO} (h : H p = none) : Same H (upd H p o) := fun b u q => by rw [upd_ne (ne_of_none q h)]; exact q
theorem Same.get {H H' : Hp} {b : Addr} {o : HO} (s : Same H H') (h : H b = some o) : H' b = some o := s b o h
theorem Same.lst {H0 H : Hp} {D : Addr} {o : HO} (h : Same H0 H) (n : H0 D = none) : Same H0 (upd H D o) := fun b u q => by
  rw [upd_ne (ne_of_none q n)]; exact h b u q
theorem WA.tk : ∀ {w : W} {H H' : Hp} {a : Addr}, Tk H H' → WA H w a → WA H' w a
  | .on, _, _, _, t, h => t _ _ h
  | .off, _, _, _, t, h => t _ _ h
  | .relay _, _, _, _, t, h => t _ _ h
  | .button _, _, _, _, t, h => t _ _ h
  | .not _, _, _, _, t, h => let ⟨b, e, q⟩ := h; ⟨b, t _ _ e, WA.tk t q⟩
  | .and _ _, _, _, _, t, h => let ⟨b, c, e, q, r⟩ := h; ⟨b, c, t _ _ e, WA.tk t q, WA.tk t r⟩
  | .or _ _, _, _, _, t, h => let ⟨b, c, e, q, r⟩ := h; ⟨b, c, t _ _ e, WA.tk t q, WA.tk t r⟩
theorem WA.same {w : W} {H H' : Hp} {a : Addr} (s : Same H H') (h : WA H w a) : WA H' w a := WA.tk (Same.tk s) h
/-- a list's items are words -/
def WAs (H : Hp) (ws : List W) (vs : List V) : Prop := Paired (fun (w : W) (v : V) => ∃ a, v = .ref a ∧ WA H w a) ws vs
theorem paired_snoc {α β : Type} {F : α → β → Prop} : ∀ {l : List α} {r : List β} {a : α} {b : β}, Paired F l r → F a b → Paired F (l ++ [a]) (r ++ [b])
  | _, _, _, _, .nil, h => .cons h .nil
  | _, _, _, _, .cons r t, h => .cons r (paired_snoc t h)
theorem paired_get {α β : Type} {F : α → β → Prop} : ∀ {l : List α} {r : List β} {i : Nat} {b : β}, Paired F l r → r[i]? = some b → ∃ a, l[i]? = some a ∧ F a b
  | _, _, _, _, .nil, h => by simp at h
  | _, _, 0, _, .cons r t, h => by simp at h; subst h; exact ⟨_, rfl, r⟩
  | _, _, i + 1, b, .cons r t, h => by
    obtain ⟨a, e, q⟩ := paired_get (i := i) (b := b) t (by simpa using h)
    exact ⟨a, by simpa using e, q⟩
theorem paired_getl {α β : Type} {F : α → β → Prop} : ∀ {l : List α} {r : List β} {i : Nat} {a : α}, Paired F l r → l[i]? = some a → ∃ b, r[i]? = some b ∧ F a b
  | _, _, _, _, .nil, h => by simp at h
  | _, _, 0, _, .cons r t, h => by simp at h; subst h; exact ⟨_, rfl, r⟩
  | _, _, i + 1, a, .cons r t, h => by
    obtain ⟨b, e, q⟩ := paired_getl (i := i) (a := a) t (by simpa using h)
    exact ⟨b, by simpa using e, q⟩
theorem WAs.tk {H H' : Hp} {ws : List W} {vs : List V} (t : Tk H H') (h : WAs H ws vs) : WAs H' ws vs := Paired.mapP h fun _ _ ⟨a, e, q⟩ => ⟨a, e, WA.tk t q⟩
theorem WAs.same {H H' : Hp} {ws : List W} {vs : List V} (t : Same H H') (h : WAs H ws vs) : WAs H' ws vs := WAs.tk (Same.tk t) h
theorem WAs.length {H : Hp} {ws : List W} {vs : List V} (h : WAs H ws vs) : ws.length = vs.length := Paired.length h
theorem inV_bl (b : Bool) : ∀ bs : List Bool, inV (.bl b) (bs.map V.bl) = bs.any (fun x => x == b)
  | [] => rfl
  | x :: r => by
    show (eqV (.bl x) (.bl b) || inV (.bl b) (r.map V.bl)) = ((x == b) || r.any (fun x => x == b))
    rw [inV_bl b r]
    cases x <;> cases b <;> rfl
theorem flat_bl : ∀ bs : List Bool, (bs.map V.bl).all flatV = true
  | [] => rfl
  | _ :: r => flat_bl r
def W.parts : W → List W
  | .not w => [w]
  | .and a b => [a, b]
  | .or a b => [a, b]
  | _ => []
theorem cut1 (x : V) (xs : List V) : cutV (x :: xs) (some 1) none = xs := by
  unfold cutV
  rw [show HT.sIx (x :: xs).length 0 (some 1) = min 1 (x :: xs).length from HT.sIx_nat (x :: xs).length 0 1, HT.sIx_none]
  rw [show min 1 (x :: xs).length = 1 by rw [List.length_cons]; omega]
  show List.take ((x :: xs).length - 1) xs = xs
  rw [List.length_cons, Nat.add_sub_cancel]
  exact List.take_length
/-- a word's place, told by its tag and its parts -/
def W.tag : W → Str
  | .on => "on" | .off => "off" | .relay _ => "relay" | .button _ => "button" | .not _ => "not" | .and _ _ => "and" | .or _ _ => "or"
theorem WA.parts {H : Hp} {w : W} {a : Addr} (h : WA H w a) (n1 : ∀ k, w ≠ .relay k) (n2 : ∀ k, w ≠ .button k) : ∃ us, H a = some (.tup (.str w.tag :: us)) ∧ WAs H w.parts us := by
  cases w with
  | on => exact ⟨[], h, .nil⟩
  | off => exact ⟨[], h, .nil⟩
  | relay k => exact absurd rfl (n1 k)
  | button k => exact absurd rfl (n2 k)
  | not x => obtain ⟨b, e, q⟩ := h; exact ⟨_, e, .cons ⟨b, rfl, q⟩ .nil⟩
  | and x y => obtain ⟨b, c, e, q, r⟩ := h; exact ⟨_, e, .cons ⟨b, rfl, q⟩ (.cons ⟨c, rfl, r⟩ .nil)⟩
  | or x y => obtain ⟨b, c, e, q, r⟩ := h; exact ⟨_, e, .cons ⟨b, rfl, q⟩ (.cons ⟨c, rfl, r⟩ .nil)⟩
theorem parts_ok {w x : W} {n m N : Nat} (hx : x ∈ w.parts) (hw : w.wired n m) (hd : w.depth ≤ N + 1) : x.wired n m ∧ x.depth ≤ N := by
  cases w with
  | not y =>
    rcases List.mem_singleton.mp hx with rfl
    exact ⟨hw, Nat.le_of_succ_le_succ hd⟩
  | and y z =>
    have hd' : max y.depth z.depth + 1 ≤ N + 1 := hd
    rcases List.mem_cons.mp hx with rfl | hx
    · exact ⟨hw.1, by omega⟩
    · rcases List.mem_singleton.mp hx with rfl
      exact ⟨hw.2, by omega⟩
  | or y z =>
    have hd' : max y.depth z.depth + 1 ≤ N + 1 := hd
    rcases List.mem_cons.mp hx with rfl | hx
    · exact ⟨hw.1, by omega⟩
    · rcases List.mem_singleton.mp hx with rfl
      exact ⟨hw.2, by omega⟩
  | on => cases hx
  | off => cases hx
  | relay k => cases hx
  | button k => cases hx
/-! ### tests -/
theorem iF {c : Bool} {A B : Prop} (h : c = false) (q : B) : if c = true then A else B := by rw [h]; exact iteF q
theorem iT {c : Bool} {A B : Prop} (h : c = true) (q : A) : if c = true then A else B := by rw [h]; exact iteT q
theorem iB {c : Bool} {A B : Prop} (h1 : c = true → A) (h2 : c = false → B) : if c = true then A else B := by
  cases c with
  | true => exact iteT (h1 rfl)
  | false => exact iteF (h2 rfl)
abbrev rLenSeq (K : PySem.W.Frag) : List V → Hp → VK → Prop := fun xs H Q => ∃ p ys, xs = [.ref p] ∧ (SqL K H p ys ∨ SqT K H p ys) ∧ Q (.int ys.length) H
theorem tag_val {K : PySem.W.Frag} {σ : St} {H : Hp} {Q : VK} {i : Nat} {a : Addr} {t s : Str} {rest : List V} (h : σ[i]? = some (some (.ref a))) (e : H a = some (.tup (.str t :: rest))) (q : Q (.bl (decide (V.str t = V.str s))) H) :
    tOp rEq (tOp (rIxT K) (tVar i) (tC (.int 0))) (tC (.str s)) σ H Q := ⟨_, h, _, _, _, _, rfl, rfl, .of e, atI_nat (j := 0) rfl, rfl, q⟩
theorem tag_test {K : PySem.W.Frag} {σ : St} {H : Hp} {Q : Bool → Hp → Prop} {i : Nat} {a : Addr} {t s : Str} {rest : List V} (h : σ[i]? = some (some (.ref a))) (e : H a = some (.tup (.str t :: rest))) (q : Q (decide (V.str t = V.str s)) H) :
    tTest (tOp rEq (tOp (rIxT K) (tVar i) (tC (.int 0))) (tC (.str s))) σ H Q := tag_val h e ⟨_, rfl, q⟩
theorem at_bl {bs : List Bool} {k : Int} (h0 : 0 ≤ k) (h1 : k < (bs.length : Int)) : atI (bs.map V.bl) k = some (.bl (bs.getD k.toNat false)) := by
  have h : k.toNat < bs.length := by omega
  refine at_of (j := k.toNat) (by omega) ?_
  rw [List.getElem?_map, List.getElem?_eq_getElem h, List.getD_eq_getElem?_getD, List.getElem?_eq_getElem h]; rfl
theorem notF {b : Bool} (h : (!b) = false) : b = true := by cases b <;> first | rfl | cases h
theorem notT {b : Bool} (h : (!b) = true) : b = false := by cases b <;> first | rfl | cases h
theorem WA.pairs {H : Hp} {x : W} {a : Addr} (h : WA H x a) : (∃ y z, x = .and y z) ∨ (∃ y z, x = .or y z) ∨ (∃ t us, H a = some (.tup (.str t :: us)) ∧ decide (V.str t = V.str "and") = false ∧ decide (V.str t = V.str "or") = false) := by
  cases x with
  | and y z => exact .inl ⟨_, _, rfl⟩
  | or y z => exact .inr (.inl ⟨_, _, rfl⟩)
  | not y => obtain ⟨b, e, _⟩ := h; exact .inr (.inr ⟨_, _, e, decide_eq_false (by decide +kernel), decide_eq_false (by decide +kernel)⟩)
  | on => exact .inr (.inr ⟨_, _, h, decide_eq_false (by decide +kernel), decide_eq_false (by decide +kernel)⟩)
  | off => exact .inr (.inr ⟨_, _, h, decide_eq_false (by decide +kernel), decide_eq_false (by decide +kernel)⟩)
  | relay k => exact .inr (.inr ⟨_, _, h, decide_eq_false (by decide +kernel), decide_eq_false (by decide +kernel)⟩)
  | button k => exact .inr (.inr ⟨_, _, h, decide_eq_false (by decide +kernel), decide_eq_false (by decide +kernel)⟩)
theorem small10 {n : Nat} (h : n ≤ 10000) : n ≤ sizeLine := Nat.le_trans h (by decide)
theorem small11 {n : Nat} (h : n ≤ 10000) : n < sizeLine := Nat.lt_of_le_of_lt h (by decide)
/-! ### data of the law's own -/
def bits (z : Int) (n : Nat) : List Bool := (List.range n).map fun k => decide (z / 2 ^ k % 2 = 1)
theorem bits_succ (z : Int) (n : Nat) : bits z (n + 1) = bits z n ++ [decide (z / 2 ^ n % 2 = 1)] := by unfold bits; rw [List.range_succ, List.map_append]; rfl
theorem bits_len (z : Int) (n : Nat) : (bits z n).length = n := by unfold bits; rw [List.length_map, List.length_range]
theorem dec_vi (a b : Int) : decide (V.int a = V.int b) = decide (a = b) := decide_eq_decide.mpr ⟨fun e => V.int.inj e, fun e => by rw [e]⟩
theorem toNat0 (i : Nat) : ((0 : Int) + (i : Int)).toNat = i := by omega
def Fit (n m : Nat) (d : Int) (w : W) : Prop := w.wired n m ∧ (w.depth : Int) ≤ d
def Fits (n m : Nat) (d : Int) (ws : List W) : Prop := ∀ w ∈ ws, Fit n m d w
theorem Fits.snoc {n m : Nat} {d : Int} {ws : List W} {w : W} (h : Fits n m d ws) (f : Fit n m d w) : Fits n m d (ws ++ [w]) := fun x hx => by
  rcases List.mem_append.mp hx with q | q
  · exact h x q
  · rw [List.mem_singleton.mp q]; exact f
/-- a list of tuples of bools -/
def Tups (H : Hp) (bss : List (List Bool)) (us : List V) : Prop := Paired (fun (bs : List Bool) (v : V) => ∃ a, v = .ref a ∧ H a = some (.tup (bs.map V.bl))) bss us
theorem Tups.tk {H H' : Hp} {bss : List (List Bool)} {us : List V} (t : Tk H H') (h : Tups H bss us) : Tups H' bss us := Paired.mapP h fun _ _ ⟨a, e, q⟩ => ⟨a, e, t _ _ q⟩
theorem Tups.same {H H' : Hp} {bss : List (List Bool)} {us : List V} (t : Same H H') (h : Tups H bss us) : Tups H' bss us := Tups.tk (Same.tk t) h
theorem Tups.length {H : Hp} {bss : List (List Bool)} {us : List V} (h : Tups H bss us) : bss.length = us.length := Paired.length h
def allBits (n i : Nat) : List (List Bool) := (List.range i).map fun (k : Nat) => bits (k : Int) n
theorem allBits_succ (n i : Nat) : allBits n (i + 1) = allBits n i ++ [bits (i : Int) n] := by unfold allBits; rw [List.range_succ, List.map_append]; rfl
theorem allBits_len (n i : Nat) : (allBits n i).length = i := by unfold allBits; rw [List.length_map, List.length_range]
theorem allBits_get {n i k : Nat} (h : k < i) : (allBits n i)[k]? = some (bits (k : Int) n) := by
  unfold allBits
  rw [List.getElem?_map, List.getElem?_range h]; rfl
theorem allBits_get' {n i k : Nat} {bs : List Bool} (h : (allBits n i)[k]? = some bs) : k < i ∧ bs = bits (k : Int) n := by
  have hk : k < i := by
    have := (List.getElem?_eq_some_iff.mp h).1
    rw [allBits_len] at this; exact this
  rw [allBits_get hk] at h
  exact ⟨hk, (Option.some.inj h).symm⟩
theorem shl_one (n : Nat) : ((1 : Int) * 2 ^ ((n : Int).toNat)).toNat = 2 ^ n := by
  rw [Int.one_mul, Int.toNat_natCast]
  have : ((2 : Int) ^ n) = ((2 ^ n : Nat) : Int) := by rw [Int.natCast_pow]; rfl
  rw [this, Int.toNat_natCast]
theorem pow_le64 {n : Nat} (h : n ≤ 6) : 2 ^ n ≤ 64 := Nat.pow_le_pow_right (by decide) h
theorem pow_cast (n : Nat) : ((2 : Int) ^ n) = ((2 ^ n : Nat) : Int) := by rw [Int.natCast_pow]; rfl
section
variable {P : Program} {w : World} {K : PySem.W.Frag} {mg : Str → Option Value} {base : Heap}
theorem fn_none {k : Nat} {f : Addr} {fd : FuncData} {ps : List Str} {sp : Sp} (no : ∀ vs H Q E, ¬ sp vs H Q E) : FnOk P w K mg base CX0 k f fd ps sp :=
  ⟨fun vs H Q E h => absurd h (no vs H Q E), fun A outer s H args us vs Q E _ _ _ _ h => absurd h (no vs H Q E)⟩
end
/-! ### data for == -/
def Sh (d : PyData) (k : Nat) : Prop := d.canLay0 = true ∧ d.depth ≤ k
theorem Sh.shaped {d : PyData} {k : Nat} (h : Sh d k) (hk : k ≤ 64) : SeqAt.shaped d = true := by
  unfold SeqAt.shaped
  rw [h.1, decide_eq_true (Nat.le_trans h.2 hk)]; rfl
theorem Sh.refl {d : PyData} {k : Nat} (h : Sh d k) : PyData.eqv d d = true := SeqAt.eqv_refl d h.1
theorem Sh.bool (b : Bool) (k : Nat) : Sh (.bool b) k := ⟨by simp [PyData.canLay0], by simp [PyData.depth]⟩
theorem Sh.int (b : Int) (k : Nat) : Sh (.int b) k := ⟨by simp [PyData.canLay0], by simp [PyData.depth]⟩
theorem Sh.str (b : Str) (k : Nat) (h : PyData.strOk b = true := by decide +kernel) : Sh (.str b) k := ⟨by simp [PyData.canLay0, h], by simp [PyData.depth]⟩
theorem Sh.all {k : Nat} : ∀ {ds : List PyData}, (∀ d ∈ ds, Sh d k) → PyData.canLayAll0 ds = true ∧ PyData.depthAll ds ≤ k
  | [], _ => by simp [PyData.canLayAll0, PyData.depthAll]
  | d :: ds, h => by
    have h1 := h d (.head _)
    have h2 := Sh.all (ds := ds) fun e he => h e (.tail _ he)
    simp only [PyData.canLayAll0, PyData.depthAll, h1.1, h2.1, Bool.and_self, true_and]
    have a1 := h1.2
    have a2 := h2.2
    omega
theorem Sh.tup {k : Nat} {ds : List PyData} (h : ∀ d ∈ ds, Sh d k) : Sh (.tuple ds) (k + 1) := by
  have q := Sh.all h
  refine ⟨by simp [PyData.canLay0, q.1], ?_⟩
  have := q.2
  simp only [PyData.depth]; omega
theorem Sh.lst {k : Nat} {ds : List PyData} (h : ∀ d ∈ ds, Sh d k) : Sh (.list ds) (k + 1) := by
  have q := Sh.all h
  refine ⟨by simp [PyData.canLay0, q.1], ?_⟩
  have := q.2
  simp only [PyData.depth]; omega
theorem Sh.mono {d : PyData} {k j : Nat} (h : Sh d k) (hk : k ≤ j) : Sh d j := ⟨h.1, Nat.le_trans h.2 hk⟩
theorem dpAll_map {α : Type} {K : PySem.W.Frag} {H : Hp} {f : α → V} {g : α → PyData} : ∀ {l : List α}, (∀ x ∈ l, Dp K H (f x) (g x)) → DpAll K H (l.map f) (l.map g)
  | [], _ => .nil
  | x :: _, h => .cons (h x (.head _)) (dpAll_map fun y hy => h y (.tail _ hy))
def bd (bs : List Bool) : PyData := .tuple (bs.map PyData.bool)
theorem shB (bs : List Bool) : Sh (bd bs) 1 := Sh.tup fun d hd => by
  obtain ⟨b, _, rfl⟩ := List.mem_map.mp hd
  exact Sh.bool b 0
theorem dpB {K : PySem.W.Frag} {H : Hp} {a : Addr} {bs : List Bool} (h : H a = some (.tup (bs.map V.bl))) : Dp K H (.ref a) (bd bs) := .tup (.of h) (dpAll_map fun b _ => .bl b)
theorem eqv_bools : ∀ as bs : List Bool, PyData.eqvAll (as.map PyData.bool) (bs.map PyData.bool) = decide (as = bs)
  | [], [] => by simp [PyData.eqvAll]
  | [], _ :: _ => by simp [PyData.eqvAll]
  | _ :: _, [] => by simp [PyData.eqvAll]
  | a :: as, b :: bs => by
    simp only [List.map_cons, PyData.eqvAll, eqv_bools as bs, List.cons.injEq]
    cases a <;> cases b <;> simp [PyData.eqv]
theorem eqv_bd (as bs : List Bool) : PyData.eqv (bd as) (bd bs) = decide (as = bs) := by
  unfold bd
  simp only [PyData.eqv, eqv_bools]
/-- a word as data -/
def wd : W → PyData
  | .on => .tuple [.str "on"]
  | .off => .tuple [.str "off"]
  | .relay k => .tuple [.str "relay", .int k]
  | .button k => .tuple [.str "button", .int k]
  | .not x => .tuple [.str "not", wd x]
  | .and x y => .tuple [.str "and", wd x, wd y]
  | .or x y => .tuple [.str "or", wd x, wd y]
theorem dpW {K : PySem.W.Frag} {H : Hp} : ∀ {w : W} {a : Addr}, WA H w a → Dp K H (.ref a) (wd w)
  | .on, _, h => .tup (.of h) (.cons (.str _) .nil)
  | .off, _, h => .tup (.of h) (.cons (.str _) .nil)
  | .relay _, _, h => .tup (.of h) (.cons (.str _) (.cons (.int _) .nil))
  | .button _, _, h => .tup (.of h) (.cons (.str _) (.cons (.int _) .nil))
  | .not _, _, h => let ⟨_, e, q⟩ := h; .tup (.of e) (.cons (.str _) (.cons (dpW q) .nil))
  | .and _ _, _, h => let ⟨_, _, e, q, r⟩ := h; .tup (.of e) (.cons (.str _) (.cons (dpW q) (.cons (dpW r) .nil)))
  | .or _ _, _, h => let ⟨_, _, e, q, r⟩ := h; .tup (.of e) (.cons (.str _) (.cons (dpW q) (.cons (dpW r) .nil)))
theorem shW : ∀ w : W, Sh (wd w) w.depth
  | .on => Sh.tup (k := 0) fun d hd => by simp at hd; subst hd; exact Sh.str _ _
  | .off => Sh.tup (k := 0) fun d hd => by simp at hd; subst hd; exact Sh.str _ _
  | .relay _ => Sh.tup (k := 0) fun d hd => by simp at hd; rcases hd with rfl | rfl <;> first | exact Sh.str _ _ | exact Sh.int _ _
  | .button _ => Sh.tup (k := 0) fun d hd => by simp at hd; rcases hd with rfl | rfl <;> first | exact Sh.str _ _ | exact Sh.int _ _
  | .not x => Sh.tup (k := x.depth) fun d hd => by simp at hd; rcases hd with rfl | rfl <;> first | exact Sh.str _ _ | exact shW x
  | .and x y => Sh.tup (k := max x.depth y.depth) fun d hd => by
    simp at hd; rcases hd with rfl | rfl | rfl
    · exact Sh.str _ _
    · exact (shW x).mono (Nat.le_max_left _ _)
    · exact (shW y).mono (Nat.le_max_right _ _)
  | .or x y => Sh.tup (k := max x.depth y.depth) fun d hd => by
    simp at hd; rcases hd with rfl | rfl | rfl
    · exact Sh.str _ _
    · exact (shW x).mono (Nat.le_max_left _ _)
    · exact (shW y).mono (Nat.le_max_right _ _)
/-! ### numbers and bits -/
theorem bit_nat (j k : Nat) : decide ((j : Int) / 2 ^ k % 2 = 1) = Nat.testBit j k := by
  rw [Nat.testBit_eq_decide_div_mod_eq]
  refine decide_eq_decide.mpr ?_
  rw [pow_cast, ← Int.natCast_ediv]
  omega
theorem bits_nat (j n : Nat) : bits (j : Int) n = (List.range n).map (Nat.testBit j) := by
  unfold bits
  exact List.map_congr_left fun k _ => bit_nat j k
theorem bits_mod (j n : Nat) : bits (j : Int) n = bits ((j % 2 ^ n : Nat) : Int) n := by
  rw [bits_nat, bits_nat]
  refine List.map_congr_left fun k hk => ?_
  rw [Nat.testBit_mod_two_pow, decide_eq_true (List.mem_range.mp hk), Bool.true_and]
theorem shr_nat (j n : Nat) : (j : Int) / 2 ^ n = ((j / 2 ^ n : Nat) : Int) := by rw [pow_cast, Int.natCast_ediv]
/-! ### boards -/
def canMove (ws : List W) (ps ss : List Bool) (k : Nat) : Bool := (ws.getD k .off).eval ss ps != ss.getD k false
def movL (ws : List W) (ps ss : List Bool) : List Nat := (List.range ws.length).filter (canMove ws ps ss)
def vn (k : Nat) : V := .int (k : Int)
structure BoardAt (H : Hp) (b : Addr) (us : List V) (ws : List W) (n m : Nat) : Prop where
  lst : H b = some (.lst us)
  was : WAs H ws us
  len : ws.length = n
  n6 : n ≤ 6
  fit : Fits n m 10 ws
theorem BoardAt.same {H H' : Hp} {b : Addr} {us : List V} {ws : List W} {n m : Nat} (B : BoardAt H b us ws n m) (s : Same H H') : BoardAt H' b us ws n m := ⟨s _ _ B.lst, WAs.same s B.was, B.len, B.n6, B.fit⟩
theorem BoardAt.ulen {H : Hp} {b : Addr} {us : List V} {ws : List W} {n m : Nat} (B : BoardAt H b us ws n m) : us.length = n := by rw [← WAs.length B.was]; exact B.len
theorem BoardAt.at {H : Hp} {b : Addr} {us : List V} {ws : List W} {n m : Nat} (B : BoardAt H b us ws n m) {k : Nat} (h : k < n) : ∃ c, us[k]? = some (.ref c) ∧ WA H (ws.getD k .off) c ∧ Fit n m 10 (ws.getD k .off) := by
  have hk : k < ws.length := by rw [B.len]; exact h
  obtain ⟨v, hv, c, rfl, hc⟩ := paired_getl B.was (List.getElem?_eq_getElem hk)
  have e : ws.getD k .off = ws[k] := by rw [List.getD_eq_getElem?_getD, List.getElem?_eq_getElem hk]; rfl
  rw [e]
  exact ⟨c, hv, hc, B.fit _ (List.getElem_mem hk)⟩
theorem Fits.mono {n m : Nat} {d e : Int} {ws : List W} (h : Fits n m d ws) (hd : d ≤ e) : Fits n m e ws := fun w hw => ⟨(h w hw).1, Int.le_trans (h w hw).2 hd⟩
theorem filter_snoc {α : Type} (f : α → Bool) (l : List α) (x : α) : (l ++ [x]).filter f = if f x = true then l.filter f ++ [x] else l.filter f := by
  rw [List.filter_append]
  by_cases h : f x = true
  · rw [if_pos h]; simp [h]
  · rw [if_neg h]; simp [h]
theorem movL_le (ws : List W) (ps ss : List Bool) : (movL ws ps ss).length ≤ ws.length := by
  unfold movL
  have := List.length_filter_le (canMove ws ps ss) (List.range ws.length)
  rw [List.length_range] at this
  exact this
def il (ks : List Nat) : PyData := .list (ks.map fun (k : Nat) => PyData.int (k : Int))
theorem shI (ks : List Nat) : Sh (il ks) 1 := Sh.lst fun d hd => by
  obtain ⟨b, _, rfl⟩ := List.mem_map.mp hd
  exact Sh.int _ 0
theorem dpI {K : PySem.W.Frag} {H : Hp} {a : Addr} {ks : List Nat} (h : H a = some (.lst (ks.map vn))) : Dp K H (.ref a) (il ks) := .lst (.of h) (dpAll_map fun b _ => .int b)
theorem eqv_ints : ∀ as bs : List Nat, PyData.eqvAll (as.map fun (k : Nat) => PyData.int (k : Int)) (bs.map fun (k : Nat) => PyData.int (k : Int)) = decide (as = bs)
  | [], [] => by simp [PyData.eqvAll]
  | [], _ :: _ => by simp [PyData.eqvAll]
  | _ :: _, [] => by simp [PyData.eqvAll]
  | a :: as, b :: bs => by
    simp only [List.map_cons, PyData.eqvAll, eqv_ints as bs, List.cons.injEq]
    by_cases h : a = b
    · subst h; simp [PyData.eqv]
    · have : ¬ (a : Int) = (b : Int) := fun e => h (by omega)
      simp [PyData.eqv, h, this]
theorem eqv_il (as bs : List Nat) : PyData.eqv (il as) (il bs) = decide (as = bs) := by
  unfold il
  simp only [PyData.eqv, eqv_ints]
theorem dpTs {K : PySem.W.Frag} {H : Hp} : ∀ {bss : List (List Bool)} {us : List V}, Tups H bss us → DpAll K H us (bss.map bd)
  | _, _, .nil => .nil
  | _, _, .cons ⟨_, e, h⟩ t => .cons (e ▸ dpB h) (dpTs t)
theorem shTs (bss : List (List Bool)) : Sh (.list (bss.map bd)) 2 := Sh.lst fun d hd => by
  obtain ⟨b, _, rfl⟩ := List.mem_map.mp hd
  exact shB b
theorem dpWs {K : PySem.W.Frag} {H : Hp} : ∀ {ws : List W} {us : List V}, WAs H ws us → DpAll K H us (ws.map wd)
  | _, _, .nil => .nil
  | _, _, .cons ⟨_, e, h⟩ t => .cons (e ▸ dpW h) (dpWs t)
theorem shWs {n m : Nat} {ws : List W} {k : Nat} (h : Fits n m (k : Int) ws) : Sh (.list (ws.map wd)) (k + 1) := Sh.lst fun d hd => by
  obtain ⟨x, hx, rfl⟩ := List.mem_map.mp hd
  exact (shW x).mono (by have := (h x hx).2; omega)
/-! ### classes of the program -/
theorem kit_own {K : PySem.W.Frag} {D C : Addr} {b : Bool} (hC : PySem.W.isClsIn K C = true) (tC : PySem.W.typeIn K (.ref C) = some (.type "type")) (s : PySem.W.subIn K (.ref D) (.ref C) = some b) (self : PySem.W.subIn K (.ref D) (.ref D) = some true) :
    PySem.W.kitOne K (.ref D) (.ref C) = some b := by
  unfold PySem.W.kitOne PySem.W.kitCls
  by_cases h : D = C
  · subst h
    rw [self] at s
    rw [if_pos (beq_self_eq_true _)]
    exact s
  · have h1 : ¬ ((Value.ref D == Value.ref C) = true) := fun e => h (by have := of_decide_eq_true (p := _) e; cases beq_iff_eq.mp e; rfl)
    rw [if_neg h1]
    have e2 : ((PySem.W.clsIn K C).isSome && PySem.W.typeIn K (.ref C) == some (.type "type")) = true := by
      have hC' : (PySem.W.clsIn K C).isSome = true := hC
      rw [hC', tC]; rfl
    show (if ((PySem.W.clsIn K C).isSome && PySem.W.typeIn K (.ref C) == some (.type "type")) = true then PySem.W.subIn K (.ref D) (.ref C) else none) = some b
    rw [if_pos e2]
    exact s
theorem kit_val {K : PySem.W.Frag} {D : Addr} (s : PySem.W.subIn K (.ref D) (.type "ValueError") = some true) : PySem.W.kitOne K (.ref D) (.type "ValueError") = some true := by
  unfold PySem.W.kitOne PySem.W.kitCls
  have h1 : ¬ ((Value.ref D == Value.type "ValueError") = true) := fun e => by cases beq_iff_eq.mp e
  rw [if_neg h1]
  show (if PySem.W.kitMeta "ValueError" = true then PySem.W.subIn K (.ref D) (.type "ValueError") else none) = some true
  rw [if_pos (by decide +kernel)]
  exact s
theorem exm_own {K : PySem.W.Frag} {D C : Addr} (h1 : PySem.W.subIn K (.ref C) (.type "BaseException") = some true) (hC : PySem.W.isClsIn K C = true) (tC : PySem.W.typeIn K (.ref C) = some (.type "type")) (s : PySem.W.subIn K (.ref D) (.ref C) = some true) : PySem.W.exmOne K (.ref D) (.ref C) = some true := by
  have e1 : (PySem.W.subIn K (.ref C) (.type "BaseException") == some true) = true := by rw [h1]; rfl
  have e2 : ((PySem.W.clsIn K C).isSome && PySem.W.typeIn K (.ref C) == some (.type "type")) = true := by
    have hC' : (PySem.W.clsIn K C).isSome = true := hC
    rw [hC', tC]; rfl
  show (if (PySem.W.subIn K (.ref C) (.type "BaseException") == some true) = true then (if ((PySem.W.clsIn K C).isSome && PySem.W.typeIn K (.ref C) == some (.type "type")) = true then PySem.W.subIn K (.ref D) (.ref C) else none) else none) = some true
  rw [if_pos e1, if_pos e2]
  exact s
/-! ### a suite that marks what was caught -/
def rIsX (K : PySem.W.Frag) (a : Addr) (cls : Value) (d : Option Addr) : List V → Hp → VK → Prop := fun xs H Q => ∃ D, cls = .ref D ∧ d = none ∧ ExcC K D ∧ rIsE K D a xs H Q
theorem call_isX {X : Cx} {a : Addr} {oe : Obj} {pn : List (Addr × Obj)} {cls : Value} {d : Option Addr} (hz : Zc cls d oe) (hf : ∃ vs, oe.data = .fields vs) : CallR (X.suite a ((a, oe) :: pn)) (.builtin "isinstance") (rIsX X.K a cls d) := by
  intro pins s σ H xs us Q I r h
  obtain ⟨D, rfl, rfl, E, q⟩ := h
  exact call_isE E hz hf pins s σ H xs us Q I r q
def tMark (K : PySem.W.Frag) (a : Addr) (cls : Value) (d : Option Addr) (i : Nat) (v : V) : TE := tCB (rIsX K a cls d) (tCons (tVar i) (tCons (tC v) tNil))
def tSuite (K : PySem.W.Frag) (c1 c2 c3 c4 c5 c6 : Addr) (i j : Nat) (a : Addr) (cls : Value) (d : Option Addr) : TS :=
  tSeq (tAsg (tLst (tCons (tMark K a cls d i (.ref c1)) (tCons (tMark K a cls d i (.ref c2)) (tCons (tMark K a cls d i (.ref c3)) (tCons (tMark K a cls d i (.ref c4)) tNil))))) (gName j))
    (tAsg (tOp rCat (tVar j) (tLst (tCons (tMark K a cls d i (.ref c5)) (tCons (tMark K a cls d i (.ref c6)) (tCons (tMark K a cls d i (.ty "ValueError")) tNil))))) (gName j))
theorem mark_run {K : PySem.W.Frag} {a D : Addr} {i : Nat} {v : V} {cv : Value} {b : Bool} {σ : St} {H : Hp} {Q : VK} (E : ExcC K D) (hi : σ[i]? = some (some (.ref a))) (hv : ∀ u, RelV v u → u = cv) (k : PySem.W.kitOne K (.ref D) cv = some b) (q : Q (.bl b) H) :
    tMark K a (.ref D) none i v σ H Q := ⟨_, hi, D, rfl, rfl, E, v, cv, b, rfl, hv, k, q⟩
theorem suite_run {K : PySem.W.Frag} {c1 c2 c3 c4 c5 c6 : Addr} {i j : Nat} {a D : Addr} {b1 b2 b3 b4 b5 b6 : Bool} {σ : St} {H : Hp} {Dn : Ends} (E : ExcC K D)
    (k1 : PySem.W.kitOne K (.ref D) (.ref c1) = some b1) (k2 : PySem.W.kitOne K (.ref D) (.ref c2) = some b2) (k3 : PySem.W.kitOne K (.ref D) (.ref c3) = some b3) (k4 : PySem.W.kitOne K (.ref D) (.ref c4) = some b4)
    (k5 : PySem.W.kitOne K (.ref D) (.ref c5) = some b5) (k6 : PySem.W.kitOne K (.ref D) (.ref c6) = some b6) (kv : PySem.W.kitOne K (.ref D) (.type "ValueError") = some true) (hi : σ[i]? = some (some (.ref a))) (hj : j < σ.length) (hij : j ≠ i)
    (q : ∀ (H' : Hp) (p0 p : Addr), Same H H' → H' p = some (.lst ([b1, b2, b3, b4, b5, b6, true].map V.bl)) → Dn.nx ((σ.set j (some (.ref p0))).set j (some (.ref p))) H') : tSuite K c1 c2 c3 c4 c5 c6 i j a (.ref D) none Dn σ H := by
  refine mark_run E hi (fun u h => h) k1 (mark_run E hi (fun u h => h) k2 (mark_run E hi (fun u h => h) k3 (mark_run E hi (fun u h => h) k4 ⟨small10 (Nat.le_of_ble_eq_true rfl), fun p0 np0 => ?_⟩)))
  have s0 : Same H (upd H p0 (.lst [.bl b1, .bl b2, .bl b3, .bl b4])) := Same.new np0
  have e0 : (upd H p0 (.lst [.bl b1, .bl b2, .bl b3, .bl b4])) p0 = some (.lst [.bl b1, .bl b2, .bl b3, .bl b4]) := upd_same
  generalize upd H p0 (.lst [.bl b1, .bl b2, .bl b3, .bl b4]) = H1 at *
  have hi2 : (σ.set j (some (.ref p0)))[i]? = some (some (.ref a)) := by rw [List.getElem?_set_ne hij]; exact hi
  refine ⟨_, List.getElem?_set_self hj, ?_⟩
  refine mark_run E hi2 (fun u h => h) k5 (mark_run E hi2 (fun u h => h) k6 (mark_run E hi2 (fun u h => h) kv ⟨small10 (Nat.le_of_ble_eq_true rfl), fun p1 np1 => ?_⟩))
  have s1 : Same H1 (upd H1 p1 (.lst [.bl b5, .bl b6, .bl true])) := Same.new np1
  have e1 : (upd H1 p1 (.lst [.bl b5, .bl b6, .bl true])) p1 = some (.lst [.bl b5, .bl b6, .bl true]) := upd_same
  generalize upd H1 p1 (.lst [.bl b5, .bl b6, .bl true]) = H2 at *
  refine ⟨p0, p1, _, _, rfl, rfl, s1 _ _ e0, e1, small10 (Nat.le_of_ble_eq_true rfl), fun p2 np2 => ?_⟩
  exact q _ p0 p2 (s0.trans (s1.trans (Same.new np2))) upd_same
/-! ### walks -/
def flip (ss : List Bool) (k : Nat) : List Bool := ss.set k (!ss.getD k false)
theorem flip_len (ss : List Bool) (k : Nat) : (flip ss k).length = ss.length := List.length_set
inductive WR where
  | norelay | still | at (ss : List Bool)
def walkR (ws : List W) (ps : List Bool) : List Bool → List Int → WR
  | ss, [] => .at ss
  | ss, r :: rs => if 0 ≤ r ∧ r < (ws.length : Int) then (if canMove ws ps ss r.toNat = true then walkR ws ps (flip ss r.toNat) rs else .still) else .norelay
theorem walkR_snoc (ws : List W) (ps : List Bool) (r : Int) : ∀ (rs : List Int) (ss : List Bool), walkR ws ps ss (rs ++ [r]) = match walkR ws ps ss rs with
    | .at t => walkR ws ps t [r]
    | e => e
  | [], ss => rfl
  | x :: rs, ss => by
    show walkR ws ps ss (x :: (rs ++ [r])) = _
    simp only [walkR]
    by_cases h : 0 ≤ x ∧ x < (ws.length : Int)
    · rw [if_pos h, if_pos h]
      by_cases h2 : canMove ws ps ss x.toNat = true
      · rw [if_pos h2, if_pos h2]; exact walkR_snoc ws ps r rs _
      · rw [if_neg h2, if_neg h2]
    · rw [if_neg h, if_neg h]
theorem flip_get (ss : List Bool) (k i : Nat) (h : i < ss.length) : (flip ss k)[i]? = some (ss.getD i false != (decide (i = k))) := by
  unfold flip
  have e : ss.getD i false = ss[i] := by rw [List.getD_eq_getElem?_getD, List.getElem?_eq_getElem h]; rfl
  by_cases hk : i = k
  · subst hk
    rw [List.getElem?_set_self h, decide_eq_true rfl]
    cases ss.getD i false <;> rfl
  · rw [List.getElem?_set_ne (Ne.symm hk), decide_eq_false hk, List.getElem?_eq_getElem h, e]
    cases ss[i] <;> rfl
theorem mem_movL {ws : List W} {ps ss : List Bool} {k : Nat} : k ∈ movL ws ps ss ↔ k < ws.length ∧ canMove ws ps ss k = true := by
  unfold movL
  rw [List.mem_filter, List.mem_range]
theorem inV_vn (r : Int) : ∀ ks : List Nat, inV (.int r) (ks.map vn) = ks.any (fun k => decide ((k : Int) = r))
  | [] => rfl
  | x :: rest => by
    show (eqV (.int x) (.int r) || inV (.int r) (rest.map vn)) = (decide ((x : Int) = r) || rest.any (fun k => decide ((k : Int) = r)))
    rw [inV_vn r rest]
    have e : eqV (.int x) (.int r) = decide ((x : Int) = r) := by
      show ((x : Int) == r) = decide ((x : Int) = r)
      exact Bool.beq_eq_decide_eq ..
    rw [e]
theorem flat_vn : ∀ ks : List Nat, (ks.map vn).all flatV = true
  | [] => rfl
  | _ :: r => flat_vn r
end Rl

namespace Rl
open PySem L2
/-! ### how many stands there are -/
theorem nodup_len {α : Type} [DecidableEq α] : ∀ {l m : List α}, l.Nodup → (∀ x ∈ l, x ∈ m) → l.length ≤ m.length
  | [], m, _, _ => Nat.zero_le _
  | x :: l, m, hn, hs => by
    rw [List.nodup_cons] at hn
    have hx : x ∈ m := hs x List.mem_cons_self
    have h := nodup_len (l := l) (m := m.erase x) hn.2 fun y hy => by
      have : y ≠ x := fun e => hn.1 (e ▸ hy)
      exact (List.mem_erase_of_ne this).mpr (hs y (List.mem_cons_of_mem _ hy))
    rw [List.length_erase_of_mem hx] at h
    have := List.length_pos_of_mem hx
    rw [List.length_cons]; omega
def allOf : Nat → List (List Bool)
  | 0 => [[]]
  | n + 1 => (allOf n).map (true :: ·) ++ (allOf n).map (false :: ·)
theorem allOf_len : ∀ n, (allOf n).length = 2 ^ n
  | 0 => rfl
  | n + 1 => by
    show ((allOf n).map (true :: ·) ++ (allOf n).map (false :: ·)).length = _
    rw [List.length_append, List.length_map, List.length_map, allOf_len n, Nat.pow_succ]; omega
theorem mem_allOf : ∀ (bs : List Bool), bs ∈ allOf bs.length
  | [] => List.mem_singleton.mpr rfl
  | b :: bs => by
    show (b :: bs) ∈ (allOf bs.length).map (true :: ·) ++ (allOf bs.length).map (false :: ·)
    cases b
    · exact List.mem_append.mpr (.inr (List.mem_map.mpr ⟨bs, mem_allOf bs, rfl⟩))
    · exact List.mem_append.mpr (.inl (List.mem_map.mpr ⟨bs, mem_allOf bs, rfl⟩))
theorem stands_le {n : Nat} {ks : List (List Bool)} (h : ks.Nodup) (hl : ∀ k ∈ ks, k.length = n) (h6 : n ≤ 6) : ks.length ≤ 64 := by
  have h1 := nodup_len (m := allOf n) h fun k hk => by have := mem_allOf k; rw [hl k hk] at this; exact this
  rw [allOf_len] at h1
  exact Nat.le_trans h1 (pow_le64 h6)
theorem take_filt {α : Type} (f : α → Bool) {l : List α} {i : Nat} {x : α} (h : l[i]? = some x) : (l.take (i + 1)).filter f = if f x = true then (l.take i).filter f ++ [x] else (l.take i).filter f := by
  rw [List.take_add_one, h]
  exact filter_snoc f _ x
/-! ### walks -/
section
variable {ws : List W} {ps : List Bool}
def Road (ws : List W) (ps : List Bool) : List Bool → List Nat → List Bool → Prop
  | ss, [], tt => ss = tt
  | ss, r :: rs, tt => r ∈ movL ws ps ss ∧ Road ws ps (flip ss r) rs tt
theorem Road.append : ∀ {rs qs : List Nat} {ss tt uu : List Bool}, Road ws ps ss rs tt → Road ws ps tt qs uu → Road ws ps ss (rs ++ qs) uu
  | [], _, _, _, _, h, q => by cases (show _ = _ from h); exact q
  | _ :: _, _, _, _, _, ⟨h1, h2⟩, q => ⟨h1, Road.append h2 q⟩
theorem Road.snoc {rs : List Nat} {r : Nat} {ss tt : List Bool} (h : Road ws ps ss rs tt) (m : r ∈ movL ws ps tt) : Road ws ps ss (rs ++ [r]) (flip tt r) := h.append ⟨m, rfl⟩
theorem Road.len : ∀ {rs : List Nat} {ss tt : List Bool}, Road ws ps ss rs tt → tt.length = ss.length
  | [], _, _, h => by cases (show _ = _ from h); rfl
  | _ :: _, _, _, ⟨_, h⟩ => by rw [Road.len h, flip_len]
def Reach (ws : List W) (ps : List Bool) (ss tt : List Bool) : Prop := ∃ rs, Road ws ps ss rs tt
theorem Reach.refl (ss : List Bool) : Reach ws ps ss ss := ⟨[], rfl⟩
theorem Reach.step {ss tt : List Bool} {r : Nat} (h : Reach ws ps ss tt) (m : r ∈ movL ws ps tt) : Reach ws ps ss (flip tt r) := let ⟨rs, q⟩ := h; ⟨_, q.snoc m⟩
theorem Reach.trans {ss tt uu : List Bool} (h : Reach ws ps ss tt) (q : Reach ws ps tt uu) : Reach ws ps ss uu := let ⟨_, a⟩ := h; let ⟨_, b⟩ := q; ⟨_, a.append b⟩
theorem Reach.len {ss tt : List Bool} (h : Reach ws ps ss tt) : tt.length = ss.length := let ⟨_, q⟩ := h; q.len
def Closed (ws : List W) (ps : List Bool) (ks : List (List Bool)) : Prop := ∀ t ∈ ks, ∀ k ∈ movL ws ps t, flip t k ∈ ks
theorem Closed.road {ks : List (List Bool)} (c : Closed ws ps ks) : ∀ {rs : List Nat} {ss tt : List Bool}, ss ∈ ks → Road ws ps ss rs tt → tt ∈ ks
  | [], _, _, h, r => by cases (show _ = _ from r); exact h
  | _ :: _, _, _, h, ⟨m, r⟩ => c.road (c _ h _ m) r
theorem Closed.reach {ks : List (List Bool)} (c : Closed ws ps ks) {ss tt : List Bool} (h : ss ∈ ks) (r : Reach ws ps ss tt) : tt ∈ ks := let ⟨_, q⟩ := r; c.road h q
/-- just the stands that can be come to -/
structure Stands (ws : List W) (ps ss : List Bool) (ks : List (List Bool)) : Prop where
  nodup : ks.Nodup
  mem : ∀ t, t ∈ ks ↔ Reach ws ps ss t
theorem Stands.of {ss : List Bool} {ks : List (List Bool)} (n : ks.Nodup) (h : ss ∈ ks) (c : Closed ws ps ks) (r : ∀ t ∈ ks, Reach ws ps ss t) : Stands ws ps ss ks := ⟨n, fun t => ⟨r t, c.reach h⟩⟩
theorem Stands.closed {ss : List Bool} {ks : List (List Bool)} (S : Stands ws ps ss ks) : Closed ws ps ks := fun t ht k hk => (S.mem _).mpr (((S.mem t).mp ht).step hk)
theorem Stands.le {ss : List Bool} {ks : List (List Bool)} (S : Stands ws ps ss ks) (h : ss.length ≤ 6) : ks.length ≤ 64 := stands_le S.nodup (fun k hk => ((S.mem k).mp hk).len) h
theorem Stands.self {ss : List Bool} {ks : List (List Bool)} (S : Stands ws ps ss ks) : ss ∈ ks := (S.mem ss).mpr (.refl ss)
/-! ### papers -/
abbrev Pap := List (List Bool × Nat)
def look (P : Pap) (k : List Bool) : Option Nat := (P.find? fun x => decide (x.1 = k)).map (·.2)
theorem look_nil (k : List Bool) : look [] k = none := rfl
theorem look_cons (x : List Bool × Nat) (P : Pap) (k : List Bool) : look (x :: P) k = if x.1 = k then some x.2 else look P k := by
  unfold look
  rw [List.find?_cons]
  by_cases h : x.1 = k
  · rw [if_pos h, decide_eq_true h]; rfl
  · rw [if_neg h, decide_eq_false h]
theorem look_none : ∀ {P : Pap} {k : List Bool}, look P k = none ↔ k ∉ P.map (·.1)
  | [], k => ⟨fun _ h => (nomatch h), fun _ => rfl⟩
  | x :: P, k => by
    rw [look_cons, List.map_cons, List.mem_cons]
    by_cases h : x.1 = k
    · rw [if_pos h]; exact ⟨fun z => (nomatch z), fun z => absurd (.inl h.symm) z⟩
    · rw [if_neg h, look_none]
      exact ⟨fun z q => q.elim (fun e => h e.symm) z, fun z q => z (.inr q)⟩
theorem look_mem : ∀ {P : Pap} {k : List Bool} {v : Nat}, look P k = some v → (k, v) ∈ P
  | [], _, _, h => nomatch h
  | x :: P, k, v, h => by
    rw [look_cons] at h
    by_cases e : x.1 = k
    · rw [if_pos e] at h
      cases h; subst e; exact List.mem_cons_self
    · rw [if_neg e] at h
      exact List.mem_cons_of_mem _ (look_mem h)
theorem look_of : ∀ {P : Pap} {k : List Bool} {v : Nat}, (P.map (·.1)).Nodup → (k, v) ∈ P → look P k = some v
  | [], _, _, _, h => nomatch h
  | x :: P, k, v, n, h => by
    rw [List.map_cons, List.nodup_cons] at n
    rw [look_cons]
    rcases List.mem_cons.mp h with e | h
    · subst e; exact if_pos rfl
    · have : x.1 ≠ k := fun e => n.1 (List.mem_map.mpr ⟨_, h, e.symm⟩)
      rw [if_neg this]; exact look_of n.2 h
theorem look_some {P : Pap} {k : List Bool} : k ∈ P.map (·.1) ↔ ∃ v, look P k = some v := by
  cases h : look P k with
  | none => exact ⟨fun q => absurd q (look_none.mp h), fun ⟨v, e⟩ => (nomatch e)⟩
  | some v => exact ⟨fun _ => ⟨v, rfl⟩, fun _ => List.mem_map.mpr ⟨_, look_mem h, rfl⟩⟩
def papV (P : Pap) : List (List Bool × V) := P.map fun x => (x.1, vn x.2)
theorem papV_keys (P : Pap) : (papV P).map (·.1) = P.map (·.1) := by unfold papV; rw [List.map_map]; rfl
theorem papV_len (P : Pap) : (papV P).length = P.length := List.length_map _
theorem papV_snoc (P : Pap) (k : List Bool) (v : Nat) : papV P ++ [(k, vn v)] = papV (P ++ [(k, v)]) := by unfold papV; rw [List.map_append]; rfl
theorem valV_cons {κ : Type} [DecidableEq κ] (x : κ × V) (l : List (κ × V)) (k : κ) : valV (x :: l) k = if x.1 = k then some x.2 else valV l k := by
  by_cases h : x.1 = k
  · rw [if_pos h, valV_pos h]
  · rw [if_neg h, valV_neg h]
theorem valV_papV : ∀ (P : Pap) (k : List Bool), valV (papV P) k = (look P k).map vn
  | [], _ => rfl
  | x :: P, k => by
    show valV ((x.1, vn x.2) :: papV P) k = _
    rw [valV_cons, look_cons, valV_papV P k]
    by_cases h : x.1 = k
    · rw [if_pos h, if_pos h]; rfl
    · rw [if_neg h, if_neg h]
theorem valV_iff {κ : Type} [DecidableEq κ] : ∀ (l : List (κ × V)) (k : κ), (valV l k).isSome = true ↔ k ∈ l.map (·.1)
  | [], k => ⟨fun h => (nomatch h), fun h => (nomatch h)⟩
  | x :: l, k => by
    rw [valV_cons, List.map_cons, List.mem_cons]
    by_cases h : x.1 = k
    · rw [if_pos h]; exact ⟨fun _ => .inl h.symm, fun _ => rfl⟩
    · rw [if_neg h, valV_iff l k]
      exact ⟨.inr, fun q => q.elim (fun e => absurd e.symm h) id⟩
theorem val_in {κ : Type} [DecidableEq κ] {l : List (κ × V)} {k : κ} (h : (valV l k).isSome = true) : k ∈ l.map (·.1) := (valV_iff l k).mp h
theorem val_out {κ : Type} [DecidableEq κ] {l : List (κ × V)} {k : κ} (h : (valV l k).isSome = false) : k ∉ l.map (·.1) := fun q => by rw [(valV_iff l k).mpr q] at h; cases h
theorem in_val {κ : Type} [DecidableEq κ] {l : List (κ × V)} {k : κ} (h : k ∈ l.map (·.1)) : (valV l k).isSome = true := (valV_iff l k).mpr h
theorem out_val {κ : Type} [DecidableEq κ] {l : List (κ × V)} {k : κ} (h : k ∉ l.map (·.1)) : (valV l k).isSome = false := by
  cases e : (valV l k).isSome with
  | false => rfl
  | true => exact absurd (val_in e) h
theorem valV_of {κ : Type} [DecidableEq κ] : ∀ {l : List (κ × V)} {k : κ} {v : V}, (l.map (·.1)).Nodup → (k, v) ∈ l → valV l k = some v
  | [], _, _, _, h => nomatch h
  | x :: l, k, v, n, h => by
    rw [List.map_cons, List.nodup_cons] at n
    rw [valV_cons]
    rcases List.mem_cons.mp h with e | h
    · subst e; exact if_pos rfl
    · have : x.1 ≠ k := fun e => n.1 (List.mem_map.mpr ⟨_, h, e.symm⟩)
      rw [if_neg this]; exact valV_of n.2 h
theorem putK_fresh {κ : Type} [DecidableEq κ] {l : List (κ × V)} {k : κ} (v : V) (h : k ∉ l.map (·.1)) : putK l k v = l ++ [(k, v)] := by
  refine putK_new v ?_
  have := out_val h
  cases e : valV l k with
  | none => rfl
  | some x => rw [e] at this; cases this
/-- numbers that fall along each move, for stands from which every walk ends -/
structure Falls (ws : List W) (ps : List Bool) (P : Pap) : Prop where
  nodup : (P.map (·.1)).Nodup
  fall : ∀ t v, look P t = some v → ∀ k ∈ movL ws ps t, ∃ u, look P (flip t k) = some u ∧ u < v
  zero : ∀ t, look P t = some 0 ↔ (t ∈ P.map (·.1) ∧ movL ws ps t = [])
  low : ∀ t v, look P t = some v → v < P.length
/-- told to settle -/
structure Settles (ws : List W) (ps ss rest : List Bool) (P : Pap) : Prop where
  stands : Stands ws ps ss (P.map (·.1))
  falls : Falls ws ps P
  here : rest ∈ P.map (·.1)
  rest : ∀ t ∈ P.map (·.1), movL ws ps t = [] ↔ t = rest
structure Parts (ws : List W) (ps ss : List Bool) (r1 r2 : List Nat) (t1 t2 : List Bool) : Prop where
  road1 : Road ws ps ss r1 t1
  road2 : Road ws ps ss r2 t2
  rest1 : movL ws ps t1 = []
  rest2 : movL ws ps t2 = []
  ne : t1 ≠ t2
structure Rounds (ws : List W) (ps ss : List Bool) (r1 r2 : List Nat) (t : List Bool) : Prop where
  road : Road ws ps ss r1 t
  ring : Road ws ps t r2 t
  ne : r2 ≠ []
theorem Falls.road {P : Pap} (F : Falls ws ps P) : ∀ {rs : List Nat} {ss tt : List Bool} {v : Nat}, look P ss = some v → Road ws ps ss rs tt → ∃ u, look P tt = some u ∧ u + rs.length ≤ v
  | [], _, _, v, h, r => by cases (show _ = _ from r); exact ⟨v, h, Nat.le_refl _⟩
  | k :: rs, _, _, v, h, ⟨m, r⟩ => by
    obtain ⟨u, hu, lt⟩ := F.fall _ _ h _ m
    obtain ⟨x, hx, le⟩ := F.road hu r
    exact ⟨x, hx, by rw [List.length_cons]; omega⟩
theorem Settles.no_ring {ss rest t : List Bool} {P : Pap} {r1 r2 : List Nat} (S : Settles ws ps ss rest P) (R : Rounds ws ps ss r1 r2 t) : False := by
  obtain ⟨v, hv⟩ := look_some.mp ((S.stands.mem t).mpr ⟨_, R.road⟩)
  obtain ⟨u, hu, le⟩ := S.falls.road hv R.ring
  rw [hv] at hu
  cases hu
  have : 0 < r2.length := List.length_pos_iff.mpr R.ne
  omega
theorem Settles.no_parts {ss rest t1 t2 : List Bool} {P : Pap} {r1 r2 : List Nat} (S : Settles ws ps ss rest P) (R : Parts ws ps ss r1 r2 t1 t2) : False :=
  R.ne (((S.rest t1 ((S.stands.mem t1).mpr ⟨_, R.road1⟩)).mp R.rest1).trans ((S.rest t2 ((S.stands.mem t2).mpr ⟨_, R.road2⟩)).mp R.rest2).symm)
theorem Settles.rest_eq {ss rest rest2 : List Bool} {P P2 : Pap} (S : Settles ws ps ss rest P) (S2 : Settles ws ps ss rest2 P2) : rest = rest2 := by
  have h := (S.rest rest S.here).mpr rfl
  exact (S2.rest rest ((S2.stands.mem _).mpr ((S.stands.mem _).mp S.here))).mp h
theorem look_snoc : ∀ {P : Pap} {t : List Bool} {v : Nat} (k : List Bool), t ∉ P.map (·.1) → look (P ++ [(t, v)]) k = if t = k then some v else look P k
  | [], t, v, k, _ => look_cons _ _ _
  | x :: P, t, v, k, h => by
    rw [List.map_cons, List.mem_cons] at h
    show look (x :: (P ++ [(t, v)])) k = _
    rw [look_cons, look_cons]
    by_cases e : x.1 = k
    · have : t ≠ k := fun z => h (.inl (z.trans e.symm))
      rw [if_pos e, if_neg this, if_pos e]
    · rw [if_neg e, if_neg e, look_snoc k fun z => h (.inr z)]
def maxI (d : Int) : List Int → Int
  | [] => d
  | y :: ys => ys.foldl max y
def tops : List Nat → Nat
  | [] => 0
  | y :: ys => 1 + ys.foldl max y
theorem fold_ge : ∀ (ys : List Nat) (y : Nat), y ≤ ys.foldl max y ∧ ∀ x ∈ ys, x ≤ ys.foldl max y
  | [], y => ⟨Nat.le_refl _, fun _ h => (nomatch h)⟩
  | z :: ys, y => by
    obtain ⟨h1, h2⟩ := fold_ge ys (max y z)
    refine ⟨Nat.le_trans (Nat.le_max_left _ _) h1, fun x hx => ?_⟩
    rcases List.mem_cons.mp hx with rfl | hx
    · exact Nat.le_trans (Nat.le_max_right _ _) h1
    · exact h2 x hx
theorem fold_lt {B : Nat} : ∀ (ys : List Nat) (y : Nat), y < B → (∀ x ∈ ys, x < B) → ys.foldl max y < B
  | [], y, h, _ => h
  | z :: ys, y, h, k => fold_lt ys (max y z) (Nat.max_lt.mpr ⟨h, k z List.mem_cons_self⟩) fun x hx => k x (List.mem_cons_of_mem _ hx)
theorem tops_lt {l : List Nat} {x : Nat} (h : x ∈ l) : x < tops l := by
  cases l with
  | nil => cases h
  | cons y ys =>
    obtain ⟨h1, h2⟩ := fold_ge ys y
    show x < 1 + _
    rcases List.mem_cons.mp h with rfl | h
    · omega
    · have := h2 x h; omega
theorem tops_le {l : List Nat} {B : Nat} (h : ∀ x ∈ l, x < B) : tops l ≤ B := by
  cases l with
  | nil => exact Nat.zero_le _
  | cons y ys =>
    have := fold_lt ys y (h y List.mem_cons_self) fun x hx => h x (List.mem_cons_of_mem _ hx)
    show 1 + _ ≤ _
    omega
theorem tops_zero {l : List Nat} : tops l = 0 ↔ l = [] := by
  cases l with
  | nil => exact ⟨fun _ => rfl, fun _ => rfl⟩
  | cons y ys => exact ⟨fun h => absurd (show 1 + _ = 0 from h) (by omega), fun h => nomatch h⟩
theorem fold_cast : ∀ (ys : List Nat) (y : Nat), (ys.map fun (k : Nat) => (k : Int)).foldl max (y : Int) = ((ys.foldl max y : Nat) : Int)
  | [], y => rfl
  | z :: ys, y => by
    have := fold_cast ys (max y z)
    rw [List.map_cons, List.foldl_cons, List.foldl_cons, ← this]
    congr 1
    omega
theorem tops_int (l : List Nat) : (1 : Int) + maxI (-1) (l.map fun (k : Nat) => (k : Int)) = ((tops l : Nat) : Int) := by
  cases l with
  | nil => rfl
  | cons y ys =>
    show (1 : Int) + (ys.map fun (k : Nat) => (k : Int)).foldl max (y : Int) = ((1 + ys.foldl max y : Nat) : Int)
    rw [fold_cast]; omega
/-- the numbers behind t's moves -/
def behind (ws : List W) (ps : List Bool) (P : Pap) (t : List Bool) : List Nat := (movL ws ps t).map fun k => (look P (flip t k)).getD 0
theorem Falls.snoc {P : Pap} {t : List Bool} (F : Falls ws ps P) (ht : t ∉ P.map (·.1)) (h : ∀ k ∈ movL ws ps t, flip t k ∈ P.map (·.1)) : Falls ws ps (P ++ [(t, tops (behind ws ps P t))]) := by
  have keys : (P ++ [(t, tops (behind ws ps P t))]).map (·.1) = P.map (·.1) ++ [t] := by rw [List.map_append]; rfl
  have hb : ∀ k ∈ movL ws ps t, ∃ u, look P (flip t k) = some u ∧ u ∈ behind ws ps P t := fun k hk => by
    obtain ⟨u, hu⟩ := look_some.mp (h k hk)
    exact ⟨u, hu, List.mem_map.mpr ⟨k, hk, by rw [hu]; rfl⟩⟩
  have bl : ∀ x ∈ behind ws ps P t, x < P.length := fun x hx => by
    obtain ⟨k, hk, rfl⟩ := List.mem_map.mp hx
    obtain ⟨u, hu, _⟩ := hb k hk
    rw [hu]; exact F.low _ _ hu
  have other : ∀ u ∈ P.map (·.1), look (P ++ [(t, tops (behind ws ps P t))]) u = look P u := fun u hu => by
    have : t ≠ u := fun e => ht (e ▸ hu)
    rw [look_snoc u ht, if_neg this]
  have self : look (P ++ [(t, tops (behind ws ps P t))]) t = some (tops (behind ws ps P t)) := by rw [look_snoc t ht, if_pos rfl]
  refine ⟨?_, ?_, ?_, ?_⟩
  · rw [keys]
    refine List.nodup_append.mpr ⟨F.nodup, List.nodup_cons.mpr ⟨(fun h => nomatch h), List.nodup_nil⟩, fun a ha b hb e => ?_⟩
    rw [List.mem_singleton.mp hb] at e
    exact ht (e ▸ ha)
  · intro u v hu k hk
    by_cases e : t = u
    · subst e
      rw [self] at hu
      cases hu
      obtain ⟨x, hx, hm⟩ := hb k hk
      exact ⟨x, by rw [other _ (h k hk)]; exact hx, tops_lt hm⟩
    · rw [look_snoc u ht, if_neg e] at hu
      obtain ⟨x, hx, lt⟩ := F.fall u v hu k hk
      exact ⟨x, by rw [other _ (look_some.mpr ⟨x, hx⟩)]; exact hx, lt⟩
  · intro u
    rw [keys, List.mem_append, List.mem_singleton, look_snoc u ht]
    by_cases e : t = u
    · subst e
      rw [if_pos rfl]
      constructor
      · intro z
        have z : tops (behind ws ps P t) = 0 := Option.some.inj z
        refine ⟨.inr rfl, ?_⟩
        have := tops_zero.mp z
        exact List.map_eq_nil_iff.mp this
      · rintro ⟨_, z⟩
        have : behind ws ps P t = [] := by unfold behind; rw [z]; rfl
        rw [this]; rfl
    · rw [if_neg e, F.zero u]
      exact ⟨fun ⟨a, b⟩ => ⟨.inl a, b⟩, fun ⟨a, b⟩ => ⟨a.resolve_right fun z => e z.symm, b⟩⟩
  · intro u v hu
    rw [List.length_append, List.length_singleton]
    by_cases e : t = u
    · rw [look_snoc u ht, if_pos e] at hu
      cases hu
      have := tops_le bl; omega
    · rw [look_snoc u ht, if_neg e] at hu
      have := F.low u v hu; omega
theorem Falls.ends {P : Pap} (F : Falls ws ps P) : ∀ (v : Nat) (t : List Bool), look P t = some v → ∃ u ∈ P.map (·.1), movL ws ps u = [] := by
  intro v
  induction v using Nat.strongRecOn with
  | _ v ih =>
    intro t ht
    cases h : movL ws ps t with
    | nil => exact ⟨t, look_some.mpr ⟨v, ht⟩, h⟩
    | cons k ks =>
      obtain ⟨u, hu, lt⟩ := F.fall t v ht k (by rw [h]; exact List.mem_cons_self)
      exact ih u lt _ hu
end
end Rl

namespace Rl
open PySem PySem.Spec L2
/-! ### dicts whose keys are tuples of truth values -/
abbrev BK (P : Program) (w : World) : HeapKind P w (List Bool) := tupleKind (PpSet.boolK P w)
def bEnt (x : List Bool × Addr × Value) : DictEntry := ⟨reduceHash (Builtin.Tuple.tupleHashOf (x.1.map PpSet.hB)), .ref x.2.1, x.2.2⟩
theorem bEnt_eq (P : Program) (w : World) : bEnt = entryOfKey (BK P w) := rfl
def bFits (a : Addr) (bs : List Addr) (kvs : List (List Bool × V)) (h : Heap) : Prop :=
  kvs.length ≤ sizeLine ∧ (a == sysModules) = false ∧ ∃ xs : List (List Bool × Addr × Value), KV kvs (pairsH xs) ∧ xs.map (fun x => x.2.1) = bs ∧
    ∃ o ens ep, h.get? a = some o ∧ o.ExactDict ∧ o.data = .dict ens ep ∧ ens.toList = xs.map bEnt ∧ (xs.map (·.1)).Nodup
/-- the dict at a, its keys at bs -/
def bD (a : Addr) (bs : List Addr) (kvs : List (List Bool × V)) : HO := .ext (bFits a bs kvs)
theorem bD_ok {P : Program} {w : World} {H : Hp} {h : Heap} {a : Addr} {bs : List Addr} {kvs : List (List Bool × V)} (q : bFits a bs kvs h) : ObjOk P w H h a (bD a bs kvs) := by
  refine ⟨q, ?_, ?_⟩
  · obtain ⟨_, _, _, _, _, o, _, _, e, _⟩ := q; exact ⟨o, e⟩
  · rintro h1 h2 ⟨z, y, xs, r, l, o, ens, ep, e, c⟩ k
    exact ⟨z, y, xs, r, l, o, ens, ep, k o e, c⟩
/-- the keys' tuples -/
def KAt (H : Hp) (bs : List Addr) (ks : List (List Bool)) : Prop := Paired (fun b (k : List Bool) => H b = some (.tup (k.map V.bl))) bs ks
theorem KAt.tk {H H' : Hp} {bs : List Addr} {ks : List (List Bool)} (h : KAt H bs ks) (t : Tk H H') : KAt H' bs ks := Paired.mapP h fun _ _ e => t _ _ e
def DBat (H : Hp) (a : Addr) (kvs : List (List Bool × V)) : Prop := ∃ bs, H a = some (bD a bs kvs) ∧ KAt H bs (kvs.map (·.1)) ∧ (kvs.map (·.1)).Nodup
theorem DBat.same {H H' : Hp} {a : Addr} {kvs : List (List Bool × V)} (h : DBat H a kvs) (s : Same H H') : DBat H' a kvs := by
  obtain ⟨bs, e, k, n⟩ := h
  exact ⟨bs, s _ _ e, k.tk (Same.tk s), n⟩
theorem DBat.at {H H' : Hp} {a : Addr} {kvs : List (List Bool × V)} (h : DBat H a kvs) (e : H' a = H a) (t : Tk H H') : DBat H' a kvs := by
  obtain ⟨bs, e1, k, n⟩ := h
  exact ⟨bs, e.trans e1, k.tk t, n⟩
theorem DBat.nodup {H : Hp} {a : Addr} {kvs : List (List Bool × V)} (h : DBat H a kvs) : (kvs.map (·.1)).Nodup := let ⟨_, _, _, n⟩ := h; n
theorem bItems {P : Program} {w : World} : ∀ {k : List Bool} {us : List Value}, Vals (k.map V.bl) us → ItemsAre (PpSet.boolK P w) k us
  | [], _, r => by rw [List.map_nil] at r; cases r; exact .nil
  | b :: k, _, r => by
    rw [List.map_cons] at r
    cases r with
    | @cons _ u _ _ h t =>
      cases (show u = Value.bool b from h)
      exact .cons (PpSet.boolK_is P w b) (bItems t)
theorem bKey {P : Program} {w : World} {H : Hp} {h : Heap} {a : Addr} {k : List Bool} (ok : HOk P w H h) (e : H a = some (.tup (k.map V.bl))) : (BK P w).is h k a := by
  obtain ⟨_, its, r, ob, e1, e2, n, e3⟩ := (show ObjOk P w H h a (.tup (k.map V.bl)) from ok a _ e)
  exact ⟨ob, its.toArray, n, e1, e2, e3, by simpa using bItems r⟩
theorem kat_iff {H : Hp} : ∀ {xs : List (List Bool × Addr × Value)}, KAt H (xs.map fun x => x.2.1) (xs.map (·.1)) ↔ ∀ x ∈ xs, H x.2.1 = some (.tup (x.1.map V.bl))
  | [] => ⟨(fun _ _ h => nomatch h), (fun _ => .nil)⟩
  | x :: xs => by
    rw [List.map_cons, List.map_cons]
    constructor
    · intro h
      cases h with
      | cons r t =>
        intro y hy
        rcases List.mem_cons.mp hy with rfl | hy
        · exact r
        · exact (kat_iff.mp t) y hy
    · intro h
      exact .cons (h x List.mem_cons_self) (kat_iff.mpr fun y hy => h y (List.mem_cons_of_mem _ hy))
theorem pairs_keys (xs : List (List Bool × Addr × Value)) : (pairsH xs).map (·.1) = xs.map (·.1) := by
  unfold pairsH; rw [List.map_map]; rfl
theorem bOf {P : Program} {w : World} {H : Hp} {h : Heap} {a : Addr} {bs : List Addr} {kvs : List (List Bool × V)} (ok : HOk P w H h) (q : bFits a bs kvs h) (k : KAt H bs (kvs.map (·.1))) :
    kvs.length ≤ sizeLine ∧ (a == sysModules) = false ∧ ∃ xs : List (List Bool × Addr × Value), KV kvs (pairsH xs) ∧ xs.map (fun x => x.2.1) = bs ∧ h.DictOfH (BK P w) a xs := by
  obtain ⟨z, y, xs, r, l, o, ens, ep, e, c, d, f, n⟩ := q
  refine ⟨z, y, xs, r, l, o, ens, ep, e, c, d, f, fun x hx => ?_, n⟩
  rw [← l, KV.keys r, pairs_keys] at k
  exact bKey ok (kat_iff.mp k x hx)
theorem DBat.of {P : Program} {w : World} {H : Hp} {h : Heap} {a : Addr} {kvs : List (List Bool × V)} (ok : HOk P w H h) (d : DBat H a kvs) :
    ∃ bs, H a = some (bD a bs kvs) ∧ KAt H bs (kvs.map (·.1)) ∧ kvs.length ≤ sizeLine ∧ (a == sysModules) = false ∧ ∃ xs : List (List Bool × Addr × Value), KV kvs (pairsH xs) ∧ xs.map (fun x => x.2.1) = bs ∧ h.DictOfH (BK P w) a xs := by
  obtain ⟨bs, e, k, _⟩ := d
  have q : ObjOk P w H h a (bD a bs kvs) := ok a _ e
  exact ⟨bs, e, k, bOf ok q.1 k⟩
theorem dictH_bFits {P : Program} {w : World} {h : Heap} {a : Addr} {kvs : List (List Bool × V)} {xs : List (List Bool × Addr × Value)} (z : kvs.length ≤ sizeLine) (y : (a == sysModules) = false) (r : KV kvs (pairsH xs)) (d : h.DictOfH (BK P w) a xs) :
    bFits a (xs.map fun x => x.2.1) kvs h := by
  obtain ⟨o, ens, ep, e, c, dd, f, _, n⟩ := d
  exact ⟨z, y, xs, r, rfl, o, ens, ep, e, c, dd, f, n⟩
theorem nodup_of {P : Program} {w : World} {h : Heap} {a : Addr} {kvs : List (List Bool × V)} {xs : List (List Bool × Addr × Value)} (r : KV kvs (pairsH xs)) (d : h.DictOfH (BK P w) a xs) : (kvs.map (·.1)).Nodup := by
  obtain ⟨o, ens, ep, e, c, dd, f, _, n⟩ := d
  rw [KV.keys r, pairs_keys]; exact n
theorem bVal {kvs : List (List Bool × V)} {xs : List (List Bool × Addr × Value)} (r : KV kvs (pairsH xs)) (k : List Bool) : RelO (valV kvs k) ((atKey xs k).map (·.2)) := by
  rw [← valueAt_pairsH]
  exact KV.val r k
theorem kat_put {H : Hp} {xs : List (List Bool × Addr × Value)} {k : List Bool} {b : Addr} {v : Value} (h : ∀ x ∈ xs, H x.2.1 = some (.tup (x.1.map V.bl))) (e : H b = some (.tup (k.map V.bl))) : ∀ x ∈ storedH xs k b v, H x.2.1 = some (.tup (x.1.map V.bl)) := by
  intro x hx
  unfold storedH at hx
  split at hx
  · obtain ⟨y, hy, rfl⟩ := List.mem_map.mp hx
    unfold putAt
    split
    · exact h y hy
    · exact h y hy
  · rcases List.mem_append.mp hx with q | q
    · exact h x q
    · rw [List.mem_singleton.mp q]; exact e
/-- all but a stay -/
def But (a : Addr) (H H' : Hp) : Prop := ∀ c, c ≠ a → H' c = H c
theorem But.upd {a : Addr} {H : Hp} {o : HO} : But a H (upd H a o) := fun c hc => upd_ne hc
theorem But.tk {a : Addr} {H H' : Hp} {kvs : List (List Bool × V)} (b : But a H H') (d : DBat H a kvs) : Tk H H' := fun c xs e => by
  obtain ⟨bs, q, _⟩ := d
  rw [b c (ne_of e q (by intro z; cases z))]; exact e
theorem But.get {a c : Addr} {H H' : Hp} (b : But a H H') (h : c ≠ a) : H' c = H c := b c h
theorem Same.but {H0 H H' : Hp} {a : Addr} (s : Same H0 H) (n : H0 a = none) (b : But a H H') : Same H0 H' := fun c o e => by
  rw [b c (ne_of_none e n)]; exact s c o e
section
variable {X : Cx} {pins : List (Addr × Obj)} {σ : St} {H : Hp} {s : Shared} {a b : Addr} {v : V} {r : Value} {A : Around} {E : Value → Shared → Prop} {kvs : List (List Bool × V)} {k : List Bool}
theorem b_getItem {Q : Value → Shared → Prop} (hu : A.units + 1 < cLine) (I : Inv X pins σ H s) (d : DBat H a kvs) (eb : H b = some (.tup (k.map V.bl))) (hv : valV kvs k = some v) (h : ∀ w' s', Inv X pins σ H s' → RelV v w' → Q w' s') :
    wpAny (model X.prog X.w) A (getItem (.ref a) (.ref b)) Q E s := by
  obtain ⟨bs, e, ka, z, y, xs, rel, _, dd⟩ := d.of I.hok
  have q := bVal rel k
  rw [hv] at q
  obtain ⟨u, hu2, ru⟩ := RelO.some_of q
  obtain ⟨p, hp, rfl⟩ := Option.map_eq_some_iff.mp hu2
  exact wpAny_getItem_heap (tupleKind_room_in1 hu) (bKey I.hok eb) dd hp (h _ _ (I.tok _) ru)
theorem b_in {Q : Value → Shared → Prop} (hu : A.units + 1 < cLine) (I : Inv X pins σ H s) (d : DBat H a kvs) (eb : H b = some (.tup (k.map V.bl))) (h : ∀ s', Inv X pins σ H s' → Q (.bool (valV kvs k).isSome) s') :
    wpAny (model X.prog X.w) A (compareOp .In (.ref b) (.ref a)) Q E s := by
  obtain ⟨bs, e, ka, z, y, xs, rel, _, dd⟩ := d.of I.hok
  have q := (bVal rel k).isSome_eq
  rw [Option.isSome_map] at q
  refine wpAny_in_heap (tupleKind_room_in1 hu) (bKey I.hok eb) y dd ?_
  rw [← q]; exact h _ (I.tok _)
theorem b_notIn {Q : Value → Shared → Prop} (hu : A.units + 1 < cLine) (I : Inv X pins σ H s) (d : DBat H a kvs) (eb : H b = some (.tup (k.map V.bl))) (h : ∀ s', Inv X pins σ H s' → Q (.bool (!(valV kvs k).isSome)) s') :
    wpAny (model X.prog X.w) A (compareOp .NotIn (.ref b) (.ref a)) Q E s := by
  obtain ⟨bs, e, ka, z, y, xs, rel, _, dd⟩ := d.of I.hok
  have q := (bVal rel k).isSome_eq
  rw [Option.isSome_map] at q
  refine PyProof.Rows.wpAny_notIn_heap (tupleKind_room_in1 hu) (bKey I.hok eb) y dd ?_
  rw [← q]; exact h _ (I.tok _)
/-- the dict at a is written -/
theorem b_write {h' : Heap} {t' : Nat} {kvs2 : List (List Bool × V)} {xs2 : List (List Bool × Addr × Value)} (I : Inv X pins σ H s) (d : DBat H a kvs) (hs : Heap.SameBut a s.heap h') (z : kvs2.length ≤ sizeLine) (rel : KV kvs2 (pairsH xs2)) (dd : h'.DictOfH (BK X.prog X.w) a xs2)
    (hk : ∀ x ∈ xs2, H x.2.1 = some (.tup (x.1.map V.bl))) : ∃ H', Inv X pins σ H' { s with heap := h', toks := t' } ∧ DBat H' a kvs2 ∧ But a H H' := by
  obtain ⟨bs, e, ka, z0, y, xs, rel0, _, dd0⟩ := d.of I.hok
  have e2 : ∃ q, h'.get? a = some q := let ⟨q, _, _, hq, _⟩ := dd; ⟨q, hq⟩
  have t : Tk H (upd H a (bD a (xs2.map fun x => x.2.1) kvs2)) := fun c ys q => by rw [upd_ne (ne_of q e (by intro z; cases z))]; exact q
  refine ⟨upd H a (bD a (xs2.map fun x => x.2.1) kvs2), I.write (x := a) (e := a) (by rw [e]; exact True.intro) (.inl rfl) (fun c q hc u => (hs.2 c hc).trans u) e2 (bD_ok (dictH_bFits z y rel dd)), ⟨_, upd_same, ?_, nodup_of rel dd⟩, But.upd⟩
  have w : KAt H (xs2.map fun x => x.2.1) (kvs2.map (·.1)) := by
    rw [KV.keys rel, pairs_keys]; exact kat_iff.mpr hk
  exact w.tk t
theorem b_setItem {Q : Unit → Shared → Prop} (hu : A.units + 1 < cLine) (I : Inv X pins σ H s) (d : DBat H a kvs) (eb : H b = some (.tup (k.map V.bl))) (hl : kvs.length < sizeLine) (rv : RelV v r)
    (h : ∀ H' s', Inv X pins σ H' s' → DBat H' a (putK kvs k v) → But a H H' → Q () s') : wpAny (model X.prog X.w) A (setItem (.ref a) (.ref b) r) Q E s := by
  obtain ⟨bs, e, ka, z, y, xs, rel, hbs, dd⟩ := d.of I.hok
  have hz : xs.length ≤ sizeLine := by
    have : kvs.length = xs.length := by rw [KV.length rel]; unfold pairsH; rw [List.length_map]
    omega
  refine wpAny_setItem_heap (hsz := hz) (tupleKind_room_in1 hu) (bKey I.hok eb) dd fun h' dd' hs => ?_
  have hl2 : (putK kvs k v).length ≤ sizeLine := by have := length_putK kvs k v; omega
  rw [← hbs, KV.keys rel, pairs_keys] at ka
  obtain ⟨H', I', d', b'⟩ := b_write (t' := s.toks + (BK X.prog X.w).draws k) I d hs hl2 (xs2 := storedH xs k b r) (by rw [pairsH_storedH]; exact KV.put rel k rv) dd' (kat_put (kat_iff.mp ka) eb)
  exact h H' _ I' d' b'
end
/-! ### readings and rules -/
def tBGet (td ty : TE) : TE := fun σ H Q => td σ H fun x H1 => ty σ H1 fun y H2 => ∃ a b kvs k v, x = .ref a ∧ y = .ref b ∧ DBat H2 a kvs ∧ H2 b = some (.tup (k.map V.bl)) ∧ valV kvs k = some v ∧ Q v H2
def tBIn (ty td : TE) : TE := fun σ H Q => ty σ H fun y H1 => td σ H1 fun x H2 => ∃ a b kvs k, x = .ref a ∧ y = .ref b ∧ DBat H2 a kvs ∧ H2 b = some (.tup (k.map V.bl)) ∧ Q (.bl (valV kvs k).isSome) H2
def tBNotIn (ty td : TE) : TE := fun σ H Q => ty σ H fun y H1 => td σ H1 fun x H2 => ∃ a b kvs k, x = .ref a ∧ y = .ref b ∧ DBat H2 a kvs ∧ H2 b = some (.tup (k.map V.bl)) ∧ Q (.bl (!(valV kvs k).isSome)) H2
def sBPut (td ty tv : TE) : TS := fun D σ H => tv σ H fun v H1 => td σ H1 fun x H2 => ty σ H2 fun y H3 => ∃ a b kvs k, x = .ref a ∧ y = .ref b ∧ DBat H3 a kvs ∧ H3 b = some (.tup (k.map V.bl)) ∧ kvs.length < sizeLine ∧
  ∀ H4, DBat H4 a (putK kvs k v) → But a H3 H4 → D.nx σ H4
def tBNew : TE := fun _ H Q => ∀ p H', H p = none → Same H H' → But p H H' → DBat H' p [] → Q (.ref p) H'
section
variable {X : Cx} {o i e value : Expr} {pos pos' tpos : Pos} {td ty tv : TE}
theorem DBat.typeIs {pins : List (Addr × Obj)} {σ : St} {H : Hp} {s : Shared} {a : Addr} {kvs : List (List Bool × V)} (I : Inv X pins σ H s) (d : DBat H a kvs) : s.TypeIs (.ref a) "dict" := by
  obtain ⟨_, _, _, _, _, xs, _, _, dd⟩ := d.of I.hok
  exact dd.typeIs
theorem DBat.noDict {pins : List (Addr × Obj)} {σ : St} {H : Hp} {s : Shared} {a : Addr} {kvs : List (List Bool × V)} (I : Inv X pins σ H s) (d : DBat H a kvs) : ∀ b, Value.ref a = .ref b → ∃ ob, s.heap.get? b = some ob ∧ ob.dict = none := fun b q => by
  cases q
  obtain ⟨_, _, _, _, _, xs, _, _, ob, _, _, e1, e2, _⟩ := d.of I.hok
  exact ⟨ob, e1, e2.2.1⟩
theorem pe_bget (hu : X.A.units + 1 < cLine) (ho : PE X o td) (hi : PE X i ty) (hs : NoSl i) : PE X (.Subscript o i pos) (tBGet td ty) := by
  refine ⟨fun pins s σ H Q I h => subD_of PySem.F.slot_dict_getitem.lookup hs (thn (ho.run pins s σ H _ I h) fun u s1 ⟨x, H1, I1, rx, q1⟩ => thn (hi.run pins s1 σ H1 _ I1 q1) ?_)⟩
  rintro iv s2 ⟨y, H2, I2, ry, a, b, kvs, k, v, rfl, rfl, d, eb, hv, q2⟩
  obtain rfl : u = Value.ref a := rx
  obtain rfl : iv = Value.ref b := ry
  exact ⟨d.typeIs I2, b_getItem hu I2 d eb hv fun w' s3 I3 rw' => ⟨v, H2, I3, rw', q2⟩⟩
theorem pc_bin (hu : X.A.units + 1 < cLine) (hi : PE X i ty) (ho : PE X o td) : PC X .In i o (tBIn ty td) := by
  refine ⟨fun pins s σ H Q I h => thn (hi.run pins s σ H _ I h) fun iv s1 ⟨y, H1, I1, ry, q1⟩ => thn (ho.run pins s1 σ H1 _ I1 q1) ?_⟩
  rintro u s2 ⟨x, H2, I2, rx, a, b, kvs, k, rfl, rfl, d, eb, q2⟩
  obtain rfl : u = Value.ref a := rx
  obtain rfl : iv = Value.ref b := ry
  exact b_in hu I2 d eb fun s3 I3 => ⟨.bl (valV kvs k).isSome, H2, I3, rfl, q2⟩
theorem pc_bnotin (hu : X.A.units + 1 < cLine) (hi : PE X i ty) (ho : PE X o td) : PC X .NotIn i o (tBNotIn ty td) := by
  refine ⟨fun pins s σ H Q I h => thn (hi.run pins s σ H _ I h) fun iv s1 ⟨y, H1, I1, ry, q1⟩ => thn (ho.run pins s1 σ H1 _ I1 q1) ?_⟩
  rintro u s2 ⟨x, H2, I2, rx, a, b, kvs, k, rfl, rfl, d, eb, q2⟩
  obtain rfl : u = Value.ref a := rx
  obtain rfl : iv = Value.ref b := ry
  exact b_notIn hu I2 d eb fun s3 I3 => ⟨.bl (!(valV kvs k).isSome), H2, I3, rfl, q2⟩
theorem ps_bput (hu : X.A.units + 1 < cLine) (ho : PE X o td) (hi : PE X i ty) (hv : PE X value tv) (hs : swapsWith value (some (.Subscript o i pos')) pos.line X.env = pure false) : PS X (.Assign [.Subscript o i pos'] value pos) (sBPut td ty tv) := by
  refine ⟨fun pins s σ H D I h => wpAny_Assign_Subscript (thn (hv.run pins s σ H _ I h) fun r s1 ⟨v, H1, I1, rv, q1⟩ => thn (ho.run pins s1 σ H1 _ I1 q1) fun u s2 ⟨x, H2, I2, rx, q2⟩ => thn (hi.run pins s2 σ H2 _ I2 q2) ?_) hs⟩
  rintro iv s3 ⟨y, H3, I3, ry, a, b, kvs, k, rfl, rfl, d, eb, hl, q3⟩
  obtain rfl : u = Value.ref a := rx
  obtain rfl : iv = Value.ref b := ry
  exact b_setItem hu I3 d eb hl rv fun H4 s4 I4 d4 b4 => ⟨σ, H4, I4, q3 H4 d4 b4⟩
theorem b_fresh {P : Program} {w : World} (h : Heap) (hb : sysModules < h.objs.size) : bFits h.objs.size [] [] (h.push { cls := .type "dict", data := .dict #[] }) :=
  dictH_bFits (P := P) (w := w) (xs := []) (Nat.zero_le _) (beq_eq_false_iff_ne.mpr (Ne.symm (Nat.ne_of_lt hb))) .nil (Heap.DictOfH.new h)
theorem b_new {pins : List (Addr × Obj)} {σ : St} {H : Hp} {s : Shared} (t : Nat) (I : Inv X pins σ H s) : Inv X pins σ (upd H s.heap.objs.size (bD s.heap.objs.size [] [])) { s with heap := s.heap.push { cls := .type "dict", data := .dict #[] }, toks := t } :=
  I.laid (fun _ _ q => Heap.get?_push_of_some _ q) (Nat.le_refl _) (bD_ok (b_fresh (P := X.prog) (w := X.w) s.heap I.big))
theorem dbat_new {H : Hp} {p : Addr} : DBat (upd H p (bD p [] [])) p [] := ⟨[], upd_same, .nil, List.nodup_nil⟩
theorem pe_bnew : PE X (.Dict [] [] pos) tBNew := ⟨fun pins s σ H Q I h => by
  have hn : H s.heap.objs.size = none := I.hok.fresh (Nat.le_refl _)
  exact wpAny_Dict_empty ⟨.ref s.heap.objs.size, _, b_new s.toks I, rfl, h _ _ hn (Same.new hn) But.upd dbat_new⟩⟩
/-- {k: v} -/
def tBOne (tk tv : TE) : TE := fun σ H Q => ∀ p H0, H p = none → Same H H0 → But p H H0 → DBat H0 p [] → tk σ H0 fun x H1 => tv σ H1 fun v H2 => DBat H2 p [] ∧ ∃ b k, x = .ref b ∧ H2 b = some (.tup (k.map V.bl)) ∧
  ∀ H3, DBat H3 p [(k, v)] → But p H2 H3 → Q (.ref p) H3
theorem pe_bone {k v : Expr} {tk tv : TE} (hu : X.A.units + 1 < cLine) (hk : PE X k tk) (hv : PE X v tv) : PE X (.Dict [some k] [v] pos) (tBOne tk tv) := by
  refine ⟨fun pins s σ H Q I h => ?_⟩
  have hn : H s.heap.objs.size = none := I.hok.fresh (Nat.le_refl _)
  have I0 := b_new s.toks I
  have h0 := h _ _ hn (Same.new hn) But.upd dbat_new
  have np : pairTrees [some k] [v] X.env pos ≠ [] := by
    intro z
    have e := congrArg List.length z
    rw [pairTrees_length [some k] [v] X.env pos rfl rfl] at e
    exact absurd (show 1 = 0 from e) (by decide)
  have nl : (pairTrees [some k] [v] X.env pos).length = 1 := pairTrees_length [some k] [v] X.env pos rfl rfl
  rw [arm_eval_Dict, zip_pairTrees [some k] [v] X.env pos rfl rfl, dictDisplay_pairs (pairTrees [some k] [v] X.env pos) np (by rw [nl]; exact Nat.le_of_ble_eq_true rfl)]
  refine wpAny_bind (wpAny_standAt (wpAny_bind (wpAny_subDictH (knd := BK X.prog X.w) (show X.A.units < cLine from by omega) (by rw [nl]; exact Nat.le_of_ble_eq_true rfl) ?_)))
  refine pairTrees_cons_walk (thn (hk.run pins _ σ _ _ I0 h0) fun u s1 ⟨x, H1, I1, rx, q1⟩ => thn (hv.run pins s1 σ H1 _ I1 q1) fun w2 s2 ⟨y, H2, I2, ry, d2, b, kk, ex, eb, q2⟩ => pairTrees_nil_walk ?_)
  subst ex
  obtain rfl : u = Value.ref b := rx
  obtain ⟨bs, e, ka, z, yy, xs, rel, hbs, dd⟩ := d2.of I2.hok
  have hx : xs = [] := by
    have := KV.length rel
    unfold pairsH at this
    rw [List.length_map] at this
    exact List.eq_nil_of_length_eq_zero this.symm
  subst hx
  refine ⟨[(kk, b, w2)], ⟨rfl, rfl, bKey I2.hok eb, True.intro⟩, dd, fun h' t dd2 hs => ?_⟩
  obtain ⟨H3, I3, d3, b3⟩ := b_write (t' := t) I2 d2 hs (kvs2 := [(kk, y)]) (xs2 := [(kk, b, w2)]) (small10 (Nat.le_of_ble_eq_true rfl)) (.cons ⟨rfl, ry⟩ .nil) dd2 (fun x hx => by rw [List.mem_singleton.mp hx]; exact eb)
  exact wpAny_pure ⟨.ref s.heap.objs.size, H3, I3, rfl, q2 H3 d3 b3⟩
end
/-! ### calls and methods -/
section
variable {X : Cx}
def rBLen : List V → Hp → VK → Prop := fun xs H Q => ∃ a kvs, xs = [.ref a] ∧ DBat H a kvs ∧ Q (.int ((kvs.length : Nat) : Int)) H
theorem call_blen : CallR X (.builtin "len") rBLen := by
  rintro pins s σ H xs us Q I r ⟨a, kvs, rfl, d, q⟩
  obtain ⟨u, rfl, rx⟩ := vals1 r
  obtain rfl : u = .ref a := rx
  obtain ⟨bs, e, ka, z, y, ys, rel, _, dd⟩ := d.of I.hok
  have hl : kvs.length = ys.length := by rw [KV.length rel]; unfold pairsH; rw [List.length_map]
  refine call_len_dictH y dd (by rw [← hl]; rw [sizeLine_eq] at z; omega) ?_
  rw [← hl]
  exact ⟨.int ((kvs.length : Nat) : Int), H, I.tok _, ⟨_, rfl⟩, q⟩
/-- list(d) -/
def rBList : List V → Hp → VK → Prop := fun xs H Q => ∃ a kvs, xs = [.ref a] ∧ DBat H a kvs ∧ ∀ p H' us, H p = none → Same H H' → H' p = some (.lst us) → Tups H' (kvs.map (·.1)) us → Q (.ref p) H'
theorem kat_tups {H : Hp} : ∀ {bs : List Addr} {ks : List (List Bool)}, KAt H bs ks → Tups H ks (bs.map V.ref)
  | _, _, .nil => .nil
  | _, _, .cons r t => .cons ⟨_, rfl, r⟩ (kat_tups t)
theorem call_blist (hc : X.calm = true) : CallR X (.type "list") rBList := by
  rintro pins s σ H vs us Q I r ⟨a, kvs, rfl, d, q⟩
  obtain ⟨u, rfl, rx⟩ := r.one
  cases rx
  obtain ⟨bs, e, ka, z, y, xs, rel, hbs, dd⟩ := d.of I.hok
  obtain ⟨o, ens, ep, ho, hx, hd, hen, _, hn⟩ := dd
  have l1 : ens.size = xs.length := size_of_entries hen
  have l2 : kvs.length = xs.length := by rw [KV.length rel]; unfold pairsH; rw [List.length_map]
  refine PySem.W.kdl_call (kdl_raw y hx hd) (I.ok.hd hc) ho (by omega) fun h' tk acc c kp e1 it => ?_
  have ea : acc.toList = bs.map Value.ref := by
    rw [← hbs, List.map_map]
    apply List.ext_getElem?
    intro j
    rw [List.getElem?_map]
    cases hj : acc.toList[j]? with
    | none =>
      have g := List.getElem?_eq_none_iff.mp hj
      rw [Array.length_toList, it.1] at g
      rw [List.getElem?_eq_none (by omega)]; rfl
    | some v =>
      obtain ⟨en, he, rfl⟩ := it.2 j v (by rw [← Array.getElem?_toList]; exact hj)
      rw [entry_at hen j] at he
      obtain ⟨x, hx1, rfl⟩ := Option.map_eq_some_iff.mp he
      rw [hx1]; rfl
  have hl : (bs.map V.ref).length ≤ sizeLine := by rw [← hbs, List.length_map, List.length_map]; omega
  have hnew : H s.heap.objs.size = none := I.hok.fresh (Nat.le_refl _)
  refine ⟨.ref s.heap.objs.size, upd H s.heap.objs.size (.lst (bs.map V.ref)), I.laid kp (Nat.le_refl _) ⟨hl, acc.toList, c, by rw [ea]; exact vals_refs bs, by rw [Array.toArray_toList]; exact e1⟩, rfl, ?_⟩
  exact q _ _ _ hnew (Same.new hnew) upd_same (Tups.same (Same.new hnew) (kat_tups ka))
/-- isinstance(d, dict) -/
def rBIsi : List V → Hp → VK → Prop := fun xs H Q => ∃ a kvs, xs = [.ref a, .ty "dict"] ∧ DBat H a kvs ∧ Q (.bl true) H
theorem call_bisi : CallR X (.builtin "isinstance") rBIsi := by
  rintro pins s σ H xs us Q I r ⟨a, kvs, rfl, d, q⟩
  obtain ⟨u, w', rfl, rx, ry⟩ := vals2 r
  obtain rfl : u = .ref a := rx
  obtain rfl : w' = .type "dict" := ry
  obtain ⟨bs, e, ka, z, y, xs, rel, hbs, o, ens, ep, ho, hx, _⟩ := d.of I.hok
  exact PySem.W.kia_one PySem.W.kitx_dict I.kIn ⟨o, ho, hx.1⟩ (kit_ty (a := "dict") (b := "dict") (r := true) (by decide +kernel)) (fun z => nomatch z) fun tk => ⟨.bl true, H, I.tok tk, rfl, q⟩
end
/-! ### max with a default -/
def rMaxD (K : PySem.W.Frag) : List V → List V → Hp → VK → Prop := fun vs zs H Q => ∃ (a : Addr) (ns : List Int) (d : Int), vs = [.ref a] ∧ zs = [.int d] ∧ SqL K H a (ns.map V.int) ∧ Q (.int (maxI d ns)) H
theorem reads_ints {h : Heap} : ∀ {ns : List Int} {us : List Value}, Vals (ns.map V.int) us → ∃ as, ReadsAll h us (ns.map PyData.int) as
  | [], _, r => by rw [List.map_nil] at r; cases r; exact ⟨_, .nil⟩
  | n :: ns, _, r => by
    rw [List.map_cons] at r
    cases r with
    | cons h1 t =>
      obtain ⟨tk, rfl⟩ := h1
      obtain ⟨as, q⟩ := reads_ints (h := h) t
      exact ⟨_, .cons (.int n tk) q⟩
theorem depth_ints : ∀ ns : List Int, PyData.depthAll (ns.map PyData.int) = 0
  | [] => rfl
  | n :: ns => by
    rw [List.map_cons]
    show max (PyData.depth (.int n)) (PyData.depthAll (ns.map PyData.int)) = 0
    rw [depth_ints ns]; rfl
theorem call_maxD {X : Cx} (hc : X.calm = true) (hu : X.A.units + 1 < cLine) : CallRK X (.builtin "max") ["default"] (rMaxD X.K) := by
  rintro pins s σ H vs zs us ws Q I r rz ⟨a, ns, d, rfl, rfl, hs, q⟩
  obtain ⟨u, rfl, rx⟩ := vals1 r
  obtain rfl : u = .ref a := rx
  obtain ⟨u2, rfl, rd⟩ := vals1 rz
  obtain ⟨its, rv, hl, hz⟩ := I.list hs
  obtain ⟨as, hr⟩ := reads_ints (h := s.heap) rv
  have al : PySem.W.AlikeAll (ns.map PyData.int) := by
    refine ⟨fun x hx y hy => ?_, fun x hx => ?_⟩
    · obtain ⟨i, _, rfl⟩ := List.mem_map.mp hx
      obtain ⟨j, _, rfl⟩ := List.mem_map.mp hy
      rfl
    · obtain ⟨i, _, rfl⟩ := List.mem_map.mp hx
      intro z; cases z
  refine PySem.W.max_list_default (xs := ns.map PyData.int) (as := as) (I.ok.hd hc) hl.isList (by simpa using hr) al (by rw [depth_ints]; omega) (fun hn h' tk k => ?_) (fun y ys i v h' tk bs hn hi rd2 k => ?_)
  · cases ns with
    | nil => exact ⟨.int d, H, I.kept k, rd, q⟩
    | cons n ns => exact nomatch hn
  · cases ns with
    | nil => exact nomatch hn
    | cons n ns =>
      rw [List.map_cons] at hn
      cases hn
      rw [PySem.W.maxD_ints] at rd2
      cases rd2 with
      | int _ t => exact ⟨.int (ns.foldl max n), H, I.kept k, ⟨t, rfl⟩, q⟩
/-! ### a walk over the keys -/
section
variable {X : Cx} {pins : List (Addr × Obj)} {σ : St} {H : Hp} {s : Shared} {d : Addr} {o : Obj} {bs : List Addr} {kvs : List (List Bool × V)}
theorem frzB (I : Inv X pins σ H s) (h : H d = some (.frz o (bD d bs kvs))) :
    (d == sysModules) = false ∧ s.heap.get? d = some o ∧ o.ExactDict ∧ ∃ (es : Array DictEntry) (ep : Nat), o.data = .dict es ep ∧ es.size = bs.length ∧ ∀ (i : Nat) (b : Addr), bs[i]? = some b → ∃ en : DictEntry, es[i]? = some en ∧ en.key = .ref b := by
  obtain ⟨hd, q⟩ := I.hok d _ h
  obtain ⟨_, y, xs, r, l, o2, ens, ep, e, c, dd, f, _⟩ := q.1
  rw [hd] at e
  cases e
  refine ⟨y, hd, c, ens, ep, dd, ?_, fun i b hb => ?_⟩
  · rw [← l, List.length_map]; exact size_of_entries (knd := BK X.prog X.w) f
  · rw [← l, List.getElem?_map] at hb
    obtain ⟨x, hx, rfl⟩ := Option.map_eq_some_iff.mp hb
    have g := entry_at (knd := BK X.prog X.w) f i
    rw [hx] at g
    exact ⟨_, g, rfl⟩
end
/-- the keys of the locked dict at d -/
def ItB (d : Addr) (o : Obj) (bs : List Addr) (kvs : List (List Bool × V)) : It :=
  ⟨fun i H => H d = some (.frz o (bD d bs kvs)) ∧ i < bs.length, fun i H x H' => H' = H ∧ ∃ b, bs[i]? = some b ∧ x = .ref b, fun i H => H d = some (.frz o (bD d bs kvs)) ∧ bs.length ≤ i⟩
theorem turn_B {P : Program} {w : World} {K : PySem.W.Frag} {tg : Expr} {d : Addr} {o : Obj} {es : Array DictEntry} {ep : Nat} {bs : List Addr} {kvs : List (List Bool × V)} (it : Addr) (hod : o.data = .dict es ep) :
    Turn P w K tg (ItB d o bs kvs) [it] it (fun i h => h.IsKeyIter it d i bs.length ep) where
  mem := List.mem_singleton.mpr rfl
  obj := fun i h st b hb => by
    cases List.mem_singleton.mp hb
    obtain ⟨oi, e1, _, e3⟩ := st
    exact ⟨oi, e1, fun v z => by rw [e3] at z; cases z⟩
  keep := fun i h h2 st k => st.at fun oi e => k it (List.mem_singleton.mpr rfl) oi e
  item := by
    rintro X rfl rfl rfl hc i pins s σ H E I hf st ⟨hd, hi⟩
    obtain ⟨f0, f1, f2, f3, f4, f5⟩ := hf it (List.mem_singleton.mpr rfl)
    obtain ⟨y, hgd, hx, es2, ep2, hdt, hsz, ent⟩ := frzB I hd
    cases (dict_ep hod hdt).1
    cases (dict_ep hod hdt).2
    have hb : bs[i]? = some bs[i] := List.getElem?_eq_getElem hi
    obtain ⟨en, hen, hk⟩ := ent i _ hb
    refine next_key_item st hgd hdt hsz hen fun h2 st2 sb => ?_
    have I2 : Inv X pins σ H { s with heap := h2 } := I.turned (t' := s.toks) (fun b ob hb e => (sb.2 b hb).trans e) f0 f1 f3 f4 f5
    obtain ⟨oi, e1, c1, d1⟩ := id st2
    exact ⟨en.key, rfl, go_of (s := { s with heap := h2 }) e1 c1 d1 (by decide) ⟨.ref bs[i], H, I2, hk, ⟨rfl, _, hb, rfl⟩, st2, fun b hb => (hf b hb).1⟩⟩
  done := by
    rintro X rfl rfl rfl hc i pins s σ H E I hf st ⟨hd, hi⟩
    obtain ⟨f0, f1, f2, f3, f4, f5⟩ := hf it (List.mem_singleton.mpr rfl)
    obtain ⟨y, hgd, hx, es2, ep2, hdt, hsz, ent⟩ := frzB I hd
    cases (dict_ep hod hdt).1
    cases (dict_ep hod hdt).2
    exact next_key_end (I.ok.hd hc) st hgd hdt hsz hi fun h2 eb => ⟨rfl, I.turned (t' := s.toks) (fun b ob hb e => eb b ob hb e) f0 f1 f3 f4 f5⟩
  self := fun A i s Q E st h => by
    have ty := st.typeIs (s := s)
    refine wpAny_pyIter_slot ty F.slot_dict_keyiterator_iter ?_
    refine wpAny_call_entry F.slot_dict_keyiterator_iter ty F.entry_dict_keyiterator_iter ?_ (F.args_dict_keyiterator_iter_1 _)
    exact wpAny_pure ⟨.ref it, rfl, "dict_keyiterator", _, ty, F.slot_dict_keyiterator_next.lookup, h⟩
def iBKeys (td : TE) : TI := fun σ H R => td σ H fun x H1 => ∃ d o bs kvs, x = .ref d ∧ H1 d = some (.frz o (bD d bs kvs)) ∧ R (ItB d o bs kvs) H1
theorem pi_bkeys {X : Cx} {tg e : Expr} {td : TE} (he : PE X e td) : PI X tg e (iBKeys td) := by
  refine ⟨fun pins s σ H R I h => thn (he.run pins s σ H _ I h) ?_⟩
  rintro u s1 ⟨x, H1, I1, rx, d, o, bs, kvs, rfl, hd, q⟩
  obtain rfl : u = Value.ref d := rx
  obtain ⟨y, hgd, hx, es, ep, hdt, hsz, ent⟩ := frzB I1 hd
  refine iter_keys y hgd hx hdt (pi_one (tk := s1.toks) I1 _ (turn_B _ hdt) ⟨_, Heap.get?_push_size _ rfl, rfl, ?_⟩ q)
  rw [hsz]; rfl
theorem walk_B {d : Addr} {o : Obj} {bs : List Addr} {kvs : List (List Bool × V)} : Walk (ItB d o bs kvs) bs.length (fun H => H d = some (.frz o (bD d bs kvs))) (YAt (bs.map V.ref)) :=
  ⟨fun i H hi h => ⟨h, hi⟩, fun H h => ⟨h, Nat.le_refl _⟩, fun i H x H' hi h ⟨e, b, hb, hx⟩ => ⟨e, by rw [List.getElem?_map, hb, hx]; rfl⟩⟩
/-! ### x.clear(), a list or a dict -/
def tClear (to : TE) : TE := fun σ H Q => to σ H fun x H1 => (∃ l xs, x = .ref l ∧ H1 l = some (.lst xs) ∧ Q .non (upd H1 l (.lst []))) ∨ (∃ a kvs, x = .ref a ∧ DBat H1 a kvs ∧ ∀ H2, DBat H2 a [] → But a H1 H2 → Q .non H2)
theorem pe_clear {X : Cx} {o : Expr} {to : TE} {apos cpos : Pos} (ho : PE X o to) (hbase : attributeBase o "clear" X.env (eval o X.env) = eval o X.env := by rfl) (hline : (apos.endLine == cpos.line) = true := by rfl) :
    PE X (.Call (.Attribute o "clear" apos) [] [] cpos) (tClear to) := by
  refine ⟨fun pins s σ H Q I h => wpAny_Call_method0_late hbase hline (thn (ho.run pins s σ H _ I h) ?_)⟩
  rintro v s1 ⟨x, H1, I1, r1, ⟨l, xs, rfl, hl, q⟩ | ⟨a, kvs, rfl, d, q⟩⟩
  · have ty : tyV X.K "list" (.ref l) H1 := .inl ⟨rfl, _, SqL.of hl⟩
    obtain ⟨h1, h2⟩ := tyV_is I1 r1 ty
    exact ⟨"list", "list.clear", PySem.F.plainAttrs_list, PySem.F.slot_list_clear, PySem.F.type_list_clear, h1, h2, Calls.callWith_builtin rfl (PySem.evalArgs_none (mt_clear pins s1 σ H1 _ [] v [] Q I1 r1 .nil ⟨l, xs, rfl, rfl, hl, q⟩))⟩
  · obtain rfl : v = .ref a := r1
    refine ⟨"dict", "dict.clear", PySem.F.plainAttrs_dict, PySem.F.slot_dict_clear, PySem.F.type_dict_clear, d.typeIs I1, d.noDict I1, Calls.callWith_builtin rfl (PySem.evalArgs_none ?_)⟩
    obtain ⟨bs, e, ka, z, y, xs, rel, hbs, dd⟩ := d.of I1.hok
    have hl : kvs.length = xs.length := by rw [KV.length rel]; unfold pairsH; rw [List.length_map]
    refine clear_keyed (knd := BK X.prog X.w) ⟨xs, dd, rfl⟩ (fun h2 ⟨ys, d2, e2⟩ hs => ?_) (by unfold pairsH; rw [List.length_map, ← hl]; exact z)
    have hy : ys = [] := by
      unfold pairsH at e2
      exact List.map_eq_nil_iff.mp e2
    subst hy
    obtain ⟨H2, I2, d3, b3⟩ := b_write (t' := s1.toks) I1 d hs (kvs2 := []) (xs2 := []) (Nat.zero_le _) .nil d2 (fun x hx => nomatch hx)
    exact ⟨.non, H2, I2, rfl, q H2 d3 b3⟩
theorem units65 {k : Nat} {A : Around} (hr : Room k A) : A.units + 65 < cLine := by have := hr.un; omega
end Rl

namespace Rl
open PySem PySem.Spec L2
/-! ### the order of tuples of truth values -/
def lexBs : List Bool → List Bool → Bool
  | [], [] => false
  | [], _ :: _ => true
  | _ :: _, [] => false
  | p :: ps, q :: qs => if p = q then lexBs ps qs else (!p && q)
theorem lexBs_asym : ∀ x y : List Bool, lexBs x y = true → lexBs y x = false
  | [], [], h => nomatch h
  | [], _ :: _, _ => rfl
  | _ :: _, [], h => nomatch h
  | p :: ps, q :: qs, h => by
    simp only [lexBs] at h ⊢
    by_cases e : p = q
    · subst e
      rw [if_pos rfl] at h ⊢
      exact lexBs_asym ps qs h
    · rw [if_neg e] at h
      rw [if_neg (Ne.symm e)]
      cases p <;> cases q <;> first | rfl | cases h
theorem lexBs_tr : ∀ x y z : List Bool, lexBs y x = false → lexBs z y = false → lexBs z x = false
  | [], _, [], _, _ => rfl
  | [], _, _ :: _, _, _ => rfl
  | _ :: _, [], _, h, _ => nomatch h
  | _ :: _, _ :: _, [], _, h => nomatch h
  | a :: x, b :: y, c :: z, h1, h2 => by
    simp only [lexBs] at h1 h2 ⊢
    have ih := lexBs_tr x y z
    cases a <;> cases b <;> cases c <;> simp_all
theorem lexBs_eq : ∀ x y : List Bool, lexBs x y = false → lexBs y x = false → x = y
  | [], [], _, _ => rfl
  | [], _ :: _, h, _ => nomatch h
  | _ :: _, [], _, h => nomatch h
  | p :: ps, q :: qs, h1, h2 => by
    simp only [lexBs] at h1 h2
    have ih := lexBs_eq ps qs
    cases p <;> cases q <;> simp_all
theorem sorted_eq : ∀ {l m : List (List Bool)}, l.Pairwise (fun x y => lexBs y x = false) → m.Pairwise (fun x y => lexBs y x = false) → l.Perm m → l = m
  | [], m, _, _, p => (List.nil_perm.mp p).symm
  | a :: l, [], _, _, p => absurd p.length_eq (by show ¬ (_ + 1 = 0); omega)
  | a :: l, b :: m, h1, h2, p => by
    rw [List.pairwise_cons] at h1 h2
    have e : a = b := by
      rcases List.mem_cons.mp (p.mem_iff.mp List.mem_cons_self) with e | ha
      · exact e
      · rcases List.mem_cons.mp (p.mem_iff.mpr List.mem_cons_self) with e | hb
        · exact e.symm
        · exact lexBs_eq a b (h2.1 a ha) (h1.1 b hb)
    subst e
    rw [sorted_eq h1.2 h2.2 (List.Perm.cons_inv p)]
/-! ### the machine's sorted -/
def IsBits (h : Heap) (v : Value) (bs : List Bool) : Prop := ∃ a o n, v = .ref a ∧ h.get? a = some o ∧ o.cls = .type "tuple" ∧ o.data = .seq (bs.map Value.bool).toArray n
def asBool : Value → Bool
  | .bool b => b
  | _ => false
def bitsAt (h : Heap) (v : Value) : List Bool := match v with
  | .ref a => match h.get? a with
    | some o => match o.data with
      | .seq its _ => its.toList.map asBool
      | _ => []
    | none => []
  | _ => []
theorem IsBits.at {h : Heap} {v : Value} {bs : List Bool} (x : IsBits h v bs) : bitsAt h v = bs := by
  obtain ⟨a, o, n, rfl, e, _, d⟩ := x
  unfold bitsAt
  simp only [e, d]
  rw [List.map_map]
  have : (asBool ∘ Value.bool) = id := rfl
  rw [this, List.map_id]
theorem IsBits.keeps {h h' : Heap} {v : Value} {bs : List Bool} (x : IsBits h v bs) (k : ∀ b o, h.get? b = some o → o.cls = .type "tuple" → h'.get? b = some o) : IsBits h' v bs := by
  obtain ⟨a, o, n, e, g, c, d⟩ := x
  exact ⟨a, o, n, e, k _ _ g c, c, d⟩
section
variable {prog : Program} {w : World} {A : Around} {E : Value → Shared → Prop} {s : Shared}
theorem oneLt_bools (c : Bool) {p q : Bool} {Q : Bool → Shared → Prop} (h : Q (!p && q) s) : wpAny (model prog w) A (PyProof.Rows.oneLt' c (.bool p) (.bool q)) Q E s := by
  have e : decide (PyProof.Rows.b2i p < PyProof.Rows.b2i q) = (!p && q) := by cases p <;> cases q <;> rfl
  cases c with
  | false =>
    refine PySem.W.kat_one _ _ (PyProof.Rows.lt_bool ?_)
    rw [e]; exact h
  | true =>
    rw [PyProof.Rows.oneLt'_eq]
    simp only [if_true]
    refine wpAny_bind (wpAny_cRoomFor_byValue rfl ?_)
    have ty : s.TypeIs (.bool p) "bool" := PyProof.Rows.typeIs_bool' s p
    have back : Q (decide ((if p = true then (1 : Int) else 0) < (if q = true then (1 : Int) else 0))) s := by
      have e2 : decide ((if p = true then (1 : Int) else 0) < (if q = true then (1 : Int) else 0)) = (!p && q) := by cases p <;> cases q <;> rfl
      rw [e2]; exact h
    refine wpAny_bind (wpAny_callSpecialIfBound?_slot ty PySem.F.slot_bool_lt (call_gives PySem.F.slot_bool_lt ty PySem.F.entry_int_lt (PySem.F.args_int_lt_2 _ _) (PyProof.Rows.gives_int_lt_bools p q) ?_))
    exact wpAny_truthy_bool back
theorem bits_lex {Q : Bool → Shared → Prop} : ∀ (bs cs : List Bool) (i : Nat), bs.length = cs.length → Q (lexBs bs cs) s → PySem.W.KatLex prog w A true false Q ((bs.map Value.bool).zip (cs.map Value.bool)) i s
  | [], [], i, _, h => PySem.W.kat_nil h
  | [], _ :: _, _, e, _ => nomatch e
  | _ :: _, [], _, e, _ => nomatch e
  | p :: bs, q :: cs, i, e, h => by
    rw [List.map_cons, List.map_cons, List.zip_cons_cons]
    have e : bs.length = cs.length := Nat.succ.inj e
    refine PySem.W.kat_cons (SeqAt.EqAt.bool_bool p q _ _ _ _ ?_)
    refine PySem.W.kat_go (fun e1 => ?_) (fun e1 => ?_)
    · have epq : p = q := by simpa using e1
      refine PySem.W.kat_yes (bits_lex bs cs (i + 1) e ?_)
      simp only [lexBs] at h
      rw [if_pos epq] at h; exact h
    · have epq : ¬ p = q := by simpa using e1
      refine PySem.W.kat_no (oneLt_bools _ ?_)
      simp only [lexBs] at h
      rw [if_neg epq] at h; exact h
theorem bits_cmp {vs : List Value} {k : Value → List Bool} {n : Nat} (hp : ∀ v ∈ vs, IsBits s.heap v (k v) ∧ (k v).length = n) : SrtO.Cmp prog w A s (PyProof.Rows.tuples' true) (fun p => p.1 ∈ vs) (SrtO.lt2 fun v u => lexBs (k v) (k u)) := by
  intro p q hm hm2
  obtain ⟨⟨a, o, i, e, ho, hc, hd⟩, l1⟩ := hp _ hm
  obtain ⟨⟨a2, o2, i2, e2, ho2, hc2, hd2⟩, l2⟩ := hp _ hm2
  show wpAny (model prog w) A (PyProof.Rows.keyLt' (PyProof.Rows.tuples' true) p.1 q.1) (fun r s' => s' = s ∧ r = lexBs (k p.1) (k q.1)) (fun _ _ => False) s
  generalize k p.1 = bs at *
  generalize k q.1 = cs at *
  rw [e, e2]
  refine PySem.W.kat_lt ho hd ho2 hd2 ?_
  have fin : decide ((bs.map Value.bool).toArray.size < (cs.map Value.bool).toArray.size) = false := decide_eq_false (by rw [List.size_toArray, List.size_toArray, List.length_map, List.length_map]; omega)
  rw [fin]
  exact bits_lex bs cs 0 (by omega) ⟨rfl, rfl⟩
theorem bits_firsts {h : Heap} {n : Nat} (hn : 1 ≤ n) : ∀ {vs : List Value}, (∀ v ∈ vs, ∃ bs, IsBits h v bs ∧ bs.length = n) → ∃ fs : List Value, PySem.W.KatTups h vs fs ∧ fs.length = vs.length ∧ ∀ f ∈ fs, ∃ b, f = Value.bool b
  | [], _ => ⟨[], PySem.W.KatTups.nil, rfl, fun _ hm => nomatch hm⟩
  | v :: vs, hp => by
    obtain ⟨fs, h1, h2, h3⟩ := bits_firsts hn (vs := vs) fun u hm => hp u (List.mem_cons_of_mem _ hm)
    obtain ⟨bs, ⟨a, o, i, rfl, ho, hc, hd⟩, hl⟩ := hp v List.mem_cons_self
    cases bs with
    | nil => exact absurd hl (by show ¬ (0 = n); omega)
    | cons b bs =>
      refine ⟨.bool b :: fs, PySem.W.KatTups.cons ho hc hd rfl h1, by rw [List.length_cons, List.length_cons, h2], fun f hm => ?_⟩
      rcases List.mem_cons.mp hm with rfl | hm
      · exact ⟨b, rfl⟩
      · exact h3 f hm
theorem bits_sortable {a : Addr} {vs : List Value} {k : Value → List Bool} {n : Nat} (hn : 1 ≤ n) (h0 : 0 < vs.length) (hp : ∀ v ∈ vs, IsBits s.heap v (k v) ∧ (k v).length = n) (ha : ∀ o, s.heap.get? a = some o → o.cls ≠ .type "tuple") :
    SrtO.SortableO prog w A s a vs fun v u => lexBs (k v) (k u) := by
  intro h' keep
  have hp2 : ∀ v ∈ vs, IsBits h' v (k v) ∧ (k v).length = n := fun v hm => ⟨(hp v hm).1.keeps fun b o e c => keep b o (fun z => by subst z; exact ha o e c) e, (hp v hm).2⟩
  obtain ⟨fs, h1, h2, h3⟩ := bits_firsts hn fun v hm => ⟨_, hp2 v hm⟩
  refine ⟨PyProof.Rows.tuples' true, fun Q E hq => ?_, bits_cmp hp2⟩
  refine PySem.W.kat_kind (T := .type "bool") h1 (by omega) (fun f hm => ?_) (by rfl) ?_
  · obtain ⟨b, rfl⟩ := h3 f hm
    exact PySem.W.Looks.now
  · have e : (Value.type "bool" != Value.type "tuple") = true := by first | decide +kernel | rfl | decide
    rw [e]
    exact hq
end
/-- sorted(xs), xs a list of tuples of n truth values each -/
def rSortedB : List V → Hp → VK → Prop := fun xs H Q => ∃ (a : Addr) (us : List V) (bss : List (List Bool)) (n : Nat), xs = [.ref a] ∧ H a = some (.lst us) ∧ Tups H bss us ∧ 1 ≤ n ∧ (∀ b ∈ bss, b.length = n) ∧
  ∀ (H' : Hp) (p : Addr) (us' : List V) (bss' : List (List Bool)), Same H H' → H p = none → H' p = some (.lst us') → Tups H' bss' us' → bss'.Perm bss → bss'.Pairwise (fun x y => lexBs y x = false) → Q (.ref p) H'
theorem tups_vals {P : Program} {w : World} {H : Hp} {h : Heap} (ok : HOk P w H h) : ∀ {bss : List (List Bool)} {us : List V} {its : List Value}, Tups H bss us → Vals us its → its.map (bitsAt h) = bss ∧ ∀ v ∈ its, ∃ a, v = .ref a ∧ H a = some (.tup ((bitsAt h v).map V.bl)) ∧ IsBits h v (bitsAt h v) ∧ bitsAt h v ∈ bss
  | _, _, _, .nil, .nil => ⟨rfl, fun _ h => nomatch h⟩
  | _, _, _, .cons (a := bs) ⟨a, e, ha⟩ t, .cons (b := u) r rt => by
    subst e
    obtain rfl : u = .ref a := r
    obtain ⟨h1, h2⟩ := tups_vals ok t rt
    have hb : IsBits h (.ref a) bs := by
      obtain ⟨_, us, rv, o, g1, g2, n, g3⟩ := (show ObjOk P w H h a (.tup (bs.map V.bl)) from ok a _ ha)
      refine ⟨a, o, n, rfl, g1, g2, ?_⟩
      have : us = bs.map Value.bool := vals_bools rv
      rw [g3, this]
    have e := hb.at
    refine ⟨by rw [List.map_cons, e, h1], fun v hv => ?_⟩
    rcases List.mem_cons.mp hv with rfl | hv
    · rw [e]; exact ⟨a, rfl, ha, hb, List.mem_cons_self⟩
    · obtain ⟨b, e1, e2, e3, e4⟩ := h2 v hv
      exact ⟨b, e1, e2, e3, List.mem_cons_of_mem _ e4⟩
where
  vals_bools : ∀ {bs : List Bool} {us : List Value}, Vals (bs.map V.bl) us → us = bs.map Value.bool
    | [], _, r => by rw [List.map_nil] at r; cases r; rfl
    | b :: bs, _, r => by
      rw [List.map_cons] at r
      cases r with
      | @cons _ u _ _ h t =>
        cases (show u = Value.bool b from h)
        rw [List.map_cons, ← vals_bools t]
theorem tups_back {H : Hp} {f : Value → List Bool} : ∀ {out : List Value}, (∀ v ∈ out, ∃ a, v = .ref a ∧ H a = some (.tup ((f v).map V.bl))) → ∃ us, Vals us out ∧ Tups H (out.map f) us
  | [], _ => ⟨[], .nil, .nil⟩
  | v :: out, h => by
    obtain ⟨us, h1, h2⟩ := tups_back (f := f) (out := out) fun u hu => h u (List.mem_cons_of_mem _ hu)
    obtain ⟨a, rfl, e⟩ := h v List.mem_cons_self
    exact ⟨.ref a :: us, .cons rfl h1, .cons ⟨a, rfl, e⟩ h2⟩
theorem swo_bits (k : Value → List Bool) : SrtO.Swo fun v u => lexBs (k v) (k u) := ⟨fun x y => lexBs_asym _ _, fun x y z => lexBs_tr _ _ _⟩
theorem call_bsorted {X : Cx} : CallR X (.builtin "sorted") rSortedB := by
  rintro pins s σ H xs us Q I r ⟨a, vs, bss, n, rfl, ha, hT, hn, hlen, q⟩
  obtain ⟨u, rfl, rx⟩ := vals1 r
  obtain rfl : u = .ref a := rx
  obtain ⟨z, its, c, rv, e⟩ := (show ObjOk X.prog X.w H s.heap a (.lst vs) from I.hok a _ ha)
  obtain ⟨h1, h2⟩ := tups_vals I.hok hT rv
  have hl : vs.length = its.length := Vals.length rv
  refine SrtO.sorted_ord (swo_bits (bitsAt s.heap)) ⟨_, e, rfl, c, rfl⟩ (by omega) (fun h3 h₁ d hd kk => ?_) fun out hs hb => ?_
  · refine bits_sortable (s := { s with heap := h₁ }) (n := n) hn (by omega) (fun v hv => ?_) fun o g => ?_
    · obtain ⟨b, _, _, e3, e4⟩ := h2 v hv
      exact ⟨e3.keeps fun b o e _ => (kk b o e).2, hlen _ e4⟩
    · have g2 := Option.some.inj (g.symm.trans hd)
      rw [g2]
      intro c
      exact absurd (Value.type.inj (show Value.type "list" = Value.type "tuple" from c)) (by decide)
  · have hperm := hb.perm
    obtain ⟨us2, hv2, ht2⟩ := tups_back (H := H) (f := bitsAt s.heap) (out := out) fun v hv => by
      obtain ⟨b, e1, e2, _, _⟩ := h2 v (hperm.mem_iff.mp hv)
      exact ⟨b, e1, e2⟩
    obtain ⟨ep, he⟩ := PyProof.Rows.sortedAll_at s.heap its out.toArray
    have hz2 : us2.length ≤ sizeLine := by rw [Vals.length hv2, hperm.length_eq]; omega
    have hnew : H (s.heap.objs.size + 1) = none := I.hok.fresh (Nat.le_succ _)
    refine ⟨.ref (s.heap.objs.size + 1), upd H (s.heap.objs.size + 1) (.lst us2), I.laid (t' := s.toks) (fun _ _ => PyProof.Rows.sortedAll_old) (Nat.le_succ _) ⟨hz2, out, ep, hv2, by simpa using he⟩, rfl, ?_⟩
    refine q _ _ us2 (out.map (bitsAt s.heap)) (Same.new hnew) hnew upd_same (Tups.same (Same.new hnew) ht2) (by rw [← h1]; exact hperm.map _) ?_
    rw [List.pairwise_map]
    exact hs
end Rl

namespace Rl
open PySem L2
/-! ### words numbered on -/
def W.shift (n m : Int) : W → W
  | .on => .on
  | .off => .off
  | .relay k => .relay (k + n)
  | .button k => .button (k + m)
  | .not x => .not (x.shift n m)
  | .and x y => .and (x.shift n m) (y.shift n m)
  | .or x y => .or (x.shift n m) (y.shift n m)
theorem shift_depth (n m : Int) : ∀ w : W, (w.shift n m).depth = w.depth
  | .on => rfl
  | .off => rfl
  | .relay _ => rfl
  | .button _ => rfl
  | .not x => congrArg (· + 1) (shift_depth n m x)
  | .and x y => by show max (x.shift n m).depth (y.shift n m).depth + 1 = _; rw [shift_depth, shift_depth]; rfl
  | .or x y => by show max (x.shift n m).depth (y.shift n m).depth + 1 = _; rw [shift_depth, shift_depth]; rfl
theorem shift_wired {n1 m1 n2 m2 : Nat} : ∀ {w : W}, w.wired n2 m2 → (w.shift n1 m1).wired (n1 + n2) (m1 + m2)
  | .on, _ => True.intro
  | .off, _ => True.intro
  | .relay k, ⟨a, b⟩ => (⟨by omega, by omega⟩ : 0 ≤ k + (n1 : Int) ∧ k + (n1 : Int) < ((n1 + n2 : Nat) : Int))
  | .button k, ⟨a, b⟩ => (⟨by omega, by omega⟩ : 0 ≤ k + (m1 : Int) ∧ k + (m1 : Int) < ((m1 + m2 : Nat) : Int))
  | .not x, h => shift_wired (w := x) h
  | .and x y, h => ⟨shift_wired (w := x) h.1, shift_wired (w := y) h.2⟩
  | .or x y, h => ⟨shift_wired (w := x) h.1, shift_wired (w := y) h.2⟩
theorem wired_wide {n1 m1 n2 m2 : Nat} : ∀ {w : W}, w.wired n1 m1 → w.wired (n1 + n2) (m1 + m2)
  | .on, _ => True.intro
  | .off, _ => True.intro
  | .relay k, ⟨a, b⟩ => (⟨a, by omega⟩ : 0 ≤ k ∧ k < ((n1 + n2 : Nat) : Int))
  | .button k, ⟨a, b⟩ => (⟨a, by omega⟩ : 0 ≤ k ∧ k < ((m1 + m2 : Nat) : Int))
  | .not x, h => wired_wide (w := x) h
  | .and x y, h => ⟨wired_wide (w := x) h.1, wired_wide (w := y) h.2⟩
  | .or x y, h => ⟨wired_wide (w := x) h.1, wired_wide (w := y) h.2⟩
theorem getD_left {xs ys : List Bool} {k : Nat} (h : k < xs.length) : (xs ++ ys).getD k false = xs.getD k false := by
  rw [List.getD_eq_getElem?_getD, List.getD_eq_getElem?_getD, List.getElem?_append_left h]
theorem getD_right {xs ys : List Bool} {k : Nat} : (xs ++ ys).getD (xs.length + k) false = ys.getD k false := by
  rw [List.getD_eq_getElem?_getD, List.getD_eq_getElem?_getD, List.getElem?_append_right (Nat.le_add_right _ _), Nat.add_sub_cancel_left]
theorem eval_left {s1 s2 p1 p2 : List Bool} : ∀ {w : W}, w.wired s1.length p1.length → w.eval (s1 ++ s2) (p1 ++ p2) = w.eval s1 p1
  | .on, _ => rfl
  | .off, _ => rfl
  | .relay k, ⟨a, b⟩ => getD_left (by omega)
  | .button k, ⟨a, b⟩ => getD_left (by omega)
  | .not x, h => congrArg not (eval_left (w := x) h)
  | .and x y, h => by show (x.eval _ _ && y.eval _ _) = (x.eval _ _ && y.eval _ _); rw [eval_left (w := x) h.1, eval_left (w := y) h.2]
  | .or x y, h => by show (x.eval _ _ || y.eval _ _) = (x.eval _ _ || y.eval _ _); rw [eval_left (w := x) h.1, eval_left (w := y) h.2]
theorem eval_right {s1 s2 p1 p2 : List Bool} {n m : Nat} : ∀ {w : W}, w.wired n m → (w.shift (s1.length : Int) (p1.length : Int)).eval (s1 ++ s2) (p1 ++ p2) = w.eval s2 p2
  | .on, _ => rfl
  | .off, _ => rfl
  | .relay k, ⟨a, b⟩ => by
    show (s1 ++ s2).getD (k + (s1.length : Int)).toNat false = s2.getD k.toNat false
    rw [show (k + (s1.length : Int)).toNat = s1.length + k.toNat by omega, getD_right]
  | .button k, ⟨a, b⟩ => by
    show (p1 ++ p2).getD (k + (p1.length : Int)).toNat false = p2.getD k.toNat false
    rw [show (k + (p1.length : Int)).toNat = p1.length + k.toNat by omega, getD_right]
  | .not x, h => congrArg not (eval_right (w := x) h)
  | .and x y, h => by show (W.eval _ _ (x.shift _ _) && W.eval _ _ (y.shift _ _)) = (x.eval _ _ && y.eval _ _); rw [eval_right (w := x) h.1, eval_right (w := y) h.2]
  | .or x y, h => by show (W.eval _ _ (x.shift _ _) || W.eval _ _ (y.shift _ _)) = (x.eval _ _ || y.eval _ _); rw [eval_right (w := x) h.1, eval_right (w := y) h.2]
/-! ### two boards side by side -/
def sideW (n m : Nat) (ws1 ws2 : List W) : List W := ws1 ++ ws2.map (W.shift (n : Int) (m : Int))
theorem side_fit {n1 m1 n2 m2 : Nat} {d : Int} {ws1 ws2 : List W} (f1 : Fits n1 m1 d ws1) (f2 : Fits n2 m2 d ws2) : Fits (n1 + n2) (m1 + m2) d (sideW n1 m1 ws1 ws2) := fun w hw => by
  rcases List.mem_append.mp hw with hw | hw
  · exact ⟨wired_wide (f1 w hw).1, (f1 w hw).2⟩
  · obtain ⟨x, hx, rfl⟩ := List.mem_map.mp hw
    exact ⟨shift_wired (f2 x hx).1, by rw [shift_depth]; exact (f2 x hx).2⟩
theorem flip_left {s1 s2 : List Bool} {k : Nat} (h : k < s1.length) : flip (s1 ++ s2) k = flip s1 k ++ s2 := by
  unfold flip
  rw [getD_left h, List.set_append_left _ _ h]
theorem flip_right {s1 s2 : List Bool} {k : Nat} : flip (s1 ++ s2) (s1.length + k) = s1 ++ flip s2 k := by
  unfold flip
  rw [getD_right, List.set_append_right _ _ (Nat.le_add_right _ _), Nat.add_sub_cancel_left]
/-- two boards, and where their halves end -/
structure Two (ws1 ws2 : List W) (p1 p2 : List Bool) (n2 m2 : Nat) : Prop where
  f1 : Fits ws1.length p1.length 10 ws1
  f2 : Fits n2 m2 10 ws2
  l2 : ws2.length = n2
section
variable {ws1 ws2 : List W} {p1 p2 : List Bool} {n2 m2 : Nat}
abbrev sw (ws1 ws2 : List W) (p1 : List Bool) : List W := sideW ws1.length p1.length ws1 ws2
theorem can_left (T : Two ws1 ws2 p1 p2 n2 m2) {s1 s2 : List Bool} (hl : s1.length = ws1.length) {k : Nat} (h : k < ws1.length) : canMove (sw ws1 ws2 p1) (p1 ++ p2) (s1 ++ s2) k = canMove ws1 p1 s1 k := by
  unfold canMove
  have e : (sw ws1 ws2 p1).getD k .off = ws1.getD k .off := by
    rw [List.getD_eq_getElem?_getD, List.getD_eq_getElem?_getD]
    show ((ws1 ++ _)[k]?).getD _ = _
    rw [List.getElem?_append_left h]
  have hf : (ws1.getD k .off).wired s1.length p1.length := by
    rw [List.getD_eq_getElem?_getD, List.getElem?_eq_getElem h, hl]
    exact (T.f1 _ (List.getElem_mem h)).1
  rw [e, eval_left hf, getD_left (by omega)]
theorem can_right (T : Two ws1 ws2 p1 p2 n2 m2) {s1 s2 : List Bool} (hl : s1.length = ws1.length) {k : Nat} (h : k < ws2.length) : canMove (sw ws1 ws2 p1) (p1 ++ p2) (s1 ++ s2) (ws1.length + k) = canMove ws2 p2 s2 k := by
  unfold canMove
  have e : (sw ws1 ws2 p1).getD (ws1.length + k) .off = (ws2.getD k .off).shift (s1.length : Int) (p1.length : Int) := by
    rw [List.getD_eq_getElem?_getD, List.getD_eq_getElem?_getD]
    show ((ws1 ++ _)[ws1.length + k]?).getD _ = _
    rw [List.getElem?_append_right (Nat.le_add_right _ _), Nat.add_sub_cancel_left, List.getElem?_map, List.getElem?_eq_getElem h, hl]
    rfl
  have hf : (ws2.getD k .off).wired n2 m2 := by
    rw [List.getD_eq_getElem?_getD, List.getElem?_eq_getElem h]
    exact (T.f2 _ (List.getElem_mem h)).1
  rw [e, eval_right hf, ← hl, getD_right]
theorem sw_len : (sw ws1 ws2 p1).length = ws1.length + ws2.length := by
  show (ws1 ++ _).length = _
  rw [List.length_append, List.length_map]
theorem mem_side (T : Two ws1 ws2 p1 p2 n2 m2) {s1 s2 : List Bool} (hl : s1.length = ws1.length) {k : Nat} : k ∈ movL (sw ws1 ws2 p1) (p1 ++ p2) (s1 ++ s2) ↔ (k ∈ movL ws1 p1 s1 ∨ ∃ j, k = ws1.length + j ∧ j ∈ movL ws2 p2 s2) := by
  rw [mem_movL, mem_movL, sw_len]
  constructor
  · rintro ⟨h1, h2⟩
    by_cases h : k < ws1.length
    · rw [can_left T hl h] at h2
      exact .inl ⟨h, h2⟩
    · obtain ⟨j, rfl⟩ : ∃ j, k = ws1.length + j := ⟨k - ws1.length, by omega⟩
      rw [can_right T hl (by omega)] at h2
      exact .inr ⟨j, rfl, mem_movL.mpr ⟨by omega, h2⟩⟩
  · rintro (⟨h1, h2⟩ | ⟨j, rfl, h⟩)
    · exact ⟨by omega, by rw [can_left T hl h1]; exact h2⟩
    · have h := mem_movL.mp h
      exact ⟨by omega, by rw [can_right T hl h.1]; exact h.2⟩
theorem rest_side (T : Two ws1 ws2 p1 p2 n2 m2) {s1 s2 : List Bool} (hl : s1.length = ws1.length) : movL (sw ws1 ws2 p1) (p1 ++ p2) (s1 ++ s2) = [] ↔ (movL ws1 p1 s1 = [] ∧ movL ws2 p2 s2 = []) := by
  rw [List.eq_nil_iff_forall_not_mem, List.eq_nil_iff_forall_not_mem, List.eq_nil_iff_forall_not_mem]
  constructor
  · exact fun h => ⟨fun k hk => h k ((mem_side T hl).mpr (.inl hk)), fun k hk => h _ ((mem_side T hl).mpr (.inr ⟨k, rfl, hk⟩))⟩
  · rintro ⟨h1, h2⟩ k hk
    rcases (mem_side T hl).mp hk with h | ⟨j, _, h⟩
    · exact h1 k h
    · exact h2 j h
theorem road_left (T : Two ws1 ws2 p1 p2 n2 m2) {s2 : List Bool} : ∀ {rs : List Nat} {s1 t1 : List Bool}, s1.length = ws1.length → Road ws1 p1 s1 rs t1 → Road (sw ws1 ws2 p1) (p1 ++ p2) (s1 ++ s2) rs (t1 ++ s2)
  | [], _, _, _, h => congrArg (· ++ s2) h
  | r :: rs, s1, t1, hl, ⟨m, h⟩ => by
    refine ⟨(mem_side T hl).mpr (.inl m), ?_⟩
    rw [flip_left (by have := (mem_movL.mp m).1; omega)]
    exact road_left T (by rw [flip_len]; exact hl) h
theorem road_right (T : Two ws1 ws2 p1 p2 n2 m2) {s1 : List Bool} (hl : s1.length = ws1.length) : ∀ {rs : List Nat} {s2 t2 : List Bool}, Road ws2 p2 s2 rs t2 → Road (sw ws1 ws2 p1) (p1 ++ p2) (s1 ++ s2) (rs.map (ws1.length + ·)) (s1 ++ t2)
  | [], _, _, h => congrArg (s1 ++ ·) h
  | r :: rs, s2, t2, ⟨m, h⟩ => by
    rw [List.map_cons]
    refine ⟨(mem_side T hl).mpr (.inr ⟨r, rfl, m⟩), ?_⟩
    show Road _ _ (flip (s1 ++ s2) (ws1.length + r)) _ _
    rw [← hl, flip_right, hl]
    exact road_right T hl h
theorem road_split (T : Two ws1 ws2 p1 p2 n2 m2) : ∀ {rs : List Nat} {s1 s2 t : List Bool}, s1.length = ws1.length → Road (sw ws1 ws2 p1) (p1 ++ p2) (s1 ++ s2) rs t → ∃ t1 t2 r1 r2, t = t1 ++ t2 ∧ Road ws1 p1 s1 r1 t1 ∧ Road ws2 p2 s2 r2 t2 ∧ r1.length + r2.length = rs.length
  | [], s1, s2, _, _, h => ⟨s1, s2, [], [], (show _ = _ from h).symm, rfl, rfl, rfl⟩
  | r :: rs, s1, s2, t, hl, ⟨m, h⟩ => by
    rcases (mem_side T hl).mp m with m1 | ⟨j, rfl, m2⟩
    · rw [flip_left (by have := (mem_movL.mp m1).1; omega)] at h
      obtain ⟨t1, t2, r1, r2, e, h1, h2, hle⟩ := road_split T (by rw [flip_len]; exact hl) h
      exact ⟨t1, t2, r :: r1, r2, e, ⟨m1, h1⟩, h2, by rw [List.length_cons, List.length_cons]; omega⟩
    · rw [← hl, flip_right] at h
      obtain ⟨t1, t2, r1, r2, e, h1, h2, hle⟩ := road_split T hl h
      exact ⟨t1, t2, r1, j :: r2, e, h1, ⟨m2, h2⟩, by rw [List.length_cons, List.length_cons]; omega⟩
section
variable (T : Two ws1 ws2 p1 p2 n2 m2) {s1 s2 : List Bool} (hl : s1.length = ws1.length)
include T hl
theorem both_rest {e1 e2 e : List Bool} {P1 P2 : Pap} (S1 : Settles ws1 p1 s1 e1 P1) (S2 : Settles ws2 p2 s2 e2 P2) {rs : List Nat} (h : Road (sw ws1 ws2 p1) (p1 ++ p2) (s1 ++ s2) rs e) (hr : movL (sw ws1 ws2 p1) (p1 ++ p2) e = []) : e = e1 ++ e2 := by
  obtain ⟨t1, t2, r1, r2, rfl, h1, h2, _⟩ := road_split T hl h
  have tl : t1.length = ws1.length := by rw [h1.len]; exact hl
  obtain ⟨a, b⟩ := (rest_side T tl).mp hr
  rw [(S1.rest t1 ((S1.stands.mem _).mpr ⟨_, h1⟩)).mp a, (S2.rest t2 ((S2.stands.mem _).mpr ⟨_, h2⟩)).mp b]
theorem both_parts {e1 e2 t u : List Bool} {P1 P2 : Pap} {q1 q2 : List Nat} (S1 : Settles ws1 p1 s1 e1 P1) (S2 : Settles ws2 p2 s2 e2 P2) (R : Parts (sw ws1 ws2 p1) (p1 ++ p2) (s1 ++ s2) q1 q2 t u) : False :=
  R.ne ((both_rest T hl S1 S2 R.road1 R.rest1).trans (both_rest T hl S1 S2 R.road2 R.rest2).symm)
theorem both_rounds {e1 e2 t : List Bool} {P1 P2 : Pap} {q1 q2 : List Nat} (S1 : Settles ws1 p1 s1 e1 P1) (S2 : Settles ws2 p2 s2 e2 P2) (R : Rounds (sw ws1 ws2 p1) (p1 ++ p2) (s1 ++ s2) q1 q2 t) : False := by
  obtain ⟨t1, t2, r1, r2, rfl, h1, h2, _⟩ := road_split T hl R.road
  have tl : t1.length = ws1.length := by rw [h1.len]; exact hl
  obtain ⟨u1, u2, v1, v2, e, g1, g2, hlen⟩ := road_split T tl R.ring
  obtain ⟨rfl, rfl⟩ := List.append_inj e (by rw [g1.len])
  by_cases hv : v1 = []
  · have : v2 ≠ [] := fun z => by
      subst hv z
      exact R.ne (List.length_eq_zero_iff.mp hlen.symm)
    exact S2.no_ring ⟨h2, g2, this⟩
  · exact S1.no_ring ⟨h1, g1, hv⟩
theorem side_end {e : List Bool} {P : Pap} (S : Settles (sw ws1 ws2 p1) (p1 ++ p2) (s1 ++ s2) e P) : ∃ t1 t2 r1 r2, Road ws1 p1 s1 r1 t1 ∧ Road ws2 p2 s2 r2 t2 ∧ movL ws1 p1 t1 = [] ∧ movL ws2 p2 t2 = [] := by
  obtain ⟨rs, h⟩ := (S.stands.mem e).mp S.here
  obtain ⟨t1, t2, r1, r2, rfl, h1, h2, _⟩ := road_split T hl h
  have tl : t1.length = ws1.length := by rw [h1.len]; exact hl
  obtain ⟨a, b⟩ := (rest_side T tl).mp ((S.rest _ S.here).mpr rfl)
  exact ⟨t1, t2, r1, r2, h1, h2, a, b⟩
theorem side_road {t1 t2 : List Bool} {r1 r2 : List Nat} (h1 : Road ws1 p1 s1 r1 t1) (h2 : Road ws2 p2 s2 r2 t2) : Road (sw ws1 ws2 p1) (p1 ++ p2) (s1 ++ s2) (r1 ++ r2.map (ws1.length + ·)) (t1 ++ t2) :=
  (road_left T hl h1).append (road_right T (by rw [h1.len]; exact hl) h2)
theorem parts1_no {e t u : List Bool} {P : Pap} {q1 q2 : List Nat} (S : Settles (sw ws1 ws2 p1) (p1 ++ p2) (s1 ++ s2) e P) (R : Parts ws1 p1 s1 q1 q2 t u) : False := by
  obtain ⟨t1, t2, r1, r2, h1, h2, a, b⟩ := side_end T hl S
  have ht : t.length = ws1.length := by rw [R.road1.len]; exact hl
  have hu : u.length = ws1.length := by rw [R.road2.len]; exact hl
  exact S.no_parts ⟨side_road T hl R.road1 h2, side_road T hl R.road2 h2, (rest_side T ht).mpr ⟨R.rest1, b⟩, (rest_side T hu).mpr ⟨R.rest2, b⟩, fun z => R.ne (List.append_inj z (by omega)).1⟩
theorem parts2_no {e t u : List Bool} {P : Pap} {q1 q2 : List Nat} (S : Settles (sw ws1 ws2 p1) (p1 ++ p2) (s1 ++ s2) e P) (R : Parts ws2 p2 s2 q1 q2 t u) : False := by
  obtain ⟨t1, t2, r1, r2, h1, h2, a, b⟩ := side_end T hl S
  have ht : t1.length = ws1.length := by rw [h1.len]; exact hl
  exact S.no_parts ⟨side_road T hl h1 R.road1, side_road T hl h1 R.road2, (rest_side T ht).mpr ⟨a, R.rest1⟩, (rest_side T ht).mpr ⟨a, R.rest2⟩, fun z => R.ne (List.append_inj z rfl).2⟩
theorem rounds1_no {e t : List Bool} {P : Pap} {q1 q2 : List Nat} (S : Settles (sw ws1 ws2 p1) (p1 ++ p2) (s1 ++ s2) e P) (R : Rounds ws1 p1 s1 q1 q2 t) : False := by
  have ht : t.length = ws1.length := by rw [R.road.len]; exact hl
  exact S.no_ring ⟨road_left T hl R.road, road_left T ht R.ring, R.ne⟩
theorem rounds2_no {e t : List Bool} {P : Pap} {q1 q2 : List Nat} (S : Settles (sw ws1 ws2 p1) (p1 ++ p2) (s1 ++ s2) e P) (R : Rounds ws2 p2 s2 q1 q2 t) : False :=
  S.no_ring ⟨road_right T hl R.road, road_right T hl R.ring, fun z => R.ne (List.map_eq_nil_iff.mp z)⟩
end
end
/-! ### rows of stands without doubles -/
theorem perm_of_mem {α : Type} [DecidableEq α] : ∀ {l m : List α}, l.Nodup → m.Nodup → (∀ x, x ∈ l ↔ x ∈ m) → l.Perm m
  | [], m, _, _, h => by
    cases m with
    | nil => exact .nil
    | cons y m => exact absurd ((h y).mpr List.mem_cons_self) (fun z => nomatch z)
  | a :: l, m, h1, h2, h => by
    rw [List.nodup_cons] at h1
    have ha : a ∈ m := (h a).mp List.mem_cons_self
    refine ((perm_of_mem h1.2 (h2.erase a) fun x => ?_).cons a).trans (List.perm_cons_erase ha).symm
    rw [h2.mem_erase_iff, ← h x, List.mem_cons]
    constructor
    · exact fun hx => ⟨fun e => h1.1 (e ▸ hx), .inr hx⟩
    · rintro ⟨e, hx⟩
      exact hx.resolve_left e
theorem allBits_nodup (n : Nat) : (allBits n (2 ^ n)).Nodup := by
  unfold allBits
  refine List.pairwise_map.mpr (List.Pairwise.imp_of_mem (fun {a b} ha hb ne e => ne ?_) List.nodup_range)
  have ha := List.mem_range.mp ha
  have hb := List.mem_range.mp hb
  rw [bits_nat, bits_nat] at e
  refine Nat.eq_of_testBit_eq fun i => ?_
  by_cases h : i < n
  · have := congrArg (fun l => l[i]?) e
    simp only [List.getElem?_map, List.getElem?_range h, Option.map_some] at this
    exact Option.some.inj this
  · have hp : 2 ^ n ≤ 2 ^ i := Nat.pow_le_pow_right (by decide) (by omega)
    rw [Nat.testBit_lt_two_pow (by omega), Nat.testBit_lt_two_pow (by omega)]
/-! ### each stand has its number -/
def numOf : List Bool → Nat
  | [] => 0
  | b :: bs => b.toNat + 2 * numOf bs
theorem numOf_bit : ∀ (bs : List Bool) (k : Nat), Nat.testBit (numOf bs) k = bs.getD k false
  | [], k => by show Nat.testBit 0 k = _; rw [Nat.zero_testBit]; rfl
  | b :: bs, 0 => by
    show Nat.testBit (b.toNat + 2 * numOf bs) 0 = b
    rw [Nat.testBit_zero]
    cases b
    · exact decide_eq_false (by show ¬ (0 + 2 * numOf bs) % 2 = 1; omega)
    · exact decide_eq_true (by show (1 + 2 * numOf bs) % 2 = 1; omega)
  | b :: bs, k + 1 => by
    show Nat.testBit (b.toNat + 2 * numOf bs) (k + 1) = bs.getD k false
    rw [Nat.testBit_succ, ← numOf_bit bs k]
    congr 1
    have : b.toNat ≤ 1 := by cases b <;> decide
    omega
theorem numOf_lt : ∀ bs : List Bool, numOf bs < 2 ^ bs.length
  | [] => by decide
  | b :: bs => by
    have h := numOf_lt bs
    have : b.toNat ≤ 1 := by cases b <;> decide
    show b.toNat + 2 * numOf bs < 2 ^ (bs.length + 1)
    rw [Nat.pow_succ]; omega
theorem bits_numOf (bs : List Bool) : bits ((numOf bs : Nat) : Int) bs.length = bs := by
  rw [bits_nat]
  refine List.ext_getElem (by rw [List.length_map, List.length_range]) fun i h1 h2 => ?_
  rw [List.getElem_map, List.getElem_range, numOf_bit, List.getD_eq_getElem?_getD, List.getElem?_eq_getElem h2]; rfl
theorem mem_allBits (bs : List Bool) : bs ∈ allBits bs.length (2 ^ bs.length) := by
  unfold allBits
  exact List.mem_map.mpr ⟨numOf bs, List.mem_range.mpr (numOf_lt bs), bits_numOf bs⟩
theorem in_allBits {n : Nat} {bs : List Bool} : bs ∈ allBits n (2 ^ n) ↔ bs.length = n := by
  constructor
  · intro h
    obtain ⟨k, _, rfl⟩ := List.mem_map.mp h
    exact bits_len _ _
  · intro h
    have := mem_allBits bs
    rw [h] at this; exact this
/-- each of the one with each of the other -/
def crossL (l m : List (List Bool)) : List (List Bool) := l.flatMap fun x => m.map (x ++ ·)
theorem mem_crossL {l m : List (List Bool)} {z : List Bool} : z ∈ crossL l m ↔ ∃ x ∈ l, ∃ y ∈ m, z = x ++ y := by
  unfold crossL
  rw [List.mem_flatMap]
  constructor
  · rintro ⟨x, hx, h⟩
    obtain ⟨y, hy, rfl⟩ := List.mem_map.mp h
    exact ⟨x, hx, y, hy, rfl⟩
  · rintro ⟨x, hx, y, hy, rfl⟩
    exact ⟨x, hx, List.mem_map.mpr ⟨y, hy, rfl⟩⟩
theorem crossL_nodup {l m : List (List Bool)} {n : Nat} (h1 : l.Nodup) (h2 : m.Nodup) (hl : ∀ x ∈ l, x.length = n) : (crossL l m).Nodup := by
  unfold crossL
  refine List.pairwise_flatMap.mpr ⟨fun x _ => List.pairwise_map.mpr (h2.imp fun ne e => ne (List.append_cancel_left e)), List.Pairwise.imp_of_mem (fun {x y} hx hy ne z hz u hu e => ?_) h1⟩
  obtain ⟨a, _, rfl⟩ := List.mem_map.mp hz
  obtain ⟨b, _, rfl⟩ := List.mem_map.mp hu
  exact ne (List.append_inj e (by rw [hl x hx, hl y hy])).1
theorem crossL_len (l m : List (List Bool)) : (crossL l m).length = l.length * m.length := by
  unfold crossL
  induction l with
  | nil => exact (Nat.zero_mul _).symm
  | cons x l ih => rw [List.flatMap_cons, List.length_append, ih, List.length_map, List.length_cons, Nat.succ_mul, Nat.add_comm]
theorem crossL_snoc (l m : List (List Bool)) (x : List Bool) : crossL (l ++ [x]) m = crossL l m ++ m.map (x ++ ·) := by
  unfold crossL
  rw [List.flatMap_append, List.flatMap_cons, List.flatMap_nil, List.append_nil]
/-! ### words by their parts -/
theorem WA.kinds {H : Hp} {x : W} {a : Addr} (r b : Int) (h : WA H x a) : (∃ k, x = .relay k) ∨ (∃ k, x = .button k) ∨ (∃ (t : Str) (us : List V), H a = some (.tup (.str t :: us)) ∧ us.length ≤ 2 ∧ WAs H x.parts us ∧ decide (V.str t = V.str "relay") = false ∧ decide (V.str t = V.str "button") = false ∧
    ∀ (H' : Hp) (p : Addr) (vs : List V), H' p = some (.tup (.str t :: vs)) → WAs H' (x.parts.map (W.shift r b)) vs → WA H' (x.shift r b) p) := by
  cases x with
  | relay k => exact .inl ⟨k, rfl⟩
  | button k => exact .inr (.inl ⟨k, rfl⟩)
  | on => exact .inr (.inr ⟨_, _, h, Nat.zero_le _, .nil, decide_eq_false (by decide +kernel), decide_eq_false (by decide +kernel), fun H' p vs e q => by cases q; exact e⟩)
  | off => exact .inr (.inr ⟨_, _, h, Nat.zero_le _, .nil, decide_eq_false (by decide +kernel), decide_eq_false (by decide +kernel), fun H' p vs e q => by cases q; exact e⟩)
  | not y =>
    obtain ⟨c, e, hy⟩ := h
    exact .inr (.inr ⟨_, _, e, Nat.le_succ 1, .cons ⟨c, rfl, hy⟩ .nil, decide_eq_false (by decide +kernel), decide_eq_false (by decide +kernel), fun H' p vs e q => by
      cases q with
      | cons q1 q => cases q; obtain ⟨c, rfl, q1⟩ := q1; exact ⟨c, e, q1⟩⟩)
  | and y z =>
    obtain ⟨c, d, e, hy, hz⟩ := h
    exact .inr (.inr ⟨_, _, e, Nat.le_refl 2, .cons ⟨c, rfl, hy⟩ (.cons ⟨d, rfl, hz⟩ .nil), decide_eq_false (by decide +kernel), decide_eq_false (by decide +kernel), fun H' p vs e q => by
      cases q with
      | cons q1 q => cases q with
        | cons q2 q => cases q; obtain ⟨c, rfl, q1⟩ := q1; obtain ⟨d, rfl, q2⟩ := q2; exact ⟨c, d, e, q1, q2⟩⟩)
  | or y z =>
    obtain ⟨c, d, e, hy, hz⟩ := h
    exact .inr (.inr ⟨_, _, e, Nat.le_refl 2, .cons ⟨c, rfl, hy⟩ (.cons ⟨d, rfl, hz⟩ .nil), decide_eq_false (by decide +kernel), decide_eq_false (by decide +kernel), fun H' p vs e q => by
      cases q with
      | cons q1 q => cases q with
        | cons q2 q => cases q; obtain ⟨c, rfl, q1⟩ := q1; obtain ⟨d, rfl, q2⟩ := q2; exact ⟨c, d, e, q1, q2⟩⟩)
end Rl

namespace Rl
open PySem L2
/-! ### looking through a board -/
def W.okAt (n m : Int) : W → Bool
  | .relay k => decide (0 ≤ k) && decide (k < n)
  | .button k => decide (0 ≤ k) && decide (k < m)
  | .not w => w.okAt n m
  | .and a b => a.okAt n m && b.okAt n m
  | .or a b => a.okAt n m && b.okAt n m
  | _ => true
theorem depth_parts (x : W) : (1 : Int) + maxI 0 (x.parts.map fun y => (y.depth : Int)) = (x.depth : Int) := by
  cases x with
  | not y => show (1 : Int) + (y.depth : Int) = ((y.depth + 1 : Nat) : Int); omega
  | and y z => show (1 : Int) + max (y.depth : Int) (z.depth : Int) = ((max y.depth z.depth + 1 : Nat) : Int); omega
  | or y z => show (1 : Int) + max (y.depth : Int) (z.depth : Int) = ((max y.depth z.depth + 1 : Nat) : Int); omega
  | on => rfl
  | off => rfl
  | relay k => rfl
  | button k => rfl
theorem okAt_parts (x : W) (n m : Int) (n1 : ∀ k, x ≠ .relay k) (n2 : ∀ k, x ≠ .button k) : (x.parts.map fun y => y.okAt n m).all id = x.okAt n m := by
  cases x with
  | not y => show (y.okAt n m && true) = _; rw [Bool.and_true]; rfl
  | and y z => show (y.okAt n m && (z.okAt n m && true)) = _; rw [Bool.and_true]; rfl
  | or y z => show (y.okAt n m && (z.okAt n m && true)) = _; rw [Bool.and_true]; rfl
  | on => rfl
  | off => rfl
  | relay k => exact absurd rfl (n1 k)
  | button k => exact absurd rfl (n2 k)
theorem parts_depth {x y : W} {N : Nat} (h : y ∈ x.parts) (hd : x.depth ≤ N + 1) : y.depth ≤ N := by
  cases x with
  | not z =>
    rcases List.mem_singleton.mp h with rfl
    exact Nat.le_of_succ_le_succ hd
  | and z w =>
    have hd' : max z.depth w.depth + 1 ≤ N + 1 := hd
    rcases List.mem_cons.mp h with rfl | h
    · omega
    · rcases List.mem_singleton.mp h with rfl
      omega
  | or z w =>
    have hd' : max z.depth w.depth + 1 ≤ N + 1 := hd
    rcases List.mem_cons.mp h with rfl | h
    · omega
    · rcases List.mem_singleton.mp h with rfl
      omega
  | on => cases h
  | off => cases h
  | relay k => cases h
  | button k => cases h
def deepOk (ws : List W) : Bool := ws.all fun w => decide (w.depth ≤ 8)
def allOk (ws : List W) (m : Int) : Bool := ws.all fun w => w.okAt (ws.length : Int) m
def roomOk (ws : List W) (m : Int) : Bool := (decide ((1 : Int) ≤ ws.length) && decide ((ws.length : Int) ≤ 6)) && (decide (0 ≤ m) && decide (m ≤ 4))
def lookR (ws : List W) (m : Int) : Int := if roomOk ws m = true then (if deepOk ws = true then (if allOk ws m = true then -1 else 2) else 1) else 0
theorem lookR_room {ws : List W} {m : Int} (h : roomOk ws m = false) : lookR ws m = 0 := by unfold lookR; rw [h]; rfl
theorem lookR_deep {ws : List W} {m : Int} (h : roomOk ws m = true) (h2 : deepOk ws = false) : lookR ws m = 1 := by unfold lookR; rw [h, h2]; rfl
theorem lookR_all {ws : List W} {m : Int} (h : roomOk ws m = true) (h2 : deepOk ws = true) (h3 : allOk ws m = false) : lookR ws m = 2 := by unfold lookR; rw [h, h2, h3]; rfl
theorem lookR_ok {ws : List W} {m : Int} (h : roomOk ws m = true) (h2 : deepOk ws = true) (h3 : allOk ws m = true) : lookR ws m = -1 := by unfold lookR; rw [h, h2, h3]; rfl
theorem all_take_step {α : Type} (f : α → Bool) {l : List α} {i : Nat} {x : α} (h : l[i]? = some x) : (l.take (i + 1)).all f = ((l.take i).all f && f x) := by
  rw [List.take_add_one, h, List.all_append]
  show ((l.take i).all f && (f x && true)) = _
  rw [Bool.and_true]
theorem all_bad {α : Type} (f : α → Bool) {l : List α} {i : Nat} {x : α} (h : l[i]? = some x) (hx : f x = false) : l.all f = false :=
  List.all_eq_false.mpr ⟨x, List.mem_of_getElem? h, by rw [hx]; decide⟩
theorem cutL_lo (xs : List V) (k : Nat) (h : k ≤ xs.length) : cutV xs none (some (k : Int)) = xs.take k := by
  unfold cutV
  rw [HT.sIx_none, HT.sIx_nat, Nat.min_eq_left h]
  rfl
theorem cutL_hi (xs : List V) (k : Nat) : cutV xs (some (k : Int)) none = xs.drop k := by
  unfold cutV
  rw [HT.sIx_none, HT.sIx_nat]
  by_cases h : k ≤ xs.length
  · rw [Nat.min_eq_left h, List.take_of_length_le (by rw [List.length_drop]; exact Nat.le_refl _)]
  · rw [Nat.min_eq_right (by omega), Nat.sub_self, List.take_zero, List.drop_eq_nil_of_le (by omega)]
theorem paired_app {α β : Type} {F : α → β → Prop} : ∀ {l l2 : List α} {r r2 : List β}, Paired F l r → Paired F l2 r2 → Paired F (l ++ l2) (r ++ r2)
  | _, _, _, _, .nil, h => h
  | _, _, _, _, .cons r t, h => .cons r (paired_app t h)
theorem paired_tk {α β : Type} {F : α → β → Prop} : ∀ {l : List α} {r : List β} (n : Nat), Paired F l r → Paired F (l.take n) (r.take n)
  | _, _, 0, _ => by rw [List.take_zero, List.take_zero]; exact .nil
  | _, _, _ + 1, .nil => .nil
  | _, _, n + 1, .cons r t => .cons r (paired_tk n t)
theorem paired_dr {α β : Type} {F : α → β → Prop} : ∀ {l : List α} {r : List β} (n : Nat), Paired F l r → Paired F (l.drop n) (r.drop n)
  | _, _, 0, h => h
  | _, _, _ + 1, .nil => .nil
  | _, _, n + 1, .cons _ t => paired_dr n t
theorem eqv_none (ds : List PyData) : PyData.eqv (.list ds) (.list []) = decide (ds = []) := by
  cases ds with
  | nil => simp [PyData.eqv, PyData.eqvAll]
  | cons d ds => simp [PyData.eqv, PyData.eqvAll]
theorem shWL {ws : List W} {d : Nat} (h : ∀ x ∈ ws, x.depth ≤ d) : Sh (.list (ws.map wd)) (d + 1) := Sh.lst fun e he => by
  obtain ⟨x, hx, rfl⟩ := List.mem_map.mp he
  exact (shW x).mono (h x hx)
end Rl

local macro_rules
  | `(tactic| wtm_at $s:str) => do
    match s.getString.splitOn " " with
    | ["new", p, h, ss, e] =>
      let n := Lean.mkIdent (Lean.Name.mkSimple ("n" ++ p))
      let p := Lean.mkIdent (Lean.Name.mkSimple p)
      let h := Lean.mkIdent (Lean.Name.mkSimple h)
      let ss := Lean.mkIdent (Lean.Name.mkSimple ss)
      let e := Lean.mkIdent (Lean.Name.mkSimple e)
      `(tactic| (intro $p $n; generalize eNew : L2.upd _ $p _ = $h; have $ss : L2.Same _ $h := eNew ▸ Rl.Same.new $n; have $e : $h $p = some _ := eNew ▸ L2.upd_same; clear eNew))
    | ["hp"] => `(tactic| first | assumption | exact L2.SqL.of (by wtm_at "hp") | exact L2.SqT.of (by wtm_at "hp") | (refine Rl.Same.get (by assumption) ?_; wtm_at "hp") | (refine L2.Same.seq (by assumption) ?_; wtm_at "hp") | (refine Rl.WA.same (by assumption) ?_; wtm_at "hp") | (refine Rl.WAs.same (by assumption) ?_; wtm_at "hp"))
    | ["cond"] => `(tactic| first | omega | decide | exact Rl.small10 (Nat.le_of_ble_eq_true rfl) | exact ⟨by decide, by decide⟩ | exact ⟨by omega, by omega⟩ | exact .inr ⟨by decide, by decide⟩ | exact .inl ⟨by decide, by decide⟩ | exact .inl ⟨by omega, by omega⟩ | exact .inr ⟨by omega, by omega⟩)
    | ["r1"] => `(tactic| first | refine ⟨_, rfl, ?_⟩ | refine ⟨_, _, rfl, rfl, ?_⟩ | refine ⟨rfl, ?_⟩ | refine ⟨show (_ : Prop) from (by wtm_at "cond"), ?_⟩)
    | ["rd"] => `(tactic| ((repeat wtm_at "r1"); (try dsimp -proj -eta -iota only)))
    | ["dF"] => `(tactic| refine Rl.iF (decide_eq_false (by first | decide +kernel | (dsimp only [Rl.W.tag]; decide +kernel))) ?_)
    | ["dT"] => `(tactic| refine Rl.iT (decide_eq_true (by first | decide +kernel | rfl | (dsimp only [Rl.W.tag]; decide +kernel))) ?_)
    | ["lc"] => `(tactic| (refine ⟨rfl, ?_⟩; dsimp -proj -eta -iota only [L2.tYes]; refine Rl.iT rfl ?_))
    | ["ds"] => `(tactic| dsimp -proj -eta -iota only)
    | ["szs"] => `(tactic| try refine ⟨by exact Rl.small10 (Nat.le_of_ble_eq_true rfl), ?_⟩)
    | ["sz"] => `(tactic| exact Rl.small10 (Nat.le_of_ble_eq_true rfl))
    | _ => Lean.Macro.throwUnsupported

namespace Rl
open PySem L2
def topS (i : Nat) : Stmt := PySem.Challenge.pw_relayroom_k11_whole_side_by_side.main.body.getD i (.Pass ⟨0, 0, 0, 0⟩)
abbrev sparts : Stmt := topS 10
abbrev sworth : Stmt := topS 11
abbrev sswitches : Stmt := topS 12
abbrev scan_move : Stmt := topS 14
abbrev smovable : Stmt := topS 15
abbrev smoved : Stmt := topS 16
abbrev srests : Stmt := topS 17
abbrev sshifted : Stmt := topS 18
abbrev sbeside : Stmt := topS 19
abbrev scome_to : Stmt := topS 21
abbrev snumbered : Stmt := topS 22
abbrev sring_from : Stmt := topS 23
abbrev sjudged : Stmt := topS 24
abbrev s_law_cell_at : Stmt := topS 26
abbrev s_law_pick : Stmt := topS 27
abbrev s_law_mix : Stmt := topS 28
abbrev s_law_leaf : Stmt := topS 29
abbrev s_law_word : Stmt := topS 30
abbrev s_law_board : Stmt := topS 31
abbrev s_law_bits : Stmt := topS 32
abbrev s_law_refused : Stmt := topS 33
abbrev s_law_told : Stmt := topS 34
abbrev s_law_on : Stmt := topS 35
abbrev slaw : Stmt := topS 36
theorem scparts : FnScope ["word"] ["word"] (defScope sparts) := ⟨rfl, rfl, rfl, by decide +kernel, rfl, by decide +kernel, by decide +kernel⟩
theorem scworth : FnScope ["word", "stand", "pressed"] ["word", "stand", "pressed"] (defScope sworth) := ⟨rfl, rfl, rfl, by decide +kernel, rfl, by decide +kernel, by decide +kernel⟩
theorem scswitches : FnScope ["many", "found", "number", "k"] ["many"] (defScope sswitches) := ⟨rfl, rfl, rfl, by decide +kernel, rfl, by decide +kernel, by decide +kernel⟩
theorem sccan_move : FnScope ["board", "pressed", "stand", "relay"] ["board", "pressed", "stand", "relay"] (defScope scan_move) := ⟨rfl, rfl, rfl, by decide +kernel, rfl, by decide +kernel, by decide +kernel⟩
theorem scmovable : FnScope ["board", "pressed", "stand", "relay"] ["board", "pressed", "stand"] (defScope smovable) := ⟨rfl, rfl, rfl, by decide +kernel, rfl, by decide +kernel, by decide +kernel⟩
theorem scmoved : FnScope ["stand", "relay"] ["stand", "relay"] (defScope smoved) := ⟨rfl, rfl, rfl, by decide +kernel, rfl, by decide +kernel, by decide +kernel⟩
theorem scrests : FnScope ["board", "pressed", "stand"] ["board", "pressed"] (defScope srests) := ⟨rfl, rfl, rfl, by decide +kernel, rfl, by decide +kernel, by decide +kernel⟩
theorem scshifted : FnScope ["word", "relays", "buttons", "part"] ["word", "relays", "buttons"] (defScope sshifted) := ⟨rfl, rfl, rfl, by decide +kernel, rfl, by decide +kernel, by decide +kernel⟩
theorem scbeside : FnScope ["one", "buttons", "other", "word"] ["one", "buttons", "other"] (defScope sbeside) := ⟨rfl, rfl, rfl, by decide +kernel, rfl, by decide +kernel, by decide +kernel⟩
theorem sccome_to : FnScope ["board", "pressed", "stand", "found", "left", "here", "relay", "then"] ["board", "pressed", "stand"] (defScope scome_to) := ⟨rfl, rfl, rfl, by decide +kernel, rfl, by decide +kernel, by decide +kernel⟩
theorem scnumbered : FnScope ["board", "pressed", "stands", "paper", "more", "stand", "after", "relay", "then"] ["board", "pressed", "stands"] (defScope snumbered) := ⟨rfl, rfl, rfl, by decide +kernel, rfl, by decide +kernel, by decide +kernel⟩
theorem scring_from : FnScope ["board", "pressed", "stands", "paper", "here", "seen", "moves", "relay", "stand", "k"] ["board", "pressed", "stands", "paper"] (defScope sring_from) := ⟨rfl, rfl, rfl, by decide +kernel, rfl, by decide +kernel, by decide +kernel⟩
theorem scjudged : FnScope ["board", "pressed", "stand", "roads", "paper", "ring", "ends", "one"] ["board", "pressed", "stand"] (defScope sjudged) := ⟨rfl, rfl, rfl, by decide +kernel, rfl, by decide +kernel, by decide +kernel⟩
theorem sc_law_cell_at : FnScope ["script", "k"] ["script", "k"] (defScope s_law_cell_at) := ⟨rfl, rfl, rfl, by decide +kernel, rfl, by decide +kernel, by decide +kernel⟩
theorem sc_law_pick : FnScope ["script", "k"] ["script", "k"] (defScope s_law_pick) := ⟨rfl, rfl, rfl, by decide +kernel, rfl, by decide +kernel, by decide +kernel⟩
theorem sc_law_mix : FnScope ["cell", "k", "mixed"] ["cell", "k"] (defScope s_law_mix) := ⟨rfl, rfl, rfl, by decide +kernel, rfl, by decide +kernel, by decide +kernel⟩
theorem sc_law_leaf : FnScope ["mixed", "relays", "buttons", "spot"] ["mixed", "relays", "buttons"] (defScope s_law_leaf) := ⟨rfl, rfl, rfl, by decide +kernel, rfl, by decide +kernel, by decide +kernel⟩
theorem sc_law_word : FnScope ["cell", "k", "deep", "relays", "buttons", "mixed", "kind", "first"] ["cell", "k", "deep", "relays", "buttons"] (defScope s_law_word) := ⟨rfl, rfl, rfl, by decide +kernel, rfl, by decide +kernel, by decide +kernel⟩
theorem sc_law_board : FnScope ["script", "start", "relays", "buttons", "deep", "k"] ["script", "start", "relays", "buttons", "deep"] (defScope s_law_board) := ⟨rfl, rfl, rfl, by decide +kernel, rfl, by decide +kernel, by decide +kernel⟩
theorem sc_law_bits : FnScope ["number", "size", "k"] ["number", "size"] (defScope s_law_bits) := ⟨rfl, rfl, rfl, by decide +kernel, rfl, by decide +kernel, by decide +kernel⟩
theorem sc_law_refused : FnScope ["marks", "which", "k"] ["marks", "which"] (defScope s_law_refused) := ⟨rfl, rfl, rfl, by decide +kernel, rfl, by decide +kernel, by decide +kernel⟩
theorem sc_law_told : FnScope ["one", "buttons", "other", "found", "marks", "e"] ["one", "buttons", "other"] (defScope s_law_told) := ⟨rfl, rfl, rfl, by decide +kernel, rfl, by decide +kernel, by decide +kernel⟩
theorem sc_law_on : FnScope ["word", "relays", "buttons", "part"] ["word", "relays", "buttons"] (defScope s_law_on) := ⟨rfl, rfl, rfl, by decide +kernel, rfl, by decide +kernel, by decide +kernel⟩
theorem sclaw : FnScope ["script", "cell", "sizes", "keys", "one", "other", "wide", "handed", "told", "due", "pressed", "stands", "ends", "left", "first", "second", "found", "k", "word", "right"] ["script"] (defScope slaw) := ⟨rfl, rfl, rfl, by decide +kernel, rfl, by decide +kernel, by decide +kernel⟩
structure Ad where
  (aparts aworth aswitches acan_move amovable amoved arests ashifted abeside acome_to anumbered aring_from ajudged a_law_cell_at a_law_pick a_law_mix a_law_leaf a_law_word a_law_board a_law_bits a_law_refused a_law_told a_law_on alaw : Addr)
  (dparts dworth dswitches dcan_move dmovable dmoved drests dshifted dbeside dcome_to dnumbered dring_from djudged d_law_cell_at d_law_pick d_law_mix d_law_leaf d_law_word d_law_board d_law_bits d_law_refused d_law_told d_law_on dlaw : FuncData)
  (CRoomError CTooMany CDeep CNoContact CNoRelay CStill CNoNote : Addr)
structure Txt (K : PySem.W.Frag) (mg : Str → Option Value) (A : Ad) : Prop where
  F_parts : Fun K "parts" "parts" sparts A.aparts A.dparts
  m_parts : mg "parts" = some (.ref A.aparts)
  b_parts : Binds K A.dparts ["word"] []
  F_worth : Fun K "worth" "worth" sworth A.aworth A.dworth
  m_worth : mg "worth" = some (.ref A.aworth)
  b_worth : Binds K A.dworth ["word", "stand", "pressed"] []
  F_switches : Fun K "switches" "switches" sswitches A.aswitches A.dswitches
  m_switches : mg "switches" = some (.ref A.aswitches)
  b_switches : Binds K A.dswitches ["many"] []
  F_can_move : Fun K "can_move" "can_move" scan_move A.acan_move A.dcan_move
  m_can_move : mg "can_move" = some (.ref A.acan_move)
  b_can_move : Binds K A.dcan_move ["board", "pressed", "stand", "relay"] []
  F_movable : Fun K "movable" "movable" smovable A.amovable A.dmovable
  m_movable : mg "movable" = some (.ref A.amovable)
  b_movable : Binds K A.dmovable ["board", "pressed", "stand"] []
  F_moved : Fun K "moved" "moved" smoved A.amoved A.dmoved
  m_moved : mg "moved" = some (.ref A.amoved)
  b_moved : Binds K A.dmoved ["stand", "relay"] []
  F_rests : Fun K "rests" "rests" srests A.arests A.drests
  m_rests : mg "rests" = some (.ref A.arests)
  b_rests : Binds K A.drests ["board", "pressed"] []
  F_shifted : Fun K "shifted" "shifted" sshifted A.ashifted A.dshifted
  m_shifted : mg "shifted" = some (.ref A.ashifted)
  b_shifted : Binds K A.dshifted ["word", "relays", "buttons"] []
  F_beside : Fun K "beside" "beside" sbeside A.abeside A.dbeside
  m_beside : mg "beside" = some (.ref A.abeside)
  b_beside : Binds K A.dbeside ["one", "buttons", "other"] []
  F_come_to : Fun K "come_to" "come_to" scome_to A.acome_to A.dcome_to
  m_come_to : mg "come_to" = some (.ref A.acome_to)
  b_come_to : Binds K A.dcome_to ["board", "pressed", "stand"] []
  F_numbered : Fun K "numbered" "numbered" snumbered A.anumbered A.dnumbered
  m_numbered : mg "numbered" = some (.ref A.anumbered)
  b_numbered : Binds K A.dnumbered ["board", "pressed", "stands"] []
  F_ring_from : Fun K "ring_from" "ring_from" sring_from A.aring_from A.dring_from
  m_ring_from : mg "ring_from" = some (.ref A.aring_from)
  b_ring_from : Binds K A.dring_from ["board", "pressed", "stands", "paper"] []
  F_judged : Fun K "judged" "judged" sjudged A.ajudged A.djudged
  m_judged : mg "judged" = some (.ref A.ajudged)
  b_judged : Binds K A.djudged ["board", "pressed", "stand"] []
  F__law_cell_at : Fun K "_law_cell_at" "_law_cell_at" s_law_cell_at A.a_law_cell_at A.d_law_cell_at
  m__law_cell_at : mg "_law_cell_at" = some (.ref A.a_law_cell_at)
  b__law_cell_at : Binds K A.d_law_cell_at ["script", "k"] []
  F__law_pick : Fun K "_law_pick" "_law_pick" s_law_pick A.a_law_pick A.d_law_pick
  m__law_pick : mg "_law_pick" = some (.ref A.a_law_pick)
  b__law_pick : Binds K A.d_law_pick ["script", "k"] []
  F__law_mix : Fun K "_law_mix" "_law_mix" s_law_mix A.a_law_mix A.d_law_mix
  m__law_mix : mg "_law_mix" = some (.ref A.a_law_mix)
  b__law_mix : Binds K A.d_law_mix ["cell", "k"] []
  F__law_leaf : Fun K "_law_leaf" "_law_leaf" s_law_leaf A.a_law_leaf A.d_law_leaf
  m__law_leaf : mg "_law_leaf" = some (.ref A.a_law_leaf)
  b__law_leaf : Binds K A.d_law_leaf ["mixed", "relays", "buttons"] []
  F__law_word : Fun K "_law_word" "_law_word" s_law_word A.a_law_word A.d_law_word
  m__law_word : mg "_law_word" = some (.ref A.a_law_word)
  b__law_word : Binds K A.d_law_word ["cell", "k", "deep", "relays", "buttons"] []
  F__law_board : Fun K "_law_board" "_law_board" s_law_board A.a_law_board A.d_law_board
  m__law_board : mg "_law_board" = some (.ref A.a_law_board)
  b__law_board : Binds K A.d_law_board ["script", "start", "relays", "buttons", "deep"] []
  F__law_bits : Fun K "_law_bits" "_law_bits" s_law_bits A.a_law_bits A.d_law_bits
  m__law_bits : mg "_law_bits" = some (.ref A.a_law_bits)
  b__law_bits : Binds K A.d_law_bits ["number", "size"] []
  F__law_refused : Fun K "_law_refused" "_law_refused" s_law_refused A.a_law_refused A.d_law_refused
  m__law_refused : mg "_law_refused" = some (.ref A.a_law_refused)
  b__law_refused : Binds K A.d_law_refused ["marks", "which"] []
  F__law_told : Fun K "_law_told" "_law_told" s_law_told A.a_law_told A.d_law_told
  m__law_told : mg "_law_told" = some (.ref A.a_law_told)
  b__law_told : Binds K A.d_law_told ["one", "buttons", "other"] []
  F__law_on : Fun K "_law_on" "_law_on" s_law_on A.a_law_on A.d_law_on
  m__law_on : mg "_law_on" = some (.ref A.a_law_on)
  b__law_on : Binds K A.d_law_on ["word", "relays", "buttons"] []
  F_law : Fun K "law" "law" slaw A.alaw A.dlaw
  m_law : mg "law" = some (.ref A.alaw)
  b_law : Binds K A.dlaw ["script"] []
  n_range : mg "range" = none
  n_tuple : mg "tuple" = none
  n_len : mg "len" = none
  n_list : mg "list" = none
  n_all : mg "all" = none
  n_max : mg "max" = none
  n_isinstance : mg "isinstance" = none
  n_ValueError : mg "ValueError" = none
  n_sorted : mg "sorted" = none
  g_MOST_RELAYS : ∃ t, mg "MOST_RELAYS" = some (.int 6 t)
  c_RoomError : mg "RoomError" = some (.ref A.CRoomError)
  c_TooMany : mg "TooMany" = some (.ref A.CTooMany)
  c_Deep : mg "Deep" = some (.ref A.CDeep)
  c_NoContact : mg "NoContact" = some (.ref A.CNoContact)
  c_NoRelay : mg "NoRelay" = some (.ref A.CNoRelay)
  c_Still : mg "Still" = some (.ref A.CStill)
  c_NoNote : mg "NoNote" = some (.ref A.CNoNote)
  x_TooMany : PySem.W.excIn K A.CTooMany [.type "ValueError", .type "Exception", .type "BaseException", .type "object"] "ValueError.__new__" = true
  k_TooMany : PySem.W.keepIn K (.ref A.CTooMany) = true
  sb_TooMany : PySem.W.subIn K (.ref A.CTooMany) (.type "BaseException") = some true
  ty_TooMany : PySem.W.typeIn K (.ref A.CTooMany) = some (.type "type")
  e_TooMany : PySem.W.exmOne K (.ref A.CTooMany) (.ref A.CRoomError) = some true
  v_TooMany : PySem.W.kitOne K (.ref A.CTooMany) (.type "ValueError") = some true
  i_TooMany_TooMany : PySem.W.kitOne K (.ref A.CTooMany) (.ref A.CTooMany) = some true
  i_TooMany_Deep : PySem.W.kitOne K (.ref A.CTooMany) (.ref A.CDeep) = some false
  i_TooMany_NoContact : PySem.W.kitOne K (.ref A.CTooMany) (.ref A.CNoContact) = some false
  i_TooMany_NoRelay : PySem.W.kitOne K (.ref A.CTooMany) (.ref A.CNoRelay) = some false
  i_TooMany_Still : PySem.W.kitOne K (.ref A.CTooMany) (.ref A.CStill) = some false
  i_TooMany_NoNote : PySem.W.kitOne K (.ref A.CTooMany) (.ref A.CNoNote) = some false
  E_TooMany : ExcC K A.CTooMany
section
variable {P : Program} {w : World} {K : PySem.W.Frag} {mg : Str → Option Value} {base : Heap} {Z : Ad}
def sp_law_cell_at (K : PySem.W.Frag) : Sp := fun vs H Q _ => ∃ (a : Addr) (ns : List Int) (k : Int), vs = [.ref a, .int k] ∧ SqL K H a (ns.map V.int) ∧ 0 ≤ k ∧ ∀ n : Int, Q (.int n) H
theorem ok_law_cell_at (T : Txt K mg Z) : FnOk P w K mg base CX0 1 Z.a_law_cell_at Z.d_law_cell_at ["script", "k"] (sp_law_cell_at K) := by
  refine T.F__law_cell_at.ok sc_law_cell_at (fun vs H Q E h => by obtain ⟨_, _, _, rfl, _⟩ := h; rfl) (fun cdv A outer s H vs Q E hr h => ?_)
  obtain ⟨a, ns, k, rfl, hS, h0, q⟩ := h
  refine ⟨_, (pss_cons (ps_if (pt_cmpR op_lt (pv 1) (pe_callB (r := rLenSeq K) call_len_seq (by rfl) T.n_len PySem.boot_len (pa_cons (pv 0) pa_nil)) (nomark _)) (pss_one (ps_ret (pe_ix (r := rIxL K) ix_list (pv 0) (pv 1) (fun _ _ => rfl)))) pss_nil)
      (pss_one (ps_ret pe_int))), ?_⟩
  refine ⟨_, rfl, _, rfl, a, _, rfl, .inl hS, ?_⟩
  wtm_at "rd"
  refine iB (fun c => ?_) (fun c => ?_)
  · have c' := of_decide_eq_true c
    rw [List.length_map] at c'
    obtain ⟨j, rfl⟩ : ∃ j : Nat, k = (j : Int) := ⟨k.toNat, by omega⟩
    have hj : j < ns.length := by omega
    refine ⟨_, rfl, _, rfl, a, _, _, .int ns[j], rfl, rfl, hS, atI_nat (by rw [List.getElem?_map, List.getElem?_eq_getElem hj]; rfl), ?_⟩
    exact q _
  · exact q _

def sp_law_pick (K : PySem.W.Frag) : Sp := sp_law_cell_at K
theorem ok_law_pick (T : Txt K mg Z) : FnOk P w K mg base CX0 2 Z.a_law_pick Z.d_law_pick ["script", "k"] (sp_law_pick K) := by
  have G_law_cell_at := ok_law_cell_at (P := P) (w := w) (base := base) T
  refine T.F__law_pick.ok sc_law_pick (fun vs H Q E h => by obtain ⟨_, _, _, rfl, _⟩ := h; rfl) (fun cdv A outer s H vs Q E hr h => ?_)
  obtain ⟨a, ns, k, rfl, hS, h0, q⟩ := h
  refine ⟨_, (pss_cons (ps_if (pt_cmpR op_lt (pv 1) (pe_callB (r := rLenSeq K) call_len_seq (by rfl) T.n_len PySem.boot_len (pa_cons (pv 0) pa_nil)) (nomark _)) (pss_one (ps_ret (pe_ix (r := rIxL K) ix_list (pv 0) (pv 1) (fun _ _ => rfl)))) pss_nil)
      (pss_one (ps_ret (pe_op op_fdiv (pe_op op_mod (pe_op op_mul (pe_op op_add (pe_op op_add (pe_call G_law_cell_at (hr.mono (by omega)) (by rfl) T.m__law_cell_at T.F__law_cell_at.kp T.b__law_cell_at .nil pass0 (pa_cons (pv 0) (pa_cons pe_int pa_nil))) (pe_op op_mul pe_int (pv 1))) pe_int) pe_int) pe_int) pe_int)))), ?_⟩
  refine ⟨_, rfl, _, rfl, a, _, rfl, .inl hS, ?_⟩
  wtm_at "rd"
  refine iB (fun c => ?_) (fun c => ?_)
  · have c' := of_decide_eq_true c
    rw [List.length_map] at c'
    obtain ⟨j, rfl⟩ : ∃ j : Nat, k = (j : Int) := ⟨k.toNat, by omega⟩
    have hj : j < ns.length := by omega
    refine ⟨_, rfl, _, rfl, a, _, _, .int ns[j], rfl, rfl, hS, atI_nat (by rw [List.getElem?_map, List.getElem?_eq_getElem hj]; rfl), ?_⟩
    exact q _
  · refine ⟨_, rfl, a, ns, 0, rfl, hS, by omega, fun n => ?_⟩
    wtm_at "rd"
    exact q _

def sp_law_mix : Sp := fun vs H Q _ => ∃ (c k : Int), vs = [.int c, .int k] ∧ ∀ n : Int, 0 ≤ n → n < 2147483587 → Q (.int n) H
theorem ok_law_mix (T : Txt K mg Z) : FnOk P w K mg base CX0 1 Z.a_law_mix Z.d_law_mix ["cell", "k"] sp_law_mix := by
  refine T.F__law_mix.ok sc_law_mix (fun vs H Q E h => by obtain ⟨_, _, rfl, _⟩ := h; rfl) (fun cdv A outer s H vs Q E hr h => ?_)
  obtain ⟨c, k, rfl, q⟩ := h
  refine ⟨_, (pss_cons (ps_set (i := 2) sc_law_mix.nd rfl (Or.inl rfl) (pe_op op_mod (pe_op op_add (pe_op op_add (pe_op op_mul (pv 0) pe_int) (pe_op op_mul pe_int (pv 1))) pe_int) pe_int))
      (pss_cons (ps_set (i := 2) sc_law_mix.nd rfl (Or.inl rfl) (pe_op op_mod (pe_op op_add (pe_op op_add (pe_op op_mul (pv 2) (pv 2)) (pe_op op_mul pe_int (pv 2))) (pv 1)) pe_int))
      (pss_one (ps_ret (pe_op op_mod (pe_op op_add (pe_op op_add (pe_op op_mul (pv 2) (pv 2)) (pe_op op_mul pe_int (pv 2))) (pe_op op_mul pe_int (pv 1))) pe_int))))), ?_⟩
  wtm_at "rd"
  have b1 : 0 ≤ (c * 69621 + 7001 * k + 3) % 2147483629 ∧ (c * 69621 + 7001 * k + 3) % 2147483629 < 2147483629 := ⟨Int.emod_nonneg _ (by decide), Int.emod_lt_of_pos _ (by decide)⟩
  generalize (c * 69621 + 7001 * k + 3) % 2147483629 = m1 at *
  wtm_at "rd"
  have b2 : 0 ≤ (m1 * m1 + 39373 * m1 + k) % 2147483647 ∧ (m1 * m1 + 39373 * m1 + k) % 2147483647 < 2147483647 := ⟨Int.emod_nonneg _ (by decide), Int.emod_lt_of_pos _ (by decide)⟩
  generalize (m1 * m1 + 39373 * m1 + k) % 2147483647 = m2 at *
  wtm_at "rd"
  exact q _ (Int.emod_nonneg _ (by decide)) (Int.emod_lt_of_pos _ (by decide))

def sp_law_leaf : Sp := fun vs H Q _ => ∃ (c : Int) (n m : Nat), vs = [.int c, .int n, .int m] ∧ ∀ (H' : Hp) (a : Addr) (w : W), Same H H' → WA H' w a → Fit n m 1 w → Q (.ref a) H'
theorem ok_law_leaf (T : Txt K mg Z) : FnOk P w K mg base CX0 1 Z.a_law_leaf Z.d_law_leaf ["mixed", "relays", "buttons"] sp_law_leaf := by
  refine T.F__law_leaf.ok sc_law_leaf (fun vs H Q E h => by obtain ⟨_, _, _, rfl, _⟩ := h; rfl) (fun cdv A outer s H vs Q E hr h => ?_)
  obtain ⟨c, n, m, rfl, q⟩ := h
  refine ⟨_, (pss_cons (ps_set (i := 3) sc_law_leaf.nd rfl (Or.inl rfl) (pe_op op_mod (pv 0) (pe_op op_add (pe_op op_add (pv 1) (pv 2)) pe_int)))
      (pss_cons (ps_if (pt_cmpR op_lt (pv 3) (pv 1) (nomark _)) (pss_one (ps_ret (pe_tup (pa_cons pe_str (pa_cons (pv 3) pa_nil))))) pss_nil)
      (pss_cons (ps_if (pt_cmpR op_lt (pv 3) (pe_op op_add (pv 1) (pv 2)) (nomark _)) (pss_one (ps_ret (pe_tup (pa_cons pe_str (pa_cons (pe_op op_sub (pv 3) (pv 1)) pa_nil))))) pss_nil)
      (pss_one (ps_ret (pe_ix (r := rIxL K) ix_list (pe_lst (pa_cons (pe_tup (pa_cons pe_str pa_nil)) (pa_cons (pe_tup (pa_cons pe_str pa_nil)) pa_nil))) (pe_op op_mod (pe_op op_fdiv (pv 0) pe_int) pe_int) (fun _ _ => rfl))))))), ?_⟩
  wtm_at "rd"
  have b1 : 0 ≤ c % ((n : Int) + m + 1) ∧ c % ((n : Int) + m + 1) < (n : Int) + m + 1 := ⟨Int.emod_nonneg _ (by omega), Int.emod_lt_of_pos _ (by omega)⟩
  generalize c % ((n : Int) + m + 1) = z at *
  refine iB (fun c1 => ?_) (fun c1 => ?_)
  · have c1' := of_decide_eq_true c1
    wtm_at "rd"
    wtm_at "szs"
    wtm_at "new p H1 s1 e1"
    exact q _ _ (.relay z) s1 e1 ⟨⟨by omega, by omega⟩, Int.le_refl 1⟩
  · have c1' := of_decide_eq_false c1
    wtm_at "rd"
    refine iB (fun c2 => ?_) (fun c2 => ?_)
    · have c2' := of_decide_eq_true c2
      wtm_at "rd"
      wtm_at "szs"
      wtm_at "new p H1 s1 e1"
      exact q _ _ (.button (z - n)) s1 e1 ⟨⟨by omega, by omega⟩, Int.le_refl 1⟩
    · wtm_at "szs"
      wtm_at "new p1 H1 s1 e1"
      wtm_at "szs"
      wtm_at "new p2 H2 s2 e2"
      wtm_at "szs"
      wtm_at "new p3 H3 s3 e3"
      wtm_at "rd"
      rcases (by omega : c / 64 % 2 = 0 ∨ c / 64 % 2 = 1) with e | e
      · exact ⟨_, _, _, _, rfl, rfl, .of e3, at_of (j := 0) e rfl, q _ _ .on (s1.trans (s2.trans s3)) (by wtm_at "hp") ⟨trivial, Int.le_refl 1⟩⟩
      · exact ⟨_, _, _, _, rfl, rfl, .of e3, at_of (j := 1) e rfl, q _ _ .off (s1.trans (s2.trans s3)) (by wtm_at "hp") ⟨trivial, Int.le_refl 1⟩⟩

def sp_law_word (N : Nat) : Sp := fun vs H Q _ => ∃ (c k d : Int) (n m : Nat), vs = [.int c, .int k, .int d, .int n, .int m] ∧ 1 ≤ d ∧ d ≤ N ∧ ∀ (H' : Hp) (a : Addr) (w : W), Same H H' → WA H' w a → Fit n m d w → Q (.ref a) H'
theorem st_law_word (T : Txt K mg Z) {N : Nat} (G_law_word : FnOk P w K mg base CX0 (N + 1) Z.a_law_word Z.d_law_word ["cell", "k", "deep", "relays", "buttons"] (sp_law_word N)) : FnOk P w K mg base CX0 (N + 2) Z.a_law_word Z.d_law_word ["cell", "k", "deep", "relays", "buttons"] (sp_law_word (N + 1)) := by
  have G_law_mix := ok_law_mix (P := P) (w := w) (base := base) T
  have G_law_leaf := ok_law_leaf (P := P) (w := w) (base := base) T
  refine T.F__law_word.ok sc_law_word (fun vs H Q E h => by obtain ⟨_, _, _, _, _, rfl, _⟩ := h; rfl) (fun cdv A outer s H vs Q E hr h => ?_)
  obtain ⟨c, k, d, n, m, rfl, hd1, hd2, q⟩ := h
  refine ⟨_, (pss_cons (ps_set (i := 5) sc_law_word.nd rfl (Or.inl rfl) (pe_op op_fdiv (pe_call G_law_mix (hr.mono (by omega)) (by rfl) T.m__law_mix T.F__law_mix.kp T.b__law_mix .nil pass0 (pa_cons (pv 0) (pa_cons (pv 1) pa_nil))) pe_int))
      (pss_cons (ps_set (i := 6) sc_law_word.nd rfl (Or.inl rfl) (pe_op op_mod (pv 5) pe_int))
      (pss_cons (ps_if (PW.pt (pw_or (pt_cmpR op_lt (pv 2) pe_int (nomark _)) (pw_or1 (pt_cmpR op_lt (pv 6) pe_int (nomark _))))) (pss_one (ps_ret (pe_call G_law_leaf (hr.mono (by omega)) (by rfl) T.m__law_leaf T.F__law_leaf.kp T.b__law_leaf .nil pass0 (pa_cons (pe_op op_fdiv (pv 5) pe_int) (pa_cons (pv 3) (pa_cons (pv 4) pa_nil)))))) pss_nil)
      (pss_cons (ps_set (i := 7) sc_law_word.nd rfl (Or.inl rfl) (pe_call G_law_word (hr.mono (by omega)) (by rfl) T.m__law_word T.F__law_word.kp T.b__law_word .nil pass0 (pa_cons (pv 0) (pa_cons (pe_op op_add (pe_op op_mul pe_int (pv 1)) pe_int) (pa_cons (pe_op op_sub (pv 2) pe_int) (pa_cons (pv 3) (pa_cons (pv 4) pa_nil)))))))
      (pss_cons (ps_if (pt_cmpR op_lt (pv 6) pe_int (nomark _)) (pss_one (ps_ret (pe_tup (pa_cons pe_str (pa_cons (pv 7) pa_nil))))) pss_nil)
      (pss_one (ps_ret (pe_tup (pa_cons (pe_ix (r := rIxL K) ix_list (pe_lst (pa_cons pe_str (pa_cons pe_str pa_nil))) (pe_op op_mod (pv 6) pe_int) (fun _ _ => rfl)) (pa_cons (pv 7) (pa_cons (pe_call G_law_word (hr.mono (by omega)) (by rfl) T.m__law_word T.F__law_word.kp T.b__law_word .nil pass0 (pa_cons (pv 0) (pa_cons (pe_op op_add (pe_op op_mul pe_int (pv 1)) pe_int) (pa_cons (pe_op op_sub (pv 2) pe_int) (pa_cons (pv 3) (pa_cons (pv 4) pa_nil)))))) pa_nil))))))))))), ?_⟩
  wtm_at "rd"
  refine ⟨c, k, rfl, fun x hx0 hx1 => ?_⟩
  wtm_at "rd"
  have leaf : ∀ (σ : St) (D : Ends), D.rt = Q → σ[5]? = some (some (.int (x / 7))) → σ[3]? = some (some (.int n)) → σ[4]? = some (some (.int m)) → tRet (tCall sp_law_leaf [] E0 (tCons (tOp (rI CDiv fun i j => .int (i / j)) (tVar 5) (tC (.int 10))) (tCons (tVar 3) (tCons (tVar 4) tNil)))) D σ H := by
    intro σ D hD h5 h3 h4
    refine ⟨_, h5, _, _, rfl, rfl, ⟨by decide, by decide⟩, _, h3, _, h4, _, n, m, rfl, fun H' a w s1 e1 f1 => ?_⟩
    rw [hD]
    exact q _ _ _ s1 e1 ⟨f1.1, Int.le_trans f1.2 hd1⟩
  refine iB (fun c1 => ?_) (fun c1 => ?_)
  · exact iT rfl (leaf _ _ rfl rfl rfl rfl)
  have c1' := of_decide_eq_false c1
  wtm_at "rd"
  have hk : 0 ≤ x / 7 % 10 ∧ x / 7 % 10 < 10 := by omega
  generalize x / 7 % 10 = kd at *
  refine iB (fun c2 => ?_) (fun c2 => ?_)
  · exact leaf _ _ rfl rfl rfl rfl
  have c2' := of_decide_eq_false c2
  wtm_at "rd"
  refine ⟨c, 2 * k + 1, d - 1, n, m, rfl, by omega, by omega, fun H1 a1 w1 s1 e1 f1 => ?_⟩
  wtm_at "rd"
  refine iB (fun c3 => ?_) (fun c3 => ?_)
  · wtm_at "rd"
    wtm_at "szs"
    wtm_at "new p H2 s2 e2"
    refine q _ _ (.not w1) (s1.trans s2) ⟨_, e2, WA.same s2 e1⟩ ⟨f1.1, ?_⟩
    have := f1.2
    show ((w1.depth + 1 : Nat) : Int) ≤ d
    omega
  · wtm_at "szs"
    wtm_at "new p H2 s2 e2"
    wtm_at "rd"
    have fin : ∀ (H3 : Hp) (a2 : Addr) (w2 : W), Same H2 H3 → WA H3 w2 a2 → Fit n m (d - 1) w2 → ∀ p, H3 p = none →
        Q (.ref p) (upd H3 p (.tup [.str "and", .ref a1, .ref a2])) ∧ Q (.ref p) (upd H3 p (.tup [.str "or", .ref a1, .ref a2])) := by
      intro H3 a2 w2 s3 e3 f2 p np
      have s4 : ∀ o, Same H3 (upd H3 p o) := fun o => Same.new np
      have dp : ((max w1.depth w2.depth + 1 : Nat) : Int) ≤ d := by
        have := f1.2
        have := f2.2
        omega
      exact ⟨q _ _ (.and w1 w2) (s1.trans (s2.trans (s3.trans (s4 _)))) ⟨_, _, upd_same, WA.same (s2.trans (s3.trans (s4 _))) e1, WA.same (s4 _) e3⟩ ⟨⟨f1.1, f2.1⟩, dp⟩,
        q _ _ (.or w1 w2) (s1.trans (s2.trans (s3.trans (s4 _)))) ⟨_, _, upd_same, WA.same (s2.trans (s3.trans (s4 _))) e1, WA.same (s4 _) e3⟩ ⟨⟨f1.1, f2.1⟩, dp⟩⟩
    rcases (by omega : kd % 2 = 0 ∨ kd % 2 = 1) with e | e
    · refine ⟨_, _, _, _, rfl, rfl, .of e2, at_of (j := 0) e rfl, ?_⟩
      wtm_at "rd"
      refine ⟨c, 2 * k + 2, d - 1, n, m, rfl, by omega, by omega, fun H3 a2 w2 s3 e3 f2 => ?_⟩
      exact ⟨by wtm_at "sz", fun p np => (fin H3 a2 w2 s3 e3 f2 p np).1⟩
    · refine ⟨_, _, _, _, rfl, rfl, .of e2, at_of (j := 1) e rfl, ?_⟩
      wtm_at "rd"
      refine ⟨c, 2 * k + 2, d - 1, n, m, rfl, by omega, by omega, fun H3 a2 w2 s3 e3 f2 => ?_⟩
      exact ⟨by wtm_at "sz", fun p np => (fin H3 a2 w2 s3 e3 f2 p np).2⟩
theorem ok_law_word (T : Txt K mg Z) : ∀ N : Nat, FnOk P w K mg base CX0 (N + 1) Z.a_law_word Z.d_law_word ["cell", "k", "deep", "relays", "buttons"] (sp_law_word N)
  | 0 => fn_none (by rintro vs H Q E ⟨c, k, d, n, m, _, h1, h2, _⟩; omega)
  | N + 1 => st_law_word T (ok_law_word T N)

def sp_law_board (K : PySem.W.Frag) : Sp := fun vs H Q _ => ∃ (a : Addr) (ns : List Int) (st d : Int) (n m : Nat), vs = [.ref a, .int st, .int n, .int m, .int d] ∧ SqL K H a (ns.map V.int) ∧ 0 ≤ st ∧ 1 ≤ d ∧ d ≤ 8 ∧ n ≤ 10 ∧
  ∀ (H' : Hp) (p : Addr) (ws : List W) (us : List V), Same H H' → H p = none → H' p = some (.lst us) → WAs H' ws us → ws.length = n → Fits n m d ws → Q (.ref p) H'
theorem ok_law_board (T : Txt K mg Z) : FnOk P w K mg base CX0 10 Z.a_law_board Z.d_law_board ["script", "start", "relays", "buttons", "deep"] (sp_law_board K) := by
  have G_law_pick := ok_law_pick (P := P) (w := w) (base := base) T
  have G_law_word := ok_law_word (P := P) (w := w) (base := base) T 8
  refine T.F__law_board.ok sc_law_board (fun vs H Q E h => by obtain ⟨_, _, _, _, _, _, rfl, _⟩ := h; rfl) (fun cdv A outer s H vs Q E hr h => ?_)
  obtain ⟨a, ns, st, d, n, m, rfl, hS, h0, hd1, hd2, hn, q⟩ := h
  refine ⟨_, (pss_one (ps_ret (pe_lc (own := [("k", 5)]) (g := gName 5) (tt := tYes) rfl sc_law_board.nd (pi_range1 rfl T.n_range (pa_cons (pv 2) pa_nil)) (blkOk_by (own := [("k", 5)]) (N := ["script", "start", "relays", "buttons", "deep", "k"]) (sc := defScope s_law_board) (by decide +kernel)) (fun _ _ _ _ _ => pg_name (i := 5) sc_law_board.nd rfl (Or.inl rfl)) (fun _ _ _ _ _ => pts_nil) (fun _ _ _ _ _ => (pe_call G_law_word (hr.mono (by omega)) (by rfl) T.m__law_word T.F__law_word.kp T.b__law_word .nil pass0 (pa_cons (pe_call G_law_pick (hr.mono (by omega)) (by rfl) T.m__law_pick T.F__law_pick.kp T.b__law_pick .nil pass0 (pa_cons (pv 0) (pa_cons (pe_op op_add (pv 1) (pv 5)) pa_nil))) (pa_cons (pv 5) (pa_cons (pv 4) (pa_cons (pv 2) (pa_cons (pv 3) pa_nil)))))))))), ?_⟩
  refine ⟨_, rfl, n, rfl, by omega, by omega, fun D nD => lc_range (lo := 0) (n := n) (fun i H' => ∃ ws us, Same H H' ∧ H' D = some (.lst us) ∧ WAs H' ws us ∧ ws.length = i ∧ Fits n m d ws) ?_ ?_ ?_⟩
  · exact ⟨[], [], Same.new nD, upd_same, .nil, rfl, fun _ h => nomatch h⟩
  · rintro i H1 hi ⟨ws, us, s1, hD, hw, hl, hf⟩
    wtm_at "lc"
    wtm_at "rd"
    refine ⟨a, ns, st + (0 + (i : Int)), rfl, s1.seq hS, by omega, fun c => ?_⟩
    wtm_at "rd"
    refine ⟨c, 0 + (i : Int), d, n, m, rfl, hd1, hd2, fun H2 b w1 s2 e2 f2 => ?_⟩
    have hlen := hw.length
    have t2 : Tk H2 (upd H2 D (.lst (us ++ [.ref b]))) := Tk.lst (s2 _ _ hD)
    exact ⟨us, s2 _ _ hD, small11 (by omega), ws ++ [w1], us ++ [.ref b], Same.lst (s1.trans s2) nD, upd_same, paired_snoc (WAs.tk ((Same.tk s2).trans t2) hw) ⟨b, rfl, WA.tk t2 e2⟩, by simp [hl], hf.snoc f2⟩
  · rintro H1 ⟨ws, us, s1, hD, hw, hl, hf⟩
    exact q _ _ _ _ s1 nD hD hw hl hf

def sp_law_bits : Sp := fun vs H Q _ => ∃ (z : Int) (n : Nat), vs = [.int z, .int n] ∧ n ≤ 1000 ∧
  ∀ (H' : Hp) (p : Addr), Same H H' → H p = none → H' p = some (.tup ((bits z n).map V.bl)) → Q (.ref p) H'
theorem ok_law_bits (T : Txt K mg Z) : FnOk P w K mg base CX0 1 Z.a_law_bits Z.d_law_bits ["number", "size"] sp_law_bits := by
  refine T.F__law_bits.ok sc_law_bits (fun vs H Q E h => by obtain ⟨_, _, rfl, _⟩ := h; rfl) (fun cdv A outer s H vs Q E hr h => ?_)
  obtain ⟨z, n, rfl, hn, q⟩ := h
  refine ⟨_, (pss_one (ps_ret (pe_callTy call_tuple_of (by rfl) T.n_tuple (by decide +kernel) (pa_cons (pe_lc (own := [("k", 2)]) (g := gName 2) (tt := tYes) rfl sc_law_bits.nd (pi_range1 rfl T.n_range (pa_cons (pv 1) pa_nil)) (blkOk_by (own := [("k", 2)]) (N := ["number", "size", "k"]) (sc := defScope s_law_bits) (by decide +kernel)) (fun _ _ _ _ _ => pg_name (i := 2) sc_law_bits.nd rfl (Or.inl rfl)) (fun _ _ _ _ _ => pts_nil) (fun _ _ _ _ _ => (pe_cmpR op_eq (pe_op op_mod (pe_op op_shr (pv 0) (pv 2)) pe_int) pe_int (nomark _)))) pa_nil)))), ?_⟩
  refine ⟨_, rfl, n, rfl, by omega, by omega, fun D nD => lc_range (lo := 0) (n := n) (fun i H' => Same H H' ∧ H' D = some (.lst ((bits z i).map V.bl))) ?_ ?_ ?_⟩
  · exact ⟨Same.new nD, upd_same⟩
  · rintro i H1 hi ⟨s1, hD⟩
    wtm_at "lc"
    wtm_at "rd"
    refine ⟨_, hD, small11 (by rw [List.length_map, bits_len]; omega), Same.lst s1 nD, ?_⟩
    rw [upd_same, bits_succ, List.map_append, dec_vi, toNat0]
    rfl
  · rintro H1 ⟨s1, hD⟩
    refine ⟨D, _, rfl, .inl ⟨.of hD, ?_⟩⟩
    wtm_at "new p H2 s2 e2"
    exact q _ _ (s1.trans s2) (s1.free np) e2

def sp_worth (N : Nat) : Sp := fun vs H Q _ => ∃ (a st pr : Addr) (w : W) (ss ps : List Bool), vs = [.ref a, .ref st, .ref pr] ∧ WA H w a ∧ H st = some (.tup (ss.map V.bl)) ∧ H pr = some (.tup (ps.map V.bl)) ∧
  w.wired ss.length ps.length ∧ w.depth ≤ N ∧ Q (.bl (w.eval ss ps)) H
theorem st_worth (T : Txt K mg Z) {N : Nat} (Gworth : FnOk P w K mg base CX0 N Z.aworth Z.dworth ["word", "stand", "pressed"] (sp_worth N)) : FnOk P w K mg base CX0 (N + 1) Z.aworth Z.dworth ["word", "stand", "pressed"] (sp_worth (N + 1)) := by
  refine T.F_worth.ok scworth (fun vs H Q E h => by obtain ⟨_, _, _, _, _, _, rfl, _⟩ := h; rfl) (fun cdv A outer s H vs Q E hr h => ?_)
  obtain ⟨a, st, pr, w, ss, ps, rfl, hw, hst, hpr, hwd, hd, q⟩ := h
  refine ⟨_, (pss_cons (ps_if (pt_cmpR op_eq (pe_ix (r := rIxT K) ix_tup (pv 0) pe_int (fun _ _ => rfl)) pe_str (nomark _)) (pss_one (ps_ret (pe_ix (r := rIxT K) ix_tup (pv 1) (pe_ix (r := rIxT K) ix_tup (pv 0) pe_int (fun _ _ => rfl)) (fun _ _ => rfl)))) pss_nil)
      (pss_cons (ps_if (pt_cmpR op_eq (pe_ix (r := rIxT K) ix_tup (pv 0) pe_int (fun _ _ => rfl)) pe_str (nomark _)) (pss_one (ps_ret (pe_ix (r := rIxT K) ix_tup (pv 2) (pe_ix (r := rIxT K) ix_tup (pv 0) pe_int (fun _ _ => rfl)) (fun _ _ => rfl)))) pss_nil)
      (pss_cons (ps_if (pt_cmpR op_eq (pe_ix (r := rIxT K) ix_tup (pv 0) pe_int (fun _ _ => rfl)) pe_str (nomark _)) (pss_one (ps_ret (pe_not (pe_call Gworth (hr.mono (by omega)) (by rfl) T.m_worth T.F_worth.kp T.b_worth .nil pass0 (pa_cons (pe_ix (r := rIxT K) ix_tup (pv 0) pe_int (fun _ _ => rfl)) (pa_cons (pv 1) (pa_cons (pv 2) pa_nil))))))) pss_nil)
      (pss_cons (ps_if (pt_cmpR op_eq (pe_ix (r := rIxT K) ix_tup (pv 0) pe_int (fun _ _ => rfl)) pe_str (nomark _)) (pss_one (ps_ret (pe_and (pe_call Gworth (hr.mono (by omega)) (by rfl) T.m_worth T.F_worth.kp T.b_worth .nil pass0 (pa_cons (pe_ix (r := rIxT K) ix_tup (pv 0) pe_int (fun _ _ => rfl)) (pa_cons (pv 1) (pa_cons (pv 2) pa_nil)))) (pe_one (pe_call Gworth (hr.mono (by omega)) (by rfl) T.m_worth T.F_worth.kp T.b_worth .nil pass0 (pa_cons (pe_ix (r := rIxT K) ix_tup (pv 0) pe_int (fun _ _ => rfl)) (pa_cons (pv 1) (pa_cons (pv 2) pa_nil)))))))) pss_nil)
      (pss_cons (ps_if (pt_cmpR op_eq (pe_ix (r := rIxT K) ix_tup (pv 0) pe_int (fun _ _ => rfl)) pe_str (nomark _)) (pss_one (ps_ret (pe_or (pe_call Gworth (hr.mono (by omega)) (by rfl) T.m_worth T.F_worth.kp T.b_worth .nil pass0 (pa_cons (pe_ix (r := rIxT K) ix_tup (pv 0) pe_int (fun _ _ => rfl)) (pa_cons (pv 1) (pa_cons (pv 2) pa_nil)))) (pe_one (pe_call Gworth (hr.mono (by omega)) (by rfl) T.m_worth T.F_worth.kp T.b_worth .nil pass0 (pa_cons (pe_ix (r := rIxT K) ix_tup (pv 0) pe_int (fun _ _ => rfl)) (pa_cons (pv 1) (pa_cons (pv 2) pa_nil)))))))) pss_nil)
      (pss_one (ps_ret (pe_cmpR op_eq (pe_ix (r := rIxT K) ix_tup (pv 0) pe_int (fun _ _ => rfl)) pe_str (nomark _))))))))), ?_⟩
  cases w with
  | on => 
    have e0 : H a = some (.tup [.str "on"]) := hw
    refine tag_test rfl e0 ?_; wtm_at "dF"
    refine tag_test rfl e0 ?_; wtm_at "dF"
    refine tag_test rfl e0 ?_; wtm_at "dF"
    refine tag_test rfl e0 ?_; wtm_at "dF"
    refine tag_test rfl e0 ?_; wtm_at "dF"
    refine tag_val rfl e0 ?_
    rw [show decide (V.str "on" = V.str "on") = true by decide +kernel]
    exact q
  | off => 
    have e0 : H a = some (.tup [.str "off"]) := hw
    refine tag_test rfl e0 ?_; wtm_at "dF"
    refine tag_test rfl e0 ?_; wtm_at "dF"
    refine tag_test rfl e0 ?_; wtm_at "dF"
    refine tag_test rfl e0 ?_; wtm_at "dF"
    refine tag_test rfl e0 ?_; wtm_at "dF"
    refine tag_val rfl e0 ?_
    rw [show decide (V.str "off" = V.str "on") = false by decide +kernel]
    exact q
  | relay k =>
    have e0 : H a = some (.tup [.str "relay", .int k]) := hw
    refine tag_test rfl e0 ?_; wtm_at "dT"
    exact ⟨_, rfl, _, rfl, a, _, 1, _, rfl, rfl, .of e0, atI_nat (j := 1) rfl, st, _, k, _, rfl, rfl, .of hst, at_bl hwd.1 hwd.2, q⟩
  | button k =>
    have e0 : H a = some (.tup [.str "button", .int k]) := hw
    refine tag_test rfl e0 ?_; wtm_at "dF"
    refine tag_test rfl e0 ?_; wtm_at "dT"
    exact ⟨_, rfl, _, rfl, a, _, 1, _, rfl, rfl, .of e0, atI_nat (j := 1) rfl, pr, _, k, _, rfl, rfl, .of hpr, at_bl hwd.1 hwd.2, q⟩
  | not x =>
    obtain ⟨b, e0, hx⟩ := hw
    have hd' : x.depth + 1 ≤ N + 1 := hd
    refine tag_test rfl e0 ?_; wtm_at "dF"
    refine tag_test rfl e0 ?_; wtm_at "dF"
    refine tag_test rfl e0 ?_; wtm_at "dT"
    exact ⟨_, rfl, a, _, 1, _, rfl, rfl, .of e0, atI_nat (j := 1) rfl, _, rfl, _, rfl, b, st, pr, x, ss, ps, rfl, hx, hst, hpr, hwd, by omega, _, rfl, q⟩
  | and x y =>
    obtain ⟨b, c, e0, hx, hy⟩ := hw
    have hd' : max x.depth y.depth + 1 ≤ N + 1 := hd
    refine tag_test rfl e0 ?_; wtm_at "dF"
    refine tag_test rfl e0 ?_; wtm_at "dF"
    refine tag_test rfl e0 ?_; wtm_at "dF"
    refine tag_test rfl e0 ?_; wtm_at "dT"
    refine ⟨_, rfl, a, _, 1, _, rfl, rfl, .of e0, atI_nat (j := 1) rfl, _, rfl, _, rfl, b, st, pr, x, ss, ps, rfl, hx, hst, hpr, hwd.1, by omega, _, rfl, ?_⟩
    have q' : Q (.bl (x.eval ss ps && y.eval ss ps)) H := q
    refine iB (fun z => ?_) (fun z => ?_)
    · rw [z] at q'
      exact ⟨_, rfl, a, _, 2, _, rfl, rfl, .of e0, atI_nat (j := 2) rfl, _, rfl, _, rfl, c, st, pr, y, ss, ps, rfl, hy, hst, hpr, hwd.2, by omega, q'⟩
    · rw [z] at q'
      exact q'
  | or x y =>
    obtain ⟨b, c, e0, hx, hy⟩ := hw
    have hd' : max x.depth y.depth + 1 ≤ N + 1 := hd
    refine tag_test rfl e0 ?_; wtm_at "dF"
    refine tag_test rfl e0 ?_; wtm_at "dF"
    refine tag_test rfl e0 ?_; wtm_at "dF"
    refine tag_test rfl e0 ?_; wtm_at "dF"
    refine tag_test rfl e0 ?_; wtm_at "dT"
    refine ⟨_, rfl, a, _, 1, _, rfl, rfl, .of e0, atI_nat (j := 1) rfl, _, rfl, _, rfl, b, st, pr, x, ss, ps, rfl, hx, hst, hpr, hwd.1, by omega, _, rfl, ?_⟩
    have q' : Q (.bl (x.eval ss ps || y.eval ss ps)) H := q
    refine iB (fun z => ?_) (fun z => ?_)
    · rw [z] at q'
      exact q'
    · rw [z] at q'
      exact ⟨_, rfl, a, _, 2, _, rfl, rfl, .of e0, atI_nat (j := 2) rfl, _, rfl, _, rfl, c, st, pr, y, ss, ps, rfl, hy, hst, hpr, hwd.2, by omega, q'⟩
theorem ok_worth (T : Txt K mg Z) : ∀ N : Nat, FnOk P w K mg base CX0 N Z.aworth Z.dworth ["word", "stand", "pressed"] (sp_worth N)
  | 0 => fn_none (by rintro vs H Q E ⟨_, _, _, w, _, _, _, _, _, _, _, h2, _⟩; have := w.depth_pos; omega)
  | N + 1 => st_worth T (ok_worth T N)

def sp_switches : Sp := fun vs H Q _ => ∃ (n : Nat), vs = [.int n] ∧ n ≤ 6 ∧
  ∀ (H' : Hp) (p : Addr) (us : List V), Same H H' → H p = none → H' p = some (.lst us) → Tups H' (allBits n (2 ^ n)) us → Q (.ref p) H'
theorem ok_switches (T : Txt K mg Z) : FnOk P w K mg base CX0 1 Z.aswitches Z.dswitches ["many"] sp_switches := by
  refine T.F_switches.ok scswitches (fun vs H Q E h => by obtain ⟨_, rfl, _⟩ := h; rfl) (fun cdv A outer s H vs Q E hr h => ?_)
  obtain ⟨n, rfl, hn, q⟩ := h
  have h64 := pow_le64 hn
  refine ⟨_, (pss_cons (ps_set (i := 1) scswitches.nd rfl (Or.inl rfl) (pe_lst pa_nil))
      (pss_cons (ps_for PassesOwn.never rfl (pi_range1 rfl T.n_range (pa_cons (pe_op op_shl pe_int (pv 0)) pa_nil)) (pg_name (i := 2) scswitches.nd rfl (Or.inr rfl))
      (pss_one (ps_expr (pe_bm PySem.F.plainAttrs_list PySem.F.slot_list_append PySem.F.type_list_append mt_append (pv 1) (pa_cons (pe_callTy call_tuple_of (by rfl) T.n_tuple (by decide +kernel) (pa_cons (pe_lc (own := [("k", 3)]) (g := gName 3) (tt := tYes) rfl scswitches.nd (pi_range1 rfl T.n_range (pa_cons (pv 0) pa_nil)) (blkOk_by (own := [("k", 3)]) (N := ["many", "found", "number", "k"]) (sc := defScope sswitches) (by decide +kernel)) (fun _ _ _ _ _ => pg_name (i := 3) scswitches.nd rfl (Or.inl rfl)) (fun _ _ _ _ _ => pts_nil) (fun _ _ _ _ _ => (pe_cmpR op_eq (pe_op op_mod (pe_op op_shr (pv 2) (pv 3)) pe_int) pe_int (nomark _)))) pa_nil)) pa_nil)))))
      (pss_one (ps_ret (pv 1))))), ?_⟩
  wtm_at "szs"
  wtm_at "new F H1 s1 e1"
  refine ⟨_, rfl, _, _, rfl, rfl, ⟨by omega, by omega, by decide⟩, _, rfl, ?_⟩
  have e64 : (1 : Int) * 2 ^ ((n : Int).toNat) = ((2 ^ n : Nat) : Int) := by rw [Int.one_mul, Int.toNat_natCast, pow_cast]
  refine ⟨by rw [e64]; exact Int.le_trans (by decide) (Int.natCast_nonneg _), by rw [e64]; exact Int.lt_of_le_of_lt (Int.ofNat_le.mpr h64) (by decide), ?_⟩
  rw [shl_one]
  refine for_range (lo := 0) (n := 2 ^ n) (fun i σ H' => ∃ us x, σ = [some (.int n), some (.ref F), x, none] ∧ Same H H' ∧ H' F = some (.lst us) ∧ Tups H' (allBits n i) us) ?_ ?_ ?_
  · exact ⟨[], none, rfl, s1, e1, .nil⟩
  · rintro i σ H2 hi ⟨us, x, rfl, s2, hF, hT⟩
    have hlen := hT.length
    rw [allBits_len] at hlen
    refine ⟨_, rfl, .inl ⟨rfl, _, .of hF⟩, _, rfl, n, rfl, by omega, by omega, fun D nD => lc_range (lo := 0) (n := n) (fun j H' => Same H2 H' ∧ H' D = some (.lst ((bits (i : Int) j).map V.bl))) ?_ ?_ ?_⟩
    · exact ⟨Same.new nD, upd_same⟩
    · rintro j H3 hj ⟨s3, hD⟩
      wtm_at "lc"
      wtm_at "rd"
      refine ⟨_, hD, small11 (by rw [List.length_map, bits_len]; omega), Same.lst s3 nD, ?_⟩
      rw [upd_same, bits_succ, List.map_append, dec_vi, toNat0, Int.zero_add]
      rfl
    · rintro H3 ⟨s3, hD⟩
      refine ⟨D, _, rfl, .inl ⟨.of hD, ?_⟩⟩
      wtm_at "new p H4 s4 e4"
      have s24 := s3.trans s4
      have hF4 := s24 _ _ hF
      refine ⟨F, us, .ref p, rfl, rfl, hF4, small11 (by omega), us ++ [.ref p], _, rfl, Same.lst (s2.trans s24) nF, upd_same, ?_⟩
      rw [allBits_succ]
      have t : Tk H4 (upd H4 F (.lst (us ++ [.ref p]))) := Tk.lst hF4
      exact paired_snoc (Tups.tk ((Same.tk s24).trans t) hT) ⟨p, rfl, t _ _ e4⟩
  · rintro σ H2 ⟨us, x, rfl, s2, hF, hT⟩
    exact ⟨_, rfl, q _ _ _ s2 nF hF hT⟩

def sp_can_move : Sp := fun vs H Q _ => ∃ (b pr st : Addr) (k n m : Nat) (us : List V) (ws : List W) (ps ss : List Bool), vs = [.ref b, .ref pr, .ref st, vn k] ∧ k < n ∧ BoardAt H b us ws n m ∧ H pr = some (.tup (ps.map V.bl)) ∧ H st = some (.tup (ss.map V.bl)) ∧ ss.length = n ∧ ps.length = m ∧ Q (.bl (canMove ws ps ss k)) H
theorem ok_can_move (T : Txt K mg Z) : FnOk P w K mg base CX0 11 Z.acan_move Z.dcan_move ["board", "pressed", "stand", "relay"] sp_can_move := by
  have Gworth := ok_worth (P := P) (w := w) (base := base) T 10
  refine T.F_can_move.ok sccan_move (fun vs H Q E h => by obtain ⟨_, _, _, _, _, _, _, _, _, _, rfl, _⟩ := h; rfl) (fun cdv A outer s H vs Q E hr h => ?_)
  obtain ⟨b, pr, st, k, n, m, us, ws, ps, ss, rfl, hk, B, hp, hs, hsl, hpl, q⟩ := h
  refine ⟨_, (pss_one (ps_ret (pe_cmpR op_ne (pe_call Gworth (hr.mono (by omega)) (by rfl) T.m_worth T.F_worth.kp T.b_worth .nil pass0 (pa_cons (pe_ix (r := rIxL K) ix_list (pv 0) (pv 3) (fun _ _ => rfl)) (pa_cons (pv 2) (pa_cons (pv 1) pa_nil)))) (pe_ix (r := rIxT K) ix_tup (pv 2) (pv 3) (fun _ _ => rfl)) (nomark _)))), ?_⟩
  obtain ⟨c, hc, hw, hf⟩ := B.at hk
  refine ⟨_, rfl, _, rfl, b, us, (k : Int), _, rfl, rfl, .of B.lst, at_of (j := k) rfl hc, _, rfl, _, rfl, c, st, pr, ws.getD k .off, ss, ps, rfl, hw, hs, hp, by rw [hsl, hpl]; exact hf.1, by have := hf.2; omega, ?_⟩
  refine ⟨_, rfl, _, rfl, st, _, (k : Int), _, rfl, rfl, .of hs, at_bl (by omega) (by omega), rfl, ?_⟩
  have e : (!decide (V.bl ((ws.getD k .off).eval ss ps) = V.bl (ss.getD ((k : Int).toNat) false))) = canMove ws ps ss k := by
    unfold canMove
    rw [Int.toNat_natCast]
    cases (ws.getD k W.off).eval ss ps <;> cases ss.getD k false <;> rfl
  show Q (.bl (!decide (V.bl ((ws.getD k .off).eval ss ps) = V.bl (ss.getD ((k : Int).toNat) false)))) H
  rw [e]
  exact q

def sp_movable : Sp := fun vs H Q _ => ∃ (b pr st : Addr) (n m : Nat) (us : List V) (ws : List W) (ps ss : List Bool), vs = [.ref b, .ref pr, .ref st] ∧ BoardAt H b us ws n m ∧ H pr = some (.tup (ps.map V.bl)) ∧ H st = some (.tup (ss.map V.bl)) ∧ ss.length = n ∧ ps.length = m ∧
  ∀ (H' : Hp) (p : Addr), Same H H' → H p = none → H' p = some (.lst ((movL ws ps ss).map vn)) → Q (.ref p) H'
theorem ok_movable (T : Txt K mg Z) : FnOk P w K mg base CX0 12 Z.amovable Z.dmovable ["board", "pressed", "stand"] sp_movable := by
  have Gcan_move := ok_can_move (P := P) (w := w) (base := base) T
  refine T.F_movable.ok scmovable (fun vs H Q E h => by obtain ⟨_, _, _, _, _, _, _, _, _, rfl, _⟩ := h; rfl) (fun cdv A outer s H vs Q E hr h => ?_)
  obtain ⟨b, pr, st, n, m, us, ws, ps, ss, rfl, B, hp, hs, hsl, hpl, q⟩ := h
  refine ⟨_, (pss_one (ps_ret (pe_lc (own := [("relay", 3)]) (g := gName 3) rfl scmovable.nd (pi_range1 rfl T.n_range (pa_cons (pe_callB (r := rLenSeq K) call_len_seq (by rfl) T.n_len PySem.boot_len (pa_cons (pv 0) pa_nil)) pa_nil)) (blkOk_by (own := [("relay", 3)]) (N := ["board", "pressed", "stand", "relay"]) (sc := defScope smovable) (by decide +kernel)) (fun _ _ _ _ _ => pg_name (i := 3) scmovable.nd rfl (Or.inl rfl)) (fun _ _ _ _ _ => (pts_one (pt_val (pe_call Gcan_move (hr.mono (by omega)) (by rfl) T.m_can_move T.F_can_move.kp T.b_can_move .nil pass0 (pa_cons (pv 0) (pa_cons (pv 1) (pa_cons (pv 2) (pa_cons (pv 3) pa_nil)))))))) (fun _ _ _ _ _ => (pv 3))))), ?_⟩
  have hu := B.ulen
  have h6 := B.n6
  refine ⟨_, rfl, b, us, rfl, .inl (.of B.lst), _, rfl, by omega, by omega, fun D nD => lc_range (lo := 0) (n := us.length) (fun i H' => Same H H' ∧ H' D = some (.lst (((List.range i).filter (canMove ws ps ss)).map vn))) ?_ ?_ ?_⟩
  · exact ⟨Same.new nD, upd_same⟩
  · rintro i H2 hi ⟨s2, hD⟩
    refine ⟨rfl, ?_⟩
    refine ⟨_, rfl, _, rfl, _, rfl, _, rfl, b, pr, st, i, n, m, us, ws, ps, ss, by rw [Int.zero_add]; rfl, by omega, B.same s2, s2 _ _ hp, s2 _ _ hs, hsl, hpl, _, rfl, ?_⟩
    refine iB (fun c => ?_) (fun c => ?_)
    · refine ⟨_, rfl, _, hD, small11 ?_, Same.lst s2 nD, ?_⟩
      · rw [List.length_map]
        have := List.length_filter_le (canMove ws ps ss) (List.range i)
        rw [List.length_range] at this
        omega
      · rw [upd_same, List.range_succ, filter_snoc, if_pos c, List.map_append, Int.zero_add]
        rfl
    · refine ⟨s2, ?_⟩
      rw [hD, List.range_succ, filter_snoc, if_neg (by rw [c]; decide)]
  · rintro H2 ⟨s2, hD⟩
    refine q _ _ s2 nD ?_
    rw [hD, hu, ← B.len]
    rfl

def isRest (ws : List W) (ps ss : List Bool) : Bool := decide (movL ws ps ss = [])
def restL (n : Nat) (ws : List W) (ps : List Bool) : List (List Bool) := (allBits n (2 ^ n)).filter (isRest ws ps)
theorem take_filter {α : Type} (f : α → Bool) {l : List α} {i : Nat} {x : α} (h : l[i]? = some x) : (l.take (i + 1)).filter f = if f x = true then (l.take i).filter f ++ [x] else (l.take i).filter f := by
  rw [List.take_add_one, h]
  exact filter_snoc f _ x
def sp_rests : Sp := fun vs H Q _ => ∃ (b pr : Addr) (n m : Nat) (us : List V) (ws : List W) (ps : List Bool), vs = [.ref b, .ref pr] ∧ BoardAt H b us ws n m ∧ H pr = some (.tup (ps.map V.bl)) ∧ ps.length = m ∧
  ∀ (H' : Hp) (p : Addr) (vs : List V), Same H H' → H p = none → H' p = some (.lst vs) → Tups H' (restL n ws ps) vs → Q (.ref p) H'
theorem ok_rests (T : Txt K mg Z) : FnOk P w K mg base CX0 13 Z.arests Z.drests ["board", "pressed"] sp_rests := by
  have Gmovable := ok_movable (P := P) (w := w) (base := base) T
  have Gswitches := ok_switches (P := P) (w := w) (base := base) T
  refine T.F_rests.ok scrests (fun vs H Q E h => by obtain ⟨_, _, _, _, _, _, _, rfl, _⟩ := h; rfl) (fun cdv A outer s H vs Q E hr h => ?_)
  obtain ⟨b, pr, n, m, us, ws, ps, rfl, B, hp, hpl, q⟩ := h
  refine ⟨_, (pss_one (ps_ret (pe_lc (own := [("stand", 2)]) (g := gName 2) rfl scrests.nd (pi_list (pe_call Gswitches (hr.mono (by omega)) (by rfl) T.m_switches T.F_switches.kp T.b_switches .nil pass0 (pa_cons (pe_callB (r := rLenSeq K) call_len_seq (by rfl) T.n_len PySem.boot_len (pa_cons (pv 0) pa_nil)) pa_nil))) (blkOk_by (own := [("stand", 2)]) (N := ["board", "pressed", "stand"]) (sc := defScope srests) (by decide +kernel)) (fun _ _ _ _ _ => pg_name (i := 2) scrests.nd rfl (Or.inl rfl)) (fun _ _ _ _ _ => (pts_one (pt_cmpR (r := rEqD K) (op_eqD hr.units) (pe_call Gmovable (hr.mono (by omega)) (by rfl) T.m_movable T.F_movable.kp T.b_movable .nil pass0 (pa_cons (pv 0) (pa_cons (pv 1) (pa_cons (pv 2) pa_nil)))) (pe_lst pa_nil) (nomark _)))) (fun _ _ _ _ _ => (pv 2))))), ?_⟩
  have hu := B.ulen
  have h6 := B.n6
  refine ⟨_, rfl, b, us, rfl, .inl (.of B.lst), n, by rw [hu]; rfl, h6, fun H1 p1 vs1 s1 n1 e1 T1 => ?_⟩
  have l1 := T1.length
  have h64 := pow_le64 h6
  rw [allBits_len] at l1
  refine ⟨p1, rfl, ⟨_, .of e1⟩, fun D nD => lc_list (K := K) (a := p1) (xs := vs1) (fun i H' => Same H1 H' ∧ ∃ ys, H' D = some (.lst ys) ∧ ys.length ≤ i ∧ Tups H' (((allBits n (2 ^ n)).take i).filter (isRest ws ps)) ys) ?_ ?_ ?_ ?_⟩
  · exact ⟨Same.new nD, [], upd_same, Nat.le_refl _, .nil⟩
  · rintro i H2 _ ⟨s2, _⟩
    exact .of (s2 _ _ e1)
  · rintro i v H2 hi ⟨s2, ys, hD, hyl, hT⟩
    obtain ⟨bs, hb, sa, rfl, hsa⟩ := paired_get T1 hi
    have hbl : bs.length = n := by rw [(allBits_get' hb).2, bits_len]
    have hib := (allBits_get' hb).1
    refine ⟨rfl, ?_⟩
    have s12 := s1.trans s2
    have st := s2 _ _ hsa
    refine ⟨_, rfl, _, rfl, _, rfl, b, pr, sa, n, m, us, ws, ps, bs, rfl, B.same s12, s12 _ _ hp, st, hbl, hpl, fun H3 p3 s3 n3 e3 => ?_⟩
    refine ⟨by wtm_at "sz", ?_⟩
    wtm_at "new L H4 s4 e4"
    refine ⟨_, _, dpI (s4 _ _ e3), dpI (ks := []) e4, (shI _).shaped (by decide), (shI _).shaped (by decide), _, rfl, ?_⟩
    have s34 := s3.trans s4
    have hD4 := s34 _ _ hD
    rw [eqv_il]
    refine iB (fun c => ?_) (fun c => ?_)
    · have t : Tk H4 (upd H4 D (.lst (ys ++ [.ref sa]))) := Tk.lst hD4
      refine ⟨_, rfl, ys, hD4, small11 (by omega), Same.lst (s2.trans s34) nD, ys ++ [.ref sa], upd_same, by rw [List.length_append, List.length_singleton]; omega, ?_⟩
      rw [take_filter _ hb, if_pos (show isRest ws ps bs = true from c)]
      exact paired_snoc (Tups.tk ((Same.tk s34).trans t) hT) ⟨sa, rfl, t _ _ (s34 _ _ st)⟩
    · refine ⟨s2.trans s34, ys, hD4, by omega, ?_⟩
      rw [take_filter _ hb, if_neg (by rw [show isRest ws ps bs = false from c]; decide)]
      exact Tups.same s34 hT
  · rintro H2 ⟨s2, ys, hD, hyl, hT⟩
    rw [← l1, show (allBits n (2 ^ n)).take (2 ^ n) = allBits n (2 ^ n) from List.take_of_length_le (by rw [allBits_len]; exact Nat.le_refl _)] at hT
    exact q _ _ ys (s1.trans s2) (s1.free nD) hD hT

theorem cut_lo (xs : List V) (k : Nat) (h : k ≤ xs.length) : cutV xs none (some (k : Int)) = xs.take k := by
  unfold cutV
  rw [HT.sIx_none, HT.sIx_nat, Nat.min_eq_left h]
  rfl
theorem cut_hi (xs : List V) (k : Nat) : cutV xs (some (k : Int)) none = xs.drop k := by
  unfold cutV
  rw [HT.sIx_none, HT.sIx_nat]
  by_cases h : k ≤ xs.length
  · rw [Nat.min_eq_left h, List.take_of_length_le (by rw [List.length_drop]; exact Nat.le_refl _)]
  · rw [Nat.min_eq_right (by omega), Nat.sub_self, List.take_zero, List.drop_eq_nil_of_le (by omega)]
theorem flip_split (ss : List Bool) (k : Nat) (h : k < ss.length) : (flip ss k).map V.bl = (ss.map V.bl).take k ++ [V.bl (!ss.getD k false)] ++ (ss.map V.bl).drop (k + 1) := by
  unfold flip
  rw [List.set_eq_take_append_cons_drop, if_pos h]
  simp
def sp_moved : Sp := fun vs H Q _ => ∃ (st : Addr) (k : Nat) (ss : List Bool), vs = [.ref st, vn k] ∧ H st = some (.tup (ss.map V.bl)) ∧ k < ss.length ∧ ss.length ≤ 1000 ∧
  ∀ (H' : Hp) (p : Addr), Same H H' → H' p = some (.tup ((flip ss k).map V.bl)) → Q (.ref p) H'
theorem cat_any {K : PySem.W.Frag} {H : Hp} {Q : VK} {a b : Addr} {xs ys : List V} (ha : H a = some (.tup xs)) (hb : H b = some (.tup ys)) (hz : xs.length + ys.length ≤ sizeLine)
    (q : ∀ (H' : Hp) (p : Addr), Same H H' → H' p = some (.tup (xs ++ ys)) → Q (.ref p) H') : rCatA K (.ref a) (.ref b) H Q := by
  refine ⟨a, b, xs, ys, rfl, rfl, .of ha, .of hb, hz, fun e => ?_, fun _ e => ?_, fun _ _ p np => q _ p (Same.new np) upd_same⟩
  · subst e; exact q _ _ (Same.refl _) hb
  · subst e; exact q _ _ (Same.refl _) (by rw [List.append_nil]; exact ha)
theorem ok_moved (T : Txt K mg Z) : FnOk P w K mg base CX0 1 Z.amoved Z.dmoved ["stand", "relay"] sp_moved := by
  refine T.F_moved.ok scmoved (fun vs H Q E h => by obtain ⟨_, _, _, rfl, _⟩ := h; rfl) (fun cdv A outer s H vs Q E hr h => ?_)
  obtain ⟨st, k, ss, rfl, hs, hk, h1000, q⟩ := h
  refine ⟨_, (pss_one (ps_ret (pe_op (r := rCatA K) op_catA (pe_op (r := rCatA K) op_catA (pe_slice (r := rSlT K) sl_tup (pv 0) po_none (po_some (pv 1))) (pe_tup (pa_cons (pe_not (pe_ix (r := rIxT K) ix_tup (pv 0) (pv 1) (fun _ _ => rfl))) pa_nil))) (pe_slice (r := rSlT K) sl_tup (pv 0) (po_some (pe_op op_add (pv 1) pe_int)) po_none)))), ?_⟩
  have hl : (ss.map V.bl).length = ss.length := List.length_map _
  refine ⟨_, rfl, _, rfl, _, rfl, st, _, rfl, .of hs, fun z => ?_, ?_⟩
  · have z2 := z.2
    rw [HT.sIx_nat, hl] at z2
    omega
  wtm_at "new p1 H1 s1 e1"
  rw [cut_lo _ _ (by omega)] at e1
  refine ⟨_, rfl, _, rfl, st, _, (k : Int), _, rfl, rfl, .of (s1 _ _ hs), at_bl (by omega) (by omega), _, rfl, by wtm_at "sz", ?_⟩
  wtm_at "new p2 H2 s2 e2"
  have l1 : ((ss.map V.bl).take k).length ≤ 1000 := by rw [List.length_take, hl]; omega
  refine cat_any (s2 _ _ e1) e2 (small10 (by show _ + 1 ≤ _; omega)) fun H3 p3 s3 e3 => ?_
  refine ⟨_, rfl, _, rfl, _, _, rfl, rfl, _, rfl, st, _, rfl, .of (s3 _ _ (s2 _ _ (s1 _ _ hs))), fun z => ?_, ?_⟩
  · have z1 := z.1
    rw [show ((k : Int) + 1) = ((k + 1 : Nat) : Int) from rfl, HT.sIx_nat, hl] at z1
    omega
  wtm_at "new p4 H4 s4 e4"
  rw [show ((k : Int) + 1) = ((k + 1 : Nat) : Int) from rfl, cut_hi] at e4
  refine cat_any (s4 _ _ e3) e4 (small10 ?_) fun H5 p5 s5 e5 => ?_
  · rw [List.length_append, List.length_drop, hl]
    show _ + 1 + _ ≤ _
    omega
  · refine q _ p5 (s1.trans (s2.trans (s3.trans (s4.trans s5)))) ?_
    rw [flip_split _ _ hk, e5, Int.toNat_natCast]

/-- the roads that a dict tells; none is L -/
def RoadsAt (ws : List W) (ps ss : List Bool) (H0 : Hp) (L : Addr) (H : Hp) (kvs : List (List Bool × V)) : Prop := ∀ x ∈ kvs, ∃ (a : Addr) (rs : List Nat), x.2 = .ref a ∧ H0 a = none ∧ a ≠ L ∧ H a = some (.lst (rs.map vn)) ∧ rs.length < kvs.length ∧ Road ws ps ss rs x.1
theorem RoadsAt.at {ws : List W} {ps ss : List Bool} {H0 H H2 : Hp} {L : Addr} {kvs : List (List Bool × V)} (h : RoadsAt ws ps ss H0 L H kvs) (k : ∀ a xs, a ≠ L → H a = some (.lst xs) → H2 a = some (.lst xs)) : RoadsAt ws ps ss H0 L H2 kvs := fun x hx => by
  obtain ⟨a, rs, e, n, ne, l, q⟩ := h x hx
  exact ⟨a, rs, e, n, ne, k a _ ne l, q⟩
structure ComeAt (ws : List W) (ps ss : List Bool) (H0 : Hp) (F L : Addr) (hh : Option (List Bool)) (H : Hp) (kvs : List (List Bool × V)) (lefts : List (List Bool)) (us : List V) : Prop where
  same : Same H0 H
  dict : DBat H F kvs
  roads : RoadsAt ws ps ss H0 L H kvs
  left : H L = some (.lst us)
  tups : Tups H lefts us
  sub : ∀ t ∈ lefts, t ∈ kvs.map (·.1)
  self : ss ∈ kvs.map (·.1)
  done : ∀ t ∈ kvs.map (·.1), t ∈ lefts ∨ hh = some t ∨ ∀ k ∈ movL ws ps t, flip t k ∈ kvs.map (·.1)
theorem roads_mem {ws : List W} {ps ss t : List Bool} {H0 H : Hp} {L : Addr} {kvs : List (List Bool × V)} (h : RoadsAt ws ps ss H0 L H kvs) (ht : t ∈ kvs.map (·.1)) : ∃ (a : Addr) (rs : List Nat), (t, .ref a) ∈ kvs ∧ H0 a = none ∧ a ≠ L ∧ H a = some (.lst (rs.map vn)) ∧ rs.length < kvs.length ∧ Road ws ps ss rs t := by
  obtain ⟨⟨t', v⟩, hx, rfl⟩ := List.mem_map.mp ht
  obtain ⟨a, rs, e, q⟩ := h _ hx
  cases (show v = .ref a from e)
  exact ⟨a, rs, hx, q⟩
theorem roads_len {ws : List W} {ps ss : List Bool} {H0 H : Hp} {L : Addr} {kvs : List (List Bool × V)} (h : RoadsAt ws ps ss H0 L H kvs) : ∀ t ∈ kvs.map (·.1), t.length = ss.length := fun t ht => by
  obtain ⟨a, rs, _, _, _, _, _, r⟩ := roads_mem h ht
  exact r.len
theorem ComeAt.le {ws : List W} {ps ss : List Bool} {H0 H : Hp} {F L : Addr} {hh : Option (List Bool)} {kvs : List (List Bool × V)} {lefts : List (List Bool)} {us : List V} (C : ComeAt ws ps ss H0 F L hh H kvs lefts us) (h6 : ss.length ≤ 6) : kvs.length ≤ 64 := by
  have := stands_le C.dict.nodup (roads_len C.roads) h6
  rw [List.length_map] at this; exact this
theorem ComeAt.later {ws : List W} {ps ss : List Bool} {H0 H H2 : Hp} {F L : Addr} {hh : Option (List Bool)} {kvs : List (List Bool × V)} {lefts : List (List Bool)} {us : List V} (C : ComeAt ws ps ss H0 F L hh H kvs lefts us) (s : Same H H2) : ComeAt ws ps ss H0 F L hh H2 kvs lefts us :=
  ⟨C.same.trans s, C.dict.same s, C.roads.at fun a xs _ e => s _ _ e, s _ _ C.left, Tups.same s C.tups, C.sub, C.self, C.done⟩
def sp_come_to : Sp := fun vs H Q _ => ∃ (b pr st : Addr) (n m : Nat) (us : List V) (ws : List W) (ps ss : List Bool), vs = [.ref b, .ref pr, .ref st] ∧ BoardAt H b us ws n m ∧ H pr = some (.tup (ps.map V.bl)) ∧ H st = some (.tup (ss.map V.bl)) ∧ ss.length = n ∧ ps.length = m ∧
  ∀ (H' : Hp) (F L : Addr) (kvs : List (List Bool × V)), Same H H' → H F = none → DBat H' F kvs → RoadsAt ws ps ss H L H' kvs → Stands ws ps ss (kvs.map (·.1)) → Q (.ref F) H'
theorem ok_come_to (T : Txt K mg Z) : FnOk P w K mg base CX0 13 Z.acome_to Z.dcome_to ["board", "pressed", "stand"] sp_come_to := by
  have Gmovable := ok_movable (P := P) (w := w) (base := base) T
  have Gmoved := ok_moved (P := P) (w := w) (base := base) T
  refine T.F_come_to.ok sccome_to (fun vs H Q E h => by obtain ⟨_, _, _, _, _, _, _, _, _, rfl, _⟩ := h; rfl) (fun cdv A outer s H vs Q E hr h => ?_)
  obtain ⟨b, pr, st, n, m, us, ws, ps, ss, rfl, B, hp, hs, hsl, hpl, q⟩ := h
  refine ⟨_, (pss_cons (ps_set (i := 3) sccome_to.nd rfl (Or.inl rfl) (pe_bone (hu_of hr) (pv 2) (pe_lst pa_nil)))
      (pss_cons (ps_set (i := 4) sccome_to.nd rfl (Or.inl rfl) (pe_lst (pa_cons (pv 2) pa_nil)))
      (pss_cons (ps_while PassesOwn.never (pt_cmpR op_gt (pe_callB (r := rLenSeq K) call_len_seq (by rfl) T.n_len PySem.boot_len (pa_cons (pv 4) pa_nil)) pe_int (nomark _))
      (pss_cons (ps_set (i := 5) sccome_to.nd rfl (Or.inl rfl) (pe_bm PySem.F.plainAttrs_list PySem.F.slot_list_pop PySem.F.type_list_pop mt_popAt (pv 4) (pa_cons pe_int pa_nil)))
      (pss_one (ps_for PassesOwn.never rfl (pi_list (pe_call Gmovable (hr.mono (by omega)) (by rfl) T.m_movable T.F_movable.kp T.b_movable .nil pass0 (pa_cons (pv 0) (pa_cons (pv 1) (pa_cons (pv 5) pa_nil))))) (pg_name (i := 6) sccome_to.nd rfl (Or.inl rfl))
      (pss_cons (ps_set (i := 7) sccome_to.nd rfl (Or.inl rfl) (pe_call Gmoved (hr.mono (by omega)) (by rfl) T.m_moved T.F_moved.kp T.b_moved .nil pass0 (pa_cons (pv 5) (pa_cons (pv 6) pa_nil))))
      (pss_one (ps_if (pt_cmp (pc_bnotin (hu_of hr) (pv 7) (pv 3))) (pss_cons (ps_bput (hu_of hr) (pv 3) (pv 7) (pe_op op_cat (pe_bget (hu_of hr) (pv 3) (pv 5) (fun _ _ => rfl)) (pe_lst (pa_cons (pv 6) pa_nil))) rfl)
      (pss_one (ps_expr (pe_bm PySem.F.plainAttrs_list PySem.F.slot_list_append PySem.F.type_list_append mt_append (pv 4) (pa_cons (pv 7) pa_nil))))) pss_nil)))))))
      (pss_one (ps_ret (pv 3)))))), ?_⟩
  have h6 := B.n6
  have hwl := B.len
  intro F H1 nF s1 b1 d1
  refine ⟨_, rfl, Nat.zero_le _, ?_⟩
  wtm_at "new R H2 s2 e2"
  have d2 := d1.same s2
  refine ⟨d2, st, ss, rfl, (s1.trans s2) _ _ hs, fun H3 d3 b3 => ?_⟩
  have s3 : Same H H3 := Same.but (s1.trans s2) nF b3
  have RF : R ≠ F := by
    intro e; subst e
    obtain ⟨_, e1, _⟩ := d1
    rw [e1] at nR; cases nR
  have e3 : H3 R = some (.lst []) := (b3 R RF).trans e2
  refine ⟨_, rfl, Nat.le_of_ble_eq_true (n := 1) rfl, ?_⟩
  wtm_at "new L H4 s4 e4"
  have s34 := s3.trans s4
  have nL0 : H L = none := s3.free nL
  have RL : R ≠ L := fun e => by subst e; rw [e3] at nL; cases nL
  have C0 : ComeAt ws ps ss H F L none H4 [(ss, .ref R)] [ss] [.ref st] := by
    refine ⟨s34, d3.same s4, ?_, e4, .cons ⟨st, rfl, s34 _ _ hs⟩ .nil, ?_, List.mem_singleton.mpr rfl, ?_⟩
    · intro x hx
      rw [List.mem_singleton.mp hx]
      exact ⟨R, [], rfl, s1.free nR, RL, s4 _ _ e3, Nat.lt_of_lt_of_le Nat.zero_lt_one (Nat.le_refl _), rfl⟩
    · intro t ht
      rw [List.mem_singleton.mp ht]; exact List.mem_singleton.mpr rfl
    · intro t ht
      rw [List.mem_singleton.mp ht]; exact .inl (List.mem_singleton.mpr rfl)
  refine ⟨fun m σ H' => ∃ kvs lefts us' x1 x2 x3, σ = [some (.ref b), some (.ref pr), some (.ref st), some (.ref F), some (.ref L), x1, x2, x3] ∧ ComeAt ws ps ss H F L none H' kvs lefts us' ∧ m = 64 - kvs.length + lefts.length ∧ m ≤ 64, ⟨_, _, _, _, none, none, none, rfl, C0, rfl, Nat.le_refl _⟩, ?_⟩
  rintro m0 σ H5 ⟨kvs, lefts, us', x1, x2, x3, rfl, C, rfl, hm64⟩
  refine ⟨_, rfl, L, us', rfl, .inl (.of C.left), _, _, rfl, rfl, _, rfl, ?_⟩
  refine iB (fun c => ?_) (fun c => ?_)
  · have c := of_decide_eq_true c
    refine ⟨fun σ' H' => ∃ m', m' < 64 - kvs.length + lefts.length ∧ ∃ kvs lefts us' x1 x2 x3, σ' = [some (.ref b), some (.ref pr), some (.ref st), some (.ref F), some (.ref L), x1, x2, x3] ∧ ComeAt ws ps ss H F L none H' kvs lefts us' ∧ m' = 64 - kvs.length + lefts.length ∧ m' ≤ 64, fun _ _ h => h, ?_⟩
    have hT := C.tups
    cases lefts with
    | nil => have := hT.length; rw [← this] at c; exact absurd c (by decide)
    | cons hh rest =>
    cases hT with
    | @cons _ u0 _ usr r0 rt =>
    obtain ⟨ha, rfl, eha⟩ := r0
    have hhk := C.sub hh List.mem_cons_self
    have hhl : hh.length = n := by rw [roads_len C.roads hh hhk, hsl]
    refine ⟨_, rfl, .inl ⟨rfl, _, .of C.left⟩, L, _, 0, 0, .ref ha, rfl, rfl, C.left, by decide, by decide, by unfold seqIndex?; simp, rfl, ?_⟩
    have e6 : (upd H5 L (.lst usr)) L = some (.lst usr) := upd_same
    have k6 : ∀ c, c ≠ L → (upd H5 L (.lst usr)) c = H5 c := fun c hc => upd_ne hc
    have t6 : Tk H5 (upd H5 L (.lst usr)) := Tk.lst C.left
    have s6 : Same H (upd H5 L (.lst usr)) := Same.lst C.same nL0
    show tSeq _ _ _ _ (upd H5 L (.lst usr))
    generalize upd H5 L (.lst usr) = H6 at *
    have FL : F ≠ L := by
      intro e; subst e
      obtain ⟨_, e1, _⟩ := C.dict
      rw [C.left] at e1; cases e1
    have C6 : ComeAt ws ps ss H F L (some hh) H6 kvs rest usr := by
      refine ⟨s6, C.dict.at (k6 F FL) t6, C.roads.at fun a xs ne e => (k6 a ne).trans e, e6, Tups.tk t6 rt, fun t ht => C.sub t (List.mem_cons_of_mem _ ht), C.self, fun t ht => ?_⟩
      rcases C.done t ht with h | h | h
      · rcases List.mem_cons.mp h with rfl | h
        · exact .inr (.inl rfl)
        · exact .inl h
      · cases h
      · exact .inr (.inr h)
    have eh6 := t6 _ _ eha
    have hk64 := C.le (by omega)
    refine ⟨_, rfl, _, rfl, _, rfl, b, pr, ha, n, m, us, ws, ps, hh, rfl, B.same s6, s6 _ _ hp, eh6, hhl, hpl, fun H7 M s7 nM e7 => ?_⟩
    have ML : M ≠ L := fun e => by subst e; rw [e6] at nM; cases nM
    have MF : M ≠ F := fun e => by subst e; obtain ⟨_, e1, _⟩ := C6.dict; rw [e1] at nM; cases nM
    refine ⟨M, rfl, ⟨_, .of e7⟩, for_list (K := K) (a := M) (xs := (movL ws ps hh).map vn) (fun i σ H' => ∃ kvs2 lefts us' x2 x3, σ = [some (.ref b), some (.ref pr), some (.ref st), some (.ref F), some (.ref L), some (.ref ha), x2, x3] ∧ ComeAt ws ps ss H F L (some hh) H' kvs2 lefts us' ∧ (∀ k ∈ (movL ws ps hh).take i, flip hh k ∈ kvs2.map (·.1)) ∧ hh ∈ kvs2.map (·.1) ∧ H' ha = some (.tup (hh.map V.bl)) ∧ H' M = some (.lst ((movL ws ps hh).map vn)) ∧ 64 - kvs2.length + lefts.length = 64 - kvs.length + rest.length) ?_ ?_ ?_ ?_⟩
    · exact ⟨kvs, rest, usr, x2, x3, rfl, C6.later s7, (fun k hk => nomatch hk), hhk, s7 _ _ eh6, e7, rfl⟩
    · rintro i σ H' _ ⟨_, _, _, _, _, _, _, _, _, _, e, _⟩
      exact .of e
    · rintro i v σ H8 hi ⟨kvs2, lefts, us', x2, x3, rfl, C8, hdone, hhk2, eh8, eM, hmeas⟩
      obtain ⟨k, hk, rfl⟩ : ∃ k, (movL ws ps hh)[i]? = some k ∧ v = vn k := by
        rw [List.getElem?_map] at hi
        obtain ⟨k, hk, e⟩ := Option.map_eq_some_iff.mp hi
        exact ⟨k, hk, e.symm⟩
      have hkm := List.mem_of_getElem? hk
      have hkn : k < hh.length := by rw [hhl, ← hwl]; exact (mem_movL.mp hkm).1
      have htake : (movL ws ps hh).take (i + 1) = (movL ws ps hh).take i ++ [k] := by rw [List.take_add_one, hk]; rfl
      refine ⟨_, rfl, _, rfl, ha, k, hh, rfl, eh8, hkn, by omega, fun H9 p9 s9 e9 => ?_⟩
      have C9 := C8.later s9
      refine ⟨_, rfl, _, rfl, F, p9, kvs2, flip hh k, rfl, rfl, C9.dict, e9, _, rfl, ?_⟩
      refine iB (fun z => ?_) (fun z => ?_)
      · have hnew : flip hh k ∉ kvs2.map (·.1) := val_out (notT z)
        obtain ⟨ra, rs, hmem, nra, raL, era, hrl, hroad⟩ := roads_mem C9.roads hhk2
        have hk2 := C9.le (by omega)
        refine ⟨_, rfl, _, rfl, F, ha, kvs2, hh, .ref ra, rfl, rfl, C9.dict, s9 _ _ eh8, valV_of C9.dict.nodup hmem, ?_⟩
        refine ⟨_, rfl, Nat.le_of_ble_eq_true (n := 1) rfl, ?_⟩
        wtm_at "new l1 Ha sa ea"
        refine ⟨ra, l1, _, _, rfl, rfl, sa _ _ era, ea, small10 (by rw [List.length_map]; show _ + 1 ≤ _; omega), ?_⟩
        wtm_at "new l2 Hb sb eb"
        have sab := sa.trans sb
        have Cb := C9.later sab
        have eb' : Hb l2 = some (.lst ((rs ++ [k]).map vn)) := by rw [eb, List.map_append]; rfl
        have l2L : l2 ≠ L := fun e => by subst e; rw [sa _ _ C9.left] at nl2; cases nl2
        have nl2H : H l2 = none := (C9.same.trans sa).free nl2
        refine ⟨_, rfl, _, rfl, F, p9, kvs2, flip hh k, rfl, rfl, Cb.dict, sab _ _ e9, small11 (by omega), fun Hc dc bc => ?_⟩
        rw [putK_fresh _ hnew] at dc
        have sc := Same.but Cb.same nF bc
        have tc := bc.tk Cb.dict
        have FL2 : F ≠ L := FL
        have lst_ne : ∀ a xs, Hb a = some (.lst xs) → Hc a = some (.lst xs) := fun a xs e => by
          obtain ⟨_, e1, _⟩ := Cb.dict
          rw [bc a (ne_of e e1 (by intro z; cases z))]; exact e
        have ec := lst_ne _ _ Cb.left
        have hkeys : (kvs2 ++ [(flip hh k, V.ref l2)]).map (·.1) = kvs2.map (·.1) ++ [flip hh k] := by rw [List.map_append]; rfl
        have hul := Cb.tups.length
        have hcard : (kvs2 ++ [(flip hh k, V.ref l2)]).length ≤ 64 := by
          have := stands_le (n := n) dc.nodup (fun t ht => by
            rw [hkeys] at ht
            rcases List.mem_append.mp ht with h | h
            · rw [roads_len Cb.roads t h, hsl]
            · rw [List.mem_singleton.mp h, flip_len, hhl]) h6
          rw [List.length_map] at this; exact this
        rw [List.length_append, List.length_singleton] at hcard
        have hlefts : lefts.length ≤ 64 := by rw [List.length_cons] at hm64; omega
        refine ⟨_, rfl, .inl ⟨rfl, _, .of ec⟩, _, rfl, L, _, .ref p9, rfl, rfl, ec, small11 (by omega), ?_⟩
        have td : Tk Hc (upd Hc L (.lst (us' ++ [.ref p9]))) := Tk.lst ec
        have kd : ∀ c, c ≠ L → (upd Hc L (.lst (us' ++ [.ref p9]))) c = Hc c := fun c hc => upd_ne hc
        have tall := (Tk.trans tc td)
        refine ⟨_, lefts ++ [flip hh k], us' ++ [.ref p9], _, _, rfl, ⟨Same.lst sc nL0, dc.at (kd F FL) td, ?_, upd_same, ?_, ?_, ?_, ?_⟩, ?_, ?_, ?_, ?_, ?_⟩
        · intro x hx
          rcases List.mem_append.mp hx with h | h
          · obtain ⟨a, rs', ea1, ea2, ea3, ea4, ea5, ea6⟩ := Cb.roads x h
            exact ⟨a, rs', ea1, ea2, ea3, (kd a ea3).trans (lst_ne _ _ ea4), by rw [List.length_append]; omega, ea6⟩
          · rw [List.mem_singleton.mp h]
            exact ⟨l2, rs ++ [k], rfl, nl2H, l2L, (kd l2 l2L).trans (lst_ne _ _ eb'), by rw [List.length_append, List.length_append]; show _ + 1 < _ + 1; omega, hroad.snoc hkm⟩
        · exact paired_snoc (Tups.tk tall Cb.tups) ⟨p9, rfl, tall _ _ (sab _ _ e9)⟩
        · intro t ht
          rw [hkeys]
          rcases List.mem_append.mp ht with h | h
          · exact List.mem_append.mpr (.inl (Cb.sub t h))
          · exact List.mem_append.mpr (.inr h)
        · rw [hkeys]; exact List.mem_append.mpr (.inl Cb.self)
        · intro t ht
          rw [hkeys] at ht ⊢
          rcases List.mem_append.mp ht with h | h
          · rcases Cb.done t h with h | h | h
            · exact .inl (List.mem_append.mpr (.inl h))
            · exact .inr (.inl h)
            · exact .inr (.inr fun j hj => List.mem_append.mpr (.inl (h j hj)))
          · exact .inl (List.mem_append.mpr (.inr h))
        · intro j hj
          rw [htake] at hj
          rw [hkeys]
          rcases List.mem_append.mp hj with h | h
          · exact List.mem_append.mpr (.inl (hdone j h))
          · rw [List.mem_singleton.mp h]; exact List.mem_append.mpr (.inr (List.mem_singleton.mpr rfl))
        · rw [hkeys]; exact List.mem_append.mpr (.inl hhk2)
        · exact tall _ _ (sab _ _ (s9 _ _ eh8))
        · rw [kd M ML]; exact lst_ne _ _ (sab _ _ (s9 _ _ eM))
        · rw [List.length_append, List.length_append, List.length_singleton, List.length_singleton]; omega
      · have hold : flip hh k ∈ kvs2.map (·.1) := val_in (notF z)
        refine ⟨kvs2, lefts, us', _, _, rfl, C9, ?_, hhk2, s9 _ _ eh8, s9 _ _ eM, hmeas⟩
        intro j hj
        rw [htake] at hj
        rcases List.mem_append.mp hj with h | h
        · exact hdone j h
        · rw [List.mem_singleton.mp h]; exact hold
    · rintro σ H8 ⟨kvs2, lefts, us', x2, x3, rfl, C8, hdone, hhk2, eh8, eM, hmeas⟩
      rw [List.length_map, List.take_length] at hdone
      rw [List.length_cons] at hm64 ⊢
      refine ⟨_, by omega, kvs2, lefts, us', _, _, _, rfl, ⟨C8.same, C8.dict, C8.roads, C8.left, C8.tups, C8.sub, C8.self, fun t ht => ?_⟩, rfl, by omega⟩
      rcases C8.done t ht with h | h | h
      · exact .inl h
      · cases h; exact .inr (.inr hdone)
      · exact .inr (.inr h)
  · have c := of_decide_eq_false c
    have hl := C.tups.length
    have hnil : lefts = [] := List.eq_nil_of_length_eq_zero (by omega)
    subst hnil
    refine ⟨_, rfl, q H5 F L kvs C.same nF C.dict C.roads (.of C.dict.nodup C.self (fun t ht => ?_) fun t ht => ?_)⟩
    · rcases C.done t ht with h | h | h
      · cases h
      · cases h
      · exact h
    · obtain ⟨_, rs, _, _, _, _, _, r⟩ := roads_mem C.roads ht
      exact ⟨rs, r⟩

structure NumAt (ws : List W) (ps : List Bool) (sts : List (List Bool)) (H0 : Hp) (F : Addr) (H : Hp) (P : Pap) : Prop where
  same : Same H0 H
  dict : DBat H F (papV P)
  falls : Falls ws ps P
  sub : ∀ t ∈ P.map (·.1), t ∈ sts
theorem NumAt.later {ws : List W} {ps : List Bool} {sts : List (List Bool)} {H0 H H2 : Hp} {F : Addr} {P : Pap} (N : NumAt ws ps sts H0 F H P) (s : Same H H2) : NumAt ws ps sts H0 F H2 P := ⟨N.same.trans s, N.dict.same s, N.falls, N.sub⟩
theorem NumAt.le {ws : List W} {ps ss : List Bool} {sts : List (List Bool)} {H0 H : Hp} {F : Addr} {P : Pap} (N : NumAt ws ps sts H0 F H P) (S : Stands ws ps ss sts) (h6 : ss.length ≤ 6) : P.length ≤ 64 := by
  have h := nodup_len N.falls.nodup N.sub
  rw [List.length_map] at h
  exact Nat.le_trans h (S.le h6)
/-- numbered, or with a move to what isn't -/
def Met (ws : List W) (ps : List Bool) (P : Pap) (t : List Bool) : Prop := t ∈ P.map (·.1) ∨ ∃ k ∈ movL ws ps t, flip t k ∉ P.map (·.1)
def sp_numbered : Sp := fun vs H Q _ => ∃ (b pr sa : Addr) (n m : Nat) (us vs2 : List V) (ws : List W) (ps ss : List Bool) (sts : List (List Bool)), vs = [.ref b, .ref pr, .ref sa] ∧ BoardAt H b us ws n m ∧ H pr = some (.tup (ps.map V.bl)) ∧ H sa = some (.lst vs2) ∧ Tups H sts vs2 ∧ Stands ws ps ss sts ∧ ss.length = n ∧ ps.length = m ∧
  ∀ (H' : Hp) (F : Addr) (P : Pap), Same H H' → H F = none → DBat H' F (papV P) → Falls ws ps P → (∀ t ∈ P.map (·.1), t ∈ sts) → (∀ t ∈ sts, Met ws ps P t) → Q (.ref F) H'
theorem all_take {l : List (List Bool)} {f : List Bool → Bool} : ((l.map f).all id = true) ↔ ∀ x ∈ l, f x = true := by
  rw [List.all_map, List.all_eq_true]; exact Iff.rfl
theorem ok_numbered (T : Txt K mg Z) : FnOk P w K mg base CX0 13 Z.anumbered Z.dnumbered ["board", "pressed", "stands"] sp_numbered := by
  have Gmovable := ok_movable (P := P) (w := w) (base := base) T
  have Gmoved := ok_moved (P := P) (w := w) (base := base) T
  refine T.F_numbered.ok scnumbered (fun vs H Q E h => by obtain ⟨_, _, _, _, _, _, _, _, _, _, _, rfl, _⟩ := h; rfl) (fun cdv A outer s H vs Q E hr h => ?_)
  obtain ⟨b, pr, sa, n, m, us, vs2, ws, ps, ss, sts, rfl, B, hp, hsa, hT, S, hsl, hpl, q⟩ := h
  refine ⟨_, (pss_cons (ps_set (i := 3) scnumbered.nd rfl (Or.inr rfl) pe_bnew)
      (pss_cons (ps_set (i := 4) scnumbered.nd rfl (Or.inl rfl) pe_bl)
      (pss_cons (ps_while PassesOwn.never (pt_val (pv 4))
      (pss_cons (ps_set (i := 4) scnumbered.nd rfl (Or.inl rfl) pe_bl)
      (pss_one (ps_for PassesOwn.never rfl (pi_list (pv 2)) (pg_name (i := 5) scnumbered.nd rfl (Or.inr rfl))
      (pss_cons (ps_setLc (i := 6) (own := [("relay", 7)]) (g := gName 7) (tt := tYes) rfl scnumbered.nd rfl rfl (sw_true rfl rfl rfl (by decide +kernel)) (pi_list (pe_call Gmovable (hr.mono (by omega)) (by rfl) T.m_movable T.F_movable.kp T.b_movable .nil pass0 (pa_cons (pv 0) (pa_cons (pv 1) (pa_cons (pv 5) pa_nil))))) (blkOk_by (own := [("relay", 7)]) (N := ["board", "pressed", "stands", "paper", "more", "stand", "after", "relay", "then"]) (sc := defScope snumbered) (by decide +kernel)) (fun _ _ _ _ _ => pg_name (i := 7) scnumbered.nd rfl (Or.inl rfl)) (fun _ _ _ _ _ => pts_nil) (fun _ _ _ _ _ => (pe_call Gmoved (hr.mono (by omega)) (by rfl) T.m_moved T.F_moved.kp T.b_moved .nil pass0 (pa_cons (pv 5) (pa_cons (pv 7) pa_nil)))))
      (pss_one (ps_if (PW.pt (pw_and (pt_cmp (pc_bnotin (hu_of hr) (pv 5) (pv 3))) (pw_and1 (pt_val (pe_callB (r := rAll K) (cr_all rfl) (by rfl) T.n_all (by decide +kernel) (pa_cons (pe_lc (own := [("then", 8)]) (g := gName 8) (tt := tYes) rfl scnumbered.nd (pi_list (pv 6)) (blkOk_by (own := [("then", 8)]) (N := ["board", "pressed", "stands", "paper", "more", "stand", "after", "relay", "then"]) (sc := defScope snumbered) (by decide +kernel)) (fun _ _ _ _ _ => pg_name (i := 8) scnumbered.nd rfl (Or.inl rfl)) (fun _ _ _ _ _ => pts_nil) (fun _ _ _ _ _ => (pe_cmp (pc_bin (hu_of hr) (pv 8) (pv 3))))) pa_nil)))))) (pss_cons (ps_bput (hu_of hr) (pv 3) (pv 5) (pe_op op_add pe_int (pe_callBK (r := rMaxD K) (call_maxD rfl (hu_of hr)) (by rfl) T.n_max (by decide +kernel) (pa_cons (pe_lc (own := [("then", 8)]) (g := gName 8) (tt := tYes) rfl scnumbered.nd (pi_list (pv 6)) (blkOk_by (own := [("then", 8)]) (N := ["board", "pressed", "stands", "paper", "more", "stand", "after", "relay", "then"]) (sc := defScope snumbered) (by decide +kernel)) (fun _ _ _ _ _ => pg_name (i := 8) scnumbered.nd rfl (Or.inl rfl)) (fun _ _ _ _ _ => pts_nil) (fun _ _ _ _ _ => (pe_bget (hu_of hr) (pv 3) (pv 8) (fun _ _ => rfl)))) pa_nil) (pk_cons (pe_un un_neg pe_int) pk_nil))) rfl)
      (pss_one (ps_set (i := 4) scnumbered.nd rfl (Or.inl rfl) pe_bl))) pss_nil)))))))
      (pss_one (ps_ret (pv 3)))))), ?_⟩
  have h6 := B.n6
  have hwl := B.len
  intro F H1 nF s1 b1 d1
  have F0 : Falls ws ps [] := ⟨List.nodup_nil, (fun _ _ h => nomatch h), (fun t => ⟨(fun h => nomatch h), (fun h => nomatch h.1)⟩), (fun _ _ h => nomatch h)⟩
  refine ⟨fun m σ H' => ∃ P more x1 x2 x3 x4, σ = [some (.ref b), some (.ref pr), some (.ref sa), some (.ref F), some (.bl more), x1, x2, x3, x4] ∧ NumAt ws ps sts H F H' P ∧ (more = false → ∀ t ∈ sts, Met ws ps P t) ∧ m = 2 * (64 - P.length) + more.toNat, ⟨_, [], true, none, none, none, none, rfl, ⟨s1, d1, F0, fun _ h => nomatch h⟩, (fun h => nomatch h), rfl⟩, ?_⟩
  rintro m0 σ H5 ⟨P0, more, x1, x2, x3, x4, rfl, N0, hmet, rfl⟩
  refine ⟨_, rfl, _, rfl, ?_⟩
  cases more with
  | false => exact iteF ⟨_, rfl, q H5 F P0 N0.same nF N0.dict N0.falls N0.sub (hmet rfl)⟩
  | true =>
  refine iteT ⟨fun σ' H' => ∃ m', m' < 2 * (64 - P0.length) + true.toNat ∧ ∃ P more x1 x2 x3 x4, σ' = [some (.ref b), some (.ref pr), some (.ref sa), some (.ref F), some (.bl more), x1, x2, x3, x4] ∧ NumAt ws ps sts H F H' P ∧ (more = false → ∀ t ∈ sts, Met ws ps P t) ∧ m' = 2 * (64 - P.length) + more.toNat, fun _ _ h => h, ?_⟩
  refine ⟨_, rfl, sa, rfl, ⟨_, .of (N0.same _ _ hsa)⟩, for_list (K := K) (a := sa) (xs := vs2) (fun i σ H' => ∃ P more x1 x2 x3 x4, σ = [some (.ref b), some (.ref pr), some (.ref sa), some (.ref F), some (.bl more), x1, x2, x3, x4] ∧ NumAt ws ps sts H F H' P ∧ P0.length ≤ P.length ∧ (more = true → P0.length < P.length) ∧ (more = false → ∀ t ∈ sts.take i, Met ws ps P t)) ?_ ?_ ?_ ?_⟩
  · exact ⟨P0, false, x1, x2, x3, x4, rfl, N0, Nat.le_refl _, (fun h => nomatch h), fun _ t h => nomatch h⟩
  · rintro i σ H' _ ⟨_, _, _, _, _, _, _, N, _⟩
    exact .of (N.same _ _ hsa)
  · rintro i v σ H6 hi ⟨P1, more, x1, x2, x3, x4, rfl, N, hle, hmo, hm⟩
    obtain ⟨t, ht, ta, rfl, eta⟩ := paired_get hT hi
    have htm := List.mem_of_getElem? ht
    have htl : t.length = n := by rw [((S.mem t).mp htm).len, hsl]
    have htake : sts.take (i + 1) = sts.take i ++ [t] := by rw [List.take_add_one, ht]; rfl
    refine ⟨_, rfl, _, rfl, _, rfl, b, pr, ta, n, m, us, ws, ps, t, rfl, B.same N.same, N.same _ _ hp, N.same _ _ eta, htl, hpl, fun H7 M s7 nM e7 => ?_⟩
    have N7 := N.later s7
    refine ⟨M, rfl, ⟨_, .of e7⟩, fun D nD => lc_list (K := K) (a := M) (xs := (movL ws ps t).map vn) (fun i H' => Same H7 H' ∧ ∃ ys, H' D = some (.lst ys) ∧ Tups H' (((movL ws ps t).take i).map (flip t)) ys) ?_ ?_ ?_ ?_⟩
    · exact ⟨Same.new nD, [], upd_same, .nil⟩
    · rintro i H2 _ ⟨s2, _⟩
      exact .of (s2 _ _ e7)
    · rintro j v H8 hj ⟨s8, ys, hD, hY⟩
      obtain ⟨k, hk, rfl⟩ : ∃ k, (movL ws ps t)[j]? = some k ∧ v = vn k := by
        rw [List.getElem?_map] at hj
        obtain ⟨k, hk, e⟩ := Option.map_eq_some_iff.mp hj
        exact ⟨k, hk, e.symm⟩
      have hkm := List.mem_of_getElem? hk
      have hkn : k < t.length := by rw [htl, ← hwl]; exact (mem_movL.mp hkm).1
      wtm_at "lc"
      refine ⟨_, rfl, _, rfl, ta, k, t, rfl, s8 _ _ (N7.same _ _ eta), hkn, by omega, fun H9 p9 s9 e9 => ?_⟩
      have hylen := hY.length
      have hjl := (List.getElem?_eq_some_iff.mp hk).1
      have hml := movL_le ws ps t
      rw [List.length_map, List.length_take] at hylen
      have t9 : Tk H9 (upd H9 D (.lst (ys ++ [.ref p9]))) := Tk.lst (s9 _ _ hD)
      refine ⟨ys, s9 _ _ hD, small11 (by omega), Same.lst (s8.trans s9) nD, _, upd_same, ?_⟩
      rw [List.take_add_one, hk, List.map_append]
      exact paired_snoc (Tups.tk ((Same.tk s9).trans t9) hY) ⟨p9, rfl, t9 _ _ e9⟩
    rintro H8 ⟨s8, ys, hD, hY⟩
    rw [List.length_map, List.take_length] at hY
    have N8 := N7.later s8
    have hylen := hY.length
    have hml := movL_le ws ps t
    rw [List.length_map] at hylen
    have ta8 := N8.same _ _ eta
    refine ⟨_, rfl, _, rfl, F, ta, papV P1, t, rfl, rfl, N8.dict, ta8, _, rfl, ?_⟩
    refine iB (fun z => ?_) (fun z => ?_)
    · have hnew : t ∉ P1.map (·.1) := by have := val_out (notT z); rw [papV_keys] at this; exact this
      refine ⟨_, rfl, D, rfl, ⟨_, .of hD⟩, fun D2 nD2 => lc_list (K := K) (a := D) (xs := ys) (fun i H' => Same H8 H' ∧ H' D2 = some (.lst (((((movL ws ps t).map (flip t)).take i).map fun u => (valV (papV P1) u).isSome).map V.bl))) ?_ ?_ ?_ ?_⟩
      · exact ⟨Same.new nD2, upd_same⟩
      · rintro i H2 _ ⟨s2, _⟩
        exact .of (s2 _ _ hD)
      · rintro j v H9 hj ⟨s9, hD9⟩
        obtain ⟨u, hu, ua, rfl, eua⟩ := paired_get hY hj
        wtm_at "lc"
        refine ⟨_, rfl, _, rfl, F, ua, papV P1, u, rfl, rfl, N8.dict.same s9, s9 _ _ eua, ?_⟩
        refine ⟨_, hD9, small11 ?_, Same.lst s9 nD2, ?_⟩
        · rw [List.length_map, List.length_map, List.length_take, List.length_map]; omega
        · rw [upd_same, List.take_add_one, hu, List.map_append, List.map_append]; rfl
      rintro H9 ⟨s9, hD9⟩
      rw [List.take_of_length_le (by rw [List.length_map]; omega)] at hD9
      refine ⟨D2, _, rfl, .of hD9, _, rfl, ?_⟩
      have N9 := N8.later s9
      refine iB (fun y => ?_) (fun y => ?_)
      · have hall : ∀ k ∈ movL ws ps t, flip t k ∈ P1.map (·.1) := fun k hk => by
          have := val_in (all_take.mp y (flip t k) (List.mem_map.mpr ⟨k, hk, rfl⟩))
          rw [papV_keys] at this; exact this
        have hY9 := Tups.same s9 hY
        refine ⟨_, rfl, D, rfl, ⟨_, .of (s9 _ _ hD)⟩, fun D3 nD3 => lc_list (K := K) (a := D) (xs := ys) (fun i H' => Same H9 H' ∧ H' D3 = some (.lst ((((behind ws ps P1 t).take i).map fun (k : Nat) => (k : Int)).map V.int))) ?_ ?_ ?_ ?_⟩
        · exact ⟨Same.new nD3, upd_same⟩
        · rintro i H2 _ ⟨s2, _⟩
          exact .of (s2 _ _ (s9 _ _ hD))
        · rintro j v Ha hj ⟨sa2, hDa⟩
          obtain ⟨u, hu, ua, rfl, eua⟩ := paired_get hY9 hj
          rw [List.getElem?_map] at hu
          obtain ⟨k, hk, rfl⟩ := Option.map_eq_some_iff.mp hu
          obtain ⟨x, hx⟩ := look_some.mp (hall k (List.mem_of_getElem? hk))
          wtm_at "lc"
          refine ⟨_, rfl, _, rfl, F, ua, papV P1, flip t k, vn x, rfl, rfl, N9.dict.same sa2, sa2 _ _ eua, by rw [valV_papV, hx]; rfl, ?_⟩
          have hb : (behind ws ps P1 t)[j]? = some x := by
            unfold behind
            rw [List.getElem?_map, hk, Option.map_some, hx]; rfl
          refine ⟨_, hDa, small11 ?_, Same.lst sa2 nD3, ?_⟩
          · rw [List.length_map, List.length_map, List.length_take]
            unfold behind
            rw [List.length_map]; omega
          · rw [upd_same, List.take_add_one, hb, List.map_append, List.map_append]; rfl
        rintro Ha ⟨sa2, hDa⟩
        have Na := N9.later sa2
        rw [List.take_of_length_le (by rw [← hylen]; unfold behind; rw [List.length_map]; exact Nat.le_refl _)] at hDa
        refine ⟨_, rfl, D3, _, _, rfl, rfl, .of hDa, _, _, rfl, rfl, ?_⟩
        have hP := Na.le S (by omega)
        refine ⟨_, rfl, _, rfl, F, ta, papV P1, t, rfl, rfl, Na.dict, Na.same _ _ eta, small11 (by rw [papV_len]; omega), fun Hb db bb => ?_⟩
        have hval : V.int ((1 : Int) + maxI (-1) ((behind ws ps P1 t).map fun (k : Nat) => (k : Int))) = vn (tops (behind ws ps P1 t)) := congrArg V.int (tops_int _)
        have db2 : DBat Hb F (putK (papV P1) t (vn (tops (behind ws ps P1 t)))) := hval ▸ db
        rw [putK_fresh _ (by rw [papV_keys]; exact hnew), papV_snoc] at db2
        have F1 := Na.falls.snoc hnew hall
        have hkeys : (P1 ++ [(t, tops (behind ws ps P1 t))]).map (·.1) = P1.map (·.1) ++ [t] := by rw [List.map_append]; rfl
        refine ⟨_, true, _, _, _, _, rfl, ⟨Same.but Na.same nF bb, db2, F1, fun u hu => ?_⟩, ?_, fun _ => ?_, fun z => nomatch z⟩
        · rw [hkeys] at hu
          rcases List.mem_append.mp hu with h | h
          · exact Na.sub u h
          · rw [List.mem_singleton.mp h]; exact htm
        · rw [List.length_append]; omega
        · rw [List.length_append, List.length_singleton]; omega
      · have hno : ∃ k ∈ movL ws ps t, flip t k ∉ P1.map (·.1) := by
          obtain ⟨u, hu, hv⟩ := List.all_eq_false.mp y
          obtain ⟨u2, hu2, rfl⟩ := List.mem_map.mp hu
          obtain ⟨k, hk, rfl⟩ := List.mem_map.mp hu2
          have : (valV (papV P1) (flip t k)).isSome = false := Bool.eq_false_iff.mpr hv
          have := val_out this
          rw [papV_keys] at this
          exact ⟨k, hk, this⟩
        refine ⟨P1, more, _, _, _, _, rfl, N9, hle, hmo, fun z u hu => ?_⟩
        rw [htake] at hu
        rcases List.mem_append.mp hu with h | h
        · exact hm z u h
        · rw [List.mem_singleton.mp h]; exact .inr hno
    · have hold : t ∈ P1.map (·.1) := by have := val_in (notF z); rw [papV_keys] at this; exact this
      refine ⟨P1, more, _, _, _, _, rfl, N8, hle, hmo, fun z u hu => ?_⟩
      rw [htake] at hu
      rcases List.mem_append.mp hu with h | h
      · exact hm z u h
      · rw [List.mem_singleton.mp h]; exact .inl hold
  · rintro σ H6 ⟨P1, more, x1, x2, x3, x4, rfl, N, hle, hmo, hm⟩
    have hP := N.le S (by omega)
    have hl := hT.length
    rw [← hl, List.take_length] at hm
    refine ⟨_, ?_, P1, more, _, _, _, _, rfl, N, hm, rfl⟩
    cases more with
    | false => show _ + 0 < _ + 1; omega
    | true => have := hmo rfl; show _ + 1 < _ + 1; omega

/-- what a walk among the unnumbered carries: the stands seen, the moves -/
structure Trail (ws : List W) (ps : List Bool) (sts : List (List Bool)) (P : Pap) (seen : List (List Bool)) (rs : List Nat) (cur : List Bool) : Prop where
  len : seen.length = rs.length + 1
  roads : ∀ (j : Nat) (t : List Bool), seen[j]? = some t → Road ws ps t (rs.drop j) cur
  last : cur ∈ seen
  nodup : seen.Nodup
  sub : ∀ t ∈ seen, t ∈ sts ∧ t ∉ P.map (·.1)
theorem Trail.le {ws : List W} {ps ss : List Bool} {sts seen : List (List Bool)} {P : Pap} {rs : List Nat} {cur : List Bool} (t : Trail ws ps sts P seen rs cur) (S : Stands ws ps ss sts) (h6 : ss.length ≤ 6) : seen.length ≤ 64 :=
  Nat.le_trans (nodup_len t.nodup fun x hx => (t.sub x hx).1) (S.le h6)
theorem Trail.step {ws : List W} {ps : List Bool} {sts seen : List (List Bool)} {P : Pap} {rs : List Nat} {cur : List Bool} {r : Nat} (t : Trail ws ps sts P seen rs cur) (hr : r ∈ movL ws ps cur) :
    ∀ (j : Nat) (u : List Bool), seen[j]? = some u → Road ws ps u ((rs ++ [r]).drop j) (flip cur r) := fun j u hu => by
  have hj := (List.getElem?_eq_some_iff.mp hu).1
  have hl := t.len
  rw [List.drop_append_of_le_length (by omega)]
  exact (t.roads j u hu).snoc hr
theorem Trail.push {ws : List W} {ps : List Bool} {sts seen : List (List Bool)} {P : Pap} {rs : List Nat} {cur : List Bool} {r : Nat} (t : Trail ws ps sts P seen rs cur) (hr : r ∈ movL ws ps cur) (hn : flip cur r ∉ seen) (hs : flip cur r ∈ sts) (hp : flip cur r ∉ P.map (·.1)) :
    Trail ws ps sts P (seen ++ [flip cur r]) (rs ++ [r]) (flip cur r) := by
  refine ⟨?_, fun j u hu => ?_, List.mem_append.mpr (.inr (List.mem_singleton.mpr rfl)), ?_, fun u hu => ?_⟩
  · rw [List.length_append, List.length_append, t.len]; rfl
  · have hl := t.len
    by_cases hj : j < seen.length
    · rw [List.getElem?_append_left hj] at hu
      exact t.step hr j u hu
    · have hj2 := (List.getElem?_eq_some_iff.mp hu).1
      rw [List.length_append, List.length_singleton] at hj2
      have e : j = seen.length := by omega
      subst e
      rw [List.getElem?_append_right (Nat.le_refl _), Nat.sub_self] at hu
      cases hu
      rw [List.drop_eq_nil_of_le (by rw [List.length_append, List.length_singleton]; omega)]
      rfl
  · refine List.nodup_append.mpr ⟨t.nodup, List.nodup_cons.mpr ⟨(fun h => nomatch h), List.nodup_nil⟩, fun a ha b hb e => ?_⟩
    rw [List.mem_singleton.mp hb] at e
    exact hn (e ▸ ha)
  · rcases List.mem_append.mp hu with h | h
    · exact t.sub u h
    · rw [List.mem_singleton.mp h]; exact ⟨hs, hp⟩
theorem first_at {l : List (List Bool)} {x : List Bool} (h : x ∈ l) : ∃ j : Nat, l[j]? = some x ∧ ∀ (m : Nat) (y : List Bool), m < j → l[m]? = some y → y ≠ x := by
  induction l with
  | nil => cases h
  | cons a l ih =>
    by_cases e : a = x
    · exact ⟨0, by rw [e]; rfl, fun m y hm => absurd hm (Nat.not_lt_zero m)⟩
    · obtain ⟨j, hj, k⟩ := ih ((List.mem_cons.mp h).resolve_left fun z => e z.symm)
      refine ⟨j + 1, hj, fun m y hm hy => ?_⟩
      cases m with
      | zero => cases hy; exact e
      | succ m => exact k m y (by omega) hy
theorem dpTsL {K : PySem.W.Frag} {H : Hp} {a : Addr} {bss : List (List Bool)} {us : List V} (h : H a = some (.lst us)) (t : Tups H bss us) : Dp K H (.ref a) (.list (bss.map bd)) := .lst (.of h) (dpTs t)
theorem any_bd (l : List (List Bool)) (x : List Bool) : ((l.map bd).any fun z => PyData.eqv z (bd x)) = true ↔ x ∈ l := by
  rw [List.any_map, List.any_eq_true]
  constructor
  · rintro ⟨y, hy, e⟩
    rw [Function.comp_apply, eqv_bd] at e
    rw [← of_decide_eq_true e]; exact hy
  · intro h
    exact ⟨x, h, by rw [Function.comp_apply, eqv_bd]; exact decide_eq_true rfl⟩
def sp_ring_from : Sp := fun vs H Q _ => ∃ (b pr sa F : Addr) (n m : Nat) (us vs2 : List V) (ws : List W) (ps ss : List Bool) (sts : List (List Bool)) (P : Pap), vs = [.ref b, .ref pr, .ref sa, .ref F] ∧ BoardAt H b us ws n m ∧ H pr = some (.tup (ps.map V.bl)) ∧ H sa = some (.lst vs2) ∧ Tups H sts vs2 ∧ Stands ws ps ss sts ∧ ss.length = n ∧ ps.length = m ∧
  DBat H F (papV P) ∧ (∀ t ∈ sts, Met ws ps P t) ∧ (∃ t ∈ sts, t ∉ P.map (·.1)) ∧
  ∀ (H' : Hp) (p ha ra : Addr) (t : List Bool) (rs : List Nat), Same H H' → H' p = some (.tup [.ref ha, .ref ra]) → H' ha = some (.tup (t.map V.bl)) → H ra = none → H' ra = some (.lst (rs.map vn)) → t ∈ sts → Road ws ps t rs t → rs ≠ [] → rs.length ≤ 1000 → Q (.ref p) H'
theorem ok_ring_from (T : Txt K mg Z) : FnOk P w K mg base CX0 13 Z.aring_from Z.dring_from ["board", "pressed", "stands", "paper"] sp_ring_from := by
  have Gmovable := ok_movable (P := P) (w := w) (base := base) T
  have Gmoved := ok_moved (P := P) (w := w) (base := base) T
  refine T.F_ring_from.ok scring_from (fun vs H Q E h => by obtain ⟨_, _, _, _, _, _, _, _, _, _, _, _, _, rfl, _⟩ := h; rfl) (fun cdv A outer s H vs Q E hr h => ?_)
  obtain ⟨b, pr, sa, F, n, m, us, vs2, ws, ps, ss, sts, P, rfl, B, hp, hsa, hT, S, hsl, hpl, hF, hmet, hout, q⟩ := h
  refine ⟨_, (pss_cons (ps_set (i := 4) scring_from.nd rfl (Or.inr rfl) (pe_ix (r := rIxL K) ix_list (pe_lc (own := [("stand", 8)]) (g := gName 8) rfl scring_from.nd (pi_list (pv 2)) (blkOk_by (own := [("stand", 8)]) (N := ["board", "pressed", "stands", "paper", "here", "seen", "moves", "relay", "stand", "k"]) (sc := defScope sring_from) (by decide +kernel)) (fun _ _ _ _ _ => pg_name (i := 8) scring_from.nd rfl (Or.inl rfl)) (fun _ _ _ _ _ => (pts_one (pt_cmp (pc_bnotin (hu_of hr) (pv 8) (pv 3))))) (fun _ _ _ _ _ => (pv 8))) pe_int (fun _ _ => rfl)))
      (pss_cons (ps_set (i := 5) scring_from.nd rfl (Or.inl rfl) (pe_lst (pa_cons (pv 4) pa_nil)))
      (pss_cons (ps_set (i := 6) scring_from.nd rfl (Or.inl rfl) (pe_lst pa_nil))
      (pss_one (ps_while PassesOwn.never (pt_val pe_bl)
      (pss_cons (ps_set (i := 7) scring_from.nd rfl (Or.inl rfl) (pe_ix (r := rIxL K) ix_list (pe_lc (own := [("k", 9)]) (g := gName 9) rfl scring_from.nd (pi_list (pe_call Gmovable (hr.mono (by omega)) (by rfl) T.m_movable T.F_movable.kp T.b_movable .nil pass0 (pa_cons (pv 0) (pa_cons (pv 1) (pa_cons (pv 4) pa_nil))))) (blkOk_by (own := [("k", 9)]) (N := ["board", "pressed", "stands", "paper", "here", "seen", "moves", "relay", "stand", "k"]) (sc := defScope sring_from) (by decide +kernel)) (fun _ _ _ _ _ => pg_name (i := 9) scring_from.nd rfl (Or.inl rfl)) (fun _ _ _ _ _ => (pts_one (pt_cmp (pc_bnotin (hu_of hr) (pe_call Gmoved (hr.mono (by omega)) (by rfl) T.m_moved T.F_moved.kp T.b_moved .nil pass0 (pa_cons (pv 4) (pa_cons (pv 9) pa_nil))) (pv 3))))) (fun _ _ _ _ _ => (pv 9))) pe_int (fun _ _ => rfl)))
      (pss_cons (ps_expr (pe_bm PySem.F.plainAttrs_list PySem.F.slot_list_append PySem.F.type_list_append mt_append (pv 6) (pa_cons (pv 7) pa_nil)))
      (pss_cons (ps_set (i := 4) scring_from.nd rfl (Or.inr rfl) (pe_call Gmoved (hr.mono (by omega)) (by rfl) T.m_moved T.F_moved.kp T.b_moved .nil pass0 (pa_cons (pv 4) (pa_cons (pv 7) pa_nil))))
      (pss_cons (ps_if (pt_cmpR (r := rInD K) (op_inD (units65 hr)) (pv 4) (pv 5) (by rfl)) (pss_one (ps_ret (pe_tup (pa_cons (pv 4) (pa_cons (pe_slice (r := rSlL K) sl_list (pv 6) (po_some (pe_bm PySem.F.plainAttrs_list PySem.F.slot_list_index PySem.F.type_list_index (r := rIndexD K) (mt_indexD (units65 hr)) (pv 5) (pa_cons (pv 4) pa_nil))) po_none) pa_nil))))) pss_nil)
      (pss_one (ps_expr (pe_bm PySem.F.plainAttrs_list PySem.F.slot_list_append PySem.F.type_list_append mt_append (pv 5) (pa_cons (pv 4) pa_nil))))))))))))), ?_⟩
  have h6 := B.n6
  have hwl := B.len
  have hsts := S.le (by omega)
  have hvl := hT.length
  refine ⟨_, rfl, sa, rfl, ⟨_, .of hsa⟩, fun D nD => lc_list (K := K) (a := sa) (xs := vs2) (fun i H' => Same H H' ∧ ∃ ys, H' D = some (.lst ys) ∧ Tups H' ((sts.take i).filter fun u => !(valV (papV P) u).isSome) ys) ?_ ?_ ?_ ?_⟩
  · exact ⟨Same.new nD, [], upd_same, .nil⟩
  · rintro i H2 _ ⟨s2, _⟩
    exact .of (s2 _ _ hsa)
  · rintro i v H1 hi ⟨s1, ys, hD, hY⟩
    obtain ⟨t, ht, ta, rfl, eta⟩ := paired_get hT hi
    refine ⟨rfl, ?_⟩
    refine ⟨_, rfl, _, rfl, F, ta, papV P, t, rfl, rfl, hF.same s1, s1 _ _ eta, _, rfl, ?_⟩
    have hyl := hY.length
    have hfl := List.length_filter_le (fun u => !(valV (papV P) u).isSome) (sts.take i)
    rw [List.length_take] at hfl
    refine iB (fun z => ?_) (fun z => ?_)
    · have t1 : Tk H1 (upd H1 D (.lst (ys ++ [.ref ta]))) := Tk.lst hD
      refine ⟨_, rfl, ys, hD, small11 (by omega), Same.lst s1 nD, _, upd_same, ?_⟩
      rw [take_filt _ ht, if_pos z]
      exact paired_snoc (Tups.tk t1 hY) ⟨ta, rfl, t1 _ _ (s1 _ _ eta)⟩
    · refine ⟨s1, ys, hD, ?_⟩
      rw [take_filt _ ht, if_neg (by rw [z]; decide)]
      exact hY
  rintro H1 ⟨s1, ys, hD, hY⟩
  rw [← hvl, List.take_length] at hY
  obtain ⟨t0, ht0, hn0⟩ := hout
  have hmem0 : t0 ∈ sts.filter fun u => !(valV (papV P) u).isSome := List.mem_filter.mpr ⟨ht0, by rw [out_val (by rw [papV_keys]; exact hn0)]; rfl⟩
  generalize hfil : (sts.filter fun u => !(valV (papV P) u).isSome) = fil at hY hmem0
  cases fil with
  | nil => cases hmem0
  | cons c0 frest =>
  cases hY with
  | @cons _ v0 _ yrest r0 rt =>
  obtain ⟨ca, rfl, eca⟩ := r0
  have hc0 : c0 ∈ sts ∧ c0 ∉ P.map (·.1) := by
    have : c0 ∈ sts.filter fun u => !(valV (papV P) u).isSome := by rw [hfil]; exact List.mem_cons_self
    obtain ⟨a1, a2⟩ := List.mem_filter.mp this
    have := val_out (notT a2)
    rw [papV_keys] at this
    exact ⟨a1, this⟩
  refine ⟨D, _, 0, _, rfl, rfl, .of hD, atI_nat (j := 0) rfl, ?_⟩
  refine ⟨_, rfl, Nat.le_of_ble_eq_true (n := 1) rfl, ?_⟩
  wtm_at "new G H2 s2 e2"
  refine ⟨Nat.zero_le _, ?_⟩
  wtm_at "new M H3 s3 e3"
  have nG0 : H G = none := s1.free nG
  have nM0 : H M = none := (s1.trans s2).free nM
  have GM : G ≠ M := fun e => by subst e; rw [e2] at nM; cases nM
  have T0 : Trail ws ps sts P [c0] [] c0 := ⟨rfl, (fun j t hj => by
    cases j with
    | zero => cases hj; rfl
    | succ j => cases hj), List.mem_singleton.mpr rfl, List.nodup_cons.mpr ⟨(fun h => nomatch h), List.nodup_nil⟩, fun t ht => by rw [List.mem_singleton.mp ht]; exact hc0⟩
  refine ⟨fun m σ H' => ∃ seen rs cur ca us2 x1 x2 x3, σ = [some (.ref b), some (.ref pr), some (.ref sa), some (.ref F), some (.ref ca), some (.ref G), some (.ref M), x1, x2, x3] ∧ Same H H' ∧ Trail ws ps sts P seen rs cur ∧ H' ca = some (.tup (cur.map V.bl)) ∧ H' G = some (.lst us2) ∧ Tups H' seen us2 ∧ H' M = some (.lst (rs.map vn)) ∧ m = 64 - seen.length, ⟨_, [c0], [], c0, ca, [.ref ca], none, none, none, rfl, s1.trans (s2.trans s3), T0, (s2.trans s3) _ _ eca, s3 _ _ e2, .cons ⟨ca, rfl, (s2.trans s3) _ _ eca⟩ .nil, e3, rfl⟩, ?_⟩
  rintro m0 σ H4 ⟨seen, rs, cur, ca, us2, x1, x2, x3, rfl, s4, t4, eca4, eG4, T4, eM4, rfl⟩
  refine ⟨_, rfl, ?_⟩
  refine iteT ⟨fun σ' H' => ∃ m', m' < 64 - seen.length ∧ ∃ seen rs cur ca us2 x1 x2 x3, σ' = [some (.ref b), some (.ref pr), some (.ref sa), some (.ref F), some (.ref ca), some (.ref G), some (.ref M), x1, x2, x3] ∧ Same H H' ∧ Trail ws ps sts P seen rs cur ∧ H' ca = some (.tup (cur.map V.bl)) ∧ H' G = some (.lst us2) ∧ Tups H' seen us2 ∧ H' M = some (.lst (rs.map vn)) ∧ m' = 64 - seen.length, fun _ _ h => h, ?_⟩
  have hcur := t4.sub cur t4.last
  have hcl : cur.length = n := by rw [((S.mem cur).mp hcur.1).len, hsl]
  have hs64 := t4.le S (by omega)
  have htl := t4.len
  refine ⟨_, rfl, _, rfl, _, rfl, b, pr, ca, n, m, us, ws, ps, cur, rfl, B.same s4, s4 _ _ hp, eca4, hcl, hpl, fun H5 N s5 nN e5 => ?_⟩
  have hF4 := hF.same s4
  refine ⟨N, rfl, ⟨_, .of e5⟩, fun D2 nD2 => lc_list (K := K) (a := N) (xs := (movL ws ps cur).map vn) (fun i H' => Same H5 H' ∧ H' D2 = some (.lst ((((movL ws ps cur).take i).filter fun k => !(valV (papV P) (flip cur k)).isSome).map vn))) ?_ ?_ ?_ ?_⟩
  · exact ⟨Same.new nD2, upd_same⟩
  · rintro i H2 _ ⟨s2, _⟩
    exact .of (s2 _ _ e5)
  · rintro i v H6 hi ⟨s6, hD6⟩
    obtain ⟨k, hk, rfl⟩ : ∃ k, (movL ws ps cur)[i]? = some k ∧ v = vn k := by
      rw [List.getElem?_map] at hi
      obtain ⟨k, hk, e⟩ := Option.map_eq_some_iff.mp hi
      exact ⟨k, hk, e.symm⟩
    have hkm := List.mem_of_getElem? hk
    have hkn : k < cur.length := by rw [hcl, ← hwl]; exact (mem_movL.mp hkm).1
    refine ⟨rfl, ?_⟩
    refine ⟨_, rfl, _, rfl, ca, k, cur, rfl, (s5.trans s6) _ _ eca4, hkn, by omega, fun H7 p7 s7 e7 => ?_⟩
    refine ⟨_, rfl, F, p7, papV P, flip cur k, rfl, rfl, hF4.same (s5.trans (s6.trans s7)), e7, _, rfl, ?_⟩
    have hfl := List.length_filter_le (fun k => !(valV (papV P) (flip cur k)).isSome) ((movL ws ps cur).take i)
    rw [List.length_take] at hfl
    have hml := movL_le ws ps cur
    refine iB (fun z => ?_) (fun z => ?_)
    · refine ⟨_, rfl, _, s7 _ _ hD6, small11 (by rw [List.length_map]; omega), Same.lst (s6.trans s7) nD2, ?_⟩
      rw [upd_same, take_filt _ hk, if_pos z, List.map_append]; rfl
    · refine ⟨s6.trans s7, ?_⟩
      rw [take_filt _ hk, if_neg (by rw [z]; decide)]
      exact s7 _ _ hD6
  rintro H6 ⟨s6, hD6⟩
  rw [List.length_map, List.take_length] at hD6
  have hex : ∃ k ∈ movL ws ps cur, flip cur k ∉ P.map (·.1) := (hmet cur hcur.1).resolve_left hcur.2
  obtain ⟨k0, hk0, hk0n⟩ := hex
  have hkm0 : k0 ∈ (movL ws ps cur).filter fun k => !(valV (papV P) (flip cur k)).isSome := List.mem_filter.mpr ⟨hk0, by rw [out_val (by rw [papV_keys]; exact hk0n)]; rfl⟩
  generalize hfil2 : ((movL ws ps cur).filter fun k => !(valV (papV P) (flip cur k)).isSome) = fil2 at hD6 hkm0
  cases fil2 with
  | nil => cases hkm0
  | cons r frest2 =>
  have hr : r ∈ movL ws ps cur ∧ flip cur r ∉ P.map (·.1) := by
    have : r ∈ (movL ws ps cur).filter fun k => !(valV (papV P) (flip cur k)).isSome := by rw [hfil2]; exact List.mem_cons_self
    obtain ⟨a1, a2⟩ := List.mem_filter.mp this
    have := val_out (notT a2)
    rw [papV_keys] at this
    exact ⟨a1, this⟩
  refine ⟨D2, _, 0, _, rfl, rfl, .of hD6, atI_nat (j := 0) rfl, ?_⟩
  have s56 := s5.trans s6
  have eM6 := s56 _ _ eM4
  refine ⟨_, rfl, .inl ⟨rfl, _, .of eM6⟩, _, rfl, M, _, _, rfl, rfl, eM6, small11 (by rw [List.length_map]; omega), ?_⟩
  have k7 : ∀ c, c ≠ M → (upd H6 M (.lst (rs.map vn ++ [vn r]))) c = H6 c := fun c hc => upd_ne hc
  have t7 : Tk H6 (upd H6 M (.lst (rs.map vn ++ [vn r]))) := Tk.lst eM6
  have e7 : (upd H6 M (.lst (rs.map vn ++ [vn r]))) M = some (.lst ((rs ++ [r]).map vn)) := by rw [upd_same, List.map_append]; rfl
  have s7 : Same H (upd H6 M (.lst (rs.map vn ++ [vn r]))) := Same.lst (s4.trans s56) nM0
  show tSeq _ _ _ _ (upd H6 M (.lst (rs.map vn ++ [vn r])))
  generalize upd H6 M (.lst (rs.map vn ++ [vn r])) = H7 at *
  have eca7 := t7 _ _ (s56 _ _ eca4)
  have hrn : r < cur.length := by rw [hcl, ← hwl]; exact (mem_movL.mp hr.1).1
  refine ⟨_, rfl, _, rfl, ca, r, cur, rfl, eca7, hrn, by omega, fun H8 p8 s8 e8 => ?_⟩
  have eG8 : H8 G = some (.lst us2) := s8 _ _ ((k7 G GM).trans (s56 _ _ eG4))
  have T8 : Tups H8 seen us2 := Tups.same s8 (Tups.tk t7 (Tups.same s56 T4))
  have shS : Sh (.list (seen.map bd)) 2 := shTs seen
  refine ⟨_, rfl, _, rfl, _, _, dpB e8, dpTsL eG8 T8, (shB _).shaped (by decide), shS.shaped (by decide), _, rfl, ?_⟩
  have hcs : flip cur r ∈ sts := S.closed cur hcur.1 r hr.1
  refine iB (fun z => ?_) (fun z => ?_)
  · have hin := (any_bd _ _).mp z
    obtain ⟨j, hj, hfirst⟩ := first_at hin
    have hjl := (List.getElem?_eq_some_iff.mp hj).1
    have eM8 := s8 _ _ e7
    refine ⟨_, rfl, _, rfl, _, rfl, .inl ⟨rfl, _, .of eG8⟩, _, rfl, G, .ref p8, bd (flip cur r), seen.map bd, j, bd (flip cur r), rfl, rfl, dpTsL eG8 T8, dpB e8, shS.shaped (by decide), (shB _).shaped (by decide), by rw [List.getElem?_map, hj]; rfl, by rw [eqv_bd]; exact decide_eq_true rfl, fun m z' hm hz => ?_, ?_⟩
    · rw [List.getElem?_map] at hz
      obtain ⟨y, hy, rfl⟩ := Option.map_eq_some_iff.mp hz
      rw [eqv_bd]; exact decide_eq_false (hfirst m y hm hy)
    · refine ⟨_, rfl, M, _, rfl, .of eM8, ?_⟩
      wtm_at "new E H9 s9 e9"
      rw [cut_hi, ← List.map_drop] at e9
      refine ⟨Nat.le_of_ble_eq_true (n := 2) rfl, ?_⟩
      wtm_at "new O Ha sa' ea"
      have hd : ((rs ++ [r]).drop j).length = rs.length + 1 - j := by rw [List.length_drop, List.length_append, List.length_singleton]
      refine q Ha O p8 E (flip cur r) ((rs ++ [r]).drop j) (s7.trans (s8.trans (s9.trans sa'))) ea ((s9.trans sa') _ _ e8) (s7.free (s8.free nE)) (sa' _ _ e9) hcs (t4.step hr.1 j _ hj) (fun e => ?_) (by omega)
      rw [e] at hd
      have : 0 = rs.length + 1 - j := hd
      omega
  · have hnot : flip cur r ∉ seen := fun h => by rw [(any_bd _ _).mpr h] at z; cases z
    have hul := T8.length
    refine ⟨_, rfl, .inl ⟨rfl, _, .of eG8⟩, _, rfl, G, us2, .ref p8, rfl, rfl, eG8, small11 (by omega), ?_⟩
    have t9 : Tk H8 (upd H8 G (.lst (us2 ++ [.ref p8]))) := Tk.lst eG8
    have t5 := t4.push hr.1 hnot hcs hr.2
    have h5 := t5.le S (by omega)
    rw [List.length_append, List.length_singleton] at h5
    refine ⟨64 - (seen ++ [flip cur r]).length, by rw [List.length_append, List.length_singleton]; omega, _, _, _, p8, _, _, _, _, rfl, Same.lst (s7.trans s8) nG0, t5, t9 _ _ e8, upd_same, paired_snoc (Tups.tk t9 T8) ⟨p8, rfl, t9 _ _ e8⟩, ?_, rfl⟩
    rw [upd_ne (Ne.symm GM)]
    exact s8 _ _ e7

def JudgedAt (ws : List W) (ps ss : List Bool) (H H' : Hp) (p : Addr) : Prop :=
  (∃ (e d : Addr) (rest : List Bool) (P : Pap), H' p = some (.tup [.str "settles", .ref e, .ref d]) ∧ H' e = some (.tup (rest.map V.bl)) ∧ H d = none ∧ DBat H' d (papV P) ∧ Settles ws ps ss rest P) ∨
  (∃ (a1 a2 : Addr) (r1 r2 : List Nat) (t1 t2 : List Bool), H' p = some (.tup [.str "parts", .ref a1, .ref a2]) ∧ H a1 = none ∧ H a2 = none ∧ H' a1 = some (.lst (r1.map vn)) ∧ H' a2 = some (.lst (r2.map vn)) ∧ r1.length ≤ 1000 ∧ r2.length ≤ 1000 ∧ Parts ws ps ss r1 r2 t1 t2) ∨
  (∃ (a1 a2 : Addr) (r1 r2 : List Nat) (t : List Bool), H' p = some (.tup [.str "rounds", .ref a1, .ref a2]) ∧ H a1 = none ∧ H a2 = none ∧ H' a1 = some (.lst (r1.map vn)) ∧ H' a2 = some (.lst (r2.map vn)) ∧ r1.length ≤ 1000 ∧ r2.length ≤ 1000 ∧ Rounds ws ps ss r1 r2 t)
def sp_judged : Sp := fun vs H Q _ => ∃ (b pr st : Addr) (n m : Nat) (us : List V) (ws : List W) (ps ss : List Bool), vs = [.ref b, .ref pr, .ref st] ∧ BoardAt H b us ws n m ∧ H pr = some (.tup (ps.map V.bl)) ∧ H st = some (.tup (ss.map V.bl)) ∧ ss.length = n ∧ ps.length = m ∧
  ∀ (H' : Hp) (p : Addr), Same H H' → JudgedAt ws ps ss H H' p → Q (.ref p) H'
theorem ok_judged (T : Txt K mg Z) : FnOk P w K mg base CX0 14 Z.ajudged Z.djudged ["board", "pressed", "stand"] sp_judged := by
  have Gcome_to := ok_come_to (P := P) (w := w) (base := base) T
  have Gnumbered := ok_numbered (P := P) (w := w) (base := base) T
  have Gring_from := ok_ring_from (P := P) (w := w) (base := base) T
  refine T.F_judged.ok scjudged (fun vs H Q E h => by obtain ⟨_, _, _, _, _, _, _, _, _, rfl, _⟩ := h; rfl) (fun cdv A outer s H vs Q E hr h => ?_)
  obtain ⟨b, pr, st, n, m, us, ws, ps, ss, rfl, B, hp, hs, hsl, hpl, q⟩ := h
  refine ⟨_, (pss_cons (ps_set (i := 3) scjudged.nd rfl (Or.inl rfl) (pe_call Gcome_to (hr.mono (by omega)) (by rfl) T.m_come_to T.F_come_to.kp T.b_come_to .nil pass0 (pa_cons (pv 0) (pa_cons (pv 1) (pa_cons (pv 2) pa_nil)))))
      (pss_cons (ps_set (i := 4) scjudged.nd rfl (Or.inr rfl) (pe_call Gnumbered (hr.mono (by omega)) (by rfl) T.m_numbered T.F_numbered.kp T.b_numbered .nil pass0 (pa_cons (pv 0) (pa_cons (pv 1) (pa_cons (pe_callTy (r := rBList) (call_blist rfl) (by rfl) T.n_list (by decide +kernel) (pa_cons (pv 3) pa_nil)) pa_nil)))))
      (pss_cons (ps_if (pt_cmpR op_lt (pe_callB (r := rBLen) call_blen (by rfl) T.n_len PySem.boot_len (pa_cons (pv 4) pa_nil)) (pe_callB (r := rBLen) call_blen (by rfl) T.n_len PySem.boot_len (pa_cons (pv 3) pa_nil)) (nomark _)) (pss_cons (ps_set (i := 5) scjudged.nd rfl (Or.inl rfl) (pe_call Gring_from (hr.mono (by omega)) (by rfl) T.m_ring_from T.F_ring_from.kp T.b_ring_from .nil pass0 (pa_cons (pv 0) (pa_cons (pv 1) (pa_cons (pe_callTy (r := rBList) (call_blist rfl) (by rfl) T.n_list (by decide +kernel) (pa_cons (pv 3) pa_nil)) (pa_cons (pv 4) pa_nil))))))
      (pss_one (ps_ret (pe_tup (pa_cons pe_str (pa_cons (pe_bget (hu_of hr) (pv 3) (pe_ix (r := rIxT K) ix_tup (pv 5) pe_int (fun _ _ => rfl)) (fun _ _ => rfl)) (pa_cons (pe_ix (r := rIxT K) ix_tup (pv 5) pe_int (fun _ _ => rfl)) pa_nil))))))) pss_nil)
      (pss_cons (ps_lock (ps_setLc (i := 6) (own := [("one", 7)]) (g := gName 7) rfl scjudged.nd rfl rfl (sw_true rfl rfl rfl (by decide +kernel)) (pi_bkeys (pv 3)) (blkOk_by (own := [("one", 7)]) (N := ["board", "pressed", "stand", "roads", "paper", "ring", "ends", "one"]) (sc := defScope sjudged) (by decide +kernel)) (fun _ _ _ _ _ => pg_name (i := 7) scjudged.nd rfl (Or.inl rfl)) (fun _ _ _ _ _ => (pts_one (pt_cmpR op_eq (pe_bget (hu_of hr) (pv 4) (pv 7) (fun _ _ => rfl)) pe_int (nomark _)))) (fun _ _ _ _ _ => (pv 7))))
      (pss_cons (ps_if (pt_cmpR op_gt (pe_callB (r := rLenSeq K) call_len_seq (by rfl) T.n_len PySem.boot_len (pa_cons (pv 6) pa_nil)) pe_int (nomark _)) (pss_one (ps_ret (pe_tup (pa_cons pe_str (pa_cons (pe_bget (hu_of hr) (pv 3) (pe_ix (r := rIxL K) ix_list (pv 6) pe_int (fun _ _ => rfl)) (fun _ _ => rfl)) (pa_cons (pe_bget (hu_of hr) (pv 3) (pe_ix (r := rIxL K) ix_list (pv 6) pe_int (fun _ _ => rfl)) (fun _ _ => rfl)) pa_nil)))))) pss_nil)
      (pss_one (ps_ret (pe_tup (pa_cons pe_str (pa_cons (pe_ix (r := rIxL K) ix_list (pv 6) pe_int (fun _ _ => rfl)) (pa_cons (pv 4) pa_nil))))))))))), ?_⟩
  have h6 := B.n6
  refine ⟨_, rfl, _, rfl, _, rfl, b, pr, st, n, m, us, ws, ps, ss, rfl, B, hp, hs, hsl, hpl, fun H1 F L kvs s1 nF d1 R1 S => ?_⟩
  have hk64 := S.le (by omega)
  rw [List.length_map] at hk64
  refine ⟨_, rfl, _, rfl, _, rfl, F, kvs, rfl, d1, fun sa H2 vs2 n2 s2 e2 T2 => ?_⟩
  have s12 := s1.trans s2
  refine ⟨b, pr, sa, n, m, us, vs2, ws, ps, ss, kvs.map (·.1), rfl, B.same s12, s12 _ _ hp, e2, T2, S, hsl, hpl, fun H3 G P s3 nG d3 F3 sub3 met3 => ?_⟩
  have s13 := s12.trans s3
  have d13 := d1.same (s2.trans s3)
  have R3 : RoadsAt ws ps ss H L H3 kvs := R1.at fun a xs _ e => (s2.trans s3) _ _ e
  have nG0 : H G = none := s12.free nG
  refine ⟨_, rfl, G, papV P, rfl, d3, _, rfl, F, kvs, rfl, d13, _, _, rfl, rfl, _, rfl, ?_⟩
  rw [papV_len]
  refine iB (fun c => ?_) (fun c => ?_)
  · have c := of_decide_eq_true c
    have hout : ∃ t ∈ kvs.map (·.1), t ∉ P.map (·.1) := by
      refine Classical.byContradiction fun hno => ?_
      have := nodup_len S.nodup (m := P.map (·.1)) fun t ht => Classical.byContradiction fun hn => hno ⟨t, ht, hn⟩
      rw [List.length_map, List.length_map] at this
      omega
    refine ⟨_, rfl, _, rfl, _, rfl, F, kvs, rfl, d13, fun sb H4 vs4 n4 s4 e4 T4 => ?_⟩
    have s14 := s13.trans s4
    refine ⟨_, rfl, b, pr, sb, G, n, m, us, vs4, ws, ps, ss, kvs.map (·.1), P, rfl, B.same s14, s14 _ _ hp, e4, T4, S, hsl, hpl, d3.same s4, met3, hout, fun H5 p5 ha ra t rs s5 e5 eha nra era ht hroad hne hrl => ?_⟩
    have s15 := s14.trans s5
    obtain ⟨a1, r1, hmem, na1, _, ea1, hl1, hroad1⟩ := roads_mem R3 ht
    have d5 := d13.same (s4.trans s5)
    refine ⟨_, rfl, _, rfl, p5, _, 0, _, rfl, rfl, .of e5, atI_nat (j := 0) rfl, F, ha, kvs, t, .ref a1, rfl, rfl, d5, eha, valV_of d5.nodup hmem, ?_⟩
    refine ⟨_, rfl, p5, _, 1, _, rfl, rfl, .of e5, atI_nat (j := 1) rfl, Nat.le_of_ble_eq_true (n := 3) rfl, ?_⟩
    wtm_at "new p6 H6 s6 e6"
    exact q H6 p6 (s15.trans s6) (.inr (.inr ⟨a1, ra, r1, rs, t, e6, na1, s14.free nra, s6 _ _ ((s4.trans s5) _ _ ea1), s6 _ _ era, by omega, hrl, ⟨hroad1, hroad, hne⟩⟩))
  · have c := of_decide_eq_false c
    have hall : ∀ t ∈ kvs.map (·.1), t ∈ P.map (·.1) := fun t ht => Classical.byContradiction fun hn => by
      have := nodup_len (l := t :: P.map (·.1)) (m := kvs.map (·.1)) (List.nodup_cons.mpr ⟨hn, F3.nodup⟩) fun x hx => by
        rcases List.mem_cons.mp hx with rfl | hx
        · exact ht
        · exact sub3 x hx
      rw [List.length_cons, List.length_map, List.length_map] at this
      omega
    obtain ⟨bs, eF, ka, nd⟩ := id d13
    refine ⟨F, _, eF, True.intro, fun od => ?_⟩
    have tL : Tk H3 (upd H3 F (.frz od (bD F bs kvs))) := fun c xs e => by rw [upd_ne (ne_of e eF (by intro z; cases z))]; exact e
    have eL : (upd H3 F (.frz od (bD F bs kvs))) F = some (.frz od (bD F bs kvs)) := upd_same
    have oL : ∀ c, c ≠ F → (upd H3 F (.frz od (bD F bs kvs))) c = H3 c := fun c hc => upd_ne hc
    have GF : G ≠ F := by
      intro e; subst e
      obtain ⟨b2, eb2, _⟩ := d1
      rw [s2 _ _ eb2] at nG; cases nG
    show tLc _ _ _ _ _ _ (upd H3 F (.frz od (bD F bs kvs))) _
    generalize upd H3 F (.frz od (bD F bs kvs)) = HL at *
    have dL : DBat HL G (papV P) := d3.at (oL G GF) tL
    have hbl : bs.length = kvs.length := by have := Paired.length ka; rw [List.length_map] at this; exact this
    refine ⟨_, rfl, F, od, bs, kvs, rfl, eL, fun D nD => lc_it walk_B (fun i H' => Same HL H' ∧ ∃ ys, H' D = some (.lst ys) ∧ Tups H' (((kvs.map (·.1)).take i).filter fun t => decide (look P t = some 0)) ys) ?_ ?_ ?_ ?_⟩
    · exact ⟨Same.new nD, [], upd_same, .nil⟩
    · rintro i H' _ ⟨s', _⟩
      exact s' _ _ eL
    · rintro i v H4 H5 hi ⟨s4, ys, hD, hY⟩ ⟨rfl, hv⟩
      rw [List.getElem?_map] at hv
      obtain ⟨ta, hta, rfl⟩ := Option.map_eq_some_iff.mp hv
      obtain ⟨t, ht, eta⟩ := paired_getl ka hta
      have eta4 := s4 _ _ (tL _ _ eta)
      obtain ⟨x, hx⟩ := look_some.mp (hall t (List.mem_of_getElem? ht))
      have hyl := hY.length
      have hfl := List.length_filter_le (fun t => decide (look P t = some 0)) ((kvs.map (·.1)).take i)
      rw [List.length_take, List.length_map] at hfl
      refine ⟨rfl, ?_⟩
      refine ⟨_, rfl, _, rfl, G, ta, papV P, t, vn x, rfl, rfl, dL.same s4, eta4, by rw [valV_papV, hx]; rfl, rfl, _, rfl, ?_⟩
      have ex : decide (vn x = V.int 0) = decide (look P t = some 0) := by
        rw [hx]
        exact decide_eq_decide.mpr ⟨fun e => by have := V.int.inj e; congr 1; omega, fun e => by cases e; rfl⟩
      rw [ex]
      refine iB (fun z => ?_) (fun z => ?_)
      · have t5 : Tk H5 (upd H5 D (.lst (ys ++ [.ref ta]))) := Tk.lst hD
        refine ⟨_, rfl, ys, hD, small11 (by omega), Same.lst s4 nD, _, upd_same, ?_⟩
        rw [take_filt _ ht, if_pos z]
        exact paired_snoc (Tups.tk t5 hY) ⟨ta, rfl, t5 _ _ eta4⟩
      · refine ⟨s4, ys, hD, ?_⟩
        rw [take_filt _ ht, if_neg (by rw [z]; decide)]
        exact hY
    rintro H4 ⟨s4, ys, hD, hY⟩
    rw [hbl, List.take_of_length_le (by rw [List.length_map]; exact Nat.le_refl _)] at hY
    refine ⟨s4 _ _ eL, ?_⟩
    have s34 : Same H3 (upd H4 F (bD F bs kvs)) := fun c o e => by
      by_cases hc : c = F
      · subst hc
        rw [eF] at e; cases e
        exact upd_same
      · rw [upd_ne hc]
        exact s4 _ _ ((oL c hc).trans e)
    have DF : D ≠ F := fun e => by rw [e, eL] at nD; cases nD
    have hD5 : (upd H4 F (bD F bs kvs)) D = some (.lst ys) := by rw [upd_ne DF]; exact hD
    have tU : Tk H4 (upd H4 F (bD F bs kvs)) := fun c xs e => by
      have : c ≠ F := fun z => by rw [z, s4 _ _ eL] at e; cases e
      rw [upd_ne this]; exact e
    have hY5 := Tups.tk tU hY
    generalize upd H4 F (bD F bs kvs) = H5 at *
    have s15 := s13.trans s34
    have d5 := d13.same s34
    have d5P := d3.same s34
    have hyl := hY5.length
    have memE : ∀ t, t ∈ (kvs.map (·.1)).filter (fun t => decide (look P t = some 0)) ↔ t ∈ kvs.map (·.1) ∧ movL ws ps t = [] := fun t => by
      rw [List.mem_filter]
      constructor
      · rintro ⟨a1, a2⟩
        exact ⟨a1, ((F3.zero t).mp (of_decide_eq_true a2)).2⟩
      · rintro ⟨a1, a2⟩
        exact ⟨a1, decide_eq_true ((F3.zero t).mpr ⟨hall t a1, a2⟩)⟩
    have ndE : ((kvs.map (·.1)).filter (fun t => decide (look P t = some 0))).Nodup := S.nodup.filter _
    generalize hE : (kvs.map (·.1)).filter (fun t => decide (look P t = some 0)) = E at hY5 memE ndE hyl
    have hE0 : E ≠ [] := by
      obtain ⟨v, hv⟩ := look_some.mp (hall ss S.self)
      obtain ⟨u, hu, hm⟩ := F3.ends v ss hv
      intro e
      have := (memE u).mpr ⟨sub3 u hu, hm⟩
      rw [e] at this; cases this
    refine ⟨_, rfl, D, ys, rfl, .inl (.of hD5), _, _, rfl, rfl, _, rfl, ?_⟩
    refine iB (fun c2 => ?_) (fun c2 => ?_)
    · have c2 := of_decide_eq_true c2
      cases E with
      | nil => exact absurd rfl hE0
      | cons e0 E =>
      cases E with
      | nil => rw [← hyl] at c2; exact absurd (show (1 : Int) < 1 from c2) (by decide)
      | cons e1 E =>
      cases hY5 with
      | @cons _ v0 _ yr r0 hY6 =>
      cases hY6 with
      | @cons _ v1 _ yr2 r1 _ =>
      obtain ⟨p0, rfl, ep0⟩ := r0
      obtain ⟨p1, rfl, ep1⟩ := r1
      have m0 := (memE e0).mp List.mem_cons_self
      have m1 := (memE e1).mp (List.mem_cons_of_mem _ List.mem_cons_self)
      have ne : e0 ≠ e1 := fun e => (List.nodup_cons.mp ndE).1 (e ▸ List.mem_cons_self)
      obtain ⟨a0, rs0, hmem0, na0, _, ea0, hl0, hroad0⟩ := roads_mem R3 m0.1
      obtain ⟨a1, rs1, hmem1, na1, _, ea1, hl1, hroad1⟩ := roads_mem R3 m1.1
      refine ⟨_, rfl, _, rfl, D, _, 0, _, rfl, rfl, .of hD5, atI_nat (j := 0) rfl, F, p0, kvs, e0, .ref a0, rfl, rfl, d5, ep0, valV_of d5.nodup hmem0, ?_⟩
      refine ⟨_, rfl, _, rfl, D, _, 1, _, rfl, rfl, .of hD5, atI_nat (j := 1) rfl, F, p1, kvs, e1, .ref a1, rfl, rfl, d5, ep1, valV_of d5.nodup hmem1, Nat.le_of_ble_eq_true (n := 3) rfl, ?_⟩
      wtm_at "new p6 H6 s6 e6"
      exact q H6 p6 (s15.trans s6) (.inr (.inl ⟨a0, a1, rs0, rs1, e0, e1, e6, na0, na1, s6 _ _ (s34 _ _ ea0), s6 _ _ (s34 _ _ ea1), by omega, by omega, ⟨hroad0, hroad1, m0.2, m1.2, ne⟩⟩))
    · have c2 := of_decide_eq_false c2
      cases E with
      | nil => exact absurd rfl hE0
      | cons e0 E =>
      cases E with
      | cons e1 E => rw [← hyl] at c2; exact absurd (show (1 : Int) < ((E.length + 1 + 1 : Nat) : Int) by omega) c2
      | nil =>
      cases hY5 with
      | @cons _ v0 _ yr r0 hY6 =>
      obtain ⟨p0, rfl, ep0⟩ := r0
      have m0 := (memE e0).mp List.mem_cons_self
      refine ⟨_, rfl, D, _, 0, _, rfl, rfl, .of hD5, atI_nat (j := 0) rfl, _, rfl, Nat.le_of_ble_eq_true (n := 3) rfl, ?_⟩
      wtm_at "new p6 H6 s6 e6"
      refine q H6 p6 (s15.trans s6) (.inl ⟨p0, G, e0, P, e6, s6 _ _ ep0, nG0, d5P.same s6, ⟨⟨F3.nodup, fun t => ⟨fun h => (S.mem t).mp (sub3 t h), fun h => hall t ((S.mem t).mpr h)⟩⟩, F3, hall e0 m0.1, fun t ht => ⟨fun h => List.mem_singleton.mp ((memE t).mpr ⟨sub3 t ht, h⟩), fun h => h ▸ m0.2⟩⟩⟩)

def sp_parts : Sp := fun vs H Q _ => ∃ (a : Addr) (x : W), vs = [.ref a] ∧ WA H x a ∧ ∀ (H' : Hp) (p : Addr) (us : List V), Same H H' → H' p = some (.tup us) → WAs H' x.parts us → Q (.ref p) H'
theorem ok_parts (T : Txt K mg Z) : FnOk P w K mg base CX0 1 Z.aparts Z.dparts ["word"] sp_parts := by
  refine T.F_parts.ok scparts (fun vs H Q E h => by obtain ⟨_, _, rfl, _⟩ := h; rfl) (fun cdv A outer s H vs Q E hr h => ?_)
  obtain ⟨a, x, rfl, hx, q⟩ := h
  refine ⟨_, (pss_cons (ps_if (pt_cmpR (r := rIn K false) op_in_seq (pe_ix (r := rIxT K) ix_tup (pv 0) pe_int (fun _ _ => rfl)) (pe_tup (pa_cons pe_str (pa_cons pe_str (pa_cons pe_str pa_nil)))) (by rfl)) (pss_one (ps_ret (pe_slice (r := rSlT K) sl_tup (pv 0) (po_some pe_int) po_none))) pss_nil)
      (pss_one (ps_ret (pe_tup pa_nil)))), ?_⟩
  have tag : ∃ (t : Str) (us : List V), H a = some (.tup (.str t :: us)) ∧ ((inV (.str t) [.str "not", .str "and", .str "or"] = true ∧ WAs H x.parts us) ∨ (inV (.str t) [.str "not", .str "and", .str "or"] = false ∧ x.parts = [])) := by
    cases x with
    | on => exact ⟨_, _, hx, .inr ⟨by decide +kernel, rfl⟩⟩
    | off => exact ⟨_, _, hx, .inr ⟨by decide +kernel, rfl⟩⟩
    | relay k => exact ⟨_, _, hx, .inr ⟨by decide +kernel, rfl⟩⟩
    | button k => exact ⟨_, _, hx, .inr ⟨by decide +kernel, rfl⟩⟩
    | not y => obtain ⟨b, e, hy⟩ := hx; exact ⟨_, _, e, .inl ⟨by decide +kernel, .cons ⟨b, rfl, hy⟩ .nil⟩⟩
    | and y z => obtain ⟨b, c, e, hy, hz⟩ := hx; exact ⟨_, _, e, .inl ⟨by decide +kernel, .cons ⟨b, rfl, hy⟩ (.cons ⟨c, rfl, hz⟩ .nil)⟩⟩
    | or y z => obtain ⟨b, c, e, hy, hz⟩ := hx; exact ⟨_, _, e, .inl ⟨by decide +kernel, .cons ⟨b, rfl, hy⟩ (.cons ⟨c, rfl, hz⟩ .nil)⟩⟩
  obtain ⟨t, us, e0, h⟩ := tag
  refine ⟨_, rfl, a, _, 0, _, rfl, rfl, .of e0, atI_nat (j := 0) rfl, Nat.le_of_ble_eq_true (n := 3) rfl, ?_⟩
  wtm_at "new c H1 s1 e1"
  refine ⟨c, _, rfl, .inr (.of e1), rfl, rfl, _, rfl, ?_⟩
  have e01 := s1 _ _ e0
  rcases h with ⟨h1, h2⟩ | ⟨h1, h2⟩
  · refine iT h1 ?_
    refine ⟨_, rfl, 1, rfl, a, _, rfl, .of e01, fun z => ?_, ?_⟩
    · have z1 := z.1
      rw [show HT.sIx (V.str t :: us).length 0 (some 1) = min 1 (V.str t :: us).length from HT.sIx_nat _ 0 1, List.length_cons] at z1
      omega
    rw [cut1]
    wtm_at "new p H2 s2 e2"
    exact q _ _ us (s1.trans s2) e2 (WAs.same (s1.trans s2) h2)
  · refine iF h1 ?_
    refine ⟨Nat.zero_le _, ?_⟩
    wtm_at "new p H2 s2 e2"
    exact q _ _ [] (s1.trans s2) e2 (by rw [h2]; exact .nil)

def sp_shifted (N : Nat) : Sp := fun vs H Q _ => ∃ (a : Addr) (r b : Int) (x : W), vs = [.ref a, .int r, .int b] ∧ WA H x a ∧ x.depth ≤ N ∧ ∀ (H' : Hp) (p : Addr), Same H H' → WA H' (x.shift r b) p → Q (.ref p) H'
theorem st_shifted (T : Txt K mg Z) {N : Nat} (Gshifted : FnOk P w K mg base CX0 (N + 1) Z.ashifted Z.dshifted ["word", "relays", "buttons"] (sp_shifted N)) : FnOk P w K mg base CX0 (N + 2) Z.ashifted Z.dshifted ["word", "relays", "buttons"] (sp_shifted (N + 1)) := by
  have Gparts := ok_parts (P := P) (w := w) (base := base) T
  refine T.F_shifted.ok scshifted (fun vs H Q E h => by obtain ⟨_, _, _, _, rfl, _⟩ := h; rfl) (fun cdv A outer s H vs Q E hr h => ?_)
  obtain ⟨a, r, b, x, rfl, hx, hd, q⟩ := h
  refine ⟨_, (pss_cons (ps_if (pt_cmpR op_eq (pe_ix (r := rIxT K) ix_tup (pv 0) pe_int (fun _ _ => rfl)) pe_str (nomark _)) (pss_one (ps_ret (pe_tup (pa_cons pe_str (pa_cons (pe_op op_add (pe_ix (r := rIxT K) ix_tup (pv 0) pe_int (fun _ _ => rfl)) (pv 1)) pa_nil))))) pss_nil)
      (pss_cons (ps_if (pt_cmpR op_eq (pe_ix (r := rIxT K) ix_tup (pv 0) pe_int (fun _ _ => rfl)) pe_str (nomark _)) (pss_one (ps_ret (pe_tup (pa_cons pe_str (pa_cons (pe_op op_add (pe_ix (r := rIxT K) ix_tup (pv 0) pe_int (fun _ _ => rfl)) (pv 2)) pa_nil))))) pss_nil)
      (pss_one (ps_ret (pe_op (r := rCatA K) op_catA (pe_tup (pa_cons (pe_ix (r := rIxT K) ix_tup (pv 0) pe_int (fun _ _ => rfl)) pa_nil)) (pe_callTy call_tuple_of (by rfl) T.n_tuple (by decide +kernel) (pa_cons (pe_lc (own := [("part", 3)]) (g := gName 3) (tt := tYes) rfl scshifted.nd (pi_tup (pe_call Gparts (hr.mono (by omega)) (by rfl) T.m_parts T.F_parts.kp T.b_parts .nil pass0 (pa_cons (pv 0) pa_nil))) (blkOk_by (own := [("part", 3)]) (N := ["word", "relays", "buttons", "part"]) (sc := defScope sshifted) (by decide +kernel)) (fun _ _ _ _ _ => pg_name (i := 3) scshifted.nd rfl (Or.inl rfl)) (fun _ _ _ _ _ => pts_nil) (fun _ _ _ _ _ => (pe_call Gshifted (hr.mono (by omega)) (by rfl) T.m_shifted T.F_shifted.kp T.b_shifted .nil pass0 (pa_cons (pv 3) (pa_cons (pv 1) (pa_cons (pv 2) pa_nil)))))) pa_nil))))))), ?_⟩
  rcases hx.kinds r b with ⟨k, rfl⟩ | ⟨k, rfl⟩ | ⟨t, us0, e0, hu2, hW0, d1, d2, back⟩
  · have e0 : H a = some (.tup [.str "relay", .int k]) := hx
    refine tag_test rfl e0 ?_; wtm_at "dT"
    refine ⟨_, rfl, a, _, 1, _, rfl, rfl, .of e0, atI_nat (j := 1) rfl, _, rfl, _, _, rfl, rfl, by wtm_at "sz", ?_⟩
    wtm_at "new p H1 s1 e1"
    exact q _ _ s1 e1
  · have e0 : H a = some (.tup [.str "button", .int k]) := hx
    refine tag_test rfl e0 ?_; wtm_at "dF"
    refine tag_test rfl e0 ?_; wtm_at "dT"
    refine ⟨_, rfl, a, _, 1, _, rfl, rfl, .of e0, atI_nat (j := 1) rfl, _, rfl, _, _, rfl, rfl, by wtm_at "sz", ?_⟩
    wtm_at "new p H1 s1 e1"
    exact q _ _ s1 e1
  refine tag_test rfl e0 ?_; refine iF d1 ?_
  refine tag_test rfl e0 ?_; refine iF d2 ?_
  refine ⟨_, rfl, a, _, 0, _, rfl, rfl, .of e0, atI_nat (j := 0) rfl, by wtm_at "sz", ?_⟩
  wtm_at "new g H1 s1 e1"
  refine ⟨_, rfl, a, x, rfl, WA.same s1 hx, fun H2 p us s2 e2 hW => ?_⟩
  have hl := hW.length
  have h2 : x.parts.length ≤ 2 := by cases x <;> simp [W.parts]
  refine ⟨p, rfl, ⟨_, .of e2⟩, fun D nD => lc_tup (K := K) (a := p) (xs := us) (fun i H' => Same H2 H' ∧ ∃ ys, H' D = some (.lst ys) ∧ WAs H' ((x.parts.take i).map (W.shift r b)) ys) ?_ ?_ ?_ ?_⟩
  · exact ⟨Same.new nD, [], upd_same, .nil⟩
  · rintro i H' _ ⟨s3, _⟩
    exact .of (s3 _ _ e2)
  · rintro i v H3 hi ⟨s3, ys, hD, hY⟩
    obtain ⟨y, hy, c, rfl, hc⟩ := paired_get hW hi
    have hyl := hY.length
    rw [List.length_map, List.length_take] at hyl
    wtm_at "lc"
    refine ⟨_, rfl, _, rfl, _, rfl, c, r, b, y, rfl, WA.same s3 hc, parts_depth (List.mem_of_getElem? hy) hd, fun H4 p4 s4 w4 => ?_⟩
    have hD4 := s4 _ _ hD
    have t5 : Tk H4 (upd H4 D (.lst (ys ++ [.ref p4]))) := Tk.lst hD4
    refine ⟨ys, hD4, small11 (by omega), Same.lst (s3.trans s4) nD, _, upd_same, ?_⟩
    rw [List.take_add_one, hy, List.map_append]
    exact paired_snoc (WAs.tk ((Same.tk s4).trans t5) hY) ⟨p4, rfl, WA.tk t5 w4⟩
  rintro H3 ⟨s3, ys, hD, hY⟩
  have hyl := hY.length
  rw [← hl, List.take_length] at hY
  rw [List.length_map, List.length_take] at hyl
  refine ⟨D, _, rfl, .inl ⟨.of hD, ?_⟩⟩
  wtm_at "new p4 H4 s4 e4"
  have s24 := s2.trans (s3.trans s4)
  refine cat_any (s24 _ _ e1) e4 (small10 (by show 1 + _ ≤ _; omega)) fun H5 p5 s5 e5 => ?_
  exact q _ _ (s1.trans (s24.trans s5)) (back _ _ _ e5 (WAs.same (s4.trans s5) hY))
theorem ok_shifted (T : Txt K mg Z) : ∀ N : Nat, FnOk P w K mg base CX0 (N + 1) Z.ashifted Z.dshifted ["word", "relays", "buttons"] (sp_shifted N)
  | 0 => fn_none (by rintro vs H Q E ⟨_, _, _, x, _, _, h, _⟩; have := x.depth_pos; omega)
  | N + 1 => st_shifted T (ok_shifted T N)

def sp_beside (Z : Ad) : Sp := fun vs H Q E => ∃ (b1 b2 : Addr) (m : Nat) (us1 us2 : List V) (ws1 ws2 : List W), vs = [.ref b1, .int m, .ref b2] ∧ H b1 = some (.lst us1) ∧ WAs H ws1 us1 ∧ H b2 = some (.lst us2) ∧ WAs H ws2 us2 ∧ (∀ x ∈ ws2, x.depth ≤ 10) ∧
  (6 < ws1.length + ws2.length → ∀ H', Same H H' → E (.ref Z.CTooMany) none H') ∧ (ws1.length + ws2.length ≤ 6 → ∀ (H' : Hp) (p : Addr) (us : List V), Same H H' → H p = none → H' p = some (.lst us) → WAs H' (sideW ws1.length m ws1 ws2) us → Q (.ref p) H')
theorem ok_beside (T : Txt K mg Z) : FnOk P w K mg base (L2.CX P w) 12 Z.abeside Z.dbeside ["one", "buttons", "other"] (sp_beside Z) := by
  have Gshifted := ok_shifted (P := P) (w := w) (base := base) T 10
  refine T.F_beside.okX scbeside (fun vs H Q E h => by obtain ⟨_, _, _, _, _, _, _, rfl, _⟩ := h; rfl) (fun cdv A outer s H vs Q E hr h => ?_)
  obtain ⟨b1, b2, m, us1, us2, ws1, ws2, rfl, h1, hW1, h2, hW2, hdp, q1, q2⟩ := h
  obtain ⟨_, gc_MOST_RELAYS⟩ := T.g_MOST_RELAYS
  refine ⟨_, (pss_cons (ps_if (pt_cmpR op_gt (pe_op op_add (pe_callB (r := rLenSeq K) call_len_seq (by rfl) T.n_len PySem.boot_len (pa_cons (pv 0) pa_nil)) (pe_callB (r := rLenSeq K) call_len_seq (by rfl) T.n_len PySem.boot_len (pa_cons (pv 2) pa_nil))) (pe_glob rfl gc_MOST_RELAYS (show RelV (.int 6) _ from ⟨_, rfl⟩)) (nomark _)) (pss_one (ps_raise rfl (takes_of rfl rfl rfl rfl) (pmk_own PySem.F.excBase_ValueError T.x_TooMany T.c_TooMany T.k_TooMany (raises_own T.sb_TooMany T.ty_TooMany) rfl))) pss_nil)
      (pss_one (ps_ret (pe_op op_cat (pe_callTy call_list_of (by rfl) T.n_list (by decide +kernel) (pa_cons (pv 0) pa_nil)) (pe_lc (own := [("word", 3)]) (g := gName 3) (tt := tYes) rfl scbeside.nd (pi_list (pv 2)) (blkOk_by (own := [("word", 3)]) (N := ["one", "buttons", "other", "word"]) (sc := defScope sbeside) (by decide +kernel)) (fun _ _ _ _ _ => pg_name (i := 3) scbeside.nd rfl (Or.inl rfl)) (fun _ _ _ _ _ => pts_nil) (fun _ _ _ _ _ => (pe_call Gshifted (hr.mono (by omega)) (by rfl) T.m_shifted T.F_shifted.kp T.b_shifted .nil pass0 (pa_cons (pv 3) (pa_cons (pe_callB (r := rLenSeq K) call_len_seq (by rfl) T.n_len PySem.boot_len (pa_cons (pv 0) pa_nil)) (pa_cons (pv 1) pa_nil)))))))))), ?_⟩
  have hl1 := hW1.length
  have hl2 := hW2.length
  refine ⟨_, rfl, b1, us1, rfl, .inl (.of h1), _, rfl, b2, us2, rfl, .inl (.of h2), _, _, rfl, rfl, _, _, rfl, rfl, _, rfl, ?_⟩
  refine iB (fun z => ?_) (fun z => ?_)
  · have z := of_decide_eq_true z
    exact q1 (by omega) _ (Same.refl _)
  have z := of_decide_eq_false z
  have hle : ws1.length + ws2.length ≤ 6 := by omega
  refine ⟨_, rfl, b1, us1, rfl, .inl (.of h1), ?_⟩
  wtm_at "new L H1 s1 e1"
  refine ⟨_, rfl, b2, rfl, ⟨_, .of (s1 _ _ h2)⟩, fun D nD => lc_list (K := K) (a := b2) (xs := us2) (fun i H' => Same H1 H' ∧ ∃ ys, H' D = some (.lst ys) ∧ WAs H' ((ws2.take i).map (W.shift (ws1.length : Int) (m : Int))) ys) ?_ ?_ ?_ ?_⟩
  · exact ⟨Same.new nD, [], upd_same, .nil⟩
  · rintro i H' _ ⟨s2, _⟩
    exact .of ((s1.trans s2) _ _ h2)
  · rintro i v H2 hi ⟨s2, ys, hD, hY⟩
    have s12 := s1.trans s2
    obtain ⟨y, hy, c, rfl, hc⟩ := paired_get hW2 hi
    have hyl := hY.length
    rw [List.length_map, List.length_take] at hyl
    wtm_at "lc"
    refine ⟨_, rfl, _, rfl, b1, us1, rfl, .inl (.of (s12 _ _ h1)), _, rfl, c, (ws1.length : Int), (m : Int), y, by rw [hl1]; rfl, WA.same s12 hc, hdp y (List.mem_of_getElem? hy), fun H4 p4 s4 w4 => ?_⟩
    have hD4 := s4 _ _ hD
    have t5 : Tk H4 (upd H4 D (.lst (ys ++ [.ref p4]))) := Tk.lst hD4
    refine ⟨ys, hD4, small11 (by omega), Same.lst (s2.trans s4) nD, _, upd_same, ?_⟩
    rw [List.take_add_one, hy, List.map_append]
    exact paired_snoc (WAs.tk ((Same.tk s4).trans t5) hY) ⟨p4, rfl, WA.tk t5 w4⟩
  rintro H2 ⟨s2, ys, hD, hY⟩
  have hyl := hY.length
  rw [← hl2, List.take_length] at hY
  rw [List.length_map, List.length_take] at hyl
  refine ⟨L, D, us1, ys, rfl, rfl, s2 _ _ e1, hD, small10 (by omega), ?_⟩
  wtm_at "new p H3 s3 e3"
  have s03 := s1.trans (s2.trans s3)
  have np0 : H p = none := (s1.trans s2).free np
  exact q2 hle _ _ _ s03 np0 e3 (paired_app (WAs.same s03 hW1) (WAs.same s3 hY))

def sp_beside_ok : Sp := fun vs H Q E => ∃ (b1 b2 : Addr) (m : Nat) (us1 us2 : List V) (ws1 ws2 : List W), vs = [.ref b1, .int m, .ref b2] ∧ H b1 = some (.lst us1) ∧ WAs H ws1 us1 ∧ H b2 = some (.lst us2) ∧ WAs H ws2 us2 ∧ (∀ x ∈ ws2, x.depth ≤ 10) ∧
  (ws1.length + ws2.length ≤ 6 ∧ ∀ (H' : Hp) (p : Addr) (us : List V), Same H H' → H p = none → H' p = some (.lst us) → WAs H' (sideW ws1.length m ws1 ws2) us → Q (.ref p) H')
theorem ok_beside_ok (T : Txt K mg Z) : FnOk P w K mg base CX0 12 Z.abeside Z.dbeside ["one", "buttons", "other"] sp_beside_ok := by
  have Gshifted := ok_shifted (P := P) (w := w) (base := base) T 10
  refine T.F_beside.ok scbeside (fun vs H Q E h => by obtain ⟨_, _, _, _, _, _, _, rfl, _⟩ := h; rfl) (fun cdv A outer s H vs Q E hr h => ?_)
  obtain ⟨b1, b2, m, us1, us2, ws1, ws2, rfl, h1, hW1, h2, hW2, hdp, hle, q2⟩ := h
  obtain ⟨_, gc_MOST_RELAYS⟩ := T.g_MOST_RELAYS
  refine ⟨_, (pss_cons (ps_if (pt_cmpR op_gt (pe_op op_add (pe_callB (r := rLenSeq K) call_len_seq (by rfl) T.n_len PySem.boot_len (pa_cons (pv 0) pa_nil)) (pe_callB (r := rLenSeq K) call_len_seq (by rfl) T.n_len PySem.boot_len (pa_cons (pv 2) pa_nil))) (pe_glob rfl gc_MOST_RELAYS (show RelV (.int 6) _ from ⟨_, rfl⟩)) (nomark _)) (pss_one ps_never) pss_nil)
      (pss_one (ps_ret (pe_op op_cat (pe_callTy call_list_of (by rfl) T.n_list (by decide +kernel) (pa_cons (pv 0) pa_nil)) (pe_lc (own := [("word", 3)]) (g := gName 3) (tt := tYes) rfl scbeside.nd (pi_list (pv 2)) (blkOk_by (own := [("word", 3)]) (N := ["one", "buttons", "other", "word"]) (sc := defScope sbeside) (by decide +kernel)) (fun _ _ _ _ _ => pg_name (i := 3) scbeside.nd rfl (Or.inl rfl)) (fun _ _ _ _ _ => pts_nil) (fun _ _ _ _ _ => (pe_call Gshifted (hr.mono (by omega)) (by rfl) T.m_shifted T.F_shifted.kp T.b_shifted .nil pass0 (pa_cons (pv 3) (pa_cons (pe_callB (r := rLenSeq K) call_len_seq (by rfl) T.n_len PySem.boot_len (pa_cons (pv 0) pa_nil)) (pa_cons (pv 1) pa_nil)))))))))), ?_⟩
  have hl1 := hW1.length
  have hl2 := hW2.length
  refine ⟨_, rfl, b1, us1, rfl, .inl (.of h1), _, rfl, b2, us2, rfl, .inl (.of h2), _, _, rfl, rfl, _, _, rfl, rfl, _, rfl, ?_⟩
  refine iF (decide_eq_false (show ¬ (6 : Int) < _ by omega)) ?_
  refine ⟨_, rfl, b1, us1, rfl, .inl (.of h1), ?_⟩
  wtm_at "new L H1 s1 e1"
  refine ⟨_, rfl, b2, rfl, ⟨_, .of (s1 _ _ h2)⟩, fun D nD => lc_list (K := K) (a := b2) (xs := us2) (fun i H' => Same H1 H' ∧ ∃ ys, H' D = some (.lst ys) ∧ WAs H' ((ws2.take i).map (W.shift (ws1.length : Int) (m : Int))) ys) ?_ ?_ ?_ ?_⟩
  · exact ⟨Same.new nD, [], upd_same, .nil⟩
  · rintro i H' _ ⟨s2, _⟩
    exact .of ((s1.trans s2) _ _ h2)
  · rintro i v H2 hi ⟨s2, ys, hD, hY⟩
    have s12 := s1.trans s2
    obtain ⟨y, hy, c, rfl, hc⟩ := paired_get hW2 hi
    have hyl := hY.length
    rw [List.length_map, List.length_take] at hyl
    wtm_at "lc"
    refine ⟨_, rfl, _, rfl, b1, us1, rfl, .inl (.of (s12 _ _ h1)), _, rfl, c, (ws1.length : Int), (m : Int), y, by rw [hl1]; rfl, WA.same s12 hc, hdp y (List.mem_of_getElem? hy), fun H4 p4 s4 w4 => ?_⟩
    have hD4 := s4 _ _ hD
    have t5 : Tk H4 (upd H4 D (.lst (ys ++ [.ref p4]))) := Tk.lst hD4
    refine ⟨ys, hD4, small11 (by omega), Same.lst (s2.trans s4) nD, _, upd_same, ?_⟩
    rw [List.take_add_one, hy, List.map_append]
    exact paired_snoc (WAs.tk ((Same.tk s4).trans t5) hY) ⟨p4, rfl, WA.tk t5 w4⟩
  rintro H2 ⟨s2, ys, hD, hY⟩
  have hyl := hY.length
  rw [← hl2, List.take_length] at hY
  rw [List.length_map, List.length_take] at hyl
  refine ⟨L, D, us1, ys, rfl, rfl, s2 _ _ e1, hD, small10 (by omega), ?_⟩
  wtm_at "new p H3 s3 e3"
  have s03 := s1.trans (s2.trans s3)
  have np0 : H p = none := (s1.trans s2).free np
  exact q2 _ _ _ s03 np0 e3 (paired_app (WAs.same s03 hW1) (WAs.same s3 hY))

def sp_law_on (N : Nat) : Sp := fun vs H Q _ => ∃ (a : Addr) (r b : Int) (x : W), vs = [.ref a, .int r, .int b] ∧ WA H x a ∧ x.depth ≤ N ∧ ∀ (H' : Hp) (p : Addr), Same H H' → WA H' (x.shift r b) p → Q (.ref p) H'
theorem st_law_on (T : Txt K mg Z) {N : Nat} (G_law_on : FnOk P w K mg base CX0 N Z.a_law_on Z.d_law_on ["word", "relays", "buttons"] (sp_law_on N)) : FnOk P w K mg base CX0 (N + 1) Z.a_law_on Z.d_law_on ["word", "relays", "buttons"] (sp_law_on (N + 1)) := by
  refine T.F__law_on.ok sc_law_on (fun vs H Q E h => by obtain ⟨_, _, _, _, rfl, _⟩ := h; rfl) (fun cdv A outer s H vs Q E hr h => ?_)
  obtain ⟨a, r, b, x, rfl, hx, hd, q⟩ := h
  refine ⟨_, (pss_cons (ps_if (pt_cmpR op_eq (pe_ix (r := rIxT K) ix_tup (pv 0) pe_int (fun _ _ => rfl)) pe_str (nomark _)) (pss_one (ps_ret (pe_tup (pa_cons pe_str (pa_cons (pe_op op_add (pe_ix (r := rIxT K) ix_tup (pv 0) pe_int (fun _ _ => rfl)) (pv 1)) pa_nil))))) pss_nil)
      (pss_cons (ps_if (pt_cmpR op_eq (pe_ix (r := rIxT K) ix_tup (pv 0) pe_int (fun _ _ => rfl)) pe_str (nomark _)) (pss_one (ps_ret (pe_tup (pa_cons pe_str (pa_cons (pe_op op_add (pe_ix (r := rIxT K) ix_tup (pv 0) pe_int (fun _ _ => rfl)) (pv 2)) pa_nil))))) pss_nil)
      (pss_one (ps_ret (pe_op (r := rCatA K) op_catA (pe_tup (pa_cons (pe_ix (r := rIxT K) ix_tup (pv 0) pe_int (fun _ _ => rfl)) pa_nil)) (pe_callTy call_tuple_of (by rfl) T.n_tuple (by decide +kernel) (pa_cons (pe_lc (own := [("part", 3)]) (g := gName 3) (tt := tYes) rfl sc_law_on.nd (pi_tup (pe_slice (r := rSlT K) sl_tup (pv 0) (po_some pe_int) po_none)) (blkOk_by (own := [("part", 3)]) (N := ["word", "relays", "buttons", "part"]) (sc := defScope s_law_on) (by decide +kernel)) (fun _ _ _ _ _ => pg_name (i := 3) sc_law_on.nd rfl (Or.inl rfl)) (fun _ _ _ _ _ => pts_nil) (fun _ _ _ _ _ => (pe_call G_law_on (hr.mono (by omega)) (by rfl) T.m__law_on T.F__law_on.kp T.b__law_on .nil pass0 (pa_cons (pv 3) (pa_cons (pv 1) (pa_cons (pv 2) pa_nil)))))) pa_nil))))))), ?_⟩
  rcases hx.kinds r b with ⟨k, rfl⟩ | ⟨k, rfl⟩ | ⟨t, us, e0, hu2, hW0, d1, d2, back⟩
  · have e0 : H a = some (.tup [.str "relay", .int k]) := hx
    refine tag_test rfl e0 ?_; wtm_at "dT"
    refine ⟨_, rfl, a, _, 1, _, rfl, rfl, .of e0, atI_nat (j := 1) rfl, _, rfl, _, _, rfl, rfl, by wtm_at "sz", ?_⟩
    wtm_at "new p H1 s1 e1"
    exact q _ _ s1 e1
  · have e0 : H a = some (.tup [.str "button", .int k]) := hx
    refine tag_test rfl e0 ?_; wtm_at "dF"
    refine tag_test rfl e0 ?_; wtm_at "dT"
    refine ⟨_, rfl, a, _, 1, _, rfl, rfl, .of e0, atI_nat (j := 1) rfl, _, rfl, _, _, rfl, rfl, by wtm_at "sz", ?_⟩
    wtm_at "new p H1 s1 e1"
    exact q _ _ s1 e1
  refine tag_test rfl e0 ?_; refine iF d1 ?_
  refine tag_test rfl e0 ?_; refine iF d2 ?_
  refine ⟨_, rfl, a, _, 0, _, rfl, rfl, .of e0, atI_nat (j := 0) rfl, by wtm_at "sz", ?_⟩
  wtm_at "new g H1 s1 e1"
  refine ⟨_, rfl, 1, rfl, a, _, rfl, .of (s1 _ _ e0), fun z => ?_, ?_⟩
  · have z1 := z.1
    rw [show HT.sIx (V.str t :: us).length 0 (some 1) = min 1 (V.str t :: us).length from HT.sIx_nat _ 0 1, List.length_cons] at z1
    omega
  rw [cut1]
  wtm_at "new p H2 s2 e2"
  have s12 := s1.trans s2
  have hW := WAs.same s12 hW0
  have hl := hW.length
  have h2 : x.parts.length ≤ 2 := by cases x <;> simp [W.parts]
  refine ⟨p, rfl, ⟨_, .of e2⟩, fun D nD => lc_tup (K := K) (a := p) (xs := us) (fun i H' => Same H2 H' ∧ ∃ ys, H' D = some (.lst ys) ∧ WAs H' ((x.parts.take i).map (W.shift r b)) ys) ?_ ?_ ?_ ?_⟩
  · exact ⟨Same.new nD, [], upd_same, .nil⟩
  · rintro i H' _ ⟨s3, _⟩
    exact .of (s3 _ _ e2)
  · rintro i v H3 hi ⟨s3, ys, hD, hY⟩
    obtain ⟨y, hy, c, rfl, hc⟩ := paired_get hW hi
    have hyl := hY.length
    rw [List.length_map, List.length_take] at hyl
    wtm_at "lc"
    refine ⟨_, rfl, _, rfl, _, rfl, c, r, b, y, rfl, WA.same s3 hc, parts_depth (List.mem_of_getElem? hy) hd, fun H4 p4 s4 w4 => ?_⟩
    have hD4 := s4 _ _ hD
    have t5 : Tk H4 (upd H4 D (.lst (ys ++ [.ref p4]))) := Tk.lst hD4
    refine ⟨ys, hD4, small11 (by omega), Same.lst (s3.trans s4) nD, _, upd_same, ?_⟩
    rw [List.take_add_one, hy, List.map_append]
    exact paired_snoc (WAs.tk ((Same.tk s4).trans t5) hY) ⟨p4, rfl, WA.tk t5 w4⟩
  rintro H3 ⟨s3, ys, hD, hY⟩
  have hyl := hY.length
  rw [← hl, List.take_length] at hY
  rw [List.length_map, List.length_take] at hyl
  refine ⟨D, _, rfl, .inl ⟨.of hD, ?_⟩⟩
  wtm_at "new p4 H4 s4 e4"
  have s24 := s2.trans (s3.trans s4)
  refine cat_any (s24 _ _ e1) e4 (small10 (by show 1 + _ ≤ _; omega)) fun H5 p5 s5 e5 => ?_
  exact q _ _ (s1.trans (s24.trans s5)) (back _ _ _ e5 (WAs.same (s4.trans s5) hY))
theorem ok_law_on (T : Txt K mg Z) : ∀ N : Nat, FnOk P w K mg base CX0 N Z.a_law_on Z.d_law_on ["word", "relays", "buttons"] (sp_law_on N)
  | 0 => fn_none (by rintro vs H Q E ⟨_, _, _, x, _, _, h, _⟩; have := x.depth_pos; omega)
  | N + 1 => st_law_on T (ok_law_on T N)

def marksL (d : Int) : List Bool := ((List.range 6).map fun (k : Nat) => decide ((k : Int) = d)) ++ [true]
theorem shBl (bs : List Bool) : Sh (.list (bs.map PyData.bool)) 1 := Sh.lst fun d hd => by
  obtain ⟨b, _, rfl⟩ := List.mem_map.mp hd
  exact Sh.bool b 0
def sp_law_refused : Sp := fun vs H Q _ => ∃ (a : Addr) (d : Int), vs = [.ref a, .int d] ∧ H a = some (.lst ((marksL d).map V.bl)) ∧ ∀ H', Same H H' → Q (.bl true) H'
theorem ok_law_refused (T : Txt K mg Z) : FnOk P w K mg base CX0 1 Z.a_law_refused Z.d_law_refused ["marks", "which"] sp_law_refused := by
  refine T.F__law_refused.ok sc_law_refused (fun vs H Q E h => by obtain ⟨_, _, rfl, _⟩ := h; rfl) (fun cdv A outer s H vs Q E hr h => ?_)
  obtain ⟨a, d, rfl, ha, q⟩ := h
  refine ⟨_, (pss_one (ps_ret (pe_cmpR (r := rEqD K) (op_eqD hr.units) (pv 0) (pe_op op_cat (pe_lc (own := [("k", 2)]) (g := gName 2) (tt := tYes) rfl sc_law_refused.nd (pi_range1 rfl T.n_range (pa_cons pe_int pa_nil)) (blkOk_by (own := [("k", 2)]) (N := ["marks", "which", "k"]) (sc := defScope s_law_refused) (by decide +kernel)) (fun _ _ _ _ _ => pg_name (i := 2) sc_law_refused.nd rfl (Or.inl rfl)) (fun _ _ _ _ _ => pts_nil) (fun _ _ _ _ _ => (pe_cmpR op_eq (pv 2) (pv 1) (nomark _)))) (pe_lst (pa_cons pe_bl pa_nil))) (nomark _)))), ?_⟩
  refine ⟨_, rfl, 6, rfl, by omega, by omega, fun D nD => lc_range (lo := 0) (n := 6) (fun i H' => Same H H' ∧ H' D = some (.lst (((List.range i).map fun (k : Nat) => decide ((k : Int) = d)).map V.bl))) ?_ ?_ ?_⟩
  · exact ⟨Same.new nD, upd_same⟩
  · rintro i H2 hi ⟨s2, hD⟩
    wtm_at "lc"
    refine ⟨_, rfl, _, rfl, rfl, _, hD, small11 (by rw [List.length_map, List.length_map, List.length_range]; omega), Same.lst s2 nD, ?_⟩
    rw [upd_same, List.range_succ, List.map_append, List.map_append, dec_vi, Int.zero_add]
    rfl
  · rintro H2 ⟨s2, hD⟩
    refine ⟨by wtm_at "sz", ?_⟩
    wtm_at "new p H3 s3 e3"
    refine ⟨D, p, _, _, rfl, rfl, s3 _ _ hD, e3, small10 (by rw [List.length_map, List.length_map, List.length_range]; decide), ?_⟩
    wtm_at "new r H4 s4 e4"
    have s24 := s2.trans (s3.trans s4)
    have e4' : H4 r = some (.lst ((marksL d).map V.bl)) := by
      rw [e4]; unfold marksL; rw [List.map_append]; rfl
    refine ⟨_, _, .lst (.of (s24 _ _ ha)) (dpAll_map fun b _ => .bl b), .lst (.of e4') (dpAll_map fun b _ => .bl b), (shBl _).shaped (by decide), (shBl _).shaped (by decide), ?_⟩
    rw [(shBl _).refl]
    exact q _ s24

theorem marks_0 : marksL 0 = [true, false, false, false, false, false, true] := by decide
def sp_law_told : Sp := fun vs H Q _ => ∃ (b1 b2 : Addr) (m : Nat) (us1 us2 : List V) (ws1 ws2 : List W), vs = [.ref b1, .int m, .ref b2] ∧ H b1 = some (.lst us1) ∧ WAs H ws1 us1 ∧ H b2 = some (.lst us2) ∧ WAs H ws2 us2 ∧ (∀ x ∈ ws2, x.depth ≤ 10) ∧
  (6 < ws1.length + ws2.length → ∀ (H' : Hp) (p k : Addr) (v : V), Same H H' → H' p = some (.tup [v, .ref k]) → H' k = some (.lst ((marksL 0).map V.bl)) → Q (.ref p) H') ∧
  (ws1.length + ws2.length ≤ 6 → ∀ (H' : Hp) (p a k : Addr) (us : List V), Same H H' → H a = none → a ≠ k → H' p = some (.tup [.ref a, .ref k]) → H' a = some (.lst us) → WAs H' (sideW ws1.length m ws1 ws2) us → H' k = some (.lst []) → Q (.ref p) H')
theorem ok_law_told (T : Txt K mg Z) : FnOk P w K mg base CX0 13 Z.a_law_told Z.d_law_told ["one", "buttons", "other"] sp_law_told := by
  have Gbeside := ok_beside (P := P) (w := w) (base := base) T
  refine T.F__law_told.ok sc_law_told (fun vs H Q E h => by obtain ⟨_, _, _, _, _, _, _, rfl, _⟩ := h; rfl) (fun cdv A outer s H vs Q E hr h => ?_)
  obtain ⟨b1, b2, m, us1, us2, ws1, ws2, rfl, h1, hW1, h2, hW2, hdp, q1, q2⟩ := h
  refine ⟨_, (pss_cons (ps_set (i := 3) sc_law_told.nd rfl (Or.inl rfl) pe_non)
      (pss_cons (ps_set (i := 4) sc_law_told.nd rfl (Or.inl rfl) (pe_lst pa_nil))
      (pss_cons (ps_try_as (i := 5) (tb := (fun W => tAsg (tCallS (sp_beside Z) (WE W) (tCons (tVar 0) (tCons (tVar 1) (tCons (tVar 2) tNil)))) (gName 3))) (ts := (fun a cls d => tSuite K Z.CTooMany Z.CDeep Z.CNoContact Z.CNoRelay Z.CStill Z.CNoNote 5 4 a cls d)) (Wout := fun _ _ _ _ => False) rfl rfl sc_law_told.nd rfl rfl ⟨rfl, by decide, .inl T.c_RoomError⟩ takes0 (fun W pn xe tk _ => (pss_one (ps_set (i := 3) sc_law_told.nd rfl (Or.inl rfl) (pe_callS Gbeside (hr.mono (by omega)) rfl T.m_beside T.F_beside.kp T.b_beside (fun σ => passAt tk σ) (pa_cons (pv 0) (pa_cons (pv 1) (pa_cons (pv 2) pa_nil))))))) (fun a oe cls d pn hz hf => (pss_cons (ps_set (i := 4) sc_law_told.nd rfl (Or.inl rfl) (pe_lst (pa_cons (pe_callB (r := rIsX K a cls d) (call_isX hz hf) (by rfl) T.n_isinstance (by decide +kernel) (pa_cons (pv 5) (pa_cons (pe_glob rfl T.c_TooMany rfl) pa_nil))) (pa_cons (pe_callB (r := rIsX K a cls d) (call_isX hz hf) (by rfl) T.n_isinstance (by decide +kernel) (pa_cons (pv 5) (pa_cons (pe_glob rfl T.c_Deep rfl) pa_nil))) (pa_cons (pe_callB (r := rIsX K a cls d) (call_isX hz hf) (by rfl) T.n_isinstance (by decide +kernel) (pa_cons (pv 5) (pa_cons (pe_glob rfl T.c_NoContact rfl) pa_nil))) (pa_cons (pe_callB (r := rIsX K a cls d) (call_isX hz hf) (by rfl) T.n_isinstance (by decide +kernel) (pa_cons (pv 5) (pa_cons (pe_glob rfl T.c_NoRelay rfl) pa_nil))) pa_nil))))))
      (pss_one (ps_set (i := 4) sc_law_told.nd rfl (Or.inl rfl) (pe_op op_cat (pv 4) (pe_lst (pa_cons (pe_callB (r := rIsX K a cls d) (call_isX hz hf) (by rfl) T.n_isinstance (by decide +kernel) (pa_cons (pv 5) (pa_cons (pe_glob rfl T.c_Still rfl) pa_nil))) (pa_cons (pe_callB (r := rIsX K a cls d) (call_isX hz hf) (by rfl) T.n_isinstance (by decide +kernel) (pa_cons (pv 5) (pa_cons (pe_glob rfl T.c_NoNote rfl) pa_nil))) (pa_cons (pe_callB (r := rIsX K a cls d) (call_isX hz hf) (by rfl) T.n_isinstance (by decide +kernel) (pa_cons (pv 5) (pa_cons (pe_bltn (v := .ty "ValueError") (u := .type "ValueError") (by rfl) T.n_ValueError (by decide +kernel) rfl) pa_nil))) pa_nil))))))))))
      (pss_one (ps_ret (pe_tup (pa_cons (pv 3) (pa_cons (pv 4) pa_nil)))))))), ?_⟩
  refine ⟨Nat.zero_le _, ?_⟩
  wtm_at "new k H1 s1 e1"
  refine ⟨_, rfl, _, rfl, _, rfl, b1, b2, m, us1, us2, ws1, ws2, rfl, s1 _ _ h1, WAs.same s1 hW1, s1 _ _ h2, WAs.same s1 hW2, hdp, fun hlt H2 s2 => ?_, fun hle H2 a us s2 na ea hW => ?_⟩
  · refine ⟨true, T.e_TooMany, fun _ a na => ?_, fun z => Bool.noConfusion z⟩
    refine suite_run T.E_TooMany T.i_TooMany_TooMany T.i_TooMany_Deep T.i_TooMany_NoContact T.i_TooMany_NoRelay T.i_TooMany_Still T.i_TooMany_NoNote T.v_TooMany rfl (Nat.le_of_ble_eq_true (n := 5) rfl) (by decide) fun H3 p0 p s3 e3 => ?_
    refine ⟨_, rfl, _, rfl, by wtm_at "sz", ?_⟩
    wtm_at "new r H4 s4 e4"
    exact q1 hlt _ _ _ _ (s1.trans (s2.trans (s3.trans s4))) e4 (by rw [marks_0]; exact s4 _ _ e3)
  · refine ⟨_, rfl, _, rfl, by wtm_at "sz", ?_⟩
    wtm_at "new p H3 s3 e3"
    exact q2 hle _ _ _ _ _ (s1.trans (s2.trans s3)) (s1.free na) (fun e => by rw [e, e1] at na; cases na) e3 (s3 _ _ ea) (WAs.same s3 hW) ((s2.trans s3) _ _ e1)

theorem mem_restL {n : Nat} {ws : List W} {ps t : List Bool} : t ∈ restL n ws ps ↔ t.length = n ∧ movL ws ps t = [] := by
  unfold restL isRest
  rw [List.mem_filter, in_allBits]
  exact ⟨fun h => ⟨h.1, of_decide_eq_true h.2⟩, fun h => ⟨h.1, decide_eq_true h.2⟩⟩
theorem restL_nodup (n : Nat) (ws : List W) (ps : List Bool) : (restL n ws ps).Nodup := (allBits_nodup n).filter _
theorem restL_le {n : Nat} (ws : List W) (ps : List Bool) (h : n ≤ 3) : (restL n ws ps).length ≤ 8 := by
  unfold restL
  have h1 := List.length_filter_le (isRest ws ps) (allBits n (2 ^ n))
  rw [allBits_len] at h1
  have h2 : 2 ^ n ≤ 2 ^ 3 := Nat.pow_le_pow_right (by decide) h
  omega
theorem side_rests {ws1 ws2 : List W} {p1 p2 : List Bool} {n1 n2 m2 : Nat} (T : Two ws1 ws2 p1 p2 n2 m2) (e1 : ws1.length = n1) : (restL (n1 + n2) (sw ws1 ws2 p1) (p1 ++ p2)).Perm (crossL (restL n1 ws1 p1) (restL n2 ws2 p2)) := by
  refine perm_of_mem (restL_nodup _ _ _) (crossL_nodup (restL_nodup _ _ _) (restL_nodup _ _ _) fun x hx => (mem_restL.mp hx).1) fun z => ?_
  rw [mem_restL, mem_crossL]
  constructor
  · rintro ⟨h1, h2⟩
    have hz : z = z.take n1 ++ z.drop n1 := (List.take_append_drop n1 z).symm
    have ht : (z.take n1).length = n1 := by rw [List.length_take]; omega
    rw [hz] at h2
    obtain ⟨a, b⟩ := (rest_side T (by omega)).mp h2
    exact ⟨_, mem_restL.mpr ⟨ht, a⟩, _, mem_restL.mpr ⟨by rw [List.length_drop]; omega, b⟩, hz⟩
  · rintro ⟨x, hx, y, hy, rfl⟩
    have hx := mem_restL.mp hx
    have hy := mem_restL.mp hy
    exact ⟨by rw [List.length_append]; omega, (rest_side T (by omega)).mpr ⟨hx.2, hy.2⟩⟩
def NotS (ws : List W) (ps ss : List Bool) : Prop := (∃ r1 r2 t1 t2, Parts ws ps ss r1 r2 t1 t2) ∨ (∃ r1 r2 t, Rounds ws ps ss r1 r2 t)
theorem judged_way {ws : List W} {ps ss : List Bool} {H H' : Hp} {p : Addr} (J : JudgedAt ws ps ss H H' p) : (∃ (e d : Addr) (rest : List Bool) (P : Pap), H' p = some (.tup [.str "settles", .ref e, .ref d]) ∧ H' e = some (.tup (rest.map V.bl)) ∧ Settles ws ps ss rest P) ∨
    (∃ tag x y, H' p = some (.tup [.str tag, x, y]) ∧ decide (V.str tag = V.str "settles") = false ∧ NotS ws ps ss) := by
  rcases J with ⟨e, d, rest, P, ep, ee, nd, dd, S⟩ | ⟨a1, a2, r1, r2, t1, t2, ep, n1, n2, e1, e2, l1, l2, R⟩ | ⟨a1, a2, r1, r2, t, ep, n1, n2, e1, e2, l1, l2, R⟩
  · exact .inl ⟨e, d, rest, P, ep, ee, S⟩
  · exact .inr ⟨_, _, _, ep, decide_eq_false (by decide +kernel), .inl ⟨_, _, _, _, R⟩⟩
  · exact .inr ⟨_, _, _, ep, decide_eq_false (by decide +kernel), .inr ⟨_, _, _, R⟩⟩
section
variable {ws1 ws2 : List W} {p1 p2 s1 s2 : List Bool} {n2 m2 : Nat} (T : Two ws1 ws2 p1 p2 n2 m2) (hl : s1.length = ws1.length)
include T hl
theorem both_not {e1 e2 : List Bool} {P1 P2 : Pap} (S1 : Settles ws1 p1 s1 e1 P1) (S2 : Settles ws2 p2 s2 e2 P2) (N : NotS (sw ws1 ws2 p1) (p1 ++ p2) (s1 ++ s2)) : False := by
  rcases N with ⟨_, _, _, _, R⟩ | ⟨_, _, _, R⟩
  · exact both_parts T hl S1 S2 R
  · exact both_rounds T hl S1 S2 R
theorem not1 {e : List Bool} {P : Pap} (S : Settles (sw ws1 ws2 p1) (p1 ++ p2) (s1 ++ s2) e P) (N : NotS ws1 p1 s1) : False := by
  rcases N with ⟨_, _, _, _, R⟩ | ⟨_, _, _, R⟩
  · exact parts1_no T hl S R
  · exact rounds1_no T hl S R
theorem not2 {e : List Bool} {P : Pap} (S : Settles (sw ws1 ws2 p1) (p1 ++ p2) (s1 ++ s2) e P) (N : NotS ws2 p2 s2) : False := by
  rcases N with ⟨_, _, _, _, R⟩ | ⟨_, _, _, R⟩
  · exact parts2_no T hl S R
  · exact rounds2_no T hl S R
end
theorem sh2 (ws1 ws2 : List W) (h1 : ∀ x ∈ ws1, x.depth ≤ 10) (h2 : ∀ x ∈ ws2, x.depth ≤ 10) : Sh (.list [.list (ws1.map wd), .list (ws2.map wd)]) 12 := Sh.lst fun d hd => by
  rcases List.mem_cons.mp hd with rfl | hd
  · exact shWL h1
  · rcases List.mem_singleton.mp hd with rfl
    exact shWL h2
def sp_law (K : PySem.W.Frag) : Sp := fun vs H Q _ => ∃ (a : Addr) (ns : List Int), vs = [.ref a] ∧ SqL K H a (ns.map V.int) ∧ ns.length ≤ 63 ∧ ∀ H', Q (.bl true) H'
set_option maxHeartbeats 0 in
theorem ok_law (T : Txt K mg Z) : FnOk P w K mg base CX0 15 Z.alaw Z.dlaw ["script"] (sp_law K) := by
  have G_law_cell_at := ok_law_cell_at (P := P) (w := w) (base := base) T
  have G_law_board := ok_law_board (P := P) (w := w) (base := base) T
  have G_law_bits := ok_law_bits (P := P) (w := w) (base := base) T
  have G_law_told := ok_law_told (P := P) (w := w) (base := base) T
  have G_law_refused := ok_law_refused (P := P) (w := w) (base := base) T
  have G_law_on := ok_law_on (P := P) (w := w) (base := base) T 10
  have Gbeside := ok_beside_ok (P := P) (w := w) (base := base) T
  have Grests := ok_rests (P := P) (w := w) (base := base) T
  have Gjudged := ok_judged (P := P) (w := w) (base := base) T
  refine T.F_law.ok sclaw (fun vs H Q E h => by obtain ⟨_, _, rfl, _⟩ := h; rfl) (fun cdv A outer s H vs Q E hr h => ?_)
  obtain ⟨a, ns, rfl, hS, hlen, q⟩ := h
  refine ⟨_, (pss_cons (ps_set (i := 1) sclaw.nd rfl (Or.inl rfl) (pe_call G_law_cell_at (hr.mono (by omega)) (by rfl) T.m__law_cell_at T.F__law_cell_at.kp T.b__law_cell_at .nil pass0 (pa_cons (pv 0) (pa_cons pe_int pa_nil))))
      (pss_cons (ps_set (i := 2) sclaw.nd rfl (Or.inr rfl) (pe_lst (pa_cons (pe_op op_add pe_int (pe_op op_mod (pv 1) pe_int)) (pa_cons (pe_op op_add pe_int (pe_op op_mod (pe_op op_fdiv (pv 1) pe_int) pe_int)) pa_nil))))
      (pss_cons (ps_set (i := 3) sclaw.nd rfl (Or.inr rfl) (pe_lst (pa_cons (pe_op op_mod (pe_op op_fdiv (pv 1) pe_int) pe_int) (pa_cons (pe_op op_mod (pe_op op_fdiv (pv 1) pe_int) pe_int) pa_nil))))
      (pss_cons (ps_set (i := 4) sclaw.nd rfl (Or.inl rfl) (pe_call G_law_board (hr.mono (by omega)) (by rfl) T.m__law_board T.F__law_board.kp T.b__law_board .nil pass0 (pa_cons (pv 0) (pa_cons pe_int (pa_cons (pe_ix (r := rIxL K) ix_list (pv 2) pe_int (fun _ _ => rfl)) (pa_cons (pe_ix (r := rIxL K) ix_list (pv 3) pe_int (fun _ _ => rfl)) (pa_cons (pe_op op_add pe_int (pe_op op_mod (pe_op op_fdiv (pv 1) pe_int) pe_int)) pa_nil)))))))
      (pss_cons (ps_set (i := 5) sclaw.nd rfl (Or.inl rfl) (pe_call G_law_board (hr.mono (by omega)) (by rfl) T.m__law_board T.F__law_board.kp T.b__law_board .nil pass0 (pa_cons (pv 0) (pa_cons pe_int (pa_cons (pe_ix (r := rIxL K) ix_list (pv 2) pe_int (fun _ _ => rfl)) (pa_cons (pe_ix (r := rIxL K) ix_list (pv 3) pe_int (fun _ _ => rfl)) (pa_cons (pe_op op_add pe_int (pe_op op_mod (pe_op op_fdiv (pv 1) pe_int) pe_int)) pa_nil)))))))
      (pss_cons (ps_set (i := 6) sclaw.nd rfl (Or.inl rfl) (pe_op op_cat (pv 4) (pe_lc (own := [("k", 17)]) (g := gName 17) (tt := tYes) rfl sclaw.nd (pi_range1 rfl T.n_range (pa_cons pe_int pa_nil)) (blkOk_by (own := [("k", 17)]) (N := ["script", "cell", "sizes", "keys", "one", "other", "wide", "handed", "told", "due", "pressed", "stands", "ends", "left", "first", "second", "found", "k", "word", "right"]) (sc := defScope slaw) (by decide +kernel)) (fun _ _ _ _ _ => pg_name (i := 17) sclaw.nd rfl (Or.inl rfl)) (fun _ _ _ _ _ => pts_nil) (fun _ _ _ _ _ => (pe_tup (pa_cons pe_str pa_nil))))))
      (pss_cons (ps_if (pt_not (pt_val (pe_call G_law_refused (hr.mono (by omega)) (by rfl) T.m__law_refused T.F__law_refused.kp T.b__law_refused .nil pass0 (pa_cons (pe_ix (r := rIxT K) ix_tup (pe_call G_law_told (hr.mono (by omega)) (by rfl) T.m__law_told T.F__law_told.kp T.b__law_told .nil pass0 (pa_cons (pe_slice (r := rSlL K) sl_list (pv 6) po_none (po_some pe_int)) (pa_cons (pe_ix (r := rIxL K) ix_list (pv 3) pe_int (fun _ _ => rfl)) (pa_cons (pv 5) pa_nil)))) pe_int (fun _ _ => rfl)) (pa_cons pe_int pa_nil))))) (pss_one (ps_ret pe_bl)) pss_nil)
      (pss_cons (ps_set (i := 7) sclaw.nd rfl (Or.inl rfl) (pe_lst (pa_cons (pe_callTy call_list_of (by rfl) T.n_list (by decide +kernel) (pa_cons (pv 4) pa_nil)) (pa_cons (pe_callTy call_list_of (by rfl) T.n_list (by decide +kernel) (pa_cons (pv 5) pa_nil)) pa_nil))))
      (pss_cons (ps_set (i := 8) sclaw.nd rfl (Or.inl rfl) (pe_call G_law_told (hr.mono (by omega)) (by rfl) T.m__law_told T.F__law_told.kp T.b__law_told .nil pass0 (pa_cons (pe_ix (r := rIxL K) ix_list (pv 7) pe_int (fun _ _ => rfl)) (pa_cons (pe_ix (r := rIxL K) ix_list (pv 3) pe_int (fun _ _ => rfl)) (pa_cons (pe_ix (r := rIxL K) ix_list (pv 7) pe_int (fun _ _ => rfl)) pa_nil)))))
      (pss_cons (ps_set (i := 9) sclaw.nd rfl (Or.inl rfl) (pe_op op_cat (pv 4) (pe_lc (own := [("word", 18)]) (g := gName 18) (tt := tYes) rfl sclaw.nd (pi_list (pv 5)) (blkOk_by (own := [("word", 18)]) (N := ["script", "cell", "sizes", "keys", "one", "other", "wide", "handed", "told", "due", "pressed", "stands", "ends", "left", "first", "second", "found", "k", "word", "right"]) (sc := defScope slaw) (by decide +kernel)) (fun _ _ _ _ _ => pg_name (i := 18) sclaw.nd rfl (Or.inl rfl)) (fun _ _ _ _ _ => pts_nil) (fun _ _ _ _ _ => (pe_call G_law_on (hr.mono (by omega)) (by rfl) T.m__law_on T.F__law_on.kp T.b__law_on .nil pass0 (pa_cons (pv 18) (pa_cons (pe_ix (r := rIxL K) ix_list (pv 2) pe_int (fun _ _ => rfl)) (pa_cons (pe_ix (r := rIxL K) ix_list (pv 3) pe_int (fun _ _ => rfl)) pa_nil))))))))
      (pss_cons (ps_if (PW.pt (pw_or (pt_cmpR (r := rNeD K) (op_neD hr.units) (pe_ix (r := rIxT K) ix_tup (pv 8) pe_int (fun _ _ => rfl)) (pe_lst pa_nil) (nomark _)) (pw_or (pt_not (pt_val (pe_callB (r := rIsi K) call_isi (by rfl) T.n_isinstance (by decide +kernel) (pa_cons (pe_ix (r := rIxT K) ix_tup (pv 8) pe_int (fun _ _ => rfl)) (pa_cons (pe_bltn (v := .ty "list") (u := .type "list") (by rfl) T.n_list (by decide +kernel) rfl) pa_nil))))) (pw_or (pt_cmpR (r := rNeD K) (op_neD hr.units) (pe_ix (r := rIxT K) ix_tup (pv 8) pe_int (fun _ _ => rfl)) (pv 9) (nomark _)) (pw_or1 (pt_cmpR (r := rNeD K) (op_neD hr.units) (pv 7) (pe_lst (pa_cons (pv 4) (pa_cons (pv 5) pa_nil))) (nomark _))))))) (pss_one (ps_ret pe_bl)) pss_nil)
      (pss_cons (ps_expr (pe_bm PySem.F.plainAttrs_list PySem.F.slot_list_append PySem.F.type_list_append mt_append (pe_ix (r := rIxT K) ix_tup (pv 8) pe_int (fun _ _ => rfl)) (pa_cons (pe_tup (pa_cons pe_str pa_nil)) pa_nil)))
      (pss_cons (ps_if (PW.pt (pw_or (pt_cmpR (r := rNeD K) (op_neD hr.units) (pv 7) (pe_lst (pa_cons (pv 4) (pa_cons (pv 5) pa_nil))) (nomark _)) (pw_or1 (pt_cmpR (r := rNeD K) (op_neD hr.units) (pe_call Gbeside (hr.mono (by omega)) (by rfl) T.m_beside T.F_beside.kp T.b_beside .nil pass0 (pa_cons (pe_ix (r := rIxL K) ix_list (pv 7) pe_int (fun _ _ => rfl)) (pa_cons (pe_ix (r := rIxL K) ix_list (pv 3) pe_int (fun _ _ => rfl)) (pa_cons (pe_ix (r := rIxL K) ix_list (pv 7) pe_int (fun _ _ => rfl)) pa_nil)))) (pv 9) (nomark _))))) (pss_one (ps_ret pe_bl)) pss_nil)
      (pss_cons (ps_set (i := 10) sclaw.nd rfl (Or.inl rfl) (pe_lst (pa_cons (pe_call G_law_bits (hr.mono (by omega)) (by rfl) T.m__law_bits T.F__law_bits.kp T.b__law_bits .nil pass0 (pa_cons (pe_call G_law_cell_at (hr.mono (by omega)) (by rfl) T.m__law_cell_at T.F__law_cell_at.kp T.b__law_cell_at .nil pass0 (pa_cons (pv 0) (pa_cons pe_int pa_nil))) (pa_cons (pe_ix (r := rIxL K) ix_list (pv 3) pe_int (fun _ _ => rfl)) pa_nil))) (pa_cons (pe_call G_law_bits (hr.mono (by omega)) (by rfl) T.m__law_bits T.F__law_bits.kp T.b__law_bits .nil pass0 (pa_cons (pe_call G_law_cell_at (hr.mono (by omega)) (by rfl) T.m__law_cell_at T.F__law_cell_at.kp T.b__law_cell_at .nil pass0 (pa_cons (pv 0) (pa_cons pe_int pa_nil))) (pa_cons (pe_ix (r := rIxL K) ix_list (pv 3) pe_int (fun _ _ => rfl)) pa_nil))) pa_nil))))
      (pss_cons (ps_set (i := 11) sclaw.nd rfl (Or.inl rfl) (pe_lst (pa_cons (pe_call G_law_bits (hr.mono (by omega)) (by rfl) T.m__law_bits T.F__law_bits.kp T.b__law_bits .nil pass0 (pa_cons (pe_call G_law_cell_at (hr.mono (by omega)) (by rfl) T.m__law_cell_at T.F__law_cell_at.kp T.b__law_cell_at .nil pass0 (pa_cons (pv 0) (pa_cons pe_int pa_nil))) (pa_cons (pe_ix (r := rIxL K) ix_list (pv 2) pe_int (fun _ _ => rfl)) pa_nil))) (pa_cons (pe_call G_law_bits (hr.mono (by omega)) (by rfl) T.m__law_bits T.F__law_bits.kp T.b__law_bits .nil pass0 (pa_cons (pe_call G_law_cell_at (hr.mono (by omega)) (by rfl) T.m__law_cell_at T.F__law_cell_at.kp T.b__law_cell_at .nil pass0 (pa_cons (pv 0) (pa_cons pe_int pa_nil))) (pa_cons (pe_ix (r := rIxL K) ix_list (pv 2) pe_int (fun _ _ => rfl)) pa_nil))) pa_nil))))
      (pss_cons (ps_set (i := 12) sclaw.nd rfl (Or.inl rfl) (pe_lst pa_nil))
      (pss_cons (ps_for PassesOwn.never rfl (pi_list (pe_call Grests (hr.mono (by omega)) (by rfl) T.m_rests T.F_rests.kp T.b_rests .nil pass0 (pa_cons (pv 4) (pa_cons (pe_ix (r := rIxL K) ix_list (pv 10) pe_int (fun _ _ => rfl)) pa_nil)))) (pg_name (i := 13) sclaw.nd rfl (Or.inr rfl))
      (pss_one (ps_set (i := 12) sclaw.nd rfl (Or.inl rfl) (pe_op op_cat (pv 12) (pe_lc (own := [("right", 19)]) (g := gName 19) (tt := tYes) rfl sclaw.nd (pi_list (pe_call Grests (hr.mono (by omega)) (by rfl) T.m_rests T.F_rests.kp T.b_rests .nil pass0 (pa_cons (pv 5) (pa_cons (pe_ix (r := rIxL K) ix_list (pv 10) pe_int (fun _ _ => rfl)) pa_nil)))) (blkOk_by (own := [("right", 19)]) (N := ["script", "cell", "sizes", "keys", "one", "other", "wide", "handed", "told", "due", "pressed", "stands", "ends", "left", "first", "second", "found", "k", "word", "right"]) (sc := defScope slaw) (by decide +kernel)) (fun _ _ _ _ _ => pg_name (i := 19) sclaw.nd rfl (Or.inl rfl)) (fun _ _ _ _ _ => pts_nil) (fun _ _ _ _ _ => (pe_op (r := rCatA K) op_catA (pv 13) (pv 19))))))))
      (pss_cons (ps_if (pt_cmpR (r := rNeD K) (op_neD hr.units) (pe_callB (r := rSortedB) call_bsorted (by rfl) T.n_sorted (by decide +kernel) (pa_cons (pe_call Grests (hr.mono (by omega)) (by rfl) T.m_rests T.F_rests.kp T.b_rests .nil pass0 (pa_cons (pv 9) (pa_cons (pe_op (r := rCatA K) op_catA (pe_ix (r := rIxL K) ix_list (pv 10) pe_int (fun _ _ => rfl)) (pe_ix (r := rIxL K) ix_list (pv 10) pe_int (fun _ _ => rfl))) pa_nil))) pa_nil)) (pe_callB (r := rSortedB) call_bsorted (by rfl) T.n_sorted (by decide +kernel) (pa_cons (pv 12) pa_nil)) (nomark _)) (pss_one (ps_ret pe_bl)) pss_nil)
      (pss_cons (ps_set (i := 14) sclaw.nd rfl (Or.inl rfl) (pe_call Gjudged (hr.mono (by omega)) (by rfl) T.m_judged T.F_judged.kp T.b_judged .nil pass0 (pa_cons (pv 4) (pa_cons (pe_ix (r := rIxL K) ix_list (pv 10) pe_int (fun _ _ => rfl)) (pa_cons (pe_ix (r := rIxL K) ix_list (pv 11) pe_int (fun _ _ => rfl)) pa_nil)))))
      (pss_cons (ps_set (i := 15) sclaw.nd rfl (Or.inl rfl) (pe_call Gjudged (hr.mono (by omega)) (by rfl) T.m_judged T.F_judged.kp T.b_judged .nil pass0 (pa_cons (pv 5) (pa_cons (pe_ix (r := rIxL K) ix_list (pv 10) pe_int (fun _ _ => rfl)) (pa_cons (pe_ix (r := rIxL K) ix_list (pv 11) pe_int (fun _ _ => rfl)) pa_nil)))))
      (pss_cons (ps_set (i := 16) sclaw.nd rfl (Or.inl rfl) (pe_call Gjudged (hr.mono (by omega)) (by rfl) T.m_judged T.F_judged.kp T.b_judged .nil pass0 (pa_cons (pv 9) (pa_cons (pe_op (r := rCatA K) op_catA (pe_ix (r := rIxL K) ix_list (pv 10) pe_int (fun _ _ => rfl)) (pe_ix (r := rIxL K) ix_list (pv 10) pe_int (fun _ _ => rfl))) (pa_cons (pe_op (r := rCatA K) op_catA (pe_ix (r := rIxL K) ix_list (pv 11) pe_int (fun _ _ => rfl)) (pe_ix (r := rIxL K) ix_list (pv 11) pe_int (fun _ _ => rfl))) pa_nil)))))
      (pss_cons (ps_if (PW.pt (pw_and (pt_cmpR op_eq (pe_ix (r := rIxT K) ix_tup (pv 14) pe_int (fun _ _ => rfl)) pe_str (nomark _)) (pw_and1 (pt_cmpR op_eq (pe_ix (r := rIxT K) ix_tup (pv 15) pe_int (fun _ _ => rfl)) pe_str (nomark _))))) (pss_one (ps_ret (pe_and (pe_cmpR op_eq (pe_ix (r := rIxT K) ix_tup (pv 16) pe_int (fun _ _ => rfl)) pe_str (nomark _)) (pe_one (pe_cmpR (r := rEqD K) (op_eqD hr.units) (pe_ix (r := rIxT K) ix_tup (pv 16) pe_int (fun _ _ => rfl)) (pe_op (r := rCatA K) op_catA (pe_ix (r := rIxT K) ix_tup (pv 14) pe_int (fun _ _ => rfl)) (pe_ix (r := rIxT K) ix_tup (pv 15) pe_int (fun _ _ => rfl))) (nomark _)))))) pss_nil)
      (pss_one (ps_ret (pe_cmpR op_ne (pe_ix (r := rIxT K) ix_tup (pv 16) pe_int (fun _ _ => rfl)) pe_str (nomark _)))))))))))))))))))))))))), ?_⟩
  refine ⟨_, rfl, a, ns, 0, rfl, hS, by omega, fun c => ?_⟩
  obtain ⟨n1, en1, hn1, hn1'⟩ : ∃ n : Nat, 1 + c % 3 = (n : Int) ∧ 1 ≤ n ∧ n ≤ 3 := ⟨(1 + c % 3).toNat, by omega, by omega, by omega⟩
  obtain ⟨n2, en2, hn2, hn2'⟩ : ∃ n : Nat, 1 + c / 3 % 3 = (n : Int) ∧ 1 ≤ n ∧ n ≤ 3 := ⟨(1 + c / 3 % 3).toNat, by omega, by omega, by omega⟩
  obtain ⟨m1, em1, hm1⟩ : ∃ n : Nat, c / 9 % 3 = (n : Int) ∧ n ≤ 2 := ⟨(c / 9 % 3).toNat, by omega, by omega⟩
  obtain ⟨m2, em2, hm2⟩ : ∃ n : Nat, c / 27 % 3 = (n : Int) ∧ n ≤ 2 := ⟨(c / 27 % 3).toNat, by omega, by omega⟩
  wtm_at "rd"
  rw [en1, en2]
  wtm_at "new g1 H1 s1 e1"
  wtm_at "rd"
  rw [em1, em2]
  wtm_at "new g2 H2 s2 e2"
  have s02 := s1.trans s2
  have e12 := s2 _ _ e1
  refine ⟨_, rfl, _, rfl, g1, _, 0, _, rfl, rfl, .of e12, atI_nat (j := 0) rfl, _, rfl, g2, _, 0, _, rfl, rfl, .of e2, atI_nat (j := 0) rfl, _, rfl, _, _, rfl, rfl, ⟨by decide, by decide⟩, _, _, rfl, rfl, by show (0 : Int) < 4; decide, _, _, rfl, rfl, a, ns, 6, 2 + c / 81 % 4, n1, m1, rfl, s02.seq hS, by omega, by omega, by omega, by omega, fun H3 b1 ws1 us1 s3 nb1 eb1 W1 l1 f1 => ?_⟩
  have s03 := s02.trans s3
  refine ⟨_, rfl, _, rfl, g1, _, 1, _, rfl, rfl, .of (s3 _ _ e12), atI_nat (j := 1) rfl, _, rfl, g2, _, 1, _, rfl, rfl, .of (s3 _ _ e2), atI_nat (j := 1) rfl, _, rfl, _, _, rfl, rfl, ⟨by decide, by decide⟩, _, _, rfl, rfl, by show (0 : Int) < 4; decide, _, _, rfl, rfl, a, ns, 10, 2 + c / 81 % 4, n2, m2, rfl, s03.seq hS, by omega, by omega, by omega, by omega, fun H4 b2 ws2 us2 s4 nb2 eb2 W2 l2 f2 => ?_⟩
  have s04 := s03.trans s4
  have f1 : Fits n1 m1 10 ws1 := f1.mono (by omega)
  have f2 : Fits n2 m2 10 ws2 := f2.mono (by omega)
  have g14 := (s3.trans s4) _ _ e12
  have g24 := (s3.trans s4) _ _ e2
  have eb1 := s4 _ _ eb1
  have W1 := WAs.same s4 W1
  clear e12 e1 e2 s1 s2 s3 s4 nb1 nb2 s02 s03
  clear en1 en2 em1 em2
  have d1 : ∀ x ∈ ws1, x.depth ≤ 10 := fun x hx => by have := (f1 x hx).2; omega
  have d2 : ∀ x ∈ ws2, x.depth ≤ 10 := fun x hx => by have := (f2 x hx).2; omega
  have u1 := W1.length
  have u2 := W2.length
  refine ⟨_, rfl, 6, rfl, by omega, by omega, fun D nD => lc_range (lo := 0) (n := 6) (fun i H' => Same H4 H' ∧ ∃ ys, H' D = some (.lst ys) ∧ WAs H' (List.replicate i .on) ys) ?_ ?_ ?_⟩
  · exact ⟨Same.new nD, [], upd_same, .nil⟩
  · rintro i H5 hi ⟨s5, ys, hD, hY⟩
    have hyl := hY.length
    rw [List.length_replicate] at hyl
    wtm_at "lc"
    refine ⟨by wtm_at "sz", ?_⟩
    wtm_at "new p H6 s6 e6"
    have t4 : Tk H6 (upd H6 D (.lst (ys ++ [.ref p]))) := Tk.lst (s6 _ _ hD)
    refine ⟨ys, s6 _ _ hD, small11 (by omega), Same.lst (s5.trans s6) nD, _, upd_same, ?_⟩
    rw [List.replicate_succ']
    exact paired_snoc (WAs.tk ((Same.tk s6).trans t4) hY) ⟨p, rfl, t4 _ _ e6⟩
  rintro H5 ⟨s5, ys, hD, hY⟩
  have hyl := hY.length
  rw [List.length_replicate] at hyl
  refine ⟨b1, D, us1, ys, rfl, rfl, s5 _ _ eb1, hD, small10 (by omega), ?_⟩
  wtm_at "new wi H6 s6 e6"
  have s46 := s5.trans s6
  refine ⟨_, rfl, 6, rfl, wi, _, rfl, .of e6, ?_⟩
  wtm_at "new wc H7 s7 e7"
  rw [show (6 : Int) = ((6 : Nat) : Int) from rfl, cutL_lo _ _ (by rw [List.length_append]; omega)] at e7
  have s47 := s46.trans s7
  have Ww : WAs H7 ((ws1 ++ List.replicate 6 W.on).take 6) ((us1 ++ ys).take 6) := paired_tk 6 (paired_app (WAs.same s47 W1) (WAs.same (s6.trans s7) hY))
  have lw : ((ws1 ++ List.replicate 6 W.on).take 6).length = 6 := by rw [List.length_take, List.length_append, List.length_replicate]; omega
  refine ⟨_, rfl, g2, _, 0, _, rfl, rfl, .of (s47 _ _ g24), atI_nat (j := 0) rfl, _, rfl, wc, b2, m1, _, us2, _, ws2, rfl, e7, Ww, s47 _ _ eb2, WAs.same s47 W2, d2, fun hlt H8 p8 k8 v8 s8 e8 ek8 => ?_, fun hle => absurd hle (by omega)⟩
  refine ⟨p8, _, 1, _, rfl, rfl, .of e8, atI_nat (j := 1) rfl, k8, 0, rfl, ek8, fun H9 s9 => ?_⟩
  refine ⟨_, rfl, ?_⟩
  refine iF rfl ?_
  have s49 := s47.trans (s8.trans s9)
  have s09 := s04.trans s49
  have g1x := s49 _ _ g14
  have g2x := s49 _ _ g24
  have eb1 := s49 _ _ eb1
  have eb2 := s49 _ _ eb2
  have W1 := WAs.same s49 W1
  have W2 := WAs.same s49 W2
  clear g14 g24 e6 e7 Ww e8 ek8 hY hD nD nwi nwc s5 s6 s7 s8 s9 s46 s47 s49
  clear s04
  refine ⟨_, rfl, b1, us1, rfl, .inl (.of eb1), ?_⟩
  wtm_at "new L1 Ha sa ea"
  refine ⟨_, rfl, b2, us2, rfl, .inl (.of (sa _ _ eb2)), ?_⟩
  wtm_at "new L2 Hb sb eb"
  refine ⟨by wtm_at "sz", ?_⟩
  wtm_at "new hd Hc sc ec"
  have s9c := sa.trans (sb.trans sc)
  have s0c := s09.trans s9c
  have eL1 := (sb.trans sc) _ _ ea
  have eL2 := sc _ _ eb
  have g1c := s9c _ _ g1x
  have g2c := s9c _ _ g2x
  have eb1 := s9c _ _ eb1
  have eb2 := s9c _ _ eb2
  have W1 := WAs.same s9c W1
  have W2 := WAs.same s9c W2
  clear sa sb sc s9c s09 ea eb g1x g2x nhd nL1 nL2
  refine ⟨_, rfl, hd, _, 0, _, rfl, rfl, .of ec, atI_nat (j := 0) rfl, _, rfl, g2, _, 0, _, rfl, rfl, .of g2c, atI_nat (j := 0) rfl, _, rfl, hd, _, 1, _, rfl, rfl, .of ec, atI_nat (j := 1) rfl, L1, L2, m1, us1, us2, ws1, ws2, rfl, eL1, W1, eL2, W2, d2, fun hlt => absurd hlt (by omega), fun hle He tp ta tk ut se nta nak et eta WT etk => ?_⟩
  have s0e := s0c.trans se
  refine ⟨_, rfl, _, rfl, b2, rfl, ⟨_, .of (se _ _ eb2)⟩, fun D nD => lc_list (K := K) (a := b2) (xs := us2) (fun i H' => Same He H' ∧ ∃ ys, H' D = some (.lst ys) ∧ WAs H' ((ws2.take i).map (W.shift (ws1.length : Int) (m1 : Int))) ys) ?_ ?_ ?_ ?_⟩
  · exact ⟨Same.new nD, [], upd_same, .nil⟩
  · rintro i H' _ ⟨s2, _⟩
    exact .of ((se.trans s2) _ _ eb2)
  · rintro i v H2 hi ⟨s2, ys, hD, hY⟩
    have s12 := se.trans s2
    obtain ⟨y, hy, c, rfl, hc⟩ := paired_get W2 hi
    have hyl := hY.length
    rw [List.length_map, List.length_take] at hyl
    wtm_at "lc"
    refine ⟨_, rfl, _, rfl, g1, _, 0, _, rfl, rfl, .of (s12 _ _ g1c), atI_nat (j := 0) rfl, _, rfl, g2, _, 0, _, rfl, rfl, .of (s12 _ _ g2c), atI_nat (j := 0) rfl, c, (ws1.length : Int), (m1 : Int), y, by rw [l1]; rfl, WA.same s12 hc, d2 y (List.mem_of_getElem? hy), fun H4 p4 s4 w4 => ?_⟩
    have hD4 := s4 _ _ hD
    have t5 : Tk H4 (upd H4 D (.lst (ys ++ [.ref p4]))) := Tk.lst hD4
    refine ⟨ys, hD4, small11 (by omega), Same.lst (s2.trans s4) nD, _, upd_same, ?_⟩
    rw [List.take_add_one, hy, List.map_append]
    exact paired_snoc (WAs.tk ((Same.tk s4).trans t5) hY) ⟨p4, rfl, WA.tk t5 w4⟩
  rintro Hf ⟨sf, ys, hD, hY⟩
  have hyl := hY.length
  rw [← u2, List.take_length] at hY
  rw [List.length_map, List.length_take] at hyl
  refine ⟨b1, D, us1, ys, rfl, rfl, (se.trans sf) _ _ eb1, hD, small10 (by omega), ?_⟩
  wtm_at "new du Hg sg eg"
  have seg := sf.trans sg
  have scg := se.trans seg
  have WD : WAs Hg (sideW ws1.length m1 ws1 ws2) (us1 ++ ys) := paired_app (WAs.same scg W1) (WAs.same sg hY)
  generalize us1 ++ ys = usd at *
  clear hY hD hyl nD
  have sh1 := sh2 ws1 ws2 d1 d2
  have hsd : Fits (n1 + n2) (m1 + m2) 10 (sideW ws1.length m1 ws1 ws2) := by rw [l1]; exact side_fit f1 f2
  have dsd : ∀ x ∈ sideW ws1.length m1 ws1 ws2, x.depth ≤ 10 := fun x hx => by have := (hsd x hx).2; omega
  have shD := shWL dsd
  have lsd : (sideW ws1.length m1 ws1 ws2).length = n1 + n2 := by show (ws1 ++ _).length = _; rw [List.length_append, List.length_map]; omega
  have etg := seg _ _ et
  have eag := seg _ _ eta
  have WT := WAs.same seg WT
  have ekg := seg _ _ etk
  refine ⟨_, rfl, tp, _, 1, _, rfl, rfl, .of etg, atI_nat (j := 1) rfl, Nat.zero_le _, ?_⟩
  wtm_at "new X Hh sh eh"
  refine ⟨_, _, dpI (ks := []) (sh _ _ ekg), dpI (ks := []) eh, (shI _).shaped (by decide), (shI _).shaped (by decide), _, rfl, ?_⟩
  rw [(shI _).refl]
  refine iF rfl ?_
  refine ⟨_, rfl, tp, _, 0, _, rfl, rfl, .of (sh _ _ etg), atI_nat (j := 0) rfl, .ref ta, .ty "list", .type "list", .type "list", true, rfl, .ty _, .base (.lst (sh _ _ eag)), kit_ty (by decide +kernel), _, rfl, ?_⟩
  refine iF rfl ?_
  refine ⟨_, rfl, tp, _, 0, _, rfl, rfl, .of (sh _ _ etg), atI_nat (j := 0) rfl, _, rfl, _, _, .lst (.of (sh _ _ eag)) (dpWs (WAs.same sh WT)), .lst (.of (sh _ _ eg)) (dpWs (WAs.same sh WD)), shD.shaped (by decide), shD.shaped (by decide), _, rfl, ?_⟩
  rw [shD.refl]
  refine iF rfl ?_
  have sch := scg.trans sh
  have hand : ∀ {H' : Hp} {y : Addr}, Same Hc H' → H' y = some (.lst [.ref b1, .ref b2]) → Dp K H' (.ref hd) (.list [.list (ws1.map wd), .list (ws2.map wd)]) ∧ Dp K H' (.ref y) (.list [.list (ws1.map wd), .list (ws2.map wd)]) := fun s e =>
    ⟨.lst (.of (s _ _ ec)) (.cons (.lst (.of (s _ _ eL1)) (dpWs (WAs.same s W1))) (.cons (.lst (.of (s _ _ eL2)) (dpWs (WAs.same s W2))) .nil)),
     .lst (.of e) (.cons (.lst (.of (s _ _ eb1)) (dpWs (WAs.same s W1))) (.cons (.lst (.of (s _ _ eb2)) (dpWs (WAs.same s W2))) .nil))⟩
  refine ⟨_, rfl, _, rfl, _, rfl, by wtm_at "sz", ?_⟩
  wtm_at "new Y Hi si ei"
  obtain ⟨dp1, dp2⟩ := hand (sch.trans si) ei
  refine ⟨_, _, dp1, dp2, sh1.shaped (by decide), sh1.shaped (by decide), _, rfl, ?_⟩
  rw [sh1.refl]
  refine iF rfl ?_
  have sgi := sh.trans si
  have eai := sgi _ _ eag
  refine ⟨_, rfl, tp, _, 0, _, rfl, rfl, .of (sgi _ _ etg), atI_nat (j := 0) rfl, .inl ⟨rfl, _, .of eai⟩, by wtm_at "sz", ?_⟩
  wtm_at "new U Hj sj ej"
  have eaj := sj _ _ eai
  have hut : ut.length ≤ 6 := by rw [← WT.length]; omega
  refine ⟨ta, ut, _, rfl, rfl, eaj, small11 (by omega), ?_⟩
  have sck : Same Hc (upd Hj ta (.lst (ut ++ [.ref U]))) := Same.lst (sch.trans (si.trans sj)) nta
  have tjk : Tk Hj (upd Hj ta (.lst (ut ++ [.ref U]))) := Tk.lst eaj
  have dne : du ≠ ta := fun e => by rw [e, (sf _ _ eta)] at ndu; cases ndu
  have edk : (upd Hj ta (.lst (ut ++ [.ref U]))) du = some (.lst usd) := by rw [upd_ne dne]; exact sj _ _ (sgi _ _ eg)
  have WDk := WAs.tk ((Same.tk (sgi.trans sj)).trans tjk) WD
  generalize upd Hj ta (.lst (ut ++ [.ref U])) = Hk at *
  clear dp1 dp2 ej ei eh eaj eai etg eag WT ekg et eta etk sgi sj si sh sch scg seg se sf sg s0e WD eg tjk dne nX nY nU ndu nta
  refine ⟨_, rfl, _, rfl, _, rfl, by wtm_at "sz", ?_⟩
  wtm_at "new Y Hl sl el"
  have scl := sck.trans sl
  obtain ⟨dp1, dp2⟩ := hand scl el
  refine ⟨_, _, dp1, dp2, sh1.shaped (by decide), sh1.shaped (by decide), _, rfl, ?_⟩
  rw [sh1.refl]
  refine iF rfl ?_
  refine ⟨_, rfl, hd, _, 0, _, rfl, rfl, .of (scl _ _ ec), atI_nat (j := 0) rfl, _, rfl, g2, _, 0, _, rfl, rfl, .of (scl _ _ g2c), atI_nat (j := 0) rfl, _, rfl, hd, _, 1, _, rfl, rfl, .of (scl _ _ ec), atI_nat (j := 1) rfl, L1, L2, m1, us1, us2, ws1, ws2, rfl, scl _ _ eL1, WAs.same scl W1, scl _ _ eL2, WAs.same scl W2, d2, hle, fun Hm bp bu sm nbp ebp Wbp => ?_⟩
  refine ⟨_, rfl, _, _, .lst (.of ebp) (dpWs Wbp), .lst (.of ((sl.trans sm) _ _ edk)) (dpWs (WAs.same (sl.trans sm) WDk)), shD.shaped (by decide), shD.shaped (by decide), _, rfl, ?_⟩
  rw [shD.refl]
  refine iF rfl ?_
  have skm := sl.trans sm
  have scm := sck.trans skm
  have s0m := s0c.trans scm
  have hS := s0m.seq hS
  have g1m := scm _ _ g1c
  have g2m := scm _ _ g2c
  have Bo : BoardAt Hm b1 us1 ws1 n1 m1 := ⟨scm _ _ eb1, WAs.same scm W1, l1, by omega, f1⟩
  have Bt : BoardAt Hm b2 us2 ws2 n2 m2 := ⟨scm _ _ eb2, WAs.same scm W2, l2, by omega, f2⟩
  have Bd : BoardAt Hm du usd (sideW ws1.length m1 ws1 ws2) (n1 + n2) (m1 + m2) := ⟨skm _ _ edk, WAs.same skm WDk, lsd, by omega, hsd⟩
  clear hand dp1 dp2 el sl sm scl skm scm s0m s0c sck ec eL1 eL2 eb1 eb2 W1 W2 WDk edk ebp Wbp g1c g2c nY nbp
  refine ⟨_, rfl, a, ns, 1, rfl, hS, by omega, fun c1 => ?_⟩
  refine ⟨_, rfl, g2, _, 0, _, rfl, rfl, .of g2m, atI_nat (j := 0) rfl, c1, m1, rfl, by omega, fun Hn r1 sn nr1 er1 => ?_⟩
  have pl1 := bits_len c1 m1
  generalize bits c1 m1 = ps1 at *
  refine ⟨_, rfl, a, ns, 2, rfl, sn.seq hS, by omega, fun c2 => ?_⟩
  refine ⟨_, rfl, g2, _, 1, _, rfl, rfl, .of (sn _ _ g2m), atI_nat (j := 1) rfl, c2, m2, rfl, by omega, fun Ho r2 so nr2 er2 => ?_⟩
  have pl2 := bits_len c2 m2
  generalize bits c2 m2 = ps2 at *
  refine ⟨by wtm_at "sz", ?_⟩
  wtm_at "new pp Hp2 sp ep"
  have smp := sn.trans (so.trans sp)
  refine ⟨_, rfl, a, ns, 3, rfl, smp.seq hS, by omega, fun c3 => ?_⟩
  refine ⟨_, rfl, g1, _, 0, _, rfl, rfl, .of (smp _ _ g1m), atI_nat (j := 0) rfl, c3, n1, rfl, by omega, fun Hq t1 sq nt1 et1 => ?_⟩
  have sl1 := bits_len c3 n1
  generalize bits c3 n1 = ss1 at *
  refine ⟨_, rfl, a, ns, 4, rfl, (smp.trans sq).seq hS, by omega, fun c4 => ?_⟩
  refine ⟨_, rfl, g1, _, 1, _, rfl, rfl, .of ((smp.trans sq) _ _ g1m), atI_nat (j := 1) rfl, c4, n2, rfl, by omega, fun Hr t2 sr nt2 et2 => ?_⟩
  have sl2 := bits_len c4 n2
  generalize bits c4 n2 = ss2 at *
  refine ⟨by wtm_at "sz", ?_⟩
  wtm_at "new st Hs ss es"
  have sps := sq.trans (sr.trans ss)
  have sms := smp.trans sps
  have r1s := ((so.trans sp).trans sps) _ _ er1
  have r2s := (sp.trans sps) _ _ er2
  have t1s := (sr.trans ss) _ _ et1
  have t2s := ss _ _ et2
  have pps := sps _ _ ep
  have Bo := Bo.same sms
  have Bt := Bt.same sms
  have Bd := Bd.same sms
  clear hS g1m g2m er1 er2 et1 et2 ep smp sps sms sn so sp sq sr ss nst npp nt1 nt2 nr1 nr2
  refine ⟨Nat.zero_le _, ?_⟩
  wtm_at "new E0 Ht st2 et0"
  refine ⟨_, rfl, _, rfl, pp, _, 0, _, rfl, rfl, .of (st2 _ _ pps), atI_nat (j := 0) rfl, b1, r1, n1, m1, us1, ws1, ps1, rfl, Bo.same st2, st2 _ _ r1s, pl1, fun Hu R1 vR su nR eR TR => ?_⟩
  have ssu := st2.trans su
  have R1l := restL_le ws1 ps1 hn1'
  have R2l := restL_le ws2 ps2 hn2'
  refine ⟨R1, rfl, ⟨_, .of eR⟩, for_list (K := K) (a := R1) (xs := vR) (fun i σ H' => ∃ E ys lf rg, σ = [some (.ref a), some (.int c), some (.ref g1), some (.ref g2), some (.ref b1), some (.ref b2), some (.ref wi), some (.ref hd), some (.ref tp), some (.ref du), some (.ref pp), some (.ref st), some (.ref E), lf, none, none, none, none, none, rg] ∧ Same Hu H' ∧ H' E = some (.lst ys) ∧ Tups H' (crossL ((restL n1 ws1 ps1).take i) (restL n2 ws2 ps2)) ys) ?_ ?_ ?_ ?_⟩
  · exact ⟨E0, [], none, none, rfl, Same.refl _, su _ _ et0, .nil⟩
  · rintro i σ H' _ ⟨_, _, _, _, _, s', _⟩
    exact .of (s' _ _ eR)
  · rintro i v σ H1 hi ⟨E, ys, lf, rg, rfl, s1, hE, hY⟩
    obtain ⟨bl, hbl, la, rfl, hla⟩ := paired_get TR hi
    have su1 := ssu.trans s1
    have hyl := hY.length
    rw [crossL_len, List.length_take] at hyl
    have hbn : bl.length = n1 := (mem_restL.mp (List.mem_of_getElem? hbl)).1
    have hil : i < (restL n1 ws1 ps1).length := (List.getElem?_eq_some_iff.mp hbl).1
    have hmul : min i (restL n1 ws1 ps1).length * (restL n2 ws2 ps2).length ≤ 8 * 8 := Nat.mul_le_mul (by omega) R2l
    refine ⟨_, rfl, _, rfl, _, rfl, pp, _, 1, _, rfl, rfl, .of (su1 _ _ pps), atI_nat (j := 1) rfl, b2, r2, n2, m2, us2, ws2, ps2, rfl, Bt.same su1, su1 _ _ r2s, pl2, fun H2 R2 vR2 s2 nR2 eR2 TR2 => ?_⟩
    have su2 := su1.trans s2
    have s12 := s1.trans s2
    refine ⟨R2, rfl, ⟨_, .of eR2⟩, fun D nD => lc_list (K := K) (a := R2) (xs := vR2) (fun j H' => Same H2 H' ∧ ∃ zs, H' D = some (.lst zs) ∧ Tups H' (((restL n2 ws2 ps2).take j).map (bl ++ ·)) zs) ?_ ?_ ?_ ?_⟩
    · exact ⟨Same.new nD, [], upd_same, .nil⟩
    · rintro j H' _ ⟨s', _⟩
      exact .of (s' _ _ eR2)
    · rintro j v H3 hj ⟨s3, zs, hD, hZ⟩
      obtain ⟨br, hbr, ra, rfl, hra⟩ := paired_get TR2 hj
      have hbrn : br.length = n2 := (mem_restL.mp (List.mem_of_getElem? hbr)).1
      have hzl := hZ.length
      rw [List.length_map, List.length_take] at hzl
      wtm_at "lc"
      refine ⟨_, rfl, _, rfl, cat_any ((s12.trans s3) _ _ hla) (s3 _ _ hra) (small10 (by rw [List.length_map, List.length_map]; omega)) fun H4 p4 s4 e4 => ?_⟩
      have hD4 := s4 _ _ hD
      have t5 : Tk H4 (upd H4 D (.lst (zs ++ [.ref p4]))) := Tk.lst hD4
      refine ⟨zs, hD4, small11 (by omega), Same.lst (s3.trans s4) nD, _, upd_same, ?_⟩
      rw [List.take_add_one, hbr, List.map_append]
      exact paired_snoc (Tups.tk ((Same.tk s4).trans t5) hZ) ⟨p4, rfl, by rw [t5 _ _ e4, List.map_append]⟩
    rintro H3 ⟨s3, zs, hD, hZ⟩
    rw [← TR2.length, List.take_length] at hZ
    have hzl := hZ.length
    rw [List.length_map] at hzl
    refine ⟨E, D, ys, zs, rfl, rfl, (s2.trans s3) _ _ hE, hD, small10 (by omega), ?_⟩
    wtm_at "new E2 H4 s4 e4"
    refine ⟨E2, ys ++ zs, _, _, rfl, s1.trans (s2.trans (s3.trans s4)), e4, ?_⟩
    rw [List.take_add_one, hbl]
    show Tups H4 (crossL (_ ++ [bl]) _) _
    rw [crossL_snoc]
    exact paired_app (Tups.same (s2.trans (s3.trans s4)) hY) (Tups.same s4 hZ)
  rintro σ Hv ⟨E, ys, lf, rg, rfl, sv, hE, hY⟩
  rw [← TR.length, List.take_length] at hY
  have ssv := ssu.trans sv
  have hyl := hY.length
  rw [crossL_len] at hyl
  have TW : Two ws1 ws2 ps1 ps2 n2 m2 := ⟨by rw [l1, pl1]; exact f1, f2, l2⟩
  have esw : sideW ws1.length m1 ws1 ws2 = sw ws1 ws2 ps1 := by rw [← pl1]
  rw [esw] at Bd
  have Bd := Bd.same ssv
  have Bo := Bo.same ssv
  have Bt := Bt.same ssv
  have ppv := ssv _ _ pps
  have stv := ssv _ _ es
  have r1v := ssv _ _ r1s
  have r2v := ssv _ _ r2s
  have t1v := ssv _ _ t1s
  have t2v := ssv _ _ t2s
  have lP : (ps1 ++ ps2).length = m1 + m2 := by rw [List.length_append]; omega
  have lS : (ss1 ++ ss2).length = n1 + n2 := by rw [List.length_append]; omega
  have catP : ∀ {H : Hp} {Q : VK}, Same Hv H → (∀ (H' : Hp) (p : Addr), Same H H' → H' p = some (.tup ((ps1 ++ ps2).map V.bl)) → Q (.ref p) H') → rCatA K (.ref r1) (.ref r2) H Q := fun s q => cat_any (s _ _ r1v) (s _ _ r2v) (small10 (by rw [List.length_map, List.length_map]; omega)) fun H' p s' e => q H' p s' (by rw [e, List.map_append])
  have catS : ∀ {H : Hp} {Q : VK}, Same Hv H → (∀ (H' : Hp) (p : Addr), Same H H' → H' p = some (.tup ((ss1 ++ ss2).map V.bl)) → Q (.ref p) H') → rCatA K (.ref t1) (.ref t2) H Q := fun s q => cat_any (s _ _ t1v) (s _ _ t2v) (small10 (by rw [List.length_map, List.length_map]; omega)) fun H' p s' e => q H' p s' (by rw [e, List.map_append])
  refine ⟨_, rfl, _, rfl, pp, _, 0, _, rfl, rfl, .of ppv, atI_nat (j := 0) rfl, _, rfl, pp, _, 1, _, rfl, rfl, .of ppv, atI_nat (j := 1) rfl, catP (Same.refl _) fun Hw p12 sw1 ep12 => ?_⟩
  refine ⟨du, p12, n1 + n2, m1 + m2, usd, _, ps1 ++ ps2, rfl, Bd.same sw1, ep12, lP, fun Hx RR vRR sx nRR eRR TRR => ?_⟩
  refine ⟨RR, vRR, _, n1 + n2, rfl, eRR, TRR, by omega, fun b hb => (mem_restL.mp hb).1, fun Hy q1 uq1 bq1 sy nq1 eq1 Tq1 pm1 sd1 => ?_⟩
  have svy := sw1.trans (sx.trans sy)
  refine ⟨_, rfl, E, ys, _, n1 + n2, rfl, svy _ _ hE, Tups.same svy hY, by omega, fun b hb => ?_, fun Hz q2 uq2 bq2 sz nq2 eq2 Tq2 pm2 sd2 => ?_⟩
  · obtain ⟨x, hx, y, hy, rfl⟩ := mem_crossL.mp hb
    rw [List.length_append, (mem_restL.mp hx).1, (mem_restL.mp hy).1]
  have eqL : bq1 = bq2 := sorted_eq sd1 sd2 (pm1.trans ((side_rests TW l1).trans pm2.symm))
  subst eqL
  refine ⟨_, _, .lst (.of (sz _ _ eq1)) (dpTs (Tups.same sz Tq1)), .lst (.of eq2) (dpTs Tq2), (shTs _).shaped (by decide), (shTs _).shaped (by decide), _, rfl, ?_⟩
  rw [(shTs _).refl]
  refine iF rfl ?_
  have svz := svy.trans sz
  refine ⟨_, rfl, _, rfl, pp, _, 0, _, rfl, rfl, .of (svz _ _ ppv), atI_nat (j := 0) rfl, _, rfl, st, _, 0, _, rfl, rfl, .of (svz _ _ stv), atI_nat (j := 0) rfl, b1, r1, t1, n1, m1, us1, ws1, ps1, ss1, rfl, Bo.same svz, svz _ _ r1v, svz _ _ t1v, sl1, pl1, fun H1 j1 s1 J1 => ?_⟩
  have sv1 := svz.trans s1
  refine ⟨_, rfl, _, rfl, pp, _, 1, _, rfl, rfl, .of (sv1 _ _ ppv), atI_nat (j := 1) rfl, _, rfl, st, _, 1, _, rfl, rfl, .of (sv1 _ _ stv), atI_nat (j := 1) rfl, b2, r2, t2, n2, m2, us2, ws2, ps2, ss2, rfl, Bt.same sv1, sv1 _ _ r2v, sv1 _ _ t2v, sl2, pl2, fun H2 j2 s2 J2 => ?_⟩
  have sv2 := sv1.trans s2
  refine ⟨_, rfl, _, rfl, pp, _, 0, _, rfl, rfl, .of (sv2 _ _ ppv), atI_nat (j := 0) rfl, _, rfl, pp, _, 1, _, rfl, rfl, .of (sv2 _ _ ppv), atI_nat (j := 1) rfl, catP sv2 fun H3 p3 s3 e3 => ?_⟩
  have sv3 := sv2.trans s3
  refine ⟨_, rfl, st, _, 0, _, rfl, rfl, .of (sv3 _ _ stv), atI_nat (j := 0) rfl, _, rfl, st, _, 1, _, rfl, rfl, .of (sv3 _ _ stv), atI_nat (j := 1) rfl, catS sv3 fun H4 p4 s4 e4 => ?_⟩
  refine ⟨du, p3, p4, n1 + n2, m1 + m2, usd, _, ps1 ++ ps2, ss1 ++ ss2, rfl, Bd.same (sv3.trans s4), s4 _ _ e3, e4, lS, lP, fun H5 j3 s5 J3 => ?_⟩
  have s25 := s3.trans (s4.trans s5)
  have s15 := s2.trans s25
  have hl1 : ss1.length = ws1.length := by omega
  rcases judged_way J1 with ⟨e, d, rest1, P1, ep1, ee1, S1⟩ | ⟨tag, x, y, ep1, ht, N1⟩
  · have ep1 := s15 _ _ ep1
    have ee1 := s15 _ _ ee1
    refine ⟨_, rfl, j1, _, 0, _, rfl, rfl, .of ep1, atI_nat (j := 0) rfl, rfl, _, rfl, ?_⟩
    refine iT (decide_eq_true rfl) ?_
    rcases judged_way J2 with ⟨e', d', rest2, P2, ep2, ee2, S2⟩ | ⟨tag, x, y, ep2, ht, N2⟩
    · have ep2 := s25 _ _ ep2
      have ee2 := s25 _ _ ee2
      refine ⟨_, rfl, j2, _, 0, _, rfl, rfl, .of ep2, atI_nat (j := 0) rfl, rfl, _, rfl, ?_⟩
      refine iT (decide_eq_true rfl) ?_
      rcases judged_way J3 with ⟨e3, d3, rest3, P3, ep3, ee3, S3⟩ | ⟨tag, x, y, ep3, ht, N3⟩
      · have hr : rest3 = rest1 ++ rest2 := by
          obtain ⟨rs, hrs⟩ := (S3.stands.mem _).mp S3.here
          exact both_rest TW hl1 S1 S2 hrs ((S3.rest _ S3.here).mpr rfl)
        have r1l : rest1.length = n1 := by rw [((S1.stands.mem _).mp S1.here).len, sl1]
        have r2l : rest2.length = n2 := by rw [((S2.stands.mem _).mp S2.here).len, sl2]
        refine ⟨_, rfl, j3, _, 0, _, rfl, rfl, .of ep3, atI_nat (j := 0) rfl, rfl, _, rfl, ?_⟩
        refine iT (decide_eq_true rfl) ?_
        refine ⟨_, rfl, j3, _, 1, _, rfl, rfl, .of ep3, atI_nat (j := 1) rfl, _, rfl, j1, _, 1, _, rfl, rfl, .of ep1, atI_nat (j := 1) rfl, _, rfl, j2, _, 1, _, rfl, rfl, .of ep2, atI_nat (j := 1) rfl, cat_any ee1 ee2 (small10 (by rw [List.length_map, List.length_map]; omega)) fun H6 p6 s6 e6 => ?_⟩
        rw [← List.map_append] at e6
        subst hr
        refine ⟨_, _, dpB (s6 _ _ ee3), dpB e6, (shB _).shaped (by decide), (shB _).shaped (by decide), ?_⟩
        rw [(shB _).refl]
        exact q _
      · exact (both_not TW hl1 S1 S2 N3).elim
    · have ep2 := s25 _ _ ep2
      refine ⟨_, rfl, j2, _, 0, _, rfl, rfl, .of ep2, atI_nat (j := 0) rfl, rfl, _, rfl, ?_⟩
      refine iF ht ?_
      rcases judged_way J3 with ⟨e3, d3, rest3, P3, ep3, ee3, S3⟩ | ⟨tag, x, y, ep3, ht, N3⟩
      · exact (not2 TW hl1 S3 N2).elim
      · refine ⟨_, rfl, j3, _, 0, _, rfl, rfl, .of ep3, atI_nat (j := 0) rfl, rfl, ?_⟩
        have := q H5
        show Q (V.bl (!decide (V.str tag = V.str "settles"))) H5
        rw [ht]; exact this
  · have ep1 := s15 _ _ ep1
    refine ⟨_, rfl, j1, _, 0, _, rfl, rfl, .of ep1, atI_nat (j := 0) rfl, rfl, _, rfl, ?_⟩
    refine iF ht ?_
    rcases judged_way J3 with ⟨e3, d3, rest3, P3, ep3, ee3, S3⟩ | ⟨tag, x, y, ep3, ht, N3⟩
    · exact (not1 TW hl1 S3 N1).elim
    · refine ⟨_, rfl, j3, _, 0, _, rfl, rfl, .of ep3, atI_nat (j := 0) rfl, rfl, ?_⟩
      have := q H5
      show Q (V.bl (!decide (V.str tag = V.str "settles"))) H5
      rw [ht]; exact this

end
theorem all_mk {l : PySem.W.OpenLaw} {w : World} {K : PySem.W.Frag} {h : Heap} {mg : Str → Option Value} {fa : Addr} (X : K.In h) (G : h.Ns mainGlobals mg) (hfa : mg "law" = some (.ref fa))
    {f0 f1 f2 f3 f4 f5 f6 f7 f8 f9 f10 f11 f12 f13 f14 f15 f16 f17 f18 f19 f20 f21 f22 f23 : Addr}
    {CRoomError CTooMany CDeep CNoContact CNoRelay CStill CNoNote : Addr}
    {od0 an0 : Option Addr} {sl0 : Array (Option Value)} {oc0 kV0 dc0 pm0 cd0 ct0 : Value}
    (a0 : PySem.W.nsIn K mainGlobals "parts" = some (some (.ref f0))) (l0 : K.lookup f0 = some ⟨oc0, od0, .func (PySem.W.fnOf "parts" "parts" (defArgs sparts) (defBody sparts) (defScope sparts) .none kV0 dc0 pm0 an0 cd0 ct0), sl0⟩) (c0 : PySem.W.codeIn K cd0 "parts" = true) (k0 : PySem.W.keepIn K (.ref f0) = true)
    {od1 an1 : Option Addr} {sl1 : Array (Option Value)} {oc1 kV1 dc1 pm1 cd1 ct1 : Value}
    (a1 : PySem.W.nsIn K mainGlobals "worth" = some (some (.ref f1))) (l1 : K.lookup f1 = some ⟨oc1, od1, .func (PySem.W.fnOf "worth" "worth" (defArgs sworth) (defBody sworth) (defScope sworth) .none kV1 dc1 pm1 an1 cd1 ct1), sl1⟩) (c1 : PySem.W.codeIn K cd1 "worth" = true) (k1 : PySem.W.keepIn K (.ref f1) = true)
    {od2 an2 : Option Addr} {sl2 : Array (Option Value)} {oc2 kV2 dc2 pm2 cd2 ct2 : Value}
    (a2 : PySem.W.nsIn K mainGlobals "switches" = some (some (.ref f2))) (l2 : K.lookup f2 = some ⟨oc2, od2, .func (PySem.W.fnOf "switches" "switches" (defArgs sswitches) (defBody sswitches) (defScope sswitches) .none kV2 dc2 pm2 an2 cd2 ct2), sl2⟩) (c2 : PySem.W.codeIn K cd2 "switches" = true) (k2 : PySem.W.keepIn K (.ref f2) = true)
    {od3 an3 : Option Addr} {sl3 : Array (Option Value)} {oc3 kV3 dc3 pm3 cd3 ct3 : Value}
    (a3 : PySem.W.nsIn K mainGlobals "can_move" = some (some (.ref f3))) (l3 : K.lookup f3 = some ⟨oc3, od3, .func (PySem.W.fnOf "can_move" "can_move" (defArgs scan_move) (defBody scan_move) (defScope scan_move) .none kV3 dc3 pm3 an3 cd3 ct3), sl3⟩) (c3 : PySem.W.codeIn K cd3 "can_move" = true) (k3 : PySem.W.keepIn K (.ref f3) = true)
    {od4 an4 : Option Addr} {sl4 : Array (Option Value)} {oc4 kV4 dc4 pm4 cd4 ct4 : Value}
    (a4 : PySem.W.nsIn K mainGlobals "movable" = some (some (.ref f4))) (l4 : K.lookup f4 = some ⟨oc4, od4, .func (PySem.W.fnOf "movable" "movable" (defArgs smovable) (defBody smovable) (defScope smovable) .none kV4 dc4 pm4 an4 cd4 ct4), sl4⟩) (c4 : PySem.W.codeIn K cd4 "movable" = true) (k4 : PySem.W.keepIn K (.ref f4) = true)
    {od5 an5 : Option Addr} {sl5 : Array (Option Value)} {oc5 kV5 dc5 pm5 cd5 ct5 : Value}
    (a5 : PySem.W.nsIn K mainGlobals "moved" = some (some (.ref f5))) (l5 : K.lookup f5 = some ⟨oc5, od5, .func (PySem.W.fnOf "moved" "moved" (defArgs smoved) (defBody smoved) (defScope smoved) .none kV5 dc5 pm5 an5 cd5 ct5), sl5⟩) (c5 : PySem.W.codeIn K cd5 "moved" = true) (k5 : PySem.W.keepIn K (.ref f5) = true)
    {od6 an6 : Option Addr} {sl6 : Array (Option Value)} {oc6 kV6 dc6 pm6 cd6 ct6 : Value}
    (a6 : PySem.W.nsIn K mainGlobals "rests" = some (some (.ref f6))) (l6 : K.lookup f6 = some ⟨oc6, od6, .func (PySem.W.fnOf "rests" "rests" (defArgs srests) (defBody srests) (defScope srests) .none kV6 dc6 pm6 an6 cd6 ct6), sl6⟩) (c6 : PySem.W.codeIn K cd6 "rests" = true) (k6 : PySem.W.keepIn K (.ref f6) = true)
    {od7 an7 : Option Addr} {sl7 : Array (Option Value)} {oc7 kV7 dc7 pm7 cd7 ct7 : Value}
    (a7 : PySem.W.nsIn K mainGlobals "shifted" = some (some (.ref f7))) (l7 : K.lookup f7 = some ⟨oc7, od7, .func (PySem.W.fnOf "shifted" "shifted" (defArgs sshifted) (defBody sshifted) (defScope sshifted) .none kV7 dc7 pm7 an7 cd7 ct7), sl7⟩) (c7 : PySem.W.codeIn K cd7 "shifted" = true) (k7 : PySem.W.keepIn K (.ref f7) = true)
    {od8 an8 : Option Addr} {sl8 : Array (Option Value)} {oc8 kV8 dc8 pm8 cd8 ct8 : Value}
    (a8 : PySem.W.nsIn K mainGlobals "beside" = some (some (.ref f8))) (l8 : K.lookup f8 = some ⟨oc8, od8, .func (PySem.W.fnOf "beside" "beside" (defArgs sbeside) (defBody sbeside) (defScope sbeside) .none kV8 dc8 pm8 an8 cd8 ct8), sl8⟩) (c8 : PySem.W.codeIn K cd8 "beside" = true) (k8 : PySem.W.keepIn K (.ref f8) = true)
    {od9 an9 : Option Addr} {sl9 : Array (Option Value)} {oc9 kV9 dc9 pm9 cd9 ct9 : Value}
    (a9 : PySem.W.nsIn K mainGlobals "come_to" = some (some (.ref f9))) (l9 : K.lookup f9 = some ⟨oc9, od9, .func (PySem.W.fnOf "come_to" "come_to" (defArgs scome_to) (defBody scome_to) (defScope scome_to) .none kV9 dc9 pm9 an9 cd9 ct9), sl9⟩) (c9 : PySem.W.codeIn K cd9 "come_to" = true) (k9 : PySem.W.keepIn K (.ref f9) = true)
    {od10 an10 : Option Addr} {sl10 : Array (Option Value)} {oc10 kV10 dc10 pm10 cd10 ct10 : Value}
    (a10 : PySem.W.nsIn K mainGlobals "numbered" = some (some (.ref f10))) (l10 : K.lookup f10 = some ⟨oc10, od10, .func (PySem.W.fnOf "numbered" "numbered" (defArgs snumbered) (defBody snumbered) (defScope snumbered) .none kV10 dc10 pm10 an10 cd10 ct10), sl10⟩) (c10 : PySem.W.codeIn K cd10 "numbered" = true) (k10 : PySem.W.keepIn K (.ref f10) = true)
    {od11 an11 : Option Addr} {sl11 : Array (Option Value)} {oc11 kV11 dc11 pm11 cd11 ct11 : Value}
    (a11 : PySem.W.nsIn K mainGlobals "ring_from" = some (some (.ref f11))) (l11 : K.lookup f11 = some ⟨oc11, od11, .func (PySem.W.fnOf "ring_from" "ring_from" (defArgs sring_from) (defBody sring_from) (defScope sring_from) .none kV11 dc11 pm11 an11 cd11 ct11), sl11⟩) (c11 : PySem.W.codeIn K cd11 "ring_from" = true) (k11 : PySem.W.keepIn K (.ref f11) = true)
    {od12 an12 : Option Addr} {sl12 : Array (Option Value)} {oc12 kV12 dc12 pm12 cd12 ct12 : Value}
    (a12 : PySem.W.nsIn K mainGlobals "judged" = some (some (.ref f12))) (l12 : K.lookup f12 = some ⟨oc12, od12, .func (PySem.W.fnOf "judged" "judged" (defArgs sjudged) (defBody sjudged) (defScope sjudged) .none kV12 dc12 pm12 an12 cd12 ct12), sl12⟩) (c12 : PySem.W.codeIn K cd12 "judged" = true) (k12 : PySem.W.keepIn K (.ref f12) = true)
    {od13 an13 : Option Addr} {sl13 : Array (Option Value)} {oc13 kV13 dc13 pm13 cd13 ct13 : Value}
    (a13 : PySem.W.nsIn K mainGlobals "_law_cell_at" = some (some (.ref f13))) (l13 : K.lookup f13 = some ⟨oc13, od13, .func (PySem.W.fnOf "_law_cell_at" "_law_cell_at" (defArgs s_law_cell_at) (defBody s_law_cell_at) (defScope s_law_cell_at) .none kV13 dc13 pm13 an13 cd13 ct13), sl13⟩) (c13 : PySem.W.codeIn K cd13 "_law_cell_at" = true) (k13 : PySem.W.keepIn K (.ref f13) = true)
    {od14 an14 : Option Addr} {sl14 : Array (Option Value)} {oc14 kV14 dc14 pm14 cd14 ct14 : Value}
    (a14 : PySem.W.nsIn K mainGlobals "_law_pick" = some (some (.ref f14))) (l14 : K.lookup f14 = some ⟨oc14, od14, .func (PySem.W.fnOf "_law_pick" "_law_pick" (defArgs s_law_pick) (defBody s_law_pick) (defScope s_law_pick) .none kV14 dc14 pm14 an14 cd14 ct14), sl14⟩) (c14 : PySem.W.codeIn K cd14 "_law_pick" = true) (k14 : PySem.W.keepIn K (.ref f14) = true)
    {od15 an15 : Option Addr} {sl15 : Array (Option Value)} {oc15 kV15 dc15 pm15 cd15 ct15 : Value}
    (a15 : PySem.W.nsIn K mainGlobals "_law_mix" = some (some (.ref f15))) (l15 : K.lookup f15 = some ⟨oc15, od15, .func (PySem.W.fnOf "_law_mix" "_law_mix" (defArgs s_law_mix) (defBody s_law_mix) (defScope s_law_mix) .none kV15 dc15 pm15 an15 cd15 ct15), sl15⟩) (c15 : PySem.W.codeIn K cd15 "_law_mix" = true) (k15 : PySem.W.keepIn K (.ref f15) = true)
    {od16 an16 : Option Addr} {sl16 : Array (Option Value)} {oc16 kV16 dc16 pm16 cd16 ct16 : Value}
    (a16 : PySem.W.nsIn K mainGlobals "_law_leaf" = some (some (.ref f16))) (l16 : K.lookup f16 = some ⟨oc16, od16, .func (PySem.W.fnOf "_law_leaf" "_law_leaf" (defArgs s_law_leaf) (defBody s_law_leaf) (defScope s_law_leaf) .none kV16 dc16 pm16 an16 cd16 ct16), sl16⟩) (c16 : PySem.W.codeIn K cd16 "_law_leaf" = true) (k16 : PySem.W.keepIn K (.ref f16) = true)
    {od17 an17 : Option Addr} {sl17 : Array (Option Value)} {oc17 kV17 dc17 pm17 cd17 ct17 : Value}
    (a17 : PySem.W.nsIn K mainGlobals "_law_word" = some (some (.ref f17))) (l17 : K.lookup f17 = some ⟨oc17, od17, .func (PySem.W.fnOf "_law_word" "_law_word" (defArgs s_law_word) (defBody s_law_word) (defScope s_law_word) .none kV17 dc17 pm17 an17 cd17 ct17), sl17⟩) (c17 : PySem.W.codeIn K cd17 "_law_word" = true) (k17 : PySem.W.keepIn K (.ref f17) = true)
    {od18 an18 : Option Addr} {sl18 : Array (Option Value)} {oc18 kV18 dc18 pm18 cd18 ct18 : Value}
    (a18 : PySem.W.nsIn K mainGlobals "_law_board" = some (some (.ref f18))) (l18 : K.lookup f18 = some ⟨oc18, od18, .func (PySem.W.fnOf "_law_board" "_law_board" (defArgs s_law_board) (defBody s_law_board) (defScope s_law_board) .none kV18 dc18 pm18 an18 cd18 ct18), sl18⟩) (c18 : PySem.W.codeIn K cd18 "_law_board" = true) (k18 : PySem.W.keepIn K (.ref f18) = true)
    {od19 an19 : Option Addr} {sl19 : Array (Option Value)} {oc19 kV19 dc19 pm19 cd19 ct19 : Value}
    (a19 : PySem.W.nsIn K mainGlobals "_law_bits" = some (some (.ref f19))) (l19 : K.lookup f19 = some ⟨oc19, od19, .func (PySem.W.fnOf "_law_bits" "_law_bits" (defArgs s_law_bits) (defBody s_law_bits) (defScope s_law_bits) .none kV19 dc19 pm19 an19 cd19 ct19), sl19⟩) (c19 : PySem.W.codeIn K cd19 "_law_bits" = true) (k19 : PySem.W.keepIn K (.ref f19) = true)
    {od20 an20 : Option Addr} {sl20 : Array (Option Value)} {oc20 kV20 dc20 pm20 cd20 ct20 : Value}
    (a20 : PySem.W.nsIn K mainGlobals "_law_refused" = some (some (.ref f20))) (l20 : K.lookup f20 = some ⟨oc20, od20, .func (PySem.W.fnOf "_law_refused" "_law_refused" (defArgs s_law_refused) (defBody s_law_refused) (defScope s_law_refused) .none kV20 dc20 pm20 an20 cd20 ct20), sl20⟩) (c20 : PySem.W.codeIn K cd20 "_law_refused" = true) (k20 : PySem.W.keepIn K (.ref f20) = true)
    {od21 an21 : Option Addr} {sl21 : Array (Option Value)} {oc21 kV21 dc21 pm21 cd21 ct21 : Value}
    (a21 : PySem.W.nsIn K mainGlobals "_law_told" = some (some (.ref f21))) (l21 : K.lookup f21 = some ⟨oc21, od21, .func (PySem.W.fnOf "_law_told" "_law_told" (defArgs s_law_told) (defBody s_law_told) (defScope s_law_told) .none kV21 dc21 pm21 an21 cd21 ct21), sl21⟩) (c21 : PySem.W.codeIn K cd21 "_law_told" = true) (k21 : PySem.W.keepIn K (.ref f21) = true)
    {od22 an22 : Option Addr} {sl22 : Array (Option Value)} {oc22 kV22 dc22 pm22 cd22 ct22 : Value}
    (a22 : PySem.W.nsIn K mainGlobals "_law_on" = some (some (.ref f22))) (l22 : K.lookup f22 = some ⟨oc22, od22, .func (PySem.W.fnOf "_law_on" "_law_on" (defArgs s_law_on) (defBody s_law_on) (defScope s_law_on) .none kV22 dc22 pm22 an22 cd22 ct22), sl22⟩) (c22 : PySem.W.codeIn K cd22 "_law_on" = true) (k22 : PySem.W.keepIn K (.ref f22) = true)
    {od23 an23 : Option Addr} {sl23 : Array (Option Value)} {oc23 kV23 dc23 pm23 cd23 ct23 : Value}
    (a23 : PySem.W.nsIn K mainGlobals "law" = some (some (.ref f23))) (l23 : K.lookup f23 = some ⟨oc23, od23, .func (PySem.W.fnOf "law" "law" (defArgs slaw) (defBody slaw) (defScope slaw) .none kV23 dc23 pm23 an23 cd23 ct23), sl23⟩) (c23 : PySem.W.codeIn K cd23 "law" = true) (k23 : PySem.W.keepIn K (.ref f23) = true)
    (z_range : PySem.W.nsIn K mainGlobals "range" = some none)
    (z_tuple : PySem.W.nsIn K mainGlobals "tuple" = some none)
    (z_len : PySem.W.nsIn K mainGlobals "len" = some none)
    (z_list : PySem.W.nsIn K mainGlobals "list" = some none)
    (z_all : PySem.W.nsIn K mainGlobals "all" = some none)
    (z_max : PySem.W.nsIn K mainGlobals "max" = some none)
    (z_isinstance : PySem.W.nsIn K mainGlobals "isinstance" = some none)
    (z_ValueError : PySem.W.nsIn K mainGlobals "ValueError" = some none)
    (z_sorted : PySem.W.nsIn K mainGlobals "sorted" = some none)
    {t_MOST_RELAYS : Tok} (g_MOST_RELAYS : PySem.W.nsIn K mainGlobals "MOST_RELAYS" = some (some (.int 6 t_MOST_RELAYS)))
    (aC_RoomError : PySem.W.nsIn K mainGlobals "RoomError" = some (some (.ref CRoomError)))
    (aC_TooMany : PySem.W.nsIn K mainGlobals "TooMany" = some (some (.ref CTooMany)))
    (aC_Deep : PySem.W.nsIn K mainGlobals "Deep" = some (some (.ref CDeep)))
    (aC_NoContact : PySem.W.nsIn K mainGlobals "NoContact" = some (some (.ref CNoContact)))
    (aC_NoRelay : PySem.W.nsIn K mainGlobals "NoRelay" = some (some (.ref CNoRelay)))
    (aC_Still : PySem.W.nsIn K mainGlobals "Still" = some (some (.ref CStill)))
    (aC_NoNote : PySem.W.nsIn K mainGlobals "NoNote" = some (some (.ref CNoNote)))
    (cl_RoomError : PySem.W.isClsIn K CRoomError = true) (tt_RoomError : PySem.W.typeIn K (.ref CRoomError) = some (.type "type"))
    (cl_TooMany : PySem.W.isClsIn K CTooMany = true) (tt_TooMany : PySem.W.typeIn K (.ref CTooMany) = some (.type "type"))
    (cl_Deep : PySem.W.isClsIn K CDeep = true) (tt_Deep : PySem.W.typeIn K (.ref CDeep) = some (.type "type"))
    (cl_NoContact : PySem.W.isClsIn K CNoContact = true) (tt_NoContact : PySem.W.typeIn K (.ref CNoContact) = some (.type "type"))
    (cl_NoRelay : PySem.W.isClsIn K CNoRelay = true) (tt_NoRelay : PySem.W.typeIn K (.ref CNoRelay) = some (.type "type"))
    (cl_Still : PySem.W.isClsIn K CStill = true) (tt_Still : PySem.W.typeIn K (.ref CStill) = some (.type "type"))
    (cl_NoNote : PySem.W.isClsIn K CNoNote = true) (tt_NoNote : PySem.W.typeIn K (.ref CNoNote) = some (.type "type"))
    (sbR : PySem.W.subIn K (.ref CRoomError) (.type "BaseException") = some true)
    (x_TooMany : PySem.W.excIn K CTooMany [.type "ValueError", .type "Exception", .type "BaseException", .type "object"] "ValueError.__new__" = true)
    (k_TooMany : PySem.W.keepIn K (.ref CTooMany) = true)
    (sb_TooMany : PySem.W.subIn K (.ref CTooMany) (.type "BaseException") = some true)
    (sv_TooMany : PySem.W.subIn K (.ref CTooMany) (.type "ValueError") = some true)
    (sr_TooMany : PySem.W.subIn K (.ref CTooMany) (.ref CRoomError) = some true)
    (s_TooMany_TooMany : PySem.W.subIn K (.ref CTooMany) (.ref CTooMany) = some true)
    (s_TooMany_Deep : PySem.W.subIn K (.ref CTooMany) (.ref CDeep) = some false)
    (s_TooMany_NoContact : PySem.W.subIn K (.ref CTooMany) (.ref CNoContact) = some false)
    (s_TooMany_NoRelay : PySem.W.subIn K (.ref CTooMany) (.ref CNoRelay) = some false)
    (s_TooMany_Still : PySem.W.subIn K (.ref CTooMany) (.ref CStill) = some false)
    (s_TooMany_NoNote : PySem.W.subIn K (.ref CTooMany) (.ref CNoNote) = some false)
    (hg_TooMany : PySem.W.findIn K (.ref CTooMany) "__getattribute__" = some (some (.builtin "BaseException.__getattribute__")))
    (hk_TooMany : PySem.W.findIn K (.ref CTooMany) "__getattr__" = some none)
    (hd_TooMany : PySem.W.hasDictIn K CTooMany = true)
    (ha_TooMany : PySem.W.findIn K (.ref CTooMany) "__class__" = some (some (.builtin "object.__class__")))
    (hm_TooMany : PySem.W.mroIn K CTooMany (.type "object") = some true)
    (x_n : PySem.W.specialIn K (.builtin "object.__class__") "__get__" = some (some (.builtin "getset_descriptor.__get__")))
    (x_t : PySem.W.takesIn K (.builtin "object.__class__") = some true)
    : ∃ fd : FuncData, (∀ (s : Shared) (v : Value), BindsTo s fd ⟨[v], []⟩ [("script", v)]) ∧ ∀ base : Heap, K.In base → base.Ns mainGlobals mg → FnOk l.prog w K mg base CX0 15 fa fd ["script"] (sp_law K) := by
  have e := hfa.symm.trans (PySem.W.mg_of X G a23)
  cases e
  have F0 := fun_mk (st := sparts) l0 c0 k0
  have F1 := fun_mk (st := sworth) l1 c1 k1
  have F2 := fun_mk (st := sswitches) l2 c2 k2
  have F3 := fun_mk (st := scan_move) l3 c3 k3
  have F4 := fun_mk (st := smovable) l4 c4 k4
  have F5 := fun_mk (st := smoved) l5 c5 k5
  have F6 := fun_mk (st := srests) l6 c6 k6
  have F7 := fun_mk (st := sshifted) l7 c7 k7
  have F8 := fun_mk (st := sbeside) l8 c8 k8
  have F9 := fun_mk (st := scome_to) l9 c9 k9
  have F10 := fun_mk (st := snumbered) l10 c10 k10
  have F11 := fun_mk (st := sring_from) l11 c11 k11
  have F12 := fun_mk (st := sjudged) l12 c12 k12
  have F13 := fun_mk (st := s_law_cell_at) l13 c13 k13
  have F14 := fun_mk (st := s_law_pick) l14 c14 k14
  have F15 := fun_mk (st := s_law_mix) l15 c15 k15
  have F16 := fun_mk (st := s_law_leaf) l16 c16 k16
  have F17 := fun_mk (st := s_law_word) l17 c17 k17
  have F18 := fun_mk (st := s_law_board) l18 c18 k18
  have F19 := fun_mk (st := s_law_bits) l19 c19 k19
  have F20 := fun_mk (st := s_law_refused) l20 c20 k20
  have F21 := fun_mk (st := s_law_told) l21 c21 k21
  have F22 := fun_mk (st := s_law_on) l22 c22 k22
  have F23 := fun_mk (st := slaw) l23 c23 k23
  have T : Txt K mg { aparts := f0, aworth := f1, aswitches := f2, acan_move := f3, amovable := f4, amoved := f5, arests := f6, ashifted := f7, abeside := f8, acome_to := f9, anumbered := f10, aring_from := f11, ajudged := f12, a_law_cell_at := f13, a_law_pick := f14, a_law_mix := f15, a_law_leaf := f16, a_law_word := f17, a_law_board := f18, a_law_bits := f19, a_law_refused := f20, a_law_told := f21, a_law_on := f22, alaw := fa, dparts := (PySem.W.fnOf "parts" "parts" (defArgs sparts) (defBody sparts) (defScope sparts) .none kV0 dc0 pm0 an0 cd0 ct0), dworth := (PySem.W.fnOf "worth" "worth" (defArgs sworth) (defBody sworth) (defScope sworth) .none kV1 dc1 pm1 an1 cd1 ct1), dswitches := (PySem.W.fnOf "switches" "switches" (defArgs sswitches) (defBody sswitches) (defScope sswitches) .none kV2 dc2 pm2 an2 cd2 ct2), dcan_move := (PySem.W.fnOf "can_move" "can_move" (defArgs scan_move) (defBody scan_move) (defScope scan_move) .none kV3 dc3 pm3 an3 cd3 ct3), dmovable := (PySem.W.fnOf "movable" "movable" (defArgs smovable) (defBody smovable) (defScope smovable) .none kV4 dc4 pm4 an4 cd4 ct4), dmoved := (PySem.W.fnOf "moved" "moved" (defArgs smoved) (defBody smoved) (defScope smoved) .none kV5 dc5 pm5 an5 cd5 ct5), drests := (PySem.W.fnOf "rests" "rests" (defArgs srests) (defBody srests) (defScope srests) .none kV6 dc6 pm6 an6 cd6 ct6), dshifted := (PySem.W.fnOf "shifted" "shifted" (defArgs sshifted) (defBody sshifted) (defScope sshifted) .none kV7 dc7 pm7 an7 cd7 ct7), dbeside := (PySem.W.fnOf "beside" "beside" (defArgs sbeside) (defBody sbeside) (defScope sbeside) .none kV8 dc8 pm8 an8 cd8 ct8), dcome_to := (PySem.W.fnOf "come_to" "come_to" (defArgs scome_to) (defBody scome_to) (defScope scome_to) .none kV9 dc9 pm9 an9 cd9 ct9), dnumbered := (PySem.W.fnOf "numbered" "numbered" (defArgs snumbered) (defBody snumbered) (defScope snumbered) .none kV10 dc10 pm10 an10 cd10 ct10), dring_from := (PySem.W.fnOf "ring_from" "ring_from" (defArgs sring_from) (defBody sring_from) (defScope sring_from) .none kV11 dc11 pm11 an11 cd11 ct11), djudged := (PySem.W.fnOf "judged" "judged" (defArgs sjudged) (defBody sjudged) (defScope sjudged) .none kV12 dc12 pm12 an12 cd12 ct12), d_law_cell_at := (PySem.W.fnOf "_law_cell_at" "_law_cell_at" (defArgs s_law_cell_at) (defBody s_law_cell_at) (defScope s_law_cell_at) .none kV13 dc13 pm13 an13 cd13 ct13), d_law_pick := (PySem.W.fnOf "_law_pick" "_law_pick" (defArgs s_law_pick) (defBody s_law_pick) (defScope s_law_pick) .none kV14 dc14 pm14 an14 cd14 ct14), d_law_mix := (PySem.W.fnOf "_law_mix" "_law_mix" (defArgs s_law_mix) (defBody s_law_mix) (defScope s_law_mix) .none kV15 dc15 pm15 an15 cd15 ct15), d_law_leaf := (PySem.W.fnOf "_law_leaf" "_law_leaf" (defArgs s_law_leaf) (defBody s_law_leaf) (defScope s_law_leaf) .none kV16 dc16 pm16 an16 cd16 ct16), d_law_word := (PySem.W.fnOf "_law_word" "_law_word" (defArgs s_law_word) (defBody s_law_word) (defScope s_law_word) .none kV17 dc17 pm17 an17 cd17 ct17), d_law_board := (PySem.W.fnOf "_law_board" "_law_board" (defArgs s_law_board) (defBody s_law_board) (defScope s_law_board) .none kV18 dc18 pm18 an18 cd18 ct18), d_law_bits := (PySem.W.fnOf "_law_bits" "_law_bits" (defArgs s_law_bits) (defBody s_law_bits) (defScope s_law_bits) .none kV19 dc19 pm19 an19 cd19 ct19), d_law_refused := (PySem.W.fnOf "_law_refused" "_law_refused" (defArgs s_law_refused) (defBody s_law_refused) (defScope s_law_refused) .none kV20 dc20 pm20 an20 cd20 ct20), d_law_told := (PySem.W.fnOf "_law_told" "_law_told" (defArgs s_law_told) (defBody s_law_told) (defScope s_law_told) .none kV21 dc21 pm21 an21 cd21 ct21), d_law_on := (PySem.W.fnOf "_law_on" "_law_on" (defArgs s_law_on) (defBody s_law_on) (defScope s_law_on) .none kV22 dc22 pm22 an22 cd22 ct22), dlaw := (PySem.W.fnOf "law" "law" (defArgs slaw) (defBody slaw) (defScope slaw) .none kV23 dc23 pm23 an23 cd23 ct23), CRoomError := CRoomError, CTooMany := CTooMany, CDeep := CDeep, CNoContact := CNoContact, CNoRelay := CNoRelay, CStill := CStill, CNoNote := CNoNote } := {
    F_parts := F0,
    m_parts := PySem.W.mg_of X G a0,
    b_parts := F0.binds (ps := ["word"]) fun _ _ _ _ _ _ us hl => match us, hl with | [_], _ => rfl,
    F_worth := F1,
    m_worth := PySem.W.mg_of X G a1,
    b_worth := F1.binds (ps := ["word", "stand", "pressed"]) fun _ _ _ _ _ _ us hl => match us, hl with | [_, _, _], _ => rfl,
    F_switches := F2,
    m_switches := PySem.W.mg_of X G a2,
    b_switches := F2.binds (ps := ["many"]) fun _ _ _ _ _ _ us hl => match us, hl with | [_], _ => rfl,
    F_can_move := F3,
    m_can_move := PySem.W.mg_of X G a3,
    b_can_move := F3.binds (ps := ["board", "pressed", "stand", "relay"]) fun _ _ _ _ _ _ us hl => match us, hl with | [_, _, _, _], _ => rfl,
    F_movable := F4,
    m_movable := PySem.W.mg_of X G a4,
    b_movable := F4.binds (ps := ["board", "pressed", "stand"]) fun _ _ _ _ _ _ us hl => match us, hl with | [_, _, _], _ => rfl,
    F_moved := F5,
    m_moved := PySem.W.mg_of X G a5,
    b_moved := F5.binds (ps := ["stand", "relay"]) fun _ _ _ _ _ _ us hl => match us, hl with | [_, _], _ => rfl,
    F_rests := F6,
    m_rests := PySem.W.mg_of X G a6,
    b_rests := F6.binds (ps := ["board", "pressed"]) fun _ _ _ _ _ _ us hl => match us, hl with | [_, _], _ => rfl,
    F_shifted := F7,
    m_shifted := PySem.W.mg_of X G a7,
    b_shifted := F7.binds (ps := ["word", "relays", "buttons"]) fun _ _ _ _ _ _ us hl => match us, hl with | [_, _, _], _ => rfl,
    F_beside := F8,
    m_beside := PySem.W.mg_of X G a8,
    b_beside := F8.binds (ps := ["one", "buttons", "other"]) fun _ _ _ _ _ _ us hl => match us, hl with | [_, _, _], _ => rfl,
    F_come_to := F9,
    m_come_to := PySem.W.mg_of X G a9,
    b_come_to := F9.binds (ps := ["board", "pressed", "stand"]) fun _ _ _ _ _ _ us hl => match us, hl with | [_, _, _], _ => rfl,
    F_numbered := F10,
    m_numbered := PySem.W.mg_of X G a10,
    b_numbered := F10.binds (ps := ["board", "pressed", "stands"]) fun _ _ _ _ _ _ us hl => match us, hl with | [_, _, _], _ => rfl,
    F_ring_from := F11,
    m_ring_from := PySem.W.mg_of X G a11,
    b_ring_from := F11.binds (ps := ["board", "pressed", "stands", "paper"]) fun _ _ _ _ _ _ us hl => match us, hl with | [_, _, _, _], _ => rfl,
    F_judged := F12,
    m_judged := PySem.W.mg_of X G a12,
    b_judged := F12.binds (ps := ["board", "pressed", "stand"]) fun _ _ _ _ _ _ us hl => match us, hl with | [_, _, _], _ => rfl,
    F__law_cell_at := F13,
    m__law_cell_at := PySem.W.mg_of X G a13,
    b__law_cell_at := F13.binds (ps := ["script", "k"]) fun _ _ _ _ _ _ us hl => match us, hl with | [_, _], _ => rfl,
    F__law_pick := F14,
    m__law_pick := PySem.W.mg_of X G a14,
    b__law_pick := F14.binds (ps := ["script", "k"]) fun _ _ _ _ _ _ us hl => match us, hl with | [_, _], _ => rfl,
    F__law_mix := F15,
    m__law_mix := PySem.W.mg_of X G a15,
    b__law_mix := F15.binds (ps := ["cell", "k"]) fun _ _ _ _ _ _ us hl => match us, hl with | [_, _], _ => rfl,
    F__law_leaf := F16,
    m__law_leaf := PySem.W.mg_of X G a16,
    b__law_leaf := F16.binds (ps := ["mixed", "relays", "buttons"]) fun _ _ _ _ _ _ us hl => match us, hl with | [_, _, _], _ => rfl,
    F__law_word := F17,
    m__law_word := PySem.W.mg_of X G a17,
    b__law_word := F17.binds (ps := ["cell", "k", "deep", "relays", "buttons"]) fun _ _ _ _ _ _ us hl => match us, hl with | [_, _, _, _, _], _ => rfl,
    F__law_board := F18,
    m__law_board := PySem.W.mg_of X G a18,
    b__law_board := F18.binds (ps := ["script", "start", "relays", "buttons", "deep"]) fun _ _ _ _ _ _ us hl => match us, hl with | [_, _, _, _, _], _ => rfl,
    F__law_bits := F19,
    m__law_bits := PySem.W.mg_of X G a19,
    b__law_bits := F19.binds (ps := ["number", "size"]) fun _ _ _ _ _ _ us hl => match us, hl with | [_, _], _ => rfl,
    F__law_refused := F20,
    m__law_refused := PySem.W.mg_of X G a20,
    b__law_refused := F20.binds (ps := ["marks", "which"]) fun _ _ _ _ _ _ us hl => match us, hl with | [_, _], _ => rfl,
    F__law_told := F21,
    m__law_told := PySem.W.mg_of X G a21,
    b__law_told := F21.binds (ps := ["one", "buttons", "other"]) fun _ _ _ _ _ _ us hl => match us, hl with | [_, _, _], _ => rfl,
    F__law_on := F22,
    m__law_on := PySem.W.mg_of X G a22,
    b__law_on := F22.binds (ps := ["word", "relays", "buttons"]) fun _ _ _ _ _ _ us hl => match us, hl with | [_, _, _], _ => rfl,
    F_law := F23,
    m_law := PySem.W.mg_of X G a23,
    b_law := F23.binds (ps := ["script"]) fun _ _ _ _ _ _ us hl => match us, hl with | [_], _ => rfl,
    n_range := PySem.W.mg_none_of X G z_range,
    n_tuple := PySem.W.mg_none_of X G z_tuple,
    n_len := PySem.W.mg_none_of X G z_len,
    n_list := PySem.W.mg_none_of X G z_list,
    n_all := PySem.W.mg_none_of X G z_all,
    n_max := PySem.W.mg_none_of X G z_max,
    n_isinstance := PySem.W.mg_none_of X G z_isinstance,
    n_ValueError := PySem.W.mg_none_of X G z_ValueError,
    n_sorted := PySem.W.mg_none_of X G z_sorted,
    g_MOST_RELAYS := ⟨_, PySem.W.mg_of X G g_MOST_RELAYS⟩,
    c_RoomError := PySem.W.mg_of X G aC_RoomError,
    c_TooMany := PySem.W.mg_of X G aC_TooMany,
    x_TooMany := x_TooMany,
    k_TooMany := k_TooMany,
    sb_TooMany := sb_TooMany,
    ty_TooMany := tt_TooMany,
    e_TooMany := exm_own sbR cl_RoomError tt_RoomError sr_TooMany,
    v_TooMany := kit_val sv_TooMany,
    i_TooMany_TooMany := kit_own cl_TooMany tt_TooMany s_TooMany_TooMany s_TooMany_TooMany,
    i_TooMany_Deep := kit_own cl_Deep tt_Deep s_TooMany_Deep s_TooMany_TooMany,
    i_TooMany_NoContact := kit_own cl_NoContact tt_NoContact s_TooMany_NoContact s_TooMany_TooMany,
    i_TooMany_NoRelay := kit_own cl_NoRelay tt_NoRelay s_TooMany_NoRelay s_TooMany_TooMany,
    i_TooMany_Still := kit_own cl_Still tt_Still s_TooMany_Still s_TooMany_TooMany,
    i_TooMany_NoNote := kit_own cl_NoNote tt_NoNote s_TooMany_NoNote s_TooMany_TooMany,
    E_TooMany := ⟨hg_TooMany, hk_TooMany, sb_TooMany, hd_TooMany, ha_TooMany, x_n, x_t, hm_TooMany⟩,
    c_Deep := PySem.W.mg_of X G aC_Deep,
    c_NoContact := PySem.W.mg_of X G aC_NoContact,
    c_NoRelay := PySem.W.mg_of X G aC_NoRelay,
    c_Still := PySem.W.mg_of X G aC_Still,
    c_NoNote := PySem.W.mg_of X G aC_NoNote }
  exact ⟨(PySem.W.fnOf "law" "law" (defArgs slaw) (defBody slaw) (defScope slaw) .none kV23 dc23 pm23 an23 cd23 ct23), fun s v => .of_eq rfl, fun base _ _ => ok_law T⟩
end Rl
open PySem PySem.W PyProof.Rows in
set_option maxRecDepth 100000 in
set_option maxHeartbeats 0 in
theorem PySem.Challenge.cw_relayroom_k11_whole_side_by_side_holds : PySem.Challenge.rw_relayroom_k11_whole_side_by_side.Holds := by
  w_on; o_law; k_head; (case hw => w_witness2)
  k_fill
  refine L2.walk_of (l := PySem.Challenge.rw_relayroom_k11_whole_side_by_side) (n := 63) (k := 15) (x := "script") (CX := fun w => L2.CX0) (sp := fun w => Rl.sp_law _) rfl (by decide) rfl ⟨rfl, by decide, by decide⟩ (fun w h Y => PySem.W.kIn_of Y) ?F (fun _ _ a ns hl _ hS => ⟨a, ns, rfl, hS, hl, fun _ => rfl⟩) (fun _ _ _ _ _ h => h)
  case F =>
    intro w mg fa h KX G hmg
    refine' Rl.all_mk KX G hmg ?a0 ?l0 ?c0 ?k0 ?a1 ?l1 ?c1 ?k1 ?a2 ?l2 ?c2 ?k2 ?a3 ?l3 ?c3 ?k3 ?a4 ?l4 ?c4 ?k4 ?a5 ?l5 ?c5 ?k5 ?a6 ?l6 ?c6 ?k6 ?a7 ?l7 ?c7 ?k7 ?a8 ?l8 ?c8 ?k8 ?a9 ?l9 ?c9 ?k9 ?a10 ?l10 ?c10 ?k10 ?a11 ?l11 ?c11 ?k11 ?a12 ?l12 ?c12 ?k12 ?a13 ?l13 ?c13 ?k13 ?a14 ?l14 ?c14 ?k14 ?a15 ?l15 ?c15 ?k15 ?a16 ?l16 ?c16 ?k16 ?a17 ?l17 ?c17 ?k17 ?a18 ?l18 ?c18 ?k18 ?a19 ?l19 ?c19 ?k19 ?a20 ?l20 ?c20 ?k20 ?a21 ?l21 ?c21 ?k21 ?a22 ?l22 ?c22 ?k22 ?a23 ?l23 ?c23 ?k23 ?z_range ?z_tuple ?z_len ?z_list ?z_all ?z_max ?z_isinstance ?z_ValueError ?z_sorted ?g_MOST_RELAYS ?aC_RoomError ?aC_TooMany ?aC_Deep ?aC_NoContact ?aC_NoRelay ?aC_Still ?aC_NoNote ?cl_RoomError ?tt_RoomError ?cl_TooMany ?tt_TooMany ?cl_Deep ?tt_Deep ?cl_NoContact ?tt_NoContact ?cl_NoRelay ?tt_NoRelay ?cl_Still ?tt_Still ?cl_NoNote ?tt_NoNote ?sbR ?x_TooMany ?k_TooMany ?sb_TooMany ?sv_TooMany ?sr_TooMany ?s_TooMany_TooMany ?s_TooMany_Deep ?s_TooMany_NoContact ?s_TooMany_NoRelay ?s_TooMany_Still ?s_TooMany_NoNote ?hg_TooMany ?hk_TooMany ?hd_TooMany ?ha_TooMany ?hm_TooMany ?x_n ?x_t
    (case a0 => k_is)
    (case l0 => k_is)
    (case c0 => k_is)
    (case k0 => k_is)
    (case a1 => k_is)
    (case l1 => k_is)
    (case c1 => k_is)
    (case k1 => k_is)
    (case a2 => k_is)
    (case l2 => k_is)
    (case c2 => k_is)
    (case k2 => k_is)
    (case a3 => k_is)
    (case l3 => k_is)
    (case c3 => k_is)
    (case k3 => k_is)
    (case a4 => k_is)
    (case l4 => k_is)
    (case c4 => k_is)
    (case k4 => k_is)
    (case a5 => k_is)
    (case l5 => k_is)
    (case c5 => k_is)
    (case k5 => k_is)
    (case a6 => k_is)
    (case l6 => k_is)
    (case c6 => k_is)
    (case k6 => k_is)
    (case a7 => k_is)
    (case l7 => k_is)
    (case c7 => k_is)
    (case k7 => k_is)
    (case a8 => k_is)
    (case l8 => k_is)
    (case c8 => k_is)
    (case k8 => k_is)
    (case a9 => k_is)
    (case l9 => k_is)
    (case c9 => k_is)
    (case k9 => k_is)
    (case a10 => k_is)
    (case l10 => k_is)
    (case c10 => k_is)
    (case k10 => k_is)
    (case a11 => k_is)
    (case l11 => k_is)
    (case c11 => k_is)
    (case k11 => k_is)
    (case a12 => k_is)
    (case l12 => k_is)
    (case c12 => k_is)
    (case k12 => k_is)
    (case a13 => k_is)
    (case l13 => k_is)
    (case c13 => k_is)
    (case k13 => k_is)
    (case a14 => k_is)
    (case l14 => k_is)
    (case c14 => k_is)
    (case k14 => k_is)
    (case a15 => k_is)
    (case l15 => k_is)
    (case c15 => k_is)
    (case k15 => k_is)
    (case a16 => k_is)
    (case l16 => k_is)
    (case c16 => k_is)
    (case k16 => k_is)
    (case a17 => k_is)
    (case l17 => k_is)
    (case c17 => k_is)
    (case k17 => k_is)
    (case a18 => k_is)
    (case l18 => k_is)
    (case c18 => k_is)
    (case k18 => k_is)
    (case a19 => k_is)
    (case l19 => k_is)
    (case c19 => k_is)
    (case k19 => k_is)
    (case a20 => k_is)
    (case l20 => k_is)
    (case c20 => k_is)
    (case k20 => k_is)
    (case a21 => k_is)
    (case l21 => k_is)
    (case c21 => k_is)
    (case k21 => k_is)
    (case a22 => k_is)
    (case l22 => k_is)
    (case c22 => k_is)
    (case k22 => k_is)
    (case a23 => k_is)
    (case l23 => k_is)
    (case c23 => k_is)
    (case k23 => k_is)
    (case z_range => k_is)
    (case z_tuple => k_is)
    (case z_len => k_is)
    (case z_list => k_is)
    (case z_all => k_is)
    (case z_max => k_is)
    (case z_isinstance => k_is)
    (case z_ValueError => k_is)
    (case z_sorted => k_is)
    (case g_MOST_RELAYS => k_is)
    (case aC_RoomError => k_is)
    (case aC_TooMany => k_is)
    (case aC_Deep => k_is)
    (case aC_NoContact => k_is)
    (case aC_NoRelay => k_is)
    (case aC_Still => k_is)
    (case aC_NoNote => k_is)
    (case cl_RoomError => k_is)
    (case tt_RoomError => k_is)
    (case cl_TooMany => k_is)
    (case tt_TooMany => k_is)
    (case cl_Deep => k_is)
    (case tt_Deep => k_is)
    (case cl_NoContact => k_is)
    (case tt_NoContact => k_is)
    (case cl_NoRelay => k_is)
    (case tt_NoRelay => k_is)
    (case cl_Still => k_is)
    (case tt_Still => k_is)
    (case cl_NoNote => k_is)
    (case tt_NoNote => k_is)
    (case sbR => k_is)
    (case x_TooMany => k_exc)
    (case k_TooMany => k_is)
    (case sb_TooMany => k_is)
    (case sv_TooMany => k_is)
    (case sr_TooMany => k_is)
    (case s_TooMany_TooMany => first | rfl | k_is)
    (case s_TooMany_Deep => first | rfl | k_is)
    (case s_TooMany_NoContact => first | rfl | k_is)
    (case s_TooMany_NoRelay => first | rfl | k_is)
    (case s_TooMany_Still => first | rfl | k_is)
    (case s_TooMany_NoNote => first | rfl | k_is)
    (case hg_TooMany => k_is)
    (case hk_TooMany => k_is)
    (case hd_TooMany => k_is)
    (case ha_TooMany => k_is)
    (case hm_TooMany => k_is)
    (case x_n => k_is)
    (case x_t => k_is)
#print axioms PySem.Challenge.cw_relayroom_k11_whole_side_by_side_holds
