import PyProof.Rows.All
import Wide.All
import OpenK.AllK
import Wide.FinOn
import HandS.ForMost
import HandS.ForExc
import HandS.IsInst
import HandS.ExcIs
import HandS.Flow
import HandS.WideBits
import HandS.Codes
import HandS.TupAny
import PySem.Challenge.RW_relayroom_k04_moves
set_option Elab.async false
set_option linter.all false
set_option maxRecDepth 100000
namespace Rl
open PySem L2
/-! ### words -/
inductive W where
  | on | off | relay (k : Int) | button (k : Int) | not (w : W) | and (a b : W) | or (a b : W)
  deriving DecidableEq
def W.depth : W → Nat
  | .not w => w.depth + 1
  | .and a b => max a.depth b.depth + 1
  | .or a b => max a.depth b.depth + 1
  | _ => 1
/-- all contacts are there: n relays, m buttons -/
def W.wired (n m : Nat) : W → Prop
  | .on => True
  | .off => True
  | .relay k => 0 ≤ k ∧ k < (n : Int)
  | .button k => 0 ≤ k ∧ k < (m : Int)
  | .not w => w.wired n m
  | .and a b => a.wired n m ∧ b.wired n m
  | .or a b => a.wired n m ∧ b.wired n m
theorem W.depth_pos : ∀ w : W, 1 ≤ w.depth
  | .on => Nat.le_refl _
  | .off => Nat.le_refl _
  | .relay _ => Nat.le_refl _
  | .button _ => Nat.le_refl _
  | .not _ => Nat.le_add_left _ _
  | .and _ _ => Nat.le_add_left _ _
  | .or _ _ => Nat.le_add_left _ _
def W.eval (st pr : List Bool) : W → Bool
  | .on => true
  | .off => false
  | .relay k => st.getD k.toNat false
  | .button k => pr.getD k.toNat false
  | .not w => !w.eval st pr
  | .and a b => a.eval st pr && b.eval st pr
  | .or a b => a.eval st pr || b.eval st pr
/-- a word stands at a -/
def WA (H : Hp) : W → Addr → Prop
  | .on, a => H a = some (.tup [.str "on"])
  | .off, a => H a = some (.tup [.str "off"])
  | .relay k, a => H a = some (.tup [.str "relay", .int k])
  | .button k, a => H a = some (.tup [.str "button", .int k])
  | .not w, a => ∃ b, H a = some (.tup [.str "not", .ref b]) ∧ WA H w b
  | .and x y, a => ∃ b c, H a = some (.tup [.str "and", .ref b, .ref c]) ∧ WA H x b ∧ WA H y c
  | .or x y, a => ∃ b c, H a = some (.tup [.str "or", .ref b, .ref c]) ∧ WA H x b ∧ WA H y c
/-- tuples stay -/
def Tk (H H' : Hp) : Prop := ∀ b xs, H b = some (.tup xs) → H' b = some (.tup xs)
theorem Tk.refl (H : Hp) : Tk H H := fun _ _ h => h
theorem Tk.trans {H H1 H2 : Hp} (a : Tk H H1) (b : Tk H1 H2) : Tk H H2 := fun c o h => b c o (a c o h)
theorem Same.tk {H H' : Hp} (s : Same H H') : Tk H H' := fun b xs h => s b _ h
theorem Tk.lst {H : Hp} {D : Addr} {xs ys : List V} (h : H D = some (.lst xs)) : Tk H (upd H D (.lst ys)) := fun b zs q => by
  rw [upd_ne (ne_of q h (by intro z; cases z))]; exact q
theorem Tk.new {H : Hp} {p : Addr} {o : HO} (h : H p = none) : Tk H (upd H p o) := fun b zs q => by
  rw [upd_ne (ne_of_none q h)]; exact q
theorem Same.new {H : Hp} {p : Addr} {o : HO} (h : H p = none) : Same H (upd H p o) := fun b u q => by rw [upd_ne (ne_of_none q h)]; exact q
theorem Same.get {H H' : Hp} {b : Addr} {o : HO} (s : Same H H') (h : H b = some o) : H' b = some o := s b o h
theorem Same.lst {H0 H : Hp} {D : Addr} {o : HO} (h : Same H0 H) (n : H0 D = none) : Same H0 (upd H D o) := fun b u q => by
  rw [upd_ne (ne_of_none q n)]; exact h b u q
theorem WA.tk : ∀ {w : W} {H H' : Hp} {a : Addr}, Tk H H' → WA H w a → WA H' w a
  | .on, _, _, _, t, h => t _ _ h
  | .off, _, _, _, t, h => t _ _ h
  | .relay _, _, _, _, t, h => t _ _ h
  | .button _, _, _, _, t, h => t _ _ h
  | .not _, _, _, _, t, h => let ⟨b, e, q⟩ := h; ⟨b, t _ _ e, WA.tk t q⟩
  | .and _ _, _, _, _, t, h => let ⟨b, c, e, q, r⟩ := h; ⟨b, c, t _ _ e, WA.tk t q, WA.tk t r⟩
  | .or _ _, _, _, _, t, h => let ⟨b, c, e, q, r⟩ := h; ⟨b, c, t _ _ e, WA.tk t q, WA.tk t r⟩
theorem WA.same {w : W} {H H' : Hp} {a : Addr} (s : Same H H') (h : WA H w a) : WA H' w a := WA.tk (Same.tk s) h
/-- a list's items are words -/
def WAs (H : Hp) (ws : List W) (vs : List V) : Prop := Paired (fun (w : W) (v : V) => ∃ a, v = .ref a ∧ WA H w a) ws vs
theorem paired_snoc {α β : Type} {F : α → β → Prop} : ∀ {l : List α} {r : List β} {a : α} {b : β}, Paired F l r → F a b → Paired F (l ++ [a]) (r ++ [b])
  | _, _, _, _, .nil, h => .cons h .nil
  | _, _, _, _, .cons r t, h => .cons r (paired_snoc t h)
theorem paired_get {α β : Type} {F : α → β → Prop} : ∀ {l : List α} {r : List β} {i : Nat} {b : β}, Paired F l r → r[i]? = some b → ∃ a, l[i]? = some a ∧ F a b
  | _, _, _, _, .nil, h => by simp at h
  | _, _, 0, _, .cons r t, h => by simp at h; subst h; exact ⟨_, rfl, r⟩
  | _, _, i + 1, b, .cons r t, h => by
    obtain ⟨a, e, q⟩ := paired_get (i := i) (b := b) t (by simpa using h)
    exact ⟨a, by simpa using e, q⟩
theorem paired_getl {α β : Type} {F : α → β → Prop} : ∀ {l : List α} {r : List β} {i : Nat} {a : α}, Paired F l r → l[i]? = some a → ∃ b, r[i]? = some b ∧ F a b
  | _, _, _, _, .nil, h => by simp at h
  | _, _, 0, _, .cons r t, h => by simp at h; subst h; exact ⟨_, rfl, r⟩
  | _, _, i + 1, a, .cons r t, h => by
    obtain ⟨b, e, q⟩ := paired_getl (i := i) (a := a) t (by simpa using h)
    exact ⟨b, by simpa using e, q⟩
theorem WAs.tk {H H' : Hp} {ws : List W} {vs : List V} (t : Tk H H') (h : WAs H ws vs) : WAs H' ws vs := Paired.mapP h fun _ _ ⟨a, e, q⟩ => ⟨a, e, WA.tk t q⟩
theorem WAs.same {H H' : Hp} {ws : List W} {vs : List V} (t : Same H H') (h : WAs H ws vs) : WAs H' ws vs := WAs.tk (Same.tk t) h
theorem WAs.length {H : Hp} {ws : List W} {vs : List V} (h : WAs H ws vs) : ws.length = vs.length := Paired.length h
theorem inV_bl (b : Bool) : ∀ bs : List Bool, inV (.bl b) (bs.map V.bl) = bs.any (fun x => x == b)
  | [] => rfl
  | x :: r => by
    show (eqV (.bl x) (.bl b) || inV (.bl b) (r.map V.bl)) = ((x == b) || r.any (fun x => x == b))
    rw [inV_bl b r]
    cases x <;> cases b <;> rfl
theorem flat_bl : ∀ bs : List Bool, (bs.map V.bl).all flatV = true
  | [] => rfl
  | _ :: r => flat_bl r
def W.parts : W → List W
  | .not w => [w]
  | .and a b => [a, b]
  | .or a b => [a, b]
  | _ => []
theorem cut1 (x : V) (xs : List V) : cutV (x :: xs) (some 1) none = xs := by
  unfold cutV
  rw [show HT.sIx (x :: xs).length 0 (some 1) = min 1 (x :: xs).length from HT.sIx_nat (x :: xs).length 0 1, HT.sIx_none]
  rw [show min 1 (x :: xs).length = 1 by rw [List.length_cons]; omega]
  show List.take ((x :: xs).length - 1) xs = xs
  rw [List.length_cons, Nat.add_sub_cancel]
  exact List.take_length
/-- a word's place, told by its tag and its parts -/
def W.tag : W → Str
  | .on => "on" | .off => "off" | .relay _ => "relay" | .button _ => "button" | .not _ => "not" | .and _ _ => "and" | .or _ _ => "or"
theorem WA.parts {H : Hp} {w : W} {a : Addr} (h : WA H w a) (n1 : ∀ k, w ≠ .relay k) (n2 : ∀ k, w ≠ .button k) : ∃ us, H a = some (.tup (.str w.tag :: us)) ∧ WAs H w.parts us := by
  cases w with
  | on => exact ⟨[], h, .nil⟩
  | off => exact ⟨[], h, .nil⟩
  | relay k => exact absurd rfl (n1 k)
  | button k => exact absurd rfl (n2 k)
  | not x => obtain ⟨b, e, q⟩ := h; exact ⟨_, e, .cons ⟨b, rfl, q⟩ .nil⟩
  | and x y => obtain ⟨b, c, e, q, r⟩ := h; exact ⟨_, e, .cons ⟨b, rfl, q⟩ (.cons ⟨c, rfl, r⟩ .nil)⟩
  | or x y => obtain ⟨b, c, e, q, r⟩ := h; exact ⟨_, e, .cons ⟨b, rfl, q⟩ (.cons ⟨c, rfl, r⟩ .nil)⟩
theorem parts_ok {w x : W} {n m N : Nat} (hx : x ∈ w.parts) (hw : w.wired n m) (hd : w.depth ≤ N + 1) : x.wired n m ∧ x.depth ≤ N := by
  cases w with
  | not y =>
    rcases List.mem_singleton.mp hx with rfl
    exact ⟨hw, Nat.le_of_succ_le_succ hd⟩
  | and y z =>
    have hd' : max y.depth z.depth + 1 ≤ N + 1 := hd
    rcases List.mem_cons.mp hx with rfl | hx
    · exact ⟨hw.1, by omega⟩
    · rcases List.mem_singleton.mp hx with rfl
      exact ⟨hw.2, by omega⟩
  | or y z =>
    have hd' : max y.depth z.depth + 1 ≤ N + 1 := hd
    rcases List.mem_cons.mp hx with rfl | hx
    · exact ⟨hw.1, by omega⟩
    · rcases List.mem_singleton.mp hx with rfl
      exact ⟨hw.2, by omega⟩
  | on => cases hx
  | off => cases hx
  | relay k => cases hx
  | button k => cases hx
/-! ### tests -/
theorem iF {c : Bool} {A B : Prop} (h : c = false) (q : B) : if c = true then A else B := by rw [h]; exact iteF q
theorem iT {c : Bool} {A B : Prop} (h : c = true) (q : A) : if c = true then A else B := by rw [h]; exact iteT q
theorem iB {c : Bool} {A B : Prop} (h1 : c = true → A) (h2 : c = false → B) : if c = true then A else B := by
  cases c with
  | true => exact iteT (h1 rfl)
  | false => exact iteF (h2 rfl)
abbrev rLenSeq (K : PySem.W.Frag) : List V → Hp → VK → Prop := fun xs H Q => ∃ p ys, xs = [.ref p] ∧ (SqL K H p ys ∨ SqT K H p ys) ∧ Q (.int ys.length) H
theorem tag_val {K : PySem.W.Frag} {σ : St} {H : Hp} {Q : VK} {i : Nat} {a : Addr} {t s : Str} {rest : List V} (h : σ[i]? = some (some (.ref a))) (e : H a = some (.tup (.str t :: rest))) (q : Q (.bl (decide (V.str t = V.str s))) H) :
    tOp rEq (tOp (rIxT K) (tVar i) (tC (.int 0))) (tC (.str s)) σ H Q := ⟨_, h, _, _, _, _, rfl, rfl, .of e, atI_nat (j := 0) rfl, rfl, q⟩
theorem tag_test {K : PySem.W.Frag} {σ : St} {H : Hp} {Q : Bool → Hp → Prop} {i : Nat} {a : Addr} {t s : Str} {rest : List V} (h : σ[i]? = some (some (.ref a))) (e : H a = some (.tup (.str t :: rest))) (q : Q (decide (V.str t = V.str s)) H) :
    tTest (tOp rEq (tOp (rIxT K) (tVar i) (tC (.int 0))) (tC (.str s))) σ H Q := tag_val h e ⟨_, rfl, q⟩
theorem at_bl {bs : List Bool} {k : Int} (h0 : 0 ≤ k) (h1 : k < (bs.length : Int)) : atI (bs.map V.bl) k = some (.bl (bs.getD k.toNat false)) := by
  have h : k.toNat < bs.length := by omega
  refine at_of (j := k.toNat) (by omega) ?_
  rw [List.getElem?_map, List.getElem?_eq_getElem h, List.getD_eq_getElem?_getD, List.getElem?_eq_getElem h]; rfl
theorem notF {b : Bool} (h : (!b) = false) : b = true := by cases b <;> first | rfl | cases h
theorem notT {b : Bool} (h : (!b) = true) : b = false := by cases b <;> first | rfl | cases h
theorem WA.pairs {H : Hp} {x : W} {a : Addr} (h : WA H x a) : (∃ y z, x = .and y z) ∨ (∃ y z, x = .or y z) ∨ (∃ t us, H a = some (.tup (.str t :: us)) ∧ decide (V.str t = V.str "and") = false ∧ decide (V.str t = V.str "or") = false) := by
  cases x with
  | and y z => exact .inl ⟨_, _, rfl⟩
  | or y z => exact .inr (.inl ⟨_, _, rfl⟩)
  | not y => obtain ⟨b, e, _⟩ := h; exact .inr (.inr ⟨_, _, e, decide_eq_false (by decide +kernel), decide_eq_false (by decide +kernel)⟩)
  | on => exact .inr (.inr ⟨_, _, h, decide_eq_false (by decide +kernel), decide_eq_false (by decide +kernel)⟩)
  | off => exact .inr (.inr ⟨_, _, h, decide_eq_false (by decide +kernel), decide_eq_false (by decide +kernel)⟩)
  | relay k => exact .inr (.inr ⟨_, _, h, decide_eq_false (by decide +kernel), decide_eq_false (by decide +kernel)⟩)
  | button k => exact .inr (.inr ⟨_, _, h, decide_eq_false (by decide +kernel), decide_eq_false (by decide +kernel)⟩)
theorem small10 {n : Nat} (h : n ≤ 10000) : n ≤ sizeLine := Nat.le_trans h (by decide)
theorem small11 {n : Nat} (h : n ≤ 10000) : n < sizeLine := Nat.lt_of_le_of_lt h (by decide)
/-! ### data of the law's own -/
def bits (z : Int) (n : Nat) : List Bool := (List.range n).map fun k => decide (z / 2 ^ k % 2 = 1)
theorem bits_succ (z : Int) (n : Nat) : bits z (n + 1) = bits z n ++ [decide (z / 2 ^ n % 2 = 1)] := by unfold bits; rw [List.range_succ, List.map_append]; rfl
theorem bits_len (z : Int) (n : Nat) : (bits z n).length = n := by unfold bits; rw [List.length_map, List.length_range]
theorem dec_vi (a b : Int) : decide (V.int a = V.int b) = decide (a = b) := decide_eq_decide.mpr ⟨fun e => V.int.inj e, fun e => by rw [e]⟩
theorem toNat0 (i : Nat) : ((0 : Int) + (i : Int)).toNat = i := by omega
def Fit (n m : Nat) (d : Int) (w : W) : Prop := w.wired n m ∧ (w.depth : Int) ≤ d
def Fits (n m : Nat) (d : Int) (ws : List W) : Prop := ∀ w ∈ ws, Fit n m d w
theorem Fits.snoc {n m : Nat} {d : Int} {ws : List W} {w : W} (h : Fits n m d ws) (f : Fit n m d w) : Fits n m d (ws ++ [w]) := fun x hx => by
  rcases List.mem_append.mp hx with q | q
  · exact h x q
  · rw [List.mem_singleton.mp q]; exact f
/-- a list of tuples of bools -/
def Tups (H : Hp) (bss : List (List Bool)) (us : List V) : Prop := Paired (fun (bs : List Bool) (v : V) => ∃ a, v = .ref a ∧ H a = some (.tup (bs.map V.bl))) bss us
theorem Tups.tk {H H' : Hp} {bss : List (List Bool)} {us : List V} (t : Tk H H') (h : Tups H bss us) : Tups H' bss us := Paired.mapP h fun _ _ ⟨a, e, q⟩ => ⟨a, e, t _ _ q⟩
theorem Tups.same {H H' : Hp} {bss : List (List Bool)} {us : List V} (t : Same H H') (h : Tups H bss us) : Tups H' bss us := Tups.tk (Same.tk t) h
theorem Tups.length {H : Hp} {bss : List (List Bool)} {us : List V} (h : Tups H bss us) : bss.length = us.length := Paired.length h
def allBits (n i : Nat) : List (List Bool) := (List.range i).map fun (k : Nat) => bits (k : Int) n
theorem allBits_succ (n i : Nat) : allBits n (i + 1) = allBits n i ++ [bits (i : Int) n] := by unfold allBits; rw [List.range_succ, List.map_append]; rfl
theorem allBits_len (n i : Nat) : (allBits n i).length = i := by unfold allBits; rw [List.length_map, List.length_range]
theorem allBits_get {n i k : Nat} (h : k < i) : (allBits n i)[k]? = some (bits (k : Int) n) := by
  unfold allBits
  rw [List.getElem?_map, List.getElem?_range h]; rfl
theorem allBits_get' {n i k : Nat} {bs : List Bool} (h : (allBits n i)[k]? = some bs) : k < i ∧ bs = bits (k : Int) n := by
  have hk : k < i := by
    have := (List.getElem?_eq_some_iff.mp h).1
    rw [allBits_len] at this; exact this
  rw [allBits_get hk] at h
  exact ⟨hk, (Option.some.inj h).symm⟩
theorem shl_one (n : Nat) : ((1 : Int) * 2 ^ ((n : Int).toNat)).toNat = 2 ^ n := by
  rw [Int.one_mul, Int.toNat_natCast]
  have : ((2 : Int) ^ n) = ((2 ^ n : Nat) : Int) := by rw [Int.natCast_pow]; rfl
  rw [this, Int.toNat_natCast]
theorem pow_le64 {n : Nat} (h : n ≤ 6) : 2 ^ n ≤ 64 := Nat.pow_le_pow_right (by decide) h
theorem pow_cast (n : Nat) : ((2 : Int) ^ n) = ((2 ^ n : Nat) : Int) := by rw [Int.natCast_pow]; rfl
section
variable {P : Program} {w : World} {K : PySem.W.Frag} {mg : Str → Option Value} {base : Heap}
theorem fn_none {k : Nat} {f : Addr} {fd : FuncData} {ps : List Str} {sp : Sp} (no : ∀ vs H Q E, ¬ sp vs H Q E) : FnOk P w K mg base CX0 k f fd ps sp :=
  ⟨fun vs H Q E h => absurd h (no vs H Q E), fun A outer s H args us vs Q E _ _ _ _ h => absurd h (no vs H Q E)⟩
end
/-! ### data for == -/
def Sh (d : PyData) (k : Nat) : Prop := d.canLay0 = true ∧ d.depth ≤ k
theorem Sh.shaped {d : PyData} {k : Nat} (h : Sh d k) (hk : k ≤ 64) : SeqAt.shaped d = true := by
  unfold SeqAt.shaped
  rw [h.1, decide_eq_true (Nat.le_trans h.2 hk)]; rfl
theorem Sh.refl {d : PyData} {k : Nat} (h : Sh d k) : PyData.eqv d d = true := SeqAt.eqv_refl d h.1
theorem Sh.bool (b : Bool) (k : Nat) : Sh (.bool b) k := ⟨by simp [PyData.canLay0], by simp [PyData.depth]⟩
theorem Sh.int (b : Int) (k : Nat) : Sh (.int b) k := ⟨by simp [PyData.canLay0], by simp [PyData.depth]⟩
theorem Sh.str (b : Str) (k : Nat) (h : PyData.strOk b = true := by decide +kernel) : Sh (.str b) k := ⟨by simp [PyData.canLay0, h], by simp [PyData.depth]⟩
theorem Sh.all {k : Nat} : ∀ {ds : List PyData}, (∀ d ∈ ds, Sh d k) → PyData.canLayAll0 ds = true ∧ PyData.depthAll ds ≤ k
  | [], _ => by simp [PyData.canLayAll0, PyData.depthAll]
  | d :: ds, h => by
    have h1 := h d (.head _)
    have h2 := Sh.all (ds := ds) fun e he => h e (.tail _ he)
    simp only [PyData.canLayAll0, PyData.depthAll, h1.1, h2.1, Bool.and_self, true_and]
    have a1 := h1.2
    have a2 := h2.2
    omega
theorem Sh.tup {k : Nat} {ds : List PyData} (h : ∀ d ∈ ds, Sh d k) : Sh (.tuple ds) (k + 1) := by
  have q := Sh.all h
  refine ⟨by simp [PyData.canLay0, q.1], ?_⟩
  have := q.2
  simp only [PyData.depth]; omega
theorem Sh.lst {k : Nat} {ds : List PyData} (h : ∀ d ∈ ds, Sh d k) : Sh (.list ds) (k + 1) := by
  have q := Sh.all h
  refine ⟨by simp [PyData.canLay0, q.1], ?_⟩
  have := q.2
  simp only [PyData.depth]; omega
theorem Sh.mono {d : PyData} {k j : Nat} (h : Sh d k) (hk : k ≤ j) : Sh d j := ⟨h.1, Nat.le_trans h.2 hk⟩
theorem dpAll_map {α : Type} {K : PySem.W.Frag} {H : Hp} {f : α → V} {g : α → PyData} : ∀ {l : List α}, (∀ x ∈ l, Dp K H (f x) (g x)) → DpAll K H (l.map f) (l.map g)
  | [], _ => .nil
  | x :: _, h => .cons (h x (.head _)) (dpAll_map fun y hy => h y (.tail _ hy))
def bd (bs : List Bool) : PyData := .tuple (bs.map PyData.bool)
theorem shB (bs : List Bool) : Sh (bd bs) 1 := Sh.tup fun d hd => by
  obtain ⟨b, _, rfl⟩ := List.mem_map.mp hd
  exact Sh.bool b 0
theorem dpB {K : PySem.W.Frag} {H : Hp} {a : Addr} {bs : List Bool} (h : H a = some (.tup (bs.map V.bl))) : Dp K H (.ref a) (bd bs) := .tup (.of h) (dpAll_map fun b _ => .bl b)
theorem eqv_bools : ∀ as bs : List Bool, PyData.eqvAll (as.map PyData.bool) (bs.map PyData.bool) = decide (as = bs)
  | [], [] => by simp [PyData.eqvAll]
  | [], _ :: _ => by simp [PyData.eqvAll]
  | _ :: _, [] => by simp [PyData.eqvAll]
  | a :: as, b :: bs => by
    simp only [List.map_cons, PyData.eqvAll, eqv_bools as bs, List.cons.injEq]
    cases a <;> cases b <;> simp [PyData.eqv]
theorem eqv_bd (as bs : List Bool) : PyData.eqv (bd as) (bd bs) = decide (as = bs) := by
  unfold bd
  simp only [PyData.eqv, eqv_bools]
/-- a word as data -/
def wd : W → PyData
  | .on => .tuple [.str "on"]
  | .off => .tuple [.str "off"]
  | .relay k => .tuple [.str "relay", .int k]
  | .button k => .tuple [.str "button", .int k]
  | .not x => .tuple [.str "not", wd x]
  | .and x y => .tuple [.str "and", wd x, wd y]
  | .or x y => .tuple [.str "or", wd x, wd y]
theorem dpW {K : PySem.W.Frag} {H : Hp} : ∀ {w : W} {a : Addr}, WA H w a → Dp K H (.ref a) (wd w)
  | .on, _, h => .tup (.of h) (.cons (.str _) .nil)
  | .off, _, h => .tup (.of h) (.cons (.str _) .nil)
  | .relay _, _, h => .tup (.of h) (.cons (.str _) (.cons (.int _) .nil))
  | .button _, _, h => .tup (.of h) (.cons (.str _) (.cons (.int _) .nil))
  | .not _, _, h => let ⟨_, e, q⟩ := h; .tup (.of e) (.cons (.str _) (.cons (dpW q) .nil))
  | .and _ _, _, h => let ⟨_, _, e, q, r⟩ := h; .tup (.of e) (.cons (.str _) (.cons (dpW q) (.cons (dpW r) .nil)))
  | .or _ _, _, h => let ⟨_, _, e, q, r⟩ := h; .tup (.of e) (.cons (.str _) (.cons (dpW q) (.cons (dpW r) .nil)))
theorem shW : ∀ w : W, Sh (wd w) w.depth
  | .on => Sh.tup (k := 0) fun d hd => by simp at hd; subst hd; exact Sh.str _ _
  | .off => Sh.tup (k := 0) fun d hd => by simp at hd; subst hd; exact Sh.str _ _
  | .relay _ => Sh.tup (k := 0) fun d hd => by simp at hd; rcases hd with rfl | rfl <;> first | exact Sh.str _ _ | exact Sh.int _ _
  | .button _ => Sh.tup (k := 0) fun d hd => by simp at hd; rcases hd with rfl | rfl <;> first | exact Sh.str _ _ | exact Sh.int _ _
  | .not x => Sh.tup (k := x.depth) fun d hd => by simp at hd; rcases hd with rfl | rfl <;> first | exact Sh.str _ _ | exact shW x
  | .and x y => Sh.tup (k := max x.depth y.depth) fun d hd => by
    simp at hd; rcases hd with rfl | rfl | rfl
    · exact Sh.str _ _
    · exact (shW x).mono (Nat.le_max_left _ _)
    · exact (shW y).mono (Nat.le_max_right _ _)
  | .or x y => Sh.tup (k := max x.depth y.depth) fun d hd => by
    simp at hd; rcases hd with rfl | rfl | rfl
    · exact Sh.str _ _
    · exact (shW x).mono (Nat.le_max_left _ _)
    · exact (shW y).mono (Nat.le_max_right _ _)
/-! ### numbers and bits -/
theorem bit_nat (j k : Nat) : decide ((j : Int) / 2 ^ k % 2 = 1) = Nat.testBit j k := by
  rw [Nat.testBit_eq_decide_div_mod_eq]
  refine decide_eq_decide.mpr ?_
  rw [pow_cast, ← Int.natCast_ediv]
  omega
theorem bits_nat (j n : Nat) : bits (j : Int) n = (List.range n).map (Nat.testBit j) := by
  unfold bits
  exact List.map_congr_left fun k _ => bit_nat j k
theorem bits_mod (j n : Nat) : bits (j : Int) n = bits ((j % 2 ^ n : Nat) : Int) n := by
  rw [bits_nat, bits_nat]
  refine List.map_congr_left fun k hk => ?_
  rw [Nat.testBit_mod_two_pow, decide_eq_true (List.mem_range.mp hk), Bool.true_and]
theorem shr_nat (j n : Nat) : (j : Int) / 2 ^ n = ((j / 2 ^ n : Nat) : Int) := by rw [pow_cast, Int.natCast_ediv]
/-! ### boards -/
def canMove (ws : List W) (ps ss : List Bool) (k : Nat) : Bool := (ws.getD k .off).eval ss ps != ss.getD k false
def movL (ws : List W) (ps ss : List Bool) : List Nat := (List.range ws.length).filter (canMove ws ps ss)
def vn (k : Nat) : V := .int (k : Int)
structure BoardAt (H : Hp) (b : Addr) (us : List V) (ws : List W) (n m : Nat) : Prop where
  lst : H b = some (.lst us)
  was : WAs H ws us
  len : ws.length = n
  n6 : n ≤ 6
  fit : Fits n m 10 ws
theorem BoardAt.same {H H' : Hp} {b : Addr} {us : List V} {ws : List W} {n m : Nat} (B : BoardAt H b us ws n m) (s : Same H H') : BoardAt H' b us ws n m := ⟨s _ _ B.lst, WAs.same s B.was, B.len, B.n6, B.fit⟩
theorem BoardAt.ulen {H : Hp} {b : Addr} {us : List V} {ws : List W} {n m : Nat} (B : BoardAt H b us ws n m) : us.length = n := by rw [← WAs.length B.was]; exact B.len
theorem BoardAt.at {H : Hp} {b : Addr} {us : List V} {ws : List W} {n m : Nat} (B : BoardAt H b us ws n m) {k : Nat} (h : k < n) : ∃ c, us[k]? = some (.ref c) ∧ WA H (ws.getD k .off) c ∧ Fit n m 10 (ws.getD k .off) := by
  have hk : k < ws.length := by rw [B.len]; exact h
  obtain ⟨v, hv, c, rfl, hc⟩ := paired_getl B.was (List.getElem?_eq_getElem hk)
  have e : ws.getD k .off = ws[k] := by rw [List.getD_eq_getElem?_getD, List.getElem?_eq_getElem hk]; rfl
  rw [e]
  exact ⟨c, hv, hc, B.fit _ (List.getElem_mem hk)⟩
theorem Fits.mono {n m : Nat} {d e : Int} {ws : List W} (h : Fits n m d ws) (hd : d ≤ e) : Fits n m e ws := fun w hw => ⟨(h w hw).1, Int.le_trans (h w hw).2 hd⟩
theorem filter_snoc {α : Type} (f : α → Bool) (l : List α) (x : α) : (l ++ [x]).filter f = if f x = true then l.filter f ++ [x] else l.filter f := by
  rw [List.filter_append]
  by_cases h : f x = true
  · rw [if_pos h]; simp [h]
  · rw [if_neg h]; simp [h]
theorem movL_le (ws : List W) (ps ss : List Bool) : (movL ws ps ss).length ≤ ws.length := by
  unfold movL
  have := List.length_filter_le (canMove ws ps ss) (List.range ws.length)
  rw [List.length_range] at this
  exact this
def il (ks : List Nat) : PyData := .list (ks.map fun (k : Nat) => PyData.int (k : Int))
theorem shI (ks : List Nat) : Sh (il ks) 1 := Sh.lst fun d hd => by
  obtain ⟨b, _, rfl⟩ := List.mem_map.mp hd
  exact Sh.int _ 0
theorem dpI {K : PySem.W.Frag} {H : Hp} {a : Addr} {ks : List Nat} (h : H a = some (.lst (ks.map vn))) : Dp K H (.ref a) (il ks) := .lst (.of h) (dpAll_map fun b _ => .int b)
theorem eqv_ints : ∀ as bs : List Nat, PyData.eqvAll (as.map fun (k : Nat) => PyData.int (k : Int)) (bs.map fun (k : Nat) => PyData.int (k : Int)) = decide (as = bs)
  | [], [] => by simp [PyData.eqvAll]
  | [], _ :: _ => by simp [PyData.eqvAll]
  | _ :: _, [] => by simp [PyData.eqvAll]
  | a :: as, b :: bs => by
    simp only [List.map_cons, PyData.eqvAll, eqv_ints as bs, List.cons.injEq]
    by_cases h : a = b
    · subst h; simp [PyData.eqv]
    · have : ¬ (a : Int) = (b : Int) := fun e => h (by omega)
      simp [PyData.eqv, h, this]
theorem eqv_il (as bs : List Nat) : PyData.eqv (il as) (il bs) = decide (as = bs) := by
  unfold il
  simp only [PyData.eqv, eqv_ints]
theorem dpTs {K : PySem.W.Frag} {H : Hp} : ∀ {bss : List (List Bool)} {us : List V}, Tups H bss us → DpAll K H us (bss.map bd)
  | _, _, .nil => .nil
  | _, _, .cons ⟨_, e, h⟩ t => .cons (e ▸ dpB h) (dpTs t)
theorem shTs (bss : List (List Bool)) : Sh (.list (bss.map bd)) 2 := Sh.lst fun d hd => by
  obtain ⟨b, _, rfl⟩ := List.mem_map.mp hd
  exact shB b
theorem dpWs {K : PySem.W.Frag} {H : Hp} : ∀ {ws : List W} {us : List V}, WAs H ws us → DpAll K H us (ws.map wd)
  | _, _, .nil => .nil
  | _, _, .cons ⟨_, e, h⟩ t => .cons (e ▸ dpW h) (dpWs t)
theorem shWs {n m : Nat} {ws : List W} {k : Nat} (h : Fits n m (k : Int) ws) : Sh (.list (ws.map wd)) (k + 1) := Sh.lst fun d hd => by
  obtain ⟨x, hx, rfl⟩ := List.mem_map.mp hd
  exact (shW x).mono (by have := (h x hx).2; omega)
/-! ### classes of the program -/
theorem kit_own {K : PySem.W.Frag} {D C : Addr} {b : Bool} (hC : PySem.W.isClsIn K C = true) (tC : PySem.W.typeIn K (.ref C) = some (.type "type")) (s : PySem.W.subIn K (.ref D) (.ref C) = some b) (self : PySem.W.subIn K (.ref D) (.ref D) = some true) :
    PySem.W.kitOne K (.ref D) (.ref C) = some b := by
  unfold PySem.W.kitOne PySem.W.kitCls
  by_cases h : D = C
  · subst h
    rw [self] at s
    rw [if_pos (beq_self_eq_true _)]
    exact s
  · have h1 : ¬ ((Value.ref D == Value.ref C) = true) := fun e => h (by have := of_decide_eq_true (p := _) e; cases beq_iff_eq.mp e; rfl)
    rw [if_neg h1]
    have e2 : ((PySem.W.clsIn K C).isSome && PySem.W.typeIn K (.ref C) == some (.type "type")) = true := by
      have hC' : (PySem.W.clsIn K C).isSome = true := hC
      rw [hC', tC]; rfl
    show (if ((PySem.W.clsIn K C).isSome && PySem.W.typeIn K (.ref C) == some (.type "type")) = true then PySem.W.subIn K (.ref D) (.ref C) else none) = some b
    rw [if_pos e2]
    exact s
theorem kit_val {K : PySem.W.Frag} {D : Addr} (s : PySem.W.subIn K (.ref D) (.type "ValueError") = some true) : PySem.W.kitOne K (.ref D) (.type "ValueError") = some true := by
  unfold PySem.W.kitOne PySem.W.kitCls
  have h1 : ¬ ((Value.ref D == Value.type "ValueError") = true) := fun e => by cases beq_iff_eq.mp e
  rw [if_neg h1]
  show (if PySem.W.kitMeta "ValueError" = true then PySem.W.subIn K (.ref D) (.type "ValueError") else none) = some true
  rw [if_pos (by decide +kernel)]
  exact s
theorem exm_own {K : PySem.W.Frag} {D C : Addr} (h1 : PySem.W.subIn K (.ref C) (.type "BaseException") = some true) (hC : PySem.W.isClsIn K C = true) (tC : PySem.W.typeIn K (.ref C) = some (.type "type")) (s : PySem.W.subIn K (.ref D) (.ref C) = some true) : PySem.W.exmOne K (.ref D) (.ref C) = some true := by
  have e1 : (PySem.W.subIn K (.ref C) (.type "BaseException") == some true) = true := by rw [h1]; rfl
  have e2 : ((PySem.W.clsIn K C).isSome && PySem.W.typeIn K (.ref C) == some (.type "type")) = true := by
    have hC' : (PySem.W.clsIn K C).isSome = true := hC
    rw [hC', tC]; rfl
  show (if (PySem.W.subIn K (.ref C) (.type "BaseException") == some true) = true then (if ((PySem.W.clsIn K C).isSome && PySem.W.typeIn K (.ref C) == some (.type "type")) = true then PySem.W.subIn K (.ref D) (.ref C) else none) else none) = some true
  rw [if_pos e1, if_pos e2]
  exact s
/-! ### a suite that marks what was caught -/
def rIsX (K : PySem.W.Frag) (a : Addr) (cls : Value) (d : Option Addr) : List V → Hp → VK → Prop := fun xs H Q => ∃ D, cls = .ref D ∧ d = none ∧ ExcC K D ∧ rIsE K D a xs H Q
theorem call_isX {X : Cx} {a : Addr} {oe : Obj} {pn : List (Addr × Obj)} {cls : Value} {d : Option Addr} (hz : Zc cls d oe) (hf : ∃ vs, oe.data = .fields vs) : CallR (X.suite a ((a, oe) :: pn)) (.builtin "isinstance") (rIsX X.K a cls d) := by
  intro pins s σ H xs us Q I r h
  obtain ⟨D, rfl, rfl, E, q⟩ := h
  exact call_isE E hz hf pins s σ H xs us Q I r q
def tMark (K : PySem.W.Frag) (a : Addr) (cls : Value) (d : Option Addr) (i : Nat) (v : V) : TE := tCB (rIsX K a cls d) (tCons (tVar i) (tCons (tC v) tNil))
def tSuite (K : PySem.W.Frag) (c1 c2 c3 c4 c5 c6 : Addr) (i j : Nat) (a : Addr) (cls : Value) (d : Option Addr) : TS :=
  tSeq (tAsg (tLst (tCons (tMark K a cls d i (.ref c1)) (tCons (tMark K a cls d i (.ref c2)) (tCons (tMark K a cls d i (.ref c3)) (tCons (tMark K a cls d i (.ref c4)) tNil))))) (gName j))
    (tAsg (tOp rCat (tVar j) (tLst (tCons (tMark K a cls d i (.ref c5)) (tCons (tMark K a cls d i (.ref c6)) (tCons (tMark K a cls d i (.ty "ValueError")) tNil))))) (gName j))
theorem mark_run {K : PySem.W.Frag} {a D : Addr} {i : Nat} {v : V} {cv : Value} {b : Bool} {σ : St} {H : Hp} {Q : VK} (E : ExcC K D) (hi : σ[i]? = some (some (.ref a))) (hv : ∀ u, RelV v u → u = cv) (k : PySem.W.kitOne K (.ref D) cv = some b) (q : Q (.bl b) H) :
    tMark K a (.ref D) none i v σ H Q := ⟨_, hi, D, rfl, rfl, E, v, cv, b, rfl, hv, k, q⟩
theorem suite_run {K : PySem.W.Frag} {c1 c2 c3 c4 c5 c6 : Addr} {i j : Nat} {a D : Addr} {b1 b2 b3 b4 b5 b6 : Bool} {σ : St} {H : Hp} {Dn : Ends} (E : ExcC K D)
    (k1 : PySem.W.kitOne K (.ref D) (.ref c1) = some b1) (k2 : PySem.W.kitOne K (.ref D) (.ref c2) = some b2) (k3 : PySem.W.kitOne K (.ref D) (.ref c3) = some b3) (k4 : PySem.W.kitOne K (.ref D) (.ref c4) = some b4)
    (k5 : PySem.W.kitOne K (.ref D) (.ref c5) = some b5) (k6 : PySem.W.kitOne K (.ref D) (.ref c6) = some b6) (kv : PySem.W.kitOne K (.ref D) (.type "ValueError") = some true) (hi : σ[i]? = some (some (.ref a))) (hj : j < σ.length) (hij : j ≠ i)
    (q : ∀ (H' : Hp) (p0 p : Addr), Same H H' → H' p = some (.lst ([b1, b2, b3, b4, b5, b6, true].map V.bl)) → Dn.nx ((σ.set j (some (.ref p0))).set j (some (.ref p))) H') : tSuite K c1 c2 c3 c4 c5 c6 i j a (.ref D) none Dn σ H := by
  refine mark_run E hi (fun u h => h) k1 (mark_run E hi (fun u h => h) k2 (mark_run E hi (fun u h => h) k3 (mark_run E hi (fun u h => h) k4 ⟨small10 (Nat.le_of_ble_eq_true rfl), fun p0 np0 => ?_⟩)))
  have s0 : Same H (upd H p0 (.lst [.bl b1, .bl b2, .bl b3, .bl b4])) := Same.new np0
  have e0 : (upd H p0 (.lst [.bl b1, .bl b2, .bl b3, .bl b4])) p0 = some (.lst [.bl b1, .bl b2, .bl b3, .bl b4]) := upd_same
  generalize upd H p0 (.lst [.bl b1, .bl b2, .bl b3, .bl b4]) = H1 at *
  have hi2 : (σ.set j (some (.ref p0)))[i]? = some (some (.ref a)) := by rw [List.getElem?_set_ne hij]; exact hi
  refine ⟨_, List.getElem?_set_self hj, ?_⟩
  refine mark_run E hi2 (fun u h => h) k5 (mark_run E hi2 (fun u h => h) k6 (mark_run E hi2 (fun u h => h) kv ⟨small10 (Nat.le_of_ble_eq_true rfl), fun p1 np1 => ?_⟩))
  have s1 : Same H1 (upd H1 p1 (.lst [.bl b5, .bl b6, .bl true])) := Same.new np1
  have e1 : (upd H1 p1 (.lst [.bl b5, .bl b6, .bl true])) p1 = some (.lst [.bl b5, .bl b6, .bl true]) := upd_same
  generalize upd H1 p1 (.lst [.bl b5, .bl b6, .bl true]) = H2 at *
  refine ⟨p0, p1, _, _, rfl, rfl, s1 _ _ e0, e1, small10 (Nat.le_of_ble_eq_true rfl), fun p2 np2 => ?_⟩
  exact q _ p0 p2 (s0.trans (s1.trans (Same.new np2))) upd_same
/-! ### walks -/
def flip (ss : List Bool) (k : Nat) : List Bool := ss.set k (!ss.getD k false)
theorem flip_len (ss : List Bool) (k : Nat) : (flip ss k).length = ss.length := List.length_set
inductive WR where
  | norelay | still | at (ss : List Bool)
def walkR (ws : List W) (ps : List Bool) : List Bool → List Int → WR
  | ss, [] => .at ss
  | ss, r :: rs => if 0 ≤ r ∧ r < (ws.length : Int) then (if canMove ws ps ss r.toNat = true then walkR ws ps (flip ss r.toNat) rs else .still) else .norelay
theorem walkR_snoc (ws : List W) (ps : List Bool) (r : Int) : ∀ (rs : List Int) (ss : List Bool), walkR ws ps ss (rs ++ [r]) = match walkR ws ps ss rs with
    | .at t => walkR ws ps t [r]
    | e => e
  | [], ss => rfl
  | x :: rs, ss => by
    show walkR ws ps ss (x :: (rs ++ [r])) = _
    simp only [walkR]
    by_cases h : 0 ≤ x ∧ x < (ws.length : Int)
    · rw [if_pos h, if_pos h]
      by_cases h2 : canMove ws ps ss x.toNat = true
      · rw [if_pos h2, if_pos h2]; exact walkR_snoc ws ps r rs _
      · rw [if_neg h2, if_neg h2]
    · rw [if_neg h, if_neg h]
theorem flip_get (ss : List Bool) (k i : Nat) (h : i < ss.length) : (flip ss k)[i]? = some (ss.getD i false != (decide (i = k))) := by
  unfold flip
  have e : ss.getD i false = ss[i] := by rw [List.getD_eq_getElem?_getD, List.getElem?_eq_getElem h]; rfl
  by_cases hk : i = k
  · subst hk
    rw [List.getElem?_set_self h, decide_eq_true rfl]
    cases ss.getD i false <;> rfl
  · rw [List.getElem?_set_ne (Ne.symm hk), decide_eq_false hk, List.getElem?_eq_getElem h, e]
    cases ss[i] <;> rfl
theorem mem_movL {ws : List W} {ps ss : List Bool} {k : Nat} : k ∈ movL ws ps ss ↔ k < ws.length ∧ canMove ws ps ss k = true := by
  unfold movL
  rw [List.mem_filter, List.mem_range]
theorem inV_vn (r : Int) : ∀ ks : List Nat, inV (.int r) (ks.map vn) = ks.any (fun k => decide ((k : Int) = r))
  | [] => rfl
  | x :: rest => by
    show (eqV (.int x) (.int r) || inV (.int r) (rest.map vn)) = (decide ((x : Int) = r) || rest.any (fun k => decide ((k : Int) = r)))
    rw [inV_vn r rest]
    have e : eqV (.int x) (.int r) = decide ((x : Int) = r) := by
      show ((x : Int) == r) = decide ((x : Int) = r)
      exact Bool.beq_eq_decide_eq ..
    rw [e]
theorem flat_vn : ∀ ks : List Nat, (ks.map vn).all flatV = true
  | [] => rfl
  | _ :: r => flat_vn r
end Rl

local macro_rules
  | `(tactic| wtm_at $s:str) => do
    match s.getString.splitOn " " with
    | ["new", p, h, ss, e] =>
      let n := Lean.mkIdent (Lean.Name.mkSimple ("n" ++ p))
      let p := Lean.mkIdent (Lean.Name.mkSimple p)
      let h := Lean.mkIdent (Lean.Name.mkSimple h)
      let ss := Lean.mkIdent (Lean.Name.mkSimple ss)
      let e := Lean.mkIdent (Lean.Name.mkSimple e)
      `(tactic| (intro $p $n; generalize eNew : L2.upd _ $p _ = $h; have $ss : L2.Same _ $h := eNew ▸ Rl.Same.new $n; have $e : $h $p = some _ := eNew ▸ L2.upd_same; clear eNew))
    | ["hp"] => `(tactic| first | assumption | exact L2.SqL.of (by wtm_at "hp") | exact L2.SqT.of (by wtm_at "hp") | (refine Rl.Same.get (by assumption) ?_; wtm_at "hp") | (refine L2.Same.seq (by assumption) ?_; wtm_at "hp") | (refine Rl.WA.same (by assumption) ?_; wtm_at "hp") | (refine Rl.WAs.same (by assumption) ?_; wtm_at "hp"))
    | ["cond"] => `(tactic| first | omega | decide | exact Rl.small10 (Nat.le_of_ble_eq_true rfl) | exact ⟨by decide, by decide⟩ | exact ⟨by omega, by omega⟩ | exact .inr ⟨by decide, by decide⟩ | exact .inl ⟨by decide, by decide⟩ | exact .inl ⟨by omega, by omega⟩ | exact .inr ⟨by omega, by omega⟩)
    | ["r1"] => `(tactic| first | refine ⟨_, rfl, ?_⟩ | refine ⟨_, _, rfl, rfl, ?_⟩ | refine ⟨rfl, ?_⟩ | refine ⟨show (_ : Prop) from (by wtm_at "cond"), ?_⟩)
    | ["rd"] => `(tactic| ((repeat wtm_at "r1"); (try dsimp -proj -eta -iota only)))
    | ["dF"] => `(tactic| refine Rl.iF (decide_eq_false (by first | decide +kernel | (dsimp only [Rl.W.tag]; decide +kernel))) ?_)
    | ["dT"] => `(tactic| refine Rl.iT (decide_eq_true (by first | decide +kernel | rfl | (dsimp only [Rl.W.tag]; decide +kernel))) ?_)
    | ["lc"] => `(tactic| (refine ⟨rfl, ?_⟩; dsimp -proj -eta -iota only [L2.tYes]; refine Rl.iT rfl ?_))
    | ["ds"] => `(tactic| dsimp -proj -eta -iota only)
    | ["szs"] => `(tactic| try refine ⟨by exact Rl.small10 (Nat.le_of_ble_eq_true rfl), ?_⟩)
    | ["sz"] => `(tactic| exact Rl.small10 (Nat.le_of_ble_eq_true rfl))
    | _ => Lean.Macro.throwUnsupported

namespace Rl
open PySem L2
def topS (i : Nat) : Stmt := PySem.Challenge.pw_relayroom_k04_moves.main.body.getD i (.Pass ⟨0, 0, 0, 0⟩)
abbrev sworth : Stmt := topS 9
abbrev scan_move : Stmt := topS 11
abbrev smovable : Stmt := topS 12
abbrev smoved : Stmt := topS 13
abbrev swalked : Stmt := topS 14
abbrev s_law_cell_at : Stmt := topS 16
abbrev s_law_pick : Stmt := topS 17
abbrev s_law_whole : Stmt := topS 18
abbrev s_law_mix : Stmt := topS 19
abbrev s_law_leaf : Stmt := topS 20
abbrev s_law_word : Stmt := topS 21
abbrev s_law_board : Stmt := topS 22
abbrev s_law_bits : Stmt := topS 23
abbrev s_law_wrapped : Stmt := topS 24
abbrev s_law_room : Stmt := topS 25
abbrev s_law_worth : Stmt := topS 26
abbrev s_law_movable : Stmt := topS 27
abbrev s_law_moved : Stmt := topS 28
abbrev s_law_is_stand : Stmt := topS 29
abbrev s_law_list : Stmt := topS 30
abbrev s_law_refused : Stmt := topS 31
abbrev s_law_told : Stmt := topS 32
abbrev slaw : Stmt := topS 33
theorem scworth : FnScope ["word", "stand", "pressed"] ["word", "stand", "pressed"] (defScope sworth) := ⟨rfl, rfl, rfl, by decide +kernel, rfl, by decide +kernel, by decide +kernel⟩
theorem sccan_move : FnScope ["board", "pressed", "stand", "relay"] ["board", "pressed", "stand", "relay"] (defScope scan_move) := ⟨rfl, rfl, rfl, by decide +kernel, rfl, by decide +kernel, by decide +kernel⟩
theorem scmovable : FnScope ["board", "pressed", "stand", "relay"] ["board", "pressed", "stand"] (defScope smovable) := ⟨rfl, rfl, rfl, by decide +kernel, rfl, by decide +kernel, by decide +kernel⟩
theorem scmoved : FnScope ["stand", "relay"] ["stand", "relay"] (defScope smoved) := ⟨rfl, rfl, rfl, by decide +kernel, rfl, by decide +kernel, by decide +kernel⟩
theorem scwalked : FnScope ["board", "pressed", "stand", "moves", "relay"] ["board", "pressed", "stand", "moves"] (defScope swalked) := ⟨rfl, rfl, rfl, by decide +kernel, rfl, by decide +kernel, by decide +kernel⟩
theorem sc_law_cell_at : FnScope ["script", "k"] ["script", "k"] (defScope s_law_cell_at) := ⟨rfl, rfl, rfl, by decide +kernel, rfl, by decide +kernel, by decide +kernel⟩
theorem sc_law_pick : FnScope ["script", "k"] ["script", "k"] (defScope s_law_pick) := ⟨rfl, rfl, rfl, by decide +kernel, rfl, by decide +kernel, by decide +kernel⟩
theorem sc_law_whole : FnScope ["x"] ["x"] (defScope s_law_whole) := ⟨rfl, rfl, rfl, by decide +kernel, rfl, by decide +kernel, by decide +kernel⟩
theorem sc_law_mix : FnScope ["cell", "k", "mixed"] ["cell", "k"] (defScope s_law_mix) := ⟨rfl, rfl, rfl, by decide +kernel, rfl, by decide +kernel, by decide +kernel⟩
theorem sc_law_leaf : FnScope ["mixed", "relays", "buttons", "spot"] ["mixed", "relays", "buttons"] (defScope s_law_leaf) := ⟨rfl, rfl, rfl, by decide +kernel, rfl, by decide +kernel, by decide +kernel⟩
theorem sc_law_word : FnScope ["cell", "k", "deep", "relays", "buttons", "mixed", "kind", "first"] ["cell", "k", "deep", "relays", "buttons"] (defScope s_law_word) := ⟨rfl, rfl, rfl, by decide +kernel, rfl, by decide +kernel, by decide +kernel⟩
theorem sc_law_board : FnScope ["script", "start", "relays", "buttons", "deep", "k"] ["script", "start", "relays", "buttons", "deep"] (defScope s_law_board) := ⟨rfl, rfl, rfl, by decide +kernel, rfl, by decide +kernel, by decide +kernel⟩
theorem sc_law_bits : FnScope ["number", "size", "k"] ["number", "size"] (defScope s_law_bits) := ⟨rfl, rfl, rfl, by decide +kernel, rfl, by decide +kernel, by decide +kernel⟩
theorem sc_law_wrapped : FnScope ["word", "mixed", "k"] ["word", "mixed"] (defScope s_law_wrapped) := ⟨rfl, rfl, rfl, by decide +kernel, rfl, by decide +kernel, by decide +kernel⟩
theorem sc_law_room : FnScope ["script", "cell", "relays", "buttons", "board", "pressed", "k"] ["script"] (defScope s_law_room) := ⟨rfl, rfl, rfl, by decide +kernel, rfl, by decide +kernel, by decide +kernel⟩
theorem sc_law_worth : FnScope ["word", "stand", "pressed", "worths", "part"] ["word", "stand", "pressed"] (defScope s_law_worth) := ⟨rfl, rfl, rfl, by decide +kernel, rfl, by decide +kernel, by decide +kernel⟩
theorem sc_law_movable : FnScope ["board", "pressed", "stand", "k"] ["board", "pressed", "stand"] (defScope s_law_movable) := ⟨rfl, rfl, rfl, by decide +kernel, rfl, by decide +kernel, by decide +kernel⟩
theorem sc_law_moved : FnScope ["stand", "relay", "k"] ["stand", "relay"] (defScope s_law_moved) := ⟨rfl, rfl, rfl, by decide +kernel, rfl, by decide +kernel, by decide +kernel⟩
theorem sc_law_is_stand : FnScope ["found", "size", "one"] ["found", "size"] (defScope s_law_is_stand) := ⟨rfl, rfl, rfl, by decide +kernel, rfl, by decide +kernel, by decide +kernel⟩
theorem sc_law_list : FnScope ["found", "due", "k"] ["found", "due"] (defScope s_law_list) := ⟨rfl, rfl, rfl, by decide +kernel, rfl, by decide +kernel, by decide +kernel⟩
theorem sc_law_refused : FnScope ["marks", "which", "k"] ["marks", "which"] (defScope s_law_refused) := ⟨rfl, rfl, rfl, by decide +kernel, rfl, by decide +kernel, by decide +kernel⟩
theorem sc_law_told : FnScope ["board", "pressed", "stand", "moves", "found", "marks", "e"] ["board", "pressed", "stand", "moves"] (defScope s_law_told) := ⟨rfl, rfl, rfl, by decide +kernel, rfl, by decide +kernel, by decide +kernel⟩
theorem sclaw : FnScope ["script", "room", "board", "pressed", "stand", "due", "moves", "k", "mixed", "can", "relay", "handed", "told", "found"] ["script"] (defScope slaw) := ⟨rfl, rfl, rfl, by decide +kernel, rfl, by decide +kernel, by decide +kernel⟩
structure Ad where
  (aworth acan_move amovable amoved awalked a_law_cell_at a_law_pick a_law_whole a_law_mix a_law_leaf a_law_word a_law_board a_law_bits a_law_wrapped a_law_room a_law_worth a_law_movable a_law_moved a_law_is_stand a_law_list a_law_refused a_law_told alaw : Addr)
  (dworth dcan_move dmovable dmoved dwalked d_law_cell_at d_law_pick d_law_whole d_law_mix d_law_leaf d_law_word d_law_board d_law_bits d_law_wrapped d_law_room d_law_worth d_law_movable d_law_moved d_law_is_stand d_law_list d_law_refused d_law_told dlaw : FuncData)
  (CRoomError CTooMany CDeep CNoContact CNoRelay CStill CNoNote : Addr)
structure Txt (K : PySem.W.Frag) (mg : Str → Option Value) (A : Ad) : Prop where
  F_worth : Fun K "worth" "worth" sworth A.aworth A.dworth
  m_worth : mg "worth" = some (.ref A.aworth)
  b_worth : Binds K A.dworth ["word", "stand", "pressed"] []
  F_can_move : Fun K "can_move" "can_move" scan_move A.acan_move A.dcan_move
  m_can_move : mg "can_move" = some (.ref A.acan_move)
  b_can_move : Binds K A.dcan_move ["board", "pressed", "stand", "relay"] []
  F_movable : Fun K "movable" "movable" smovable A.amovable A.dmovable
  m_movable : mg "movable" = some (.ref A.amovable)
  b_movable : Binds K A.dmovable ["board", "pressed", "stand"] []
  F_moved : Fun K "moved" "moved" smoved A.amoved A.dmoved
  m_moved : mg "moved" = some (.ref A.amoved)
  b_moved : Binds K A.dmoved ["stand", "relay"] []
  F_walked : Fun K "walked" "walked" swalked A.awalked A.dwalked
  m_walked : mg "walked" = some (.ref A.awalked)
  b_walked : Binds K A.dwalked ["board", "pressed", "stand", "moves"] []
  F__law_cell_at : Fun K "_law_cell_at" "_law_cell_at" s_law_cell_at A.a_law_cell_at A.d_law_cell_at
  m__law_cell_at : mg "_law_cell_at" = some (.ref A.a_law_cell_at)
  b__law_cell_at : Binds K A.d_law_cell_at ["script", "k"] []
  F__law_pick : Fun K "_law_pick" "_law_pick" s_law_pick A.a_law_pick A.d_law_pick
  m__law_pick : mg "_law_pick" = some (.ref A.a_law_pick)
  b__law_pick : Binds K A.d_law_pick ["script", "k"] []
  F__law_whole : Fun K "_law_whole" "_law_whole" s_law_whole A.a_law_whole A.d_law_whole
  m__law_whole : mg "_law_whole" = some (.ref A.a_law_whole)
  b__law_whole : Binds K A.d_law_whole ["x"] []
  F__law_mix : Fun K "_law_mix" "_law_mix" s_law_mix A.a_law_mix A.d_law_mix
  m__law_mix : mg "_law_mix" = some (.ref A.a_law_mix)
  b__law_mix : Binds K A.d_law_mix ["cell", "k"] []
  F__law_leaf : Fun K "_law_leaf" "_law_leaf" s_law_leaf A.a_law_leaf A.d_law_leaf
  m__law_leaf : mg "_law_leaf" = some (.ref A.a_law_leaf)
  b__law_leaf : Binds K A.d_law_leaf ["mixed", "relays", "buttons"] []
  F__law_word : Fun K "_law_word" "_law_word" s_law_word A.a_law_word A.d_law_word
  m__law_word : mg "_law_word" = some (.ref A.a_law_word)
  b__law_word : Binds K A.d_law_word ["cell", "k", "deep", "relays", "buttons"] []
  F__law_board : Fun K "_law_board" "_law_board" s_law_board A.a_law_board A.d_law_board
  m__law_board : mg "_law_board" = some (.ref A.a_law_board)
  b__law_board : Binds K A.d_law_board ["script", "start", "relays", "buttons", "deep"] []
  F__law_bits : Fun K "_law_bits" "_law_bits" s_law_bits A.a_law_bits A.d_law_bits
  m__law_bits : mg "_law_bits" = some (.ref A.a_law_bits)
  b__law_bits : Binds K A.d_law_bits ["number", "size"] []
  F__law_wrapped : Fun K "_law_wrapped" "_law_wrapped" s_law_wrapped A.a_law_wrapped A.d_law_wrapped
  m__law_wrapped : mg "_law_wrapped" = some (.ref A.a_law_wrapped)
  b__law_wrapped : Binds K A.d_law_wrapped ["word", "mixed"] []
  F__law_room : Fun K "_law_room" "_law_room" s_law_room A.a_law_room A.d_law_room
  m__law_room : mg "_law_room" = some (.ref A.a_law_room)
  b__law_room : Binds K A.d_law_room ["script"] []
  F__law_worth : Fun K "_law_worth" "_law_worth" s_law_worth A.a_law_worth A.d_law_worth
  m__law_worth : mg "_law_worth" = some (.ref A.a_law_worth)
  b__law_worth : Binds K A.d_law_worth ["word", "stand", "pressed"] []
  F__law_movable : Fun K "_law_movable" "_law_movable" s_law_movable A.a_law_movable A.d_law_movable
  m__law_movable : mg "_law_movable" = some (.ref A.a_law_movable)
  b__law_movable : Binds K A.d_law_movable ["board", "pressed", "stand"] []
  F__law_moved : Fun K "_law_moved" "_law_moved" s_law_moved A.a_law_moved A.d_law_moved
  m__law_moved : mg "_law_moved" = some (.ref A.a_law_moved)
  b__law_moved : Binds K A.d_law_moved ["stand", "relay"] []
  F__law_is_stand : Fun K "_law_is_stand" "_law_is_stand" s_law_is_stand A.a_law_is_stand A.d_law_is_stand
  m__law_is_stand : mg "_law_is_stand" = some (.ref A.a_law_is_stand)
  b__law_is_stand : Binds K A.d_law_is_stand ["found", "size"] []
  F__law_list : Fun K "_law_list" "_law_list" s_law_list A.a_law_list A.d_law_list
  m__law_list : mg "_law_list" = some (.ref A.a_law_list)
  b__law_list : Binds K A.d_law_list ["found", "due"] []
  F__law_refused : Fun K "_law_refused" "_law_refused" s_law_refused A.a_law_refused A.d_law_refused
  m__law_refused : mg "_law_refused" = some (.ref A.a_law_refused)
  b__law_refused : Binds K A.d_law_refused ["marks", "which"] []
  F__law_told : Fun K "_law_told" "_law_told" s_law_told A.a_law_told A.d_law_told
  m__law_told : mg "_law_told" = some (.ref A.a_law_told)
  b__law_told : Binds K A.d_law_told ["board", "pressed", "stand", "moves"] []
  F_law : Fun K "law" "law" slaw A.alaw A.dlaw
  m_law : mg "law" = some (.ref A.alaw)
  b_law : Binds K A.dlaw ["script"] []
  n_range : mg "range" = none
  n_len : mg "len" = none
  n_isinstance : mg "isinstance" = none
  n_int : mg "int" = none
  n_bool : mg "bool" = none
  n_tuple : mg "tuple" = none
  n_all : mg "all" = none
  n_list : mg "list" = none
  n_ValueError : mg "ValueError" = none
  c_RoomError : mg "RoomError" = some (.ref A.CRoomError)
  c_TooMany : mg "TooMany" = some (.ref A.CTooMany)
  c_Deep : mg "Deep" = some (.ref A.CDeep)
  c_NoContact : mg "NoContact" = some (.ref A.CNoContact)
  c_NoRelay : mg "NoRelay" = some (.ref A.CNoRelay)
  c_Still : mg "Still" = some (.ref A.CStill)
  c_NoNote : mg "NoNote" = some (.ref A.CNoNote)
  x_NoRelay : PySem.W.excIn K A.CNoRelay [.type "ValueError", .type "Exception", .type "BaseException", .type "object"] "ValueError.__new__" = true
  k_NoRelay : PySem.W.keepIn K (.ref A.CNoRelay) = true
  sb_NoRelay : PySem.W.subIn K (.ref A.CNoRelay) (.type "BaseException") = some true
  ty_NoRelay : PySem.W.typeIn K (.ref A.CNoRelay) = some (.type "type")
  e_NoRelay : PySem.W.exmOne K (.ref A.CNoRelay) (.ref A.CRoomError) = some true
  v_NoRelay : PySem.W.kitOne K (.ref A.CNoRelay) (.type "ValueError") = some true
  i_NoRelay_TooMany : PySem.W.kitOne K (.ref A.CNoRelay) (.ref A.CTooMany) = some false
  i_NoRelay_Deep : PySem.W.kitOne K (.ref A.CNoRelay) (.ref A.CDeep) = some false
  i_NoRelay_NoContact : PySem.W.kitOne K (.ref A.CNoRelay) (.ref A.CNoContact) = some false
  i_NoRelay_NoRelay : PySem.W.kitOne K (.ref A.CNoRelay) (.ref A.CNoRelay) = some true
  i_NoRelay_Still : PySem.W.kitOne K (.ref A.CNoRelay) (.ref A.CStill) = some false
  i_NoRelay_NoNote : PySem.W.kitOne K (.ref A.CNoRelay) (.ref A.CNoNote) = some false
  E_NoRelay : ExcC K A.CNoRelay
  x_Still : PySem.W.excIn K A.CStill [.type "ValueError", .type "Exception", .type "BaseException", .type "object"] "ValueError.__new__" = true
  k_Still : PySem.W.keepIn K (.ref A.CStill) = true
  sb_Still : PySem.W.subIn K (.ref A.CStill) (.type "BaseException") = some true
  ty_Still : PySem.W.typeIn K (.ref A.CStill) = some (.type "type")
  e_Still : PySem.W.exmOne K (.ref A.CStill) (.ref A.CRoomError) = some true
  v_Still : PySem.W.kitOne K (.ref A.CStill) (.type "ValueError") = some true
  i_Still_TooMany : PySem.W.kitOne K (.ref A.CStill) (.ref A.CTooMany) = some false
  i_Still_Deep : PySem.W.kitOne K (.ref A.CStill) (.ref A.CDeep) = some false
  i_Still_NoContact : PySem.W.kitOne K (.ref A.CStill) (.ref A.CNoContact) = some false
  i_Still_NoRelay : PySem.W.kitOne K (.ref A.CStill) (.ref A.CNoRelay) = some false
  i_Still_Still : PySem.W.kitOne K (.ref A.CStill) (.ref A.CStill) = some true
  i_Still_NoNote : PySem.W.kitOne K (.ref A.CStill) (.ref A.CNoNote) = some false
  E_Still : ExcC K A.CStill
section
variable {P : Program} {w : World} {K : PySem.W.Frag} {mg : Str → Option Value} {base : Heap} {Z : Ad}
def sp_law_cell_at (K : PySem.W.Frag) : Sp := fun vs H Q _ => ∃ (a : Addr) (ns : List Int) (k : Int), vs = [.ref a, .int k] ∧ SqL K H a (ns.map V.int) ∧ 0 ≤ k ∧ ∀ n : Int, Q (.int n) H
theorem ok_law_cell_at (T : Txt K mg Z) : FnOk P w K mg base CX0 1 Z.a_law_cell_at Z.d_law_cell_at ["script", "k"] (sp_law_cell_at K) := by
  refine T.F__law_cell_at.ok sc_law_cell_at (fun vs H Q E h => by obtain ⟨_, _, _, rfl, _⟩ := h; rfl) (fun cdv A outer s H vs Q E hr h => ?_)
  obtain ⟨a, ns, k, rfl, hS, h0, q⟩ := h
  refine ⟨_, (pss_cons (ps_if (pt_cmpR op_lt (pv 1) (pe_callB (r := rLenSeq K) call_len_seq (by rfl) T.n_len PySem.boot_len (pa_cons (pv 0) pa_nil)) (nomark _)) (pss_one (ps_ret (pe_ix (r := rIxL K) ix_list (pv 0) (pv 1) (fun _ _ => rfl)))) pss_nil)
      (pss_one (ps_ret pe_int))), ?_⟩
  refine ⟨_, rfl, _, rfl, a, _, rfl, .inl hS, ?_⟩
  wtm_at "rd"
  refine iB (fun c => ?_) (fun c => ?_)
  · have c' := of_decide_eq_true c
    rw [List.length_map] at c'
    obtain ⟨j, rfl⟩ : ∃ j : Nat, k = (j : Int) := ⟨k.toNat, by omega⟩
    have hj : j < ns.length := by omega
    refine ⟨_, rfl, _, rfl, a, _, _, .int ns[j], rfl, rfl, hS, atI_nat (by rw [List.getElem?_map, List.getElem?_eq_getElem hj]; rfl), ?_⟩
    exact q _
  · exact q _

def sp_law_pick (K : PySem.W.Frag) : Sp := sp_law_cell_at K
theorem ok_law_pick (T : Txt K mg Z) : FnOk P w K mg base CX0 2 Z.a_law_pick Z.d_law_pick ["script", "k"] (sp_law_pick K) := by
  have G_law_cell_at := ok_law_cell_at (P := P) (w := w) (base := base) T
  refine T.F__law_pick.ok sc_law_pick (fun vs H Q E h => by obtain ⟨_, _, _, rfl, _⟩ := h; rfl) (fun cdv A outer s H vs Q E hr h => ?_)
  obtain ⟨a, ns, k, rfl, hS, h0, q⟩ := h
  refine ⟨_, (pss_cons (ps_if (pt_cmpR op_lt (pv 1) (pe_callB (r := rLenSeq K) call_len_seq (by rfl) T.n_len PySem.boot_len (pa_cons (pv 0) pa_nil)) (nomark _)) (pss_one (ps_ret (pe_ix (r := rIxL K) ix_list (pv 0) (pv 1) (fun _ _ => rfl)))) pss_nil)
      (pss_one (ps_ret (pe_op op_fdiv (pe_op op_mod (pe_op op_mul (pe_op op_add (pe_op op_add (pe_call G_law_cell_at (hr.mono (by omega)) (by rfl) T.m__law_cell_at T.F__law_cell_at.kp T.b__law_cell_at .nil pass0 (pa_cons (pv 0) (pa_cons pe_int pa_nil))) (pe_op op_mul pe_int (pv 1))) pe_int) pe_int) pe_int) pe_int)))), ?_⟩
  refine ⟨_, rfl, _, rfl, a, _, rfl, .inl hS, ?_⟩
  wtm_at "rd"
  refine iB (fun c => ?_) (fun c => ?_)
  · have c' := of_decide_eq_true c
    rw [List.length_map] at c'
    obtain ⟨j, rfl⟩ : ∃ j : Nat, k = (j : Int) := ⟨k.toNat, by omega⟩
    have hj : j < ns.length := by omega
    refine ⟨_, rfl, _, rfl, a, _, _, .int ns[j], rfl, rfl, hS, atI_nat (by rw [List.getElem?_map, List.getElem?_eq_getElem hj]; rfl), ?_⟩
    exact q _
  · refine ⟨_, rfl, a, ns, 0, rfl, hS, by omega, fun n => ?_⟩
    wtm_at "rd"
    exact q _

def sp_law_mix : Sp := fun vs H Q _ => ∃ (c k : Int), vs = [.int c, .int k] ∧ ∀ n : Int, 0 ≤ n → n < 2147483587 → Q (.int n) H
theorem ok_law_mix (T : Txt K mg Z) : FnOk P w K mg base CX0 1 Z.a_law_mix Z.d_law_mix ["cell", "k"] sp_law_mix := by
  refine T.F__law_mix.ok sc_law_mix (fun vs H Q E h => by obtain ⟨_, _, rfl, _⟩ := h; rfl) (fun cdv A outer s H vs Q E hr h => ?_)
  obtain ⟨c, k, rfl, q⟩ := h
  refine ⟨_, (pss_cons (ps_set (i := 2) sc_law_mix.nd rfl (Or.inl rfl) (pe_op op_mod (pe_op op_add (pe_op op_add (pe_op op_mul (pv 0) pe_int) (pe_op op_mul pe_int (pv 1))) pe_int) pe_int))
      (pss_cons (ps_set (i := 2) sc_law_mix.nd rfl (Or.inl rfl) (pe_op op_mod (pe_op op_add (pe_op op_add (pe_op op_mul (pv 2) (pv 2)) (pe_op op_mul pe_int (pv 2))) (pv 1)) pe_int))
      (pss_one (ps_ret (pe_op op_mod (pe_op op_add (pe_op op_add (pe_op op_mul (pv 2) (pv 2)) (pe_op op_mul pe_int (pv 2))) (pe_op op_mul pe_int (pv 1))) pe_int))))), ?_⟩
  wtm_at "rd"
  have b1 : 0 ≤ (c * 69621 + 7001 * k + 3) % 2147483629 ∧ (c * 69621 + 7001 * k + 3) % 2147483629 < 2147483629 := ⟨Int.emod_nonneg _ (by decide), Int.emod_lt_of_pos _ (by decide)⟩
  generalize (c * 69621 + 7001 * k + 3) % 2147483629 = m1 at *
  wtm_at "rd"
  have b2 : 0 ≤ (m1 * m1 + 39373 * m1 + k) % 2147483647 ∧ (m1 * m1 + 39373 * m1 + k) % 2147483647 < 2147483647 := ⟨Int.emod_nonneg _ (by decide), Int.emod_lt_of_pos _ (by decide)⟩
  generalize (m1 * m1 + 39373 * m1 + k) % 2147483647 = m2 at *
  wtm_at "rd"
  exact q _ (Int.emod_nonneg _ (by decide)) (Int.emod_lt_of_pos _ (by decide))

def sp_law_leaf : Sp := fun vs H Q _ => ∃ (c : Int) (n m : Nat), vs = [.int c, .int n, .int m] ∧ ∀ (H' : Hp) (a : Addr) (w : W), Same H H' → WA H' w a → Fit n m 1 w → Q (.ref a) H'
theorem ok_law_leaf (T : Txt K mg Z) : FnOk P w K mg base CX0 1 Z.a_law_leaf Z.d_law_leaf ["mixed", "relays", "buttons"] sp_law_leaf := by
  refine T.F__law_leaf.ok sc_law_leaf (fun vs H Q E h => by obtain ⟨_, _, _, rfl, _⟩ := h; rfl) (fun cdv A outer s H vs Q E hr h => ?_)
  obtain ⟨c, n, m, rfl, q⟩ := h
  refine ⟨_, (pss_cons (ps_set (i := 3) sc_law_leaf.nd rfl (Or.inl rfl) (pe_op op_mod (pv 0) (pe_op op_add (pe_op op_add (pv 1) (pv 2)) pe_int)))
      (pss_cons (ps_if (pt_cmpR op_lt (pv 3) (pv 1) (nomark _)) (pss_one (ps_ret (pe_tup (pa_cons pe_str (pa_cons (pv 3) pa_nil))))) pss_nil)
      (pss_cons (ps_if (pt_cmpR op_lt (pv 3) (pe_op op_add (pv 1) (pv 2)) (nomark _)) (pss_one (ps_ret (pe_tup (pa_cons pe_str (pa_cons (pe_op op_sub (pv 3) (pv 1)) pa_nil))))) pss_nil)
      (pss_one (ps_ret (pe_ix (r := rIxL K) ix_list (pe_lst (pa_cons (pe_tup (pa_cons pe_str pa_nil)) (pa_cons (pe_tup (pa_cons pe_str pa_nil)) pa_nil))) (pe_op op_mod (pe_op op_fdiv (pv 0) pe_int) pe_int) (fun _ _ => rfl))))))), ?_⟩
  wtm_at "rd"
  have b1 : 0 ≤ c % ((n : Int) + m + 1) ∧ c % ((n : Int) + m + 1) < (n : Int) + m + 1 := ⟨Int.emod_nonneg _ (by omega), Int.emod_lt_of_pos _ (by omega)⟩
  generalize c % ((n : Int) + m + 1) = z at *
  refine iB (fun c1 => ?_) (fun c1 => ?_)
  · have c1' := of_decide_eq_true c1
    wtm_at "rd"
    wtm_at "szs"
    wtm_at "new p H1 s1 e1"
    exact q _ _ (.relay z) s1 e1 ⟨⟨by omega, by omega⟩, Int.le_refl 1⟩
  · have c1' := of_decide_eq_false c1
    wtm_at "rd"
    refine iB (fun c2 => ?_) (fun c2 => ?_)
    · have c2' := of_decide_eq_true c2
      wtm_at "rd"
      wtm_at "szs"
      wtm_at "new p H1 s1 e1"
      exact q _ _ (.button (z - n)) s1 e1 ⟨⟨by omega, by omega⟩, Int.le_refl 1⟩
    · wtm_at "szs"
      wtm_at "new p1 H1 s1 e1"
      wtm_at "szs"
      wtm_at "new p2 H2 s2 e2"
      wtm_at "szs"
      wtm_at "new p3 H3 s3 e3"
      wtm_at "rd"
      rcases (by omega : c / 64 % 2 = 0 ∨ c / 64 % 2 = 1) with e | e
      · exact ⟨_, _, _, _, rfl, rfl, .of e3, at_of (j := 0) e rfl, q _ _ .on (s1.trans (s2.trans s3)) (by wtm_at "hp") ⟨trivial, Int.le_refl 1⟩⟩
      · exact ⟨_, _, _, _, rfl, rfl, .of e3, at_of (j := 1) e rfl, q _ _ .off (s1.trans (s2.trans s3)) (by wtm_at "hp") ⟨trivial, Int.le_refl 1⟩⟩

def sp_law_word (N : Nat) : Sp := fun vs H Q _ => ∃ (c k d : Int) (n m : Nat), vs = [.int c, .int k, .int d, .int n, .int m] ∧ 1 ≤ d ∧ d ≤ N ∧ ∀ (H' : Hp) (a : Addr) (w : W), Same H H' → WA H' w a → Fit n m d w → Q (.ref a) H'
theorem st_law_word (T : Txt K mg Z) {N : Nat} (G_law_word : FnOk P w K mg base CX0 (N + 1) Z.a_law_word Z.d_law_word ["cell", "k", "deep", "relays", "buttons"] (sp_law_word N)) : FnOk P w K mg base CX0 (N + 2) Z.a_law_word Z.d_law_word ["cell", "k", "deep", "relays", "buttons"] (sp_law_word (N + 1)) := by
  have G_law_mix := ok_law_mix (P := P) (w := w) (base := base) T
  have G_law_leaf := ok_law_leaf (P := P) (w := w) (base := base) T
  refine T.F__law_word.ok sc_law_word (fun vs H Q E h => by obtain ⟨_, _, _, _, _, rfl, _⟩ := h; rfl) (fun cdv A outer s H vs Q E hr h => ?_)
  obtain ⟨c, k, d, n, m, rfl, hd1, hd2, q⟩ := h
  refine ⟨_, (pss_cons (ps_set (i := 5) sc_law_word.nd rfl (Or.inl rfl) (pe_op op_fdiv (pe_call G_law_mix (hr.mono (by omega)) (by rfl) T.m__law_mix T.F__law_mix.kp T.b__law_mix .nil pass0 (pa_cons (pv 0) (pa_cons (pv 1) pa_nil))) pe_int))
      (pss_cons (ps_set (i := 6) sc_law_word.nd rfl (Or.inl rfl) (pe_op op_mod (pv 5) pe_int))
      (pss_cons (ps_if (PW.pt (pw_or (pt_cmpR op_lt (pv 2) pe_int (nomark _)) (pw_or1 (pt_cmpR op_lt (pv 6) pe_int (nomark _))))) (pss_one (ps_ret (pe_call G_law_leaf (hr.mono (by omega)) (by rfl) T.m__law_leaf T.F__law_leaf.kp T.b__law_leaf .nil pass0 (pa_cons (pe_op op_fdiv (pv 5) pe_int) (pa_cons (pv 3) (pa_cons (pv 4) pa_nil)))))) pss_nil)
      (pss_cons (ps_set (i := 7) sc_law_word.nd rfl (Or.inl rfl) (pe_call G_law_word (hr.mono (by omega)) (by rfl) T.m__law_word T.F__law_word.kp T.b__law_word .nil pass0 (pa_cons (pv 0) (pa_cons (pe_op op_add (pe_op op_mul pe_int (pv 1)) pe_int) (pa_cons (pe_op op_sub (pv 2) pe_int) (pa_cons (pv 3) (pa_cons (pv 4) pa_nil)))))))
      (pss_cons (ps_if (pt_cmpR op_lt (pv 6) pe_int (nomark _)) (pss_one (ps_ret (pe_tup (pa_cons pe_str (pa_cons (pv 7) pa_nil))))) pss_nil)
      (pss_one (ps_ret (pe_tup (pa_cons (pe_ix (r := rIxL K) ix_list (pe_lst (pa_cons pe_str (pa_cons pe_str pa_nil))) (pe_op op_mod (pv 6) pe_int) (fun _ _ => rfl)) (pa_cons (pv 7) (pa_cons (pe_call G_law_word (hr.mono (by omega)) (by rfl) T.m__law_word T.F__law_word.kp T.b__law_word .nil pass0 (pa_cons (pv 0) (pa_cons (pe_op op_add (pe_op op_mul pe_int (pv 1)) pe_int) (pa_cons (pe_op op_sub (pv 2) pe_int) (pa_cons (pv 3) (pa_cons (pv 4) pa_nil)))))) pa_nil))))))))))), ?_⟩
  wtm_at "rd"
  refine ⟨c, k, rfl, fun x hx0 hx1 => ?_⟩
  wtm_at "rd"
  have leaf : ∀ (σ : St) (D : Ends), D.rt = Q → σ[5]? = some (some (.int (x / 7))) → σ[3]? = some (some (.int n)) → σ[4]? = some (some (.int m)) → tRet (tCall sp_law_leaf [] E0 (tCons (tOp (rI CDiv fun i j => .int (i / j)) (tVar 5) (tC (.int 10))) (tCons (tVar 3) (tCons (tVar 4) tNil)))) D σ H := by
    intro σ D hD h5 h3 h4
    refine ⟨_, h5, _, _, rfl, rfl, ⟨by decide, by decide⟩, _, h3, _, h4, _, n, m, rfl, fun H' a w s1 e1 f1 => ?_⟩
    rw [hD]
    exact q _ _ _ s1 e1 ⟨f1.1, Int.le_trans f1.2 hd1⟩
  refine iB (fun c1 => ?_) (fun c1 => ?_)
  · exact iT rfl (leaf _ _ rfl rfl rfl rfl)
  have c1' := of_decide_eq_false c1
  wtm_at "rd"
  have hk : 0 ≤ x / 7 % 10 ∧ x / 7 % 10 < 10 := by omega
  generalize x / 7 % 10 = kd at *
  refine iB (fun c2 => ?_) (fun c2 => ?_)
  · exact leaf _ _ rfl rfl rfl rfl
  have c2' := of_decide_eq_false c2
  wtm_at "rd"
  refine ⟨c, 2 * k + 1, d - 1, n, m, rfl, by omega, by omega, fun H1 a1 w1 s1 e1 f1 => ?_⟩
  wtm_at "rd"
  refine iB (fun c3 => ?_) (fun c3 => ?_)
  · wtm_at "rd"
    wtm_at "szs"
    wtm_at "new p H2 s2 e2"
    refine q _ _ (.not w1) (s1.trans s2) ⟨_, e2, WA.same s2 e1⟩ ⟨f1.1, ?_⟩
    have := f1.2
    show ((w1.depth + 1 : Nat) : Int) ≤ d
    omega
  · wtm_at "szs"
    wtm_at "new p H2 s2 e2"
    wtm_at "rd"
    have fin : ∀ (H3 : Hp) (a2 : Addr) (w2 : W), Same H2 H3 → WA H3 w2 a2 → Fit n m (d - 1) w2 → ∀ p, H3 p = none →
        Q (.ref p) (upd H3 p (.tup [.str "and", .ref a1, .ref a2])) ∧ Q (.ref p) (upd H3 p (.tup [.str "or", .ref a1, .ref a2])) := by
      intro H3 a2 w2 s3 e3 f2 p np
      have s4 : ∀ o, Same H3 (upd H3 p o) := fun o => Same.new np
      have dp : ((max w1.depth w2.depth + 1 : Nat) : Int) ≤ d := by
        have := f1.2
        have := f2.2
        omega
      exact ⟨q _ _ (.and w1 w2) (s1.trans (s2.trans (s3.trans (s4 _)))) ⟨_, _, upd_same, WA.same (s2.trans (s3.trans (s4 _))) e1, WA.same (s4 _) e3⟩ ⟨⟨f1.1, f2.1⟩, dp⟩,
        q _ _ (.or w1 w2) (s1.trans (s2.trans (s3.trans (s4 _)))) ⟨_, _, upd_same, WA.same (s2.trans (s3.trans (s4 _))) e1, WA.same (s4 _) e3⟩ ⟨⟨f1.1, f2.1⟩, dp⟩⟩
    rcases (by omega : kd % 2 = 0 ∨ kd % 2 = 1) with e | e
    · refine ⟨_, _, _, _, rfl, rfl, .of e2, at_of (j := 0) e rfl, ?_⟩
      wtm_at "rd"
      refine ⟨c, 2 * k + 2, d - 1, n, m, rfl, by omega, by omega, fun H3 a2 w2 s3 e3 f2 => ?_⟩
      exact ⟨by wtm_at "sz", fun p np => (fin H3 a2 w2 s3 e3 f2 p np).1⟩
    · refine ⟨_, _, _, _, rfl, rfl, .of e2, at_of (j := 1) e rfl, ?_⟩
      wtm_at "rd"
      refine ⟨c, 2 * k + 2, d - 1, n, m, rfl, by omega, by omega, fun H3 a2 w2 s3 e3 f2 => ?_⟩
      exact ⟨by wtm_at "sz", fun p np => (fin H3 a2 w2 s3 e3 f2 p np).2⟩
theorem ok_law_word (T : Txt K mg Z) : ∀ N : Nat, FnOk P w K mg base CX0 (N + 1) Z.a_law_word Z.d_law_word ["cell", "k", "deep", "relays", "buttons"] (sp_law_word N)
  | 0 => fn_none (by rintro vs H Q E ⟨c, k, d, n, m, _, h1, h2, _⟩; omega)
  | N + 1 => st_law_word T (ok_law_word T N)

def sp_law_board (K : PySem.W.Frag) : Sp := fun vs H Q _ => ∃ (a : Addr) (ns : List Int) (st d : Int) (n m : Nat), vs = [.ref a, .int st, .int n, .int m, .int d] ∧ SqL K H a (ns.map V.int) ∧ 0 ≤ st ∧ 1 ≤ d ∧ d ≤ 8 ∧ n ≤ 10 ∧
  ∀ (H' : Hp) (p : Addr) (ws : List W) (us : List V), Same H H' → H p = none → H' p = some (.lst us) → WAs H' ws us → ws.length = n → Fits n m d ws → Q (.ref p) H'
theorem ok_law_board (T : Txt K mg Z) : FnOk P w K mg base CX0 10 Z.a_law_board Z.d_law_board ["script", "start", "relays", "buttons", "deep"] (sp_law_board K) := by
  have G_law_pick := ok_law_pick (P := P) (w := w) (base := base) T
  have G_law_word := ok_law_word (P := P) (w := w) (base := base) T 8
  refine T.F__law_board.ok sc_law_board (fun vs H Q E h => by obtain ⟨_, _, _, _, _, _, rfl, _⟩ := h; rfl) (fun cdv A outer s H vs Q E hr h => ?_)
  obtain ⟨a, ns, st, d, n, m, rfl, hS, h0, hd1, hd2, hn, q⟩ := h
  refine ⟨_, (pss_one (ps_ret (pe_lc (own := [("k", 5)]) (g := gName 5) (tt := tYes) rfl sc_law_board.nd (pi_range1 rfl T.n_range (pa_cons (pv 2) pa_nil)) (blkOk_by (own := [("k", 5)]) (N := ["script", "start", "relays", "buttons", "deep", "k"]) (sc := defScope s_law_board) (by decide +kernel)) (fun _ _ _ _ _ => pg_name (i := 5) sc_law_board.nd rfl (Or.inl rfl)) (fun _ _ _ _ _ => pts_nil) (fun _ _ _ _ _ => (pe_call G_law_word (hr.mono (by omega)) (by rfl) T.m__law_word T.F__law_word.kp T.b__law_word .nil pass0 (pa_cons (pe_call G_law_pick (hr.mono (by omega)) (by rfl) T.m__law_pick T.F__law_pick.kp T.b__law_pick .nil pass0 (pa_cons (pv 0) (pa_cons (pe_op op_add (pv 1) (pv 5)) pa_nil))) (pa_cons (pv 5) (pa_cons (pv 4) (pa_cons (pv 2) (pa_cons (pv 3) pa_nil)))))))))), ?_⟩
  refine ⟨_, rfl, n, rfl, by omega, by omega, fun D nD => lc_range (lo := 0) (n := n) (fun i H' => ∃ ws us, Same H H' ∧ H' D = some (.lst us) ∧ WAs H' ws us ∧ ws.length = i ∧ Fits n m d ws) ?_ ?_ ?_⟩
  · exact ⟨[], [], Same.new nD, upd_same, .nil, rfl, fun _ h => nomatch h⟩
  · rintro i H1 hi ⟨ws, us, s1, hD, hw, hl, hf⟩
    wtm_at "lc"
    wtm_at "rd"
    refine ⟨a, ns, st + (0 + (i : Int)), rfl, s1.seq hS, by omega, fun c => ?_⟩
    wtm_at "rd"
    refine ⟨c, 0 + (i : Int), d, n, m, rfl, hd1, hd2, fun H2 b w1 s2 e2 f2 => ?_⟩
    have hlen := hw.length
    have t2 : Tk H2 (upd H2 D (.lst (us ++ [.ref b]))) := Tk.lst (s2 _ _ hD)
    exact ⟨us, s2 _ _ hD, small11 (by omega), ws ++ [w1], us ++ [.ref b], Same.lst (s1.trans s2) nD, upd_same, paired_snoc (WAs.tk ((Same.tk s2).trans t2) hw) ⟨b, rfl, WA.tk t2 e2⟩, by simp [hl], hf.snoc f2⟩
  · rintro H1 ⟨ws, us, s1, hD, hw, hl, hf⟩
    exact q _ _ _ _ s1 nD hD hw hl hf

def sp_law_bits : Sp := fun vs H Q _ => ∃ (z : Int) (n : Nat), vs = [.int z, .int n] ∧ n ≤ 1000 ∧
  ∀ (H' : Hp) (p : Addr), Same H H' → H p = none → H' p = some (.tup ((bits z n).map V.bl)) → Q (.ref p) H'
theorem ok_law_bits (T : Txt K mg Z) : FnOk P w K mg base CX0 1 Z.a_law_bits Z.d_law_bits ["number", "size"] sp_law_bits := by
  refine T.F__law_bits.ok sc_law_bits (fun vs H Q E h => by obtain ⟨_, _, rfl, _⟩ := h; rfl) (fun cdv A outer s H vs Q E hr h => ?_)
  obtain ⟨z, n, rfl, hn, q⟩ := h
  refine ⟨_, (pss_one (ps_ret (pe_callTy call_tuple_of (by rfl) T.n_tuple (by decide +kernel) (pa_cons (pe_lc (own := [("k", 2)]) (g := gName 2) (tt := tYes) rfl sc_law_bits.nd (pi_range1 rfl T.n_range (pa_cons (pv 1) pa_nil)) (blkOk_by (own := [("k", 2)]) (N := ["number", "size", "k"]) (sc := defScope s_law_bits) (by decide +kernel)) (fun _ _ _ _ _ => pg_name (i := 2) sc_law_bits.nd rfl (Or.inl rfl)) (fun _ _ _ _ _ => pts_nil) (fun _ _ _ _ _ => (pe_cmpR op_eq (pe_op op_mod (pe_op op_shr (pv 0) (pv 2)) pe_int) pe_int (nomark _)))) pa_nil)))), ?_⟩
  refine ⟨_, rfl, n, rfl, by omega, by omega, fun D nD => lc_range (lo := 0) (n := n) (fun i H' => Same H H' ∧ H' D = some (.lst ((bits z i).map V.bl))) ?_ ?_ ?_⟩
  · exact ⟨Same.new nD, upd_same⟩
  · rintro i H1 hi ⟨s1, hD⟩
    wtm_at "lc"
    wtm_at "rd"
    refine ⟨_, hD, small11 (by rw [List.length_map, bits_len]; omega), Same.lst s1 nD, ?_⟩
    rw [upd_same, bits_succ, List.map_append, dec_vi, toNat0]
    rfl
  · rintro H1 ⟨s1, hD⟩
    refine ⟨D, _, rfl, .inl ⟨.of hD, ?_⟩⟩
    wtm_at "new p H2 s2 e2"
    exact q _ _ (s1.trans s2) (s1.free np) e2

def sp_law_wrapped : Sp := fun vs H Q _ => ∃ (a : Addr) (c : Int) (w : W), vs = [.ref a, .int c] ∧ WA H w a ∧
  ∀ (H' : Hp) (b : Addr) (w' : W), Same H H' → WA H' w' b → (∀ n m d, Fit n m d w → Fit n m (d + 3) w') → Q (.ref b) H'
theorem ok_law_wrapped (T : Txt K mg Z) : FnOk P w K mg base CX0 1 Z.a_law_wrapped Z.d_law_wrapped ["word", "mixed"] sp_law_wrapped := by
  refine T.F__law_wrapped.ok sc_law_wrapped (fun vs H Q E h => by obtain ⟨_, _, _, rfl, _⟩ := h; rfl) (fun cdv A outer s H vs Q E hr h => ?_)
  obtain ⟨a, c, w0, rfl, hw, q⟩ := h
  refine ⟨_, (pss_cons (ps_for PassesOwn.never rfl (pi_range1 rfl T.n_range (pa_cons (pe_op op_mul (pe_op op_mod (pv 1) pe_int) (pe_callTy call_int1 (by rfl) T.n_int (by decide +kernel) (pa_cons (pe_cmpR op_eq (pe_op op_mod (pe_op op_fdiv (pv 1) pe_int) pe_int) pe_int (nomark _)) pa_nil))) pa_nil)) (pg_name (i := 2) sc_law_wrapped.nd rfl (Or.inl rfl))
      (pss_one (ps_set (i := 0) sc_law_wrapped.nd rfl (Or.inl rfl) (pe_tup (pa_cons pe_str (pa_cons (pv 0) pa_nil))))))
      (pss_one (ps_ret (pv 0)))), ?_⟩
  wtm_at "rd"
  refine .inr ⟨_, rfl, ?_⟩
  wtm_at "rd"
  have hj : ∀ b : Bool, 0 ≤ c % 4 * (if b = true then 1 else 0) ∧ c % 4 * (if b = true then 1 else 0) ≤ 3 := fun b => by cases b <;> simp <;> omega
  have hj := hj (decide (V.int (c / 4 % 4) = V.int 1))
  generalize c % 4 * (if decide (V.int (c / 4 % 4) = V.int 1) = true then (1 : Int) else 0) = j at *
  refine ⟨by omega, by omega, for_range (lo := 0) (n := j.toNat) (fun i σ H' => ∃ b w1 k, σ = [some (.ref b), some (.int c), k] ∧ Same H H' ∧ WA H' w1 b ∧ (∀ n m d, Fit n m d w0 → Fit n m (d + i) w1)) ?_ ?_ ?_⟩
  · exact ⟨a, w0, none, rfl, Same.refl _, hw, fun n m d f => ⟨f.1, by have := f.2; omega⟩⟩
  · rintro i σ H1 hi ⟨b, w1, k, rfl, s1, hb, f⟩
    wtm_at "rd"
    wtm_at "szs"
    wtm_at "new p H2 s2 e2"
    refine ⟨p, .not w1, _, rfl, s1.trans s2, ⟨_, e2, WA.same s2 hb⟩, fun n m d g => ⟨(f n m d g).1, ?_⟩⟩
    have := (f n m d g).2
    show ((w1.depth + 1 : Nat) : Int) ≤ d + ((i + 1 : Nat) : Int)
    omega
  · rintro σ H1 ⟨b, w1, k, rfl, s1, hb, f⟩
    refine ⟨_, rfl, q _ _ w1 s1 hb fun n m d g => ⟨(f n m d g).1, ?_⟩⟩
    have := (f n m d g).2
    omega

/-- a room at p: board, pressed, stand; made behind H -/
structure RoomAt (H H' : Hp) (p b pr st : Addr) (n m : Nat) (ws : List W) (us : List V) (ps ss : List Bool) : Prop where
  same : Same H H'
  tup : H' p = some (.tup [.ref b, .ref pr, .ref st])
  nb : H b = none
  lst : H' b = some (.lst us)
  was : WAs H' ws us
  pr : H' pr = some (.tup (ps.map V.bl))
  st : H' st = some (.tup (ss.map V.bl))
  n1 : 1 ≤ n
  n6 : n ≤ 6
  m4 : m ≤ 4
  len : ws.length = n
  plen : ps.length = m
  slen : ss.length = n
  fit : Fits n m 8 ws
def sp_law_room (K : PySem.W.Frag) : Sp := fun vs H Q _ => ∃ (a : Addr) (ns : List Int), vs = [.ref a] ∧ SqL K H a (ns.map V.int) ∧
  ∀ (H' : Hp) (p b pr st : Addr) (n m : Nat) (ws : List W) (us : List V) (ps ss : List Bool), RoomAt H H' p b pr st n m ws us ps ss → Q (.ref p) H'
theorem ok_law_room (T : Txt K mg Z) : FnOk P w K mg base CX0 11 Z.a_law_room Z.d_law_room ["script"] (sp_law_room K) := by
  have G_law_cell_at := ok_law_cell_at (P := P) (w := w) (base := base) T
  have G_law_board := ok_law_board (P := P) (w := w) (base := base) T
  have G_law_mix := ok_law_mix (P := P) (w := w) (base := base) T
  have G_law_wrapped := ok_law_wrapped (P := P) (w := w) (base := base) T
  have G_law_bits := ok_law_bits (P := P) (w := w) (base := base) T
  refine T.F__law_room.ok sc_law_room (fun vs H Q E h => by obtain ⟨_, _, rfl, _⟩ := h; rfl) (fun cdv A outer s H vs Q E hr h => ?_)
  obtain ⟨a, ns, rfl, hS, q⟩ := h
  refine ⟨_, (pss_cons (ps_set (i := 1) sc_law_room.nd rfl (Or.inr rfl) (pe_call G_law_cell_at (hr.mono (by omega)) (by rfl) T.m__law_cell_at T.F__law_cell_at.kp T.b__law_cell_at .nil pass0 (pa_cons (pv 0) (pa_cons pe_int pa_nil))))
      (pss_cons (ps_set (i := 2) sc_law_room.nd rfl (Or.inl rfl) (pe_op op_add pe_int (pe_op op_mod (pv 1) pe_int)))
      (C8.pss_cut (ps_if (pt_cmpR op_eq (pe_op op_mod (pe_op op_fdiv (pv 1) pe_int) pe_int) pe_int (nomark _)) (pss_one (ps_set (i := 2) sc_law_room.nd rfl (Or.inl rfl) pe_int)) pss_nil)
      (pss_cons (ps_set (i := 3) sc_law_room.nd rfl (Or.inl rfl) (pe_op op_mod (pe_op op_fdiv (pv 1) pe_int) pe_int))
      (pss_cons (ps_set (i := 4) sc_law_room.nd rfl (Or.inr rfl) (pe_call G_law_board (hr.mono (by omega)) (by rfl) T.m__law_board T.F__law_board.kp T.b__law_board .nil pass0 (pa_cons (pv 0) (pa_cons pe_int (pa_cons (pv 2) (pa_cons (pv 3) (pa_cons (pe_op op_add pe_int (pe_op op_mod (pe_op op_fdiv (pv 1) pe_int) pe_int)) pa_nil)))))))
      (pss_cons (ps_set (i := 4) sc_law_room.nd rfl (Or.inr rfl) (pe_lc (own := [("k", 6)]) (g := gName 6) (tt := tYes) rfl sc_law_room.nd (pi_range1 rfl T.n_range (pa_cons (pv 2) pa_nil)) (blkOk_by (own := [("k", 6)]) (N := ["script", "cell", "relays", "buttons", "board", "pressed", "k"]) (sc := defScope s_law_room) (by decide +kernel)) (fun _ _ _ _ _ => pg_name (i := 6) sc_law_room.nd rfl (Or.inl rfl)) (fun _ _ _ _ _ => pts_nil) (fun _ _ _ _ _ => (pe_call G_law_wrapped (hr.mono (by omega)) (by rfl) T.m__law_wrapped T.F__law_wrapped.kp T.b__law_wrapped .nil pass0 (pa_cons (pe_ix (r := rIxL K) ix_list (pv 4) (pv 6) (fun _ _ => rfl)) (pa_cons (pe_op op_fdiv (pe_call G_law_mix (hr.mono (by omega)) (by rfl) T.m__law_mix T.F__law_mix.kp T.b__law_mix .nil pass0 (pa_cons (pv 1) (pa_cons (pe_op op_add pe_int (pv 6)) pa_nil))) pe_int) pa_nil))))))
      (pss_cons (ps_set (i := 5) sc_law_room.nd rfl (Or.inl rfl) (pe_call G_law_bits (hr.mono (by omega)) (by rfl) T.m__law_bits T.F__law_bits.kp T.b__law_bits .nil pass0 (pa_cons (pe_call G_law_cell_at (hr.mono (by omega)) (by rfl) T.m__law_cell_at T.F__law_cell_at.kp T.b__law_cell_at .nil pass0 (pa_cons (pv 0) (pa_cons pe_int pa_nil))) (pa_cons (pv 3) pa_nil))))
      (pss_one (ps_ret (pe_tup (pa_cons (pv 4) (pa_cons (pv 5) (pa_cons (pe_call G_law_bits (hr.mono (by omega)) (by rfl) T.m__law_bits T.F__law_bits.kp T.b__law_bits .nil pass0 (pa_cons (pe_call G_law_cell_at (hr.mono (by omega)) (by rfl) T.m__law_cell_at T.F__law_cell_at.kp T.b__law_cell_at .nil pass0 (pa_cons (pv 0) (pa_cons pe_int pa_nil))) (pa_cons (pv 2) pa_nil))) pa_nil))))))))))))), ?_⟩
  wtm_at "rd"
  refine ⟨a, ns, 0, rfl, hS, by omega, fun c => ?_⟩
  wtm_at "rd"
  have hm : ∃ m : Nat, c / 45 % 5 = (m : Int) ∧ m ≤ 4 := ⟨(c / 45 % 5).toNat, by omega, by omega⟩
  obtain ⟨m, em, hm4⟩ := hm
  refine ⟨fun σ' H' => ∃ n : Nat, 1 ≤ n ∧ n ≤ 6 ∧ H' = H ∧ σ' = [some (.ref a), some (.int c), some (.int n), none, none, none, none], ?_, ?_⟩
  · wtm_at "rd"
    refine iB (fun c1 => ?_) (fun c1 => ?_)
    · exact ⟨6, by omega, by omega, rfl, rfl⟩
    · refine ⟨(1 + c % 5).toNat, by omega, by omega, rfl, ?_⟩
      show [some (.ref a), some (.int c), some (V.int (1 + c % 5)), none, none, none, none] = _
      rw [show (((1 + c % 5).toNat : Nat) : Int) = 1 + c % 5 by omega]
  rintro σ' H' ⟨n, hn1, hn6, rfl, rfl⟩
  wtm_at "rd"
  rw [em]
  refine ⟨a, ns, 4, 2 + c / 225 % 4, n, m, rfl, hS, by omega, by omega, by omega, by omega, fun H1 p1 ws us s1 n1 e1 w1 l1 f1 => ?_⟩
  refine ⟨_, rfl, n, rfl, by omega, by omega, fun D nD => lc_range (lo := 0) (n := n) (fun i H2 => ∃ ws2 us2, Same H1 H2 ∧ H2 D = some (.lst us2) ∧ WAs H2 ws2 us2 ∧ ws2.length = i ∧ Fits n m 8 ws2) ?_ ?_ ?_⟩
  · exact ⟨[], [], Same.new nD, upd_same, .nil, rfl, fun _ h => nomatch h⟩
  · rintro i H2 hi ⟨ws2, us2, s2, hD, hw, hl, hf⟩
    wtm_at "lc"
    wtm_at "rd"
    have hiw : i < ws.length := by omega
    obtain ⟨v, hv, b, rfl, hb⟩ := paired_getl w1 (List.getElem?_eq_getElem hiw)
    refine ⟨_, _, _, _, rfl, rfl, .of (s2 _ _ e1), at_of (j := i) (by omega) hv, ?_⟩
    wtm_at "rd"
    refine ⟨c, _, rfl, fun x hx0 hx1 => ?_⟩
    wtm_at "rd"
    refine ⟨b, _, ws[i], rfl, WA.same s2 hb, fun H3 b' w' s3 e3 g3 => ?_⟩
    have hlen := hw.length
    have t3 : Tk H3 (upd H3 D (.lst (us2 ++ [.ref b']))) := Tk.lst (s3 _ _ hD)
    have f8 : Fit n m 8 w' := by
      have f := g3 n m _ (f1 ws[i] (List.getElem_mem hiw))
      exact ⟨f.1, by have := f.2; omega⟩
    exact ⟨us2, s3 _ _ hD, small11 (by omega), ws2 ++ [w'], us2 ++ [.ref b'], Same.lst (s2.trans s3) nD, upd_same, paired_snoc (WAs.tk ((Same.tk s3).trans t3) hw) ⟨b', rfl, WA.tk t3 e3⟩, by simp [hl], hf.snoc f8⟩
  rintro H2 ⟨ws2, us2, s2, hD, hw, hl, hf⟩
  wtm_at "rd"
  refine ⟨a, ns, 1, rfl, (s1.trans s2).seq hS, by omega, fun c1 => ?_⟩
  wtm_at "rd"
  refine ⟨c1, m, rfl, by omega, fun H3 p3 s3 n3 e3 => ?_⟩
  wtm_at "rd"
  refine ⟨a, ns, 2, rfl, (s1.trans (s2.trans s3)).seq hS, by omega, fun c2 => ?_⟩
  wtm_at "rd"
  refine ⟨c2, n, rfl, by omega, fun H4 p4 s4 n4 e4 => ?_⟩
  wtm_at "szs"
  wtm_at "new p H5 s5 e5"
  have s45 := s4.trans s5
  exact q _ _ _ _ _ n m ws2 us2 _ _ ⟨s1.trans (s2.trans (s3.trans s45)), e5, s1.free nD, (s3.trans s45) _ _ hD, WAs.same (s3.trans s45) hw, s45 _ _ e3, s5 _ _ e4, hn1, hn6, hm4, hl, bits_len _ _, bits_len _ _, hf⟩

def sp_worth (N : Nat) : Sp := fun vs H Q _ => ∃ (a st pr : Addr) (w : W) (ss ps : List Bool), vs = [.ref a, .ref st, .ref pr] ∧ WA H w a ∧ H st = some (.tup (ss.map V.bl)) ∧ H pr = some (.tup (ps.map V.bl)) ∧
  w.wired ss.length ps.length ∧ w.depth ≤ N ∧ Q (.bl (w.eval ss ps)) H
theorem st_worth (T : Txt K mg Z) {N : Nat} (Gworth : FnOk P w K mg base CX0 N Z.aworth Z.dworth ["word", "stand", "pressed"] (sp_worth N)) : FnOk P w K mg base CX0 (N + 1) Z.aworth Z.dworth ["word", "stand", "pressed"] (sp_worth (N + 1)) := by
  refine T.F_worth.ok scworth (fun vs H Q E h => by obtain ⟨_, _, _, _, _, _, rfl, _⟩ := h; rfl) (fun cdv A outer s H vs Q E hr h => ?_)
  obtain ⟨a, st, pr, w, ss, ps, rfl, hw, hst, hpr, hwd, hd, q⟩ := h
  refine ⟨_, (pss_cons (ps_if (pt_cmpR op_eq (pe_ix (r := rIxT K) ix_tup (pv 0) pe_int (fun _ _ => rfl)) pe_str (nomark _)) (pss_one (ps_ret (pe_ix (r := rIxT K) ix_tup (pv 1) (pe_ix (r := rIxT K) ix_tup (pv 0) pe_int (fun _ _ => rfl)) (fun _ _ => rfl)))) pss_nil)
      (pss_cons (ps_if (pt_cmpR op_eq (pe_ix (r := rIxT K) ix_tup (pv 0) pe_int (fun _ _ => rfl)) pe_str (nomark _)) (pss_one (ps_ret (pe_ix (r := rIxT K) ix_tup (pv 2) (pe_ix (r := rIxT K) ix_tup (pv 0) pe_int (fun _ _ => rfl)) (fun _ _ => rfl)))) pss_nil)
      (pss_cons (ps_if (pt_cmpR op_eq (pe_ix (r := rIxT K) ix_tup (pv 0) pe_int (fun _ _ => rfl)) pe_str (nomark _)) (pss_one (ps_ret (pe_not (pe_call Gworth (hr.mono (by omega)) (by rfl) T.m_worth T.F_worth.kp T.b_worth .nil pass0 (pa_cons (pe_ix (r := rIxT K) ix_tup (pv 0) pe_int (fun _ _ => rfl)) (pa_cons (pv 1) (pa_cons (pv 2) pa_nil))))))) pss_nil)
      (pss_cons (ps_if (pt_cmpR op_eq (pe_ix (r := rIxT K) ix_tup (pv 0) pe_int (fun _ _ => rfl)) pe_str (nomark _)) (pss_one (ps_ret (pe_and (pe_call Gworth (hr.mono (by omega)) (by rfl) T.m_worth T.F_worth.kp T.b_worth .nil pass0 (pa_cons (pe_ix (r := rIxT K) ix_tup (pv 0) pe_int (fun _ _ => rfl)) (pa_cons (pv 1) (pa_cons (pv 2) pa_nil)))) (pe_one (pe_call Gworth (hr.mono (by omega)) (by rfl) T.m_worth T.F_worth.kp T.b_worth .nil pass0 (pa_cons (pe_ix (r := rIxT K) ix_tup (pv 0) pe_int (fun _ _ => rfl)) (pa_cons (pv 1) (pa_cons (pv 2) pa_nil)))))))) pss_nil)
      (pss_cons (ps_if (pt_cmpR op_eq (pe_ix (r := rIxT K) ix_tup (pv 0) pe_int (fun _ _ => rfl)) pe_str (nomark _)) (pss_one (ps_ret (pe_or (pe_call Gworth (hr.mono (by omega)) (by rfl) T.m_worth T.F_worth.kp T.b_worth .nil pass0 (pa_cons (pe_ix (r := rIxT K) ix_tup (pv 0) pe_int (fun _ _ => rfl)) (pa_cons (pv 1) (pa_cons (pv 2) pa_nil)))) (pe_one (pe_call Gworth (hr.mono (by omega)) (by rfl) T.m_worth T.F_worth.kp T.b_worth .nil pass0 (pa_cons (pe_ix (r := rIxT K) ix_tup (pv 0) pe_int (fun _ _ => rfl)) (pa_cons (pv 1) (pa_cons (pv 2) pa_nil)))))))) pss_nil)
      (pss_one (ps_ret (pe_cmpR op_eq (pe_ix (r := rIxT K) ix_tup (pv 0) pe_int (fun _ _ => rfl)) pe_str (nomark _))))))))), ?_⟩
  cases w with
  | on => 
    have e0 : H a = some (.tup [.str "on"]) := hw
    refine tag_test rfl e0 ?_; wtm_at "dF"
    refine tag_test rfl e0 ?_; wtm_at "dF"
    refine tag_test rfl e0 ?_; wtm_at "dF"
    refine tag_test rfl e0 ?_; wtm_at "dF"
    refine tag_test rfl e0 ?_; wtm_at "dF"
    refine tag_val rfl e0 ?_
    rw [show decide (V.str "on" = V.str "on") = true by decide +kernel]
    exact q
  | off => 
    have e0 : H a = some (.tup [.str "off"]) := hw
    refine tag_test rfl e0 ?_; wtm_at "dF"
    refine tag_test rfl e0 ?_; wtm_at "dF"
    refine tag_test rfl e0 ?_; wtm_at "dF"
    refine tag_test rfl e0 ?_; wtm_at "dF"
    refine tag_test rfl e0 ?_; wtm_at "dF"
    refine tag_val rfl e0 ?_
    rw [show decide (V.str "off" = V.str "on") = false by decide +kernel]
    exact q
  | relay k =>
    have e0 : H a = some (.tup [.str "relay", .int k]) := hw
    refine tag_test rfl e0 ?_; wtm_at "dT"
    exact ⟨_, rfl, _, rfl, a, _, 1, _, rfl, rfl, .of e0, atI_nat (j := 1) rfl, st, _, k, _, rfl, rfl, .of hst, at_bl hwd.1 hwd.2, q⟩
  | button k =>
    have e0 : H a = some (.tup [.str "button", .int k]) := hw
    refine tag_test rfl e0 ?_; wtm_at "dF"
    refine tag_test rfl e0 ?_; wtm_at "dT"
    exact ⟨_, rfl, _, rfl, a, _, 1, _, rfl, rfl, .of e0, atI_nat (j := 1) rfl, pr, _, k, _, rfl, rfl, .of hpr, at_bl hwd.1 hwd.2, q⟩
  | not x =>
    obtain ⟨b, e0, hx⟩ := hw
    have hd' : x.depth + 1 ≤ N + 1 := hd
    refine tag_test rfl e0 ?_; wtm_at "dF"
    refine tag_test rfl e0 ?_; wtm_at "dF"
    refine tag_test rfl e0 ?_; wtm_at "dT"
    exact ⟨_, rfl, a, _, 1, _, rfl, rfl, .of e0, atI_nat (j := 1) rfl, _, rfl, _, rfl, b, st, pr, x, ss, ps, rfl, hx, hst, hpr, hwd, by omega, _, rfl, q⟩
  | and x y =>
    obtain ⟨b, c, e0, hx, hy⟩ := hw
    have hd' : max x.depth y.depth + 1 ≤ N + 1 := hd
    refine tag_test rfl e0 ?_; wtm_at "dF"
    refine tag_test rfl e0 ?_; wtm_at "dF"
    refine tag_test rfl e0 ?_; wtm_at "dF"
    refine tag_test rfl e0 ?_; wtm_at "dT"
    refine ⟨_, rfl, a, _, 1, _, rfl, rfl, .of e0, atI_nat (j := 1) rfl, _, rfl, _, rfl, b, st, pr, x, ss, ps, rfl, hx, hst, hpr, hwd.1, by omega, _, rfl, ?_⟩
    have q' : Q (.bl (x.eval ss ps && y.eval ss ps)) H := q
    refine iB (fun z => ?_) (fun z => ?_)
    · rw [z] at q'
      exact ⟨_, rfl, a, _, 2, _, rfl, rfl, .of e0, atI_nat (j := 2) rfl, _, rfl, _, rfl, c, st, pr, y, ss, ps, rfl, hy, hst, hpr, hwd.2, by omega, q'⟩
    · rw [z] at q'
      exact q'
  | or x y =>
    obtain ⟨b, c, e0, hx, hy⟩ := hw
    have hd' : max x.depth y.depth + 1 ≤ N + 1 := hd
    refine tag_test rfl e0 ?_; wtm_at "dF"
    refine tag_test rfl e0 ?_; wtm_at "dF"
    refine tag_test rfl e0 ?_; wtm_at "dF"
    refine tag_test rfl e0 ?_; wtm_at "dF"
    refine tag_test rfl e0 ?_; wtm_at "dT"
    refine ⟨_, rfl, a, _, 1, _, rfl, rfl, .of e0, atI_nat (j := 1) rfl, _, rfl, _, rfl, b, st, pr, x, ss, ps, rfl, hx, hst, hpr, hwd.1, by omega, _, rfl, ?_⟩
    have q' : Q (.bl (x.eval ss ps || y.eval ss ps)) H := q
    refine iB (fun z => ?_) (fun z => ?_)
    · rw [z] at q'
      exact q'
    · rw [z] at q'
      exact ⟨_, rfl, a, _, 2, _, rfl, rfl, .of e0, atI_nat (j := 2) rfl, _, rfl, _, rfl, c, st, pr, y, ss, ps, rfl, hy, hst, hpr, hwd.2, by omega, q'⟩
theorem ok_worth (T : Txt K mg Z) : ∀ N : Nat, FnOk P w K mg base CX0 N Z.aworth Z.dworth ["word", "stand", "pressed"] (sp_worth N)
  | 0 => fn_none (by rintro vs H Q E ⟨_, _, _, w, _, _, _, _, _, _, _, h2, _⟩; have := w.depth_pos; omega)
  | N + 1 => st_worth T (ok_worth T N)

def sp_law_worth (N : Nat) : Sp := fun vs H Q _ => ∃ (a st pr : Addr) (w : W) (ss ps : List Bool), vs = [.ref a, .ref st, .ref pr] ∧ WA H w a ∧ H st = some (.tup (ss.map V.bl)) ∧ H pr = some (.tup (ps.map V.bl)) ∧
  w.wired ss.length ps.length ∧ w.depth ≤ N ∧ ∀ H', Same H H' → Q (.bl (w.eval ss ps)) H'
theorem st_law_worth (T : Txt K mg Z) {N : Nat} (G_law_worth : FnOk P w K mg base CX0 N Z.a_law_worth Z.d_law_worth ["word", "stand", "pressed"] (sp_law_worth N)) : FnOk P w K mg base CX0 (N + 1) Z.a_law_worth Z.d_law_worth ["word", "stand", "pressed"] (sp_law_worth (N + 1)) := by
  refine T.F__law_worth.ok sc_law_worth (fun vs H Q E h => by obtain ⟨_, _, _, _, _, _, rfl, _⟩ := h; rfl) (fun cdv A outer s H vs Q E hr h => ?_)
  obtain ⟨a, st, pr, w, ss, ps, rfl, hw, hst, hpr, hwd, hd, q⟩ := h
  refine ⟨_, (pss_cons (ps_if (PW.pt (pw_or (pt_cmpR op_eq (pe_ix (r := rIxT K) ix_tup (pv 0) pe_int (fun _ _ => rfl)) pe_str (nomark _)) (pw_or1 (pt_cmpR op_eq (pe_ix (r := rIxT K) ix_tup (pv 0) pe_int (fun _ _ => rfl)) pe_str (nomark _))))) (pss_one (ps_ret (pe_cmpR op_eq (pe_ix (r := rIxT K) ix_tup (pv 0) pe_int (fun _ _ => rfl)) pe_str (nomark _)))) pss_nil)
      (pss_cons (ps_if (pt_cmpR op_eq (pe_ix (r := rIxT K) ix_tup (pv 0) pe_int (fun _ _ => rfl)) pe_str (nomark _)) (pss_one (ps_ret (pe_ix (r := rIxT K) ix_tup (pv 1) (pe_ix (r := rIxT K) ix_tup (pv 0) pe_int (fun _ _ => rfl)) (fun _ _ => rfl)))) pss_nil)
      (pss_cons (ps_if (pt_cmpR op_eq (pe_ix (r := rIxT K) ix_tup (pv 0) pe_int (fun _ _ => rfl)) pe_str (nomark _)) (pss_one (ps_ret (pe_ix (r := rIxT K) ix_tup (pv 2) (pe_ix (r := rIxT K) ix_tup (pv 0) pe_int (fun _ _ => rfl)) (fun _ _ => rfl)))) pss_nil)
      (pss_cons (ps_setLc (i := 3) (own := [("part", 4)]) (g := gName 4) (tt := tYes) rfl sc_law_worth.nd rfl rfl (sw_true rfl rfl rfl (by decide +kernel)) (pi_tup (pe_slice (r := rSlT K) sl_tup (pv 0) (po_some pe_int) po_none)) (blkOk_by (own := [("part", 4)]) (N := ["word", "stand", "pressed", "worths", "part"]) (sc := defScope s_law_worth) (by decide +kernel)) (fun _ _ _ _ _ => pg_name (i := 4) sc_law_worth.nd rfl (Or.inl rfl)) (fun _ _ _ _ _ => pts_nil) (fun _ _ _ _ _ => (pe_call G_law_worth (hr.mono (by omega)) (by rfl) T.m__law_worth T.F__law_worth.kp T.b__law_worth .nil pass0 (pa_cons (pv 4) (pa_cons (pv 1) (pa_cons (pv 2) pa_nil))))))
      (pss_cons (ps_if (pt_cmpR op_eq (pe_ix (r := rIxT K) ix_tup (pv 0) pe_int (fun _ _ => rfl)) pe_str (nomark _)) (pss_one (ps_ret (pe_not (pe_ix (r := rIxL K) ix_list (pv 3) pe_int (fun _ _ => rfl))))) pss_nil)
      (pss_cons (ps_if (pt_cmpR op_eq (pe_ix (r := rIxT K) ix_tup (pv 0) pe_int (fun _ _ => rfl)) pe_str (nomark _)) (pss_one (ps_ret (pe_cmpR (r := rIn K true) op_notIn_seq pe_bl (pv 3) (by rfl)))) pss_nil)
      (pss_one (ps_ret (pe_cmpR (r := rIn K false) op_in_seq pe_bl (pv 3) (by rfl)))))))))), ?_⟩
  have leaf : w = .on ∨ w = .off ∨ (∃ k, w = .relay k) ∨ (∃ k, w = .button k) ∨ ((∀ k, w ≠ .relay k) ∧ (∀ k, w ≠ .button k) ∧ ∀ s : Str, s = "on" ∨ s = "off" ∨ s = "relay" ∨ s = "button" → decide (V.str w.tag = V.str s) = false) := by
    cases w with
    | on => exact .inl rfl
    | off => exact .inr (.inl rfl)
    | relay k => exact .inr (.inr (.inl ⟨k, rfl⟩))
    | button k => exact .inr (.inr (.inr (.inl ⟨k, rfl⟩)))
    | not x => exact .inr (.inr (.inr (.inr ⟨(fun _ z => W.noConfusion z), (fun _ z => W.noConfusion z), by rintro s (rfl | rfl | rfl | rfl) <;> exact decide_eq_false (by dsimp only [W.tag]; decide +kernel)⟩)))
    | and x y => exact .inr (.inr (.inr (.inr ⟨(fun _ z => W.noConfusion z), (fun _ z => W.noConfusion z), by rintro s (rfl | rfl | rfl | rfl) <;> exact decide_eq_false (by dsimp only [W.tag]; decide +kernel)⟩)))
    | or x y => exact .inr (.inr (.inr (.inr ⟨(fun _ z => W.noConfusion z), (fun _ z => W.noConfusion z), by rintro s (rfl | rfl | rfl | rfl) <;> exact decide_eq_false (by dsimp only [W.tag]; decide +kernel)⟩)))
  rcases leaf with rfl | rfl | ⟨k, rfl⟩ | ⟨k, rfl⟩ | ⟨n1, n2, nd⟩
  · have e0 : H a = some (.tup [.str "on"]) := hw
    refine tag_test rfl e0 ?_; wtm_at "dT"
    refine iT rfl ?_
    refine tag_val rfl e0 ?_
    rw [show decide (V.str "on" = V.str "on") = true by decide +kernel]
    exact q _ (Same.refl _)
  · have e0 : H a = some (.tup [.str "off"]) := hw
    refine tag_test rfl e0 ?_; wtm_at "dF"
    refine tag_test rfl e0 ?_; wtm_at "dT"
    refine tag_val rfl e0 ?_
    rw [show decide (V.str "off" = V.str "on") = false by decide +kernel]
    exact q _ (Same.refl _)
  · have e0 : H a = some (.tup [.str "relay", .int k]) := hw
    refine tag_test rfl e0 ?_; wtm_at "dF"
    refine tag_test rfl e0 ?_; wtm_at "dF"
    refine tag_test rfl e0 ?_; wtm_at "dT"
    exact ⟨_, rfl, _, rfl, a, _, 1, _, rfl, rfl, .of e0, atI_nat (j := 1) rfl, st, _, k, _, rfl, rfl, .of hst, at_bl hwd.1 hwd.2, q _ (Same.refl _)⟩
  · have e0 : H a = some (.tup [.str "button", .int k]) := hw
    refine tag_test rfl e0 ?_; wtm_at "dF"
    refine tag_test rfl e0 ?_; wtm_at "dF"
    refine tag_test rfl e0 ?_; wtm_at "dF"
    refine tag_test rfl e0 ?_; wtm_at "dT"
    exact ⟨_, rfl, _, rfl, a, _, 1, _, rfl, rfl, .of e0, atI_nat (j := 1) rfl, pr, _, k, _, rfl, rfl, .of hpr, at_bl hwd.1 hwd.2, q _ (Same.refl _)⟩
  obtain ⟨us, e0, hus⟩ := WA.parts hw n1 n2
  refine tag_test rfl e0 ?_; refine iF (nd _ (.inl rfl)) ?_
  refine tag_test rfl e0 ?_; refine iF (nd _ (.inr (.inl rfl))) ?_
  refine tag_test rfl e0 ?_; refine iF (nd _ (.inr (.inr (.inl rfl)))) ?_
  refine tag_test rfl e0 ?_; refine iF (nd _ (.inr (.inr (.inr rfl)))) ?_
  refine ⟨_, rfl, 1, rfl, a, _, rfl, .of e0, ?_⟩
  refine ⟨fun z => ?_, ?_⟩
  · have z1 := z.1
    rw [show HT.sIx (V.str w.tag :: us).length 0 (some 1) = min 1 (V.str w.tag :: us).length from HT.sIx_nat _ 0 1, List.length_cons] at z1
    omega
  rw [cut1]
  wtm_at "new p H1 s1 e1"
  have u1 := WAs.same s1 hus
  have hlen := hus.length
  refine ⟨p, rfl, ⟨_, .of e1⟩, fun D nD => lc_tup (K := K) (a := p) (xs := us) (fun i H' => Same H1 H' ∧ H' D = some (.lst ((w.parts.take i).map fun x => .bl (x.eval ss ps)))) ?_ ?_ ?_ ?_⟩
  · exact ⟨Same.new nD, upd_same⟩
  · rintro i H2 _ ⟨s2, _⟩
    exact .of (s2 _ _ e1)
  · rintro i v H2 hi ⟨s2, hD⟩
    obtain ⟨x, hx, b, rfl, hb⟩ := paired_get u1 hi
    have hp := parts_ok (List.mem_of_getElem? hx) hwd hd
    wtm_at "lc"
    refine ⟨_, rfl, _, rfl, _, rfl, b, st, pr, x, ss, ps, rfl, WA.same s2 hb, s2 _ _ (s1 _ _ hst), s2 _ _ (s1 _ _ hpr), hp.1, hp.2, fun H3 s3 => ?_⟩
    refine ⟨_, s3 _ _ hD, ?_, Same.lst (s2.trans s3) nD, ?_⟩
    · rw [List.length_map, List.length_take]
      have h2 : w.parts.length ≤ 2 := by cases w <;> simp [W.parts]
      exact small11 (by omega)
    · rw [upd_same, List.take_add_one, hx, List.map_append]
      rfl
  rintro H2 ⟨s2, hD⟩
  rw [← hlen, List.take_length] at hD
  have s12 := s1.trans s2
  have e2 := s12 _ _ e0
  cases w with
  | on => exact absurd (nd "on" (.inl rfl)) (by decide +kernel)
  | off => exact absurd (nd "off" (.inr (.inl rfl))) (by decide +kernel)
  | relay k => exact absurd rfl (n1 k)
  | button k => exact absurd rfl (n2 k)
  | not x =>
    refine tag_test rfl e2 ?_; wtm_at "dT"
    exact ⟨_, rfl, _, _, _, _, rfl, rfl, .of hD, atI_nat (j := 0) rfl, _, rfl, q _ s12⟩
  | and x y =>
    refine tag_test rfl e2 ?_; wtm_at "dF"
    refine tag_test rfl e2 ?_; wtm_at "dT"
    refine ⟨_, rfl, D, [x.eval ss ps, y.eval ss ps].map V.bl, rfl, .inl (.of hD), rfl, flat_bl _, ?_⟩
    have := q _ s12
    rw [inV_bl]
    revert this
    show Q (.bl (x.eval ss ps && y.eval ss ps)) H2 → Q (.bl (!([x.eval ss ps, y.eval ss ps].any fun x => x == false))) H2
    cases x.eval ss ps <;> cases y.eval ss ps <;> exact id
  | or x y =>
    refine tag_test rfl e2 ?_; wtm_at "dF"
    refine tag_test rfl e2 ?_; wtm_at "dF"
    refine ⟨_, rfl, D, [x.eval ss ps, y.eval ss ps].map V.bl, rfl, .inl (.of hD), rfl, flat_bl _, ?_⟩
    have := q _ s12
    rw [inV_bl]
    revert this
    show Q (.bl (x.eval ss ps || y.eval ss ps)) H2 → Q (.bl ([x.eval ss ps, y.eval ss ps].any fun x => x == true)) H2
    cases x.eval ss ps <;> cases y.eval ss ps <;> exact id
theorem ok_law_worth (T : Txt K mg Z) : ∀ N : Nat, FnOk P w K mg base CX0 N Z.a_law_worth Z.d_law_worth ["word", "stand", "pressed"] (sp_law_worth N)
  | 0 => fn_none (by rintro vs H Q E ⟨_, _, _, w, _, _, _, _, _, _, _, h2, _⟩; have := w.depth_pos; omega)
  | N + 1 => st_law_worth T (ok_law_worth T N)

def sp_law_is_stand : Sp := fun vs H Q _ => ∃ (a : Addr) (bs : List Bool) (n : Nat), vs = [.ref a, .int n] ∧ H a = some (.tup (bs.map V.bl)) ∧ bs.length = n ∧ n ≤ 1000 ∧ ∀ H', Same H H' → Q (.bl true) H'
theorem all_rep (i : Nat) : (List.replicate i true).all id = true := by
  induction i with
  | zero => rfl
  | succ i ih => rw [List.replicate_succ, List.all_cons, ih]; rfl
theorem ok_law_is_stand (T : Txt K mg Z) : FnOk P w K mg base CX0 1 Z.a_law_is_stand Z.d_law_is_stand ["found", "size"] sp_law_is_stand := by
  refine T.F__law_is_stand.ok sc_law_is_stand (fun vs H Q E h => by obtain ⟨_, _, _, rfl, _⟩ := h; rfl) (fun cdv A outer s H vs Q E hr h => ?_)
  obtain ⟨a, bs, n, rfl, ha, hl, hn, q⟩ := h
  refine ⟨_, (pss_cons (ps_if (PW.pt (pw_or (pt_not (pt_val (pe_callB (r := rIsi K) call_isi (by rfl) T.n_isinstance (by decide +kernel) (pa_cons (pv 0) (pa_cons (pe_bltn (v := .ty "tuple") (u := .type "tuple") (by rfl) T.n_tuple (by decide +kernel) rfl) pa_nil))))) (pw_or1 (pt_cmpR op_ne (pe_callB (r := rLenSeq K) call_len_seq (by rfl) T.n_len PySem.boot_len (pa_cons (pv 0) pa_nil)) (pv 1) (nomark _))))) (pss_one (ps_ret pe_bl)) pss_nil)
      (pss_one (ps_ret (pe_callB (r := rAll K) (cr_all rfl) (by rfl) T.n_all (by decide +kernel) (pa_cons (pe_lc (own := [("one", 2)]) (g := gName 2) (tt := tYes) rfl sc_law_is_stand.nd (pi_tup (pv 0)) (blkOk_by (own := [("one", 2)]) (N := ["found", "size", "one"]) (sc := defScope s_law_is_stand) (by decide +kernel)) (fun _ _ _ _ _ => pg_name (i := 2) sc_law_is_stand.nd rfl (Or.inl rfl)) (fun _ _ _ _ _ => pts_nil) (fun _ _ _ _ _ => (pe_callB (r := rIsi K) call_isi (by rfl) T.n_isinstance (by decide +kernel) (pa_cons (pv 2) (pa_cons (pe_bltn (v := .ty "bool") (u := .type "bool") (by rfl) T.n_bool (by decide +kernel) rfl) pa_nil))))) pa_nil))))), ?_⟩
  refine ⟨_, rfl, .ref a, .ty "tuple", .type "tuple", .type "tuple", true, rfl, .ty _, .base (.tup ha), kit_ty (by decide +kernel), _, rfl, ?_⟩
  refine iF rfl ?_
  refine ⟨_, rfl, a, _, rfl, .inr (.of ha), _, rfl, rfl, _, rfl, ?_⟩
  refine iF ?_ ?_
  · rw [decide_eq_true (by rw [List.length_map, hl]), Bool.not_true]
  refine ⟨_, rfl, a, rfl, ⟨_, .of ha⟩, fun D nD => lc_tup (K := K) (a := a) (xs := bs.map V.bl) (fun i H' => Same H H' ∧ H' D = some (.lst ((List.replicate i true).map V.bl))) ?_ ?_ ?_ ?_⟩
  · exact ⟨Same.new nD, upd_same⟩
  · rintro i H2 _ ⟨s2, _⟩
    exact .of (s2 _ _ ha)
  · rintro i v H2 hi ⟨s2, hD⟩
    obtain ⟨b, rfl⟩ : ∃ b, v = V.bl b := by
      obtain ⟨b, _, e⟩ := List.mem_map.mp (List.mem_of_getElem? hi)
      exact ⟨b, e.symm⟩
    have hi2 : i < n := by
      have := (List.getElem?_eq_some_iff.mp hi).1
      rw [List.length_map, hl] at this; exact this
    wtm_at "lc"
    refine ⟨_, rfl, .bl b, .ty "bool", .type "bool", .type "bool", true, rfl, .ty _, .base (.bl _), kit_ty (by decide +kernel), _, hD, small11 (by rw [List.length_map, List.length_replicate]; omega), Same.lst s2 nD, ?_⟩
    rw [upd_same, List.replicate_succ', List.map_append]
    rfl
  · rintro H2 ⟨s2, hD⟩
    refine ⟨D, _, rfl, .of hD, ?_⟩
    rw [all_rep]
    exact q _ s2

def sp_law_whole : Sp := fun vs H Q _ => ∃ (i : Int), vs = [.int i] ∧ Q (.bl true) H
theorem ok_law_whole (T : Txt K mg Z) : FnOk P w K mg base CX0 1 Z.a_law_whole Z.d_law_whole ["x"] sp_law_whole := by
  refine T.F__law_whole.ok sc_law_whole (fun vs H Q E h => by obtain ⟨_, rfl, _⟩ := h; rfl) (fun cdv A outer s H vs Q E hr h => ?_)
  obtain ⟨i, rfl, q⟩ := h
  refine ⟨_, (pss_one (ps_ret (pe_and (pe_callB (r := rIsi K) call_isi (by rfl) T.n_isinstance (by decide +kernel) (pa_cons (pv 0) (pa_cons (pe_bltn (v := .ty "int") (u := .type "int") (by rfl) T.n_int (by decide +kernel) rfl) pa_nil))) (pe_one (pe_not (pe_callB (r := rIsi K) call_isi (by rfl) T.n_isinstance (by decide +kernel) (pa_cons (pv 0) (pa_cons (pe_bltn (v := .ty "bool") (u := .type "bool") (by rfl) T.n_bool (by decide +kernel) rfl) pa_nil)))))))), ?_⟩
  refine ⟨_, rfl, .int i, .ty "int", .type "int", .type "int", true, rfl, .ty _, .base (.int _), kit_ty (by decide +kernel), _, rfl, iT rfl ?_⟩
  exact ⟨_, rfl, .int i, .ty "bool", .type "int", .type "bool", false, rfl, .ty _, .base (.int _), kit_ty (by decide +kernel), _, rfl, q⟩

def sp_law_list : Sp := fun vs H Q _ => ∃ (a b : Addr) (ks : List Nat), vs = [.ref a, .ref b] ∧ H a = some (.lst (ks.map vn)) ∧ H b = some (.lst (ks.map vn)) ∧ ks.length ≤ 1000 ∧ Q (.bl true) H
theorem ok_law_list (T : Txt K mg Z) : FnOk P w K mg base CX0 2 Z.a_law_list Z.d_law_list ["found", "due"] sp_law_list := by
  have G_law_whole := ok_law_whole (P := P) (w := w) (base := base) T
  refine T.F__law_list.ok sc_law_list (fun vs H Q E h => by obtain ⟨_, _, _, rfl, _⟩ := h; rfl) (fun cdv A outer s H vs Q E hr h => ?_)
  obtain ⟨a, b, ks, rfl, ha, hb, hk, q⟩ := h
  refine ⟨_, (pss_cons (ps_if (PW.pt (pw_or (pt_not (pt_val (pe_callB (r := rIsi K) call_isi (by rfl) T.n_isinstance (by decide +kernel) (pa_cons (pv 0) (pa_cons (pe_bltn (v := .ty "list") (u := .type "list") (by rfl) T.n_list (by decide +kernel) rfl) pa_nil))))) (pw_or1 (pt_cmpR op_ne (pe_callB (r := rLenSeq K) call_len_seq (by rfl) T.n_len PySem.boot_len (pa_cons (pv 0) pa_nil)) (pe_callB (r := rLenSeq K) call_len_seq (by rfl) T.n_len PySem.boot_len (pa_cons (pv 1) pa_nil)) (nomark _))))) (pss_one (ps_ret pe_bl)) pss_nil)
      (pss_cons (ps_for PassesOwn.never rfl (pi_range1 rfl T.n_range (pa_cons (pe_callB (r := rLenSeq K) call_len_seq (by rfl) T.n_len PySem.boot_len (pa_cons (pv 1) pa_nil)) pa_nil)) (pg_name (i := 2) sc_law_list.nd rfl (Or.inl rfl))
      (pss_one (ps_if (PW.pt (pw_or (pt_not (pt_val (pe_call G_law_whole (hr.mono (by omega)) (by rfl) T.m__law_whole T.F__law_whole.kp T.b__law_whole .nil pass0 (pa_cons (pe_ix (r := rIxL K) ix_list (pv 0) (pv 2) (fun _ _ => rfl)) pa_nil)))) (pw_or1 (pt_cmpR op_ne (pe_ix (r := rIxL K) ix_list (pv 0) (pv 2) (fun _ _ => rfl)) (pe_ix (r := rIxL K) ix_list (pv 1) (pv 2) (fun _ _ => rfl)) (nomark _))))) (pss_one (ps_ret pe_bl)) pss_nil)))
      (pss_one (ps_ret pe_bl)))), ?_⟩
  refine ⟨_, rfl, .ref a, .ty "list", .type "list", .type "list", true, rfl, .ty _, .base (.lst ha), kit_ty (by decide +kernel), _, rfl, ?_⟩
  refine iF rfl ?_
  refine ⟨_, rfl, a, _, rfl, .inl (.of ha), _, rfl, b, _, rfl, .inl (.of hb), rfl, _, rfl, ?_⟩
  refine iF ?_ ?_
  · rw [decide_eq_true rfl, Bool.not_true]
  refine ⟨_, rfl, b, _, rfl, .inl (.of hb), _, rfl, by rw [List.length_map]; omega, by rw [List.length_map]; omega, ?_⟩
  refine for_range (lo := 0) (n := (ks.map vn).length) (fun i σ H' => H' = H ∧ ∃ x, σ = [some (.ref a), some (.ref b), x]) ⟨rfl, none, rfl⟩ ?_ ?_
  · rintro i σ H' hi ⟨rfl, x, rfl⟩
    rw [List.length_map] at hi
    have g : (ks.map vn)[i]? = some (vn ks[i]) := by rw [List.getElem?_map, List.getElem?_eq_getElem hi]; rfl
    refine ⟨_, rfl, _, rfl, a, _, 0 + (i : Int), _, rfl, rfl, .of ha, at_of (j := i) (Int.zero_add _) g, ?_⟩
    refine ⟨_, rfl, _, rfl, ?_⟩
    refine iF rfl ?_
    refine ⟨_, rfl, _, rfl, a, _, 0 + (i : Int), _, rfl, rfl, .of ha, at_of (j := i) (Int.zero_add _) g, _, rfl, _, rfl, b, _, 0 + (i : Int), _, rfl, rfl, .of hb, at_of (j := i) (Int.zero_add _) g, rfl, _, rfl, ?_⟩
    refine iF ?_ ?_
    · rw [decide_eq_true rfl, Bool.not_true]
    exact ⟨rfl, _, rfl⟩
  · rintro σ H' ⟨rfl, x, rfl⟩
    exact q

def sp_can_move : Sp := fun vs H Q _ => ∃ (b pr st : Addr) (k n m : Nat) (us : List V) (ws : List W) (ps ss : List Bool), vs = [.ref b, .ref pr, .ref st, vn k] ∧ k < n ∧ BoardAt H b us ws n m ∧ H pr = some (.tup (ps.map V.bl)) ∧ H st = some (.tup (ss.map V.bl)) ∧ ss.length = n ∧ ps.length = m ∧ Q (.bl (canMove ws ps ss k)) H
theorem ok_can_move (T : Txt K mg Z) : FnOk P w K mg base CX0 11 Z.acan_move Z.dcan_move ["board", "pressed", "stand", "relay"] sp_can_move := by
  have Gworth := ok_worth (P := P) (w := w) (base := base) T 10
  refine T.F_can_move.ok sccan_move (fun vs H Q E h => by obtain ⟨_, _, _, _, _, _, _, _, _, _, rfl, _⟩ := h; rfl) (fun cdv A outer s H vs Q E hr h => ?_)
  obtain ⟨b, pr, st, k, n, m, us, ws, ps, ss, rfl, hk, B, hp, hs, hsl, hpl, q⟩ := h
  refine ⟨_, (pss_one (ps_ret (pe_cmpR op_ne (pe_call Gworth (hr.mono (by omega)) (by rfl) T.m_worth T.F_worth.kp T.b_worth .nil pass0 (pa_cons (pe_ix (r := rIxL K) ix_list (pv 0) (pv 3) (fun _ _ => rfl)) (pa_cons (pv 2) (pa_cons (pv 1) pa_nil)))) (pe_ix (r := rIxT K) ix_tup (pv 2) (pv 3) (fun _ _ => rfl)) (nomark _)))), ?_⟩
  obtain ⟨c, hc, hw, hf⟩ := B.at hk
  refine ⟨_, rfl, _, rfl, b, us, (k : Int), _, rfl, rfl, .of B.lst, at_of (j := k) rfl hc, _, rfl, _, rfl, c, st, pr, ws.getD k .off, ss, ps, rfl, hw, hs, hp, by rw [hsl, hpl]; exact hf.1, by have := hf.2; omega, ?_⟩
  refine ⟨_, rfl, _, rfl, st, _, (k : Int), _, rfl, rfl, .of hs, at_bl (by omega) (by omega), rfl, ?_⟩
  have e : (!decide (V.bl ((ws.getD k .off).eval ss ps) = V.bl (ss.getD ((k : Int).toNat) false))) = canMove ws ps ss k := by
    unfold canMove
    rw [Int.toNat_natCast]
    cases (ws.getD k W.off).eval ss ps <;> cases ss.getD k false <;> rfl
  show Q (.bl (!decide (V.bl ((ws.getD k .off).eval ss ps) = V.bl (ss.getD ((k : Int).toNat) false)))) H
  rw [e]
  exact q

def sp_movable : Sp := fun vs H Q _ => ∃ (b pr st : Addr) (n m : Nat) (us : List V) (ws : List W) (ps ss : List Bool), vs = [.ref b, .ref pr, .ref st] ∧ BoardAt H b us ws n m ∧ H pr = some (.tup (ps.map V.bl)) ∧ H st = some (.tup (ss.map V.bl)) ∧ ss.length = n ∧ ps.length = m ∧
  ∀ (H' : Hp) (p : Addr), Same H H' → H p = none → H' p = some (.lst ((movL ws ps ss).map vn)) → Q (.ref p) H'
theorem ok_movable (T : Txt K mg Z) : FnOk P w K mg base CX0 12 Z.amovable Z.dmovable ["board", "pressed", "stand"] sp_movable := by
  have Gcan_move := ok_can_move (P := P) (w := w) (base := base) T
  refine T.F_movable.ok scmovable (fun vs H Q E h => by obtain ⟨_, _, _, _, _, _, _, _, _, rfl, _⟩ := h; rfl) (fun cdv A outer s H vs Q E hr h => ?_)
  obtain ⟨b, pr, st, n, m, us, ws, ps, ss, rfl, B, hp, hs, hsl, hpl, q⟩ := h
  refine ⟨_, (pss_one (ps_ret (pe_lc (own := [("relay", 3)]) (g := gName 3) rfl scmovable.nd (pi_range1 rfl T.n_range (pa_cons (pe_callB (r := rLenSeq K) call_len_seq (by rfl) T.n_len PySem.boot_len (pa_cons (pv 0) pa_nil)) pa_nil)) (blkOk_by (own := [("relay", 3)]) (N := ["board", "pressed", "stand", "relay"]) (sc := defScope smovable) (by decide +kernel)) (fun _ _ _ _ _ => pg_name (i := 3) scmovable.nd rfl (Or.inl rfl)) (fun _ _ _ _ _ => (pts_one (pt_val (pe_call Gcan_move (hr.mono (by omega)) (by rfl) T.m_can_move T.F_can_move.kp T.b_can_move .nil pass0 (pa_cons (pv 0) (pa_cons (pv 1) (pa_cons (pv 2) (pa_cons (pv 3) pa_nil)))))))) (fun _ _ _ _ _ => (pv 3))))), ?_⟩
  have hu := B.ulen
  have h6 := B.n6
  refine ⟨_, rfl, b, us, rfl, .inl (.of B.lst), _, rfl, by omega, by omega, fun D nD => lc_range (lo := 0) (n := us.length) (fun i H' => Same H H' ∧ H' D = some (.lst (((List.range i).filter (canMove ws ps ss)).map vn))) ?_ ?_ ?_⟩
  · exact ⟨Same.new nD, upd_same⟩
  · rintro i H2 hi ⟨s2, hD⟩
    refine ⟨rfl, ?_⟩
    refine ⟨_, rfl, _, rfl, _, rfl, _, rfl, b, pr, st, i, n, m, us, ws, ps, ss, by rw [Int.zero_add]; rfl, by omega, B.same s2, s2 _ _ hp, s2 _ _ hs, hsl, hpl, _, rfl, ?_⟩
    refine iB (fun c => ?_) (fun c => ?_)
    · refine ⟨_, rfl, _, hD, small11 ?_, Same.lst s2 nD, ?_⟩
      · rw [List.length_map]
        have := List.length_filter_le (canMove ws ps ss) (List.range i)
        rw [List.length_range] at this
        omega
      · rw [upd_same, List.range_succ, filter_snoc, if_pos c, List.map_append, Int.zero_add]
        rfl
    · refine ⟨s2, ?_⟩
      rw [hD, List.range_succ, filter_snoc, if_neg (by rw [c]; decide)]
  · rintro H2 ⟨s2, hD⟩
    refine q _ _ s2 nD ?_
    rw [hD, hu, ← B.len]
    rfl

def sp_law_movable : Sp := fun vs H Q _ => ∃ (b pr st : Addr) (n m : Nat) (us : List V) (ws : List W) (ps ss : List Bool), vs = [.ref b, .ref pr, .ref st] ∧ BoardAt H b us ws n m ∧ H pr = some (.tup (ps.map V.bl)) ∧ H st = some (.tup (ss.map V.bl)) ∧ ss.length = n ∧ ps.length = m ∧
  ∀ (H' : Hp) (p : Addr), Same H H' → H p = none → H' p = some (.lst ((movL ws ps ss).map vn)) → Q (.ref p) H'
theorem ok_law_movable (T : Txt K mg Z) : FnOk P w K mg base CX0 11 Z.a_law_movable Z.d_law_movable ["board", "pressed", "stand"] sp_law_movable := by
  have G_law_worth := ok_law_worth (P := P) (w := w) (base := base) T 10
  refine T.F__law_movable.ok sc_law_movable (fun vs H Q E h => by obtain ⟨_, _, _, _, _, _, _, _, _, rfl, _⟩ := h; rfl) (fun cdv A outer s H vs Q E hr h => ?_)
  obtain ⟨b, pr, st, n, m, us, ws, ps, ss, rfl, B, hp, hs, hsl, hpl, q⟩ := h
  refine ⟨_, (pss_one (ps_ret (pe_lc (own := [("k", 3)]) (g := gName 3) rfl sc_law_movable.nd (pi_range1 rfl T.n_range (pa_cons (pe_callB (r := rLenSeq K) call_len_seq (by rfl) T.n_len PySem.boot_len (pa_cons (pv 0) pa_nil)) pa_nil)) (blkOk_by (own := [("k", 3)]) (N := ["board", "pressed", "stand", "k"]) (sc := defScope s_law_movable) (by decide +kernel)) (fun _ _ _ _ _ => pg_name (i := 3) sc_law_movable.nd rfl (Or.inl rfl)) (fun _ _ _ _ _ => (pts_one (pt_cmpR op_ne (pe_call G_law_worth (hr.mono (by omega)) (by rfl) T.m__law_worth T.F__law_worth.kp T.b__law_worth .nil pass0 (pa_cons (pe_ix (r := rIxL K) ix_list (pv 0) (pv 3) (fun _ _ => rfl)) (pa_cons (pv 2) (pa_cons (pv 1) pa_nil)))) (pe_ix (r := rIxT K) ix_tup (pv 2) (pv 3) (fun _ _ => rfl)) (nomark _)))) (fun _ _ _ _ _ => (pv 3))))), ?_⟩
  have hu := B.ulen
  have h6 := B.n6
  refine ⟨_, rfl, b, us, rfl, .inl (.of B.lst), _, rfl, by omega, by omega, fun D nD => lc_range (lo := 0) (n := us.length) (fun i H' => Same H H' ∧ H' D = some (.lst (((List.range i).filter (canMove ws ps ss)).map vn))) ?_ ?_ ?_⟩
  · exact ⟨Same.new nD, upd_same⟩
  · rintro i H2 hi ⟨s2, hD⟩
    refine ⟨rfl, ?_⟩
    obtain ⟨c, hc, hw, hf⟩ := B.at (k := i) (by omega)
    refine ⟨_, rfl, _, rfl, b, us, 0 + (i : Int), _, rfl, rfl, .of (s2 _ _ B.lst), at_of (j := i) (Int.zero_add _) hc, _, rfl, _, rfl, c, st, pr, ws.getD i .off, ss, ps, rfl, WA.same s2 hw, s2 _ _ hs, s2 _ _ hp, by rw [hsl, hpl]; exact hf.1, by have := hf.2; omega, fun H3 s3 => ?_⟩
    have s23 := s2.trans s3
    refine ⟨_, rfl, _, rfl, st, _, 0 + (i : Int), _, rfl, rfl, .of (s23 _ _ hs), at_bl (by omega) (by omega), rfl, _, rfl, ?_⟩
    have e : (!decide (V.bl ((ws.getD i .off).eval ss ps) = V.bl (ss.getD ((0 + (i : Int)).toNat) false))) = canMove ws ps ss i := by
      unfold canMove
      rw [toNat0]
      cases (ws.getD i W.off).eval ss ps <;> cases ss.getD i false <;> rfl
    rw [e]
    refine iB (fun c => ?_) (fun c => ?_)
    · refine ⟨_, rfl, _, s3 _ _ hD, small11 ?_, Same.lst s23 nD, ?_⟩
      · rw [List.length_map]
        have := List.length_filter_le (canMove ws ps ss) (List.range i)
        rw [List.length_range] at this
        omega
      · rw [upd_same, List.range_succ, filter_snoc, if_pos c, List.map_append, Int.zero_add]
        rfl
    · refine ⟨s23, ?_⟩
      rw [s3 _ _ hD, List.range_succ, filter_snoc, if_neg (by rw [c]; decide)]
  · rintro H2 ⟨s2, hD⟩
    refine q _ _ s2 nD ?_
    rw [hD, hu, ← B.len]
    rfl

theorem cut_lo (xs : List V) (k : Nat) (h : k ≤ xs.length) : cutV xs none (some (k : Int)) = xs.take k := by
  unfold cutV
  rw [HT.sIx_none, HT.sIx_nat, Nat.min_eq_left h]
  rfl
theorem cut_hi (xs : List V) (k : Nat) : cutV xs (some (k : Int)) none = xs.drop k := by
  unfold cutV
  rw [HT.sIx_none, HT.sIx_nat]
  by_cases h : k ≤ xs.length
  · rw [Nat.min_eq_left h, List.take_of_length_le (by rw [List.length_drop]; exact Nat.le_refl _)]
  · rw [Nat.min_eq_right (by omega), Nat.sub_self, List.take_zero, List.drop_eq_nil_of_le (by omega)]
theorem flip_split (ss : List Bool) (k : Nat) (h : k < ss.length) : (flip ss k).map V.bl = (ss.map V.bl).take k ++ [V.bl (!ss.getD k false)] ++ (ss.map V.bl).drop (k + 1) := by
  unfold flip
  rw [List.set_eq_take_append_cons_drop, if_pos h]
  simp
def sp_moved : Sp := fun vs H Q _ => ∃ (st : Addr) (k : Nat) (ss : List Bool), vs = [.ref st, vn k] ∧ H st = some (.tup (ss.map V.bl)) ∧ k < ss.length ∧ ss.length ≤ 1000 ∧
  ∀ (H' : Hp) (p : Addr), Same H H' → H' p = some (.tup ((flip ss k).map V.bl)) → Q (.ref p) H'
theorem cat_any {K : PySem.W.Frag} {H : Hp} {Q : VK} {a b : Addr} {xs ys : List V} (ha : H a = some (.tup xs)) (hb : H b = some (.tup ys)) (hz : xs.length + ys.length ≤ sizeLine)
    (q : ∀ (H' : Hp) (p : Addr), Same H H' → H' p = some (.tup (xs ++ ys)) → Q (.ref p) H') : rCatA K (.ref a) (.ref b) H Q := by
  refine ⟨a, b, xs, ys, rfl, rfl, .of ha, .of hb, hz, fun e => ?_, fun _ e => ?_, fun _ _ p np => q _ p (Same.new np) upd_same⟩
  · subst e; exact q _ _ (Same.refl _) hb
  · subst e; exact q _ _ (Same.refl _) (by rw [List.append_nil]; exact ha)
theorem ok_moved (T : Txt K mg Z) : FnOk P w K mg base CX0 1 Z.amoved Z.dmoved ["stand", "relay"] sp_moved := by
  refine T.F_moved.ok scmoved (fun vs H Q E h => by obtain ⟨_, _, _, rfl, _⟩ := h; rfl) (fun cdv A outer s H vs Q E hr h => ?_)
  obtain ⟨st, k, ss, rfl, hs, hk, h1000, q⟩ := h
  refine ⟨_, (pss_one (ps_ret (pe_op (r := rCatA K) op_catA (pe_op (r := rCatA K) op_catA (pe_slice (r := rSlT K) sl_tup (pv 0) po_none (po_some (pv 1))) (pe_tup (pa_cons (pe_not (pe_ix (r := rIxT K) ix_tup (pv 0) (pv 1) (fun _ _ => rfl))) pa_nil))) (pe_slice (r := rSlT K) sl_tup (pv 0) (po_some (pe_op op_add (pv 1) pe_int)) po_none)))), ?_⟩
  have hl : (ss.map V.bl).length = ss.length := List.length_map _
  refine ⟨_, rfl, _, rfl, _, rfl, st, _, rfl, .of hs, fun z => ?_, ?_⟩
  · have z2 := z.2
    rw [HT.sIx_nat, hl] at z2
    omega
  wtm_at "new p1 H1 s1 e1"
  rw [cut_lo _ _ (by omega)] at e1
  refine ⟨_, rfl, _, rfl, st, _, (k : Int), _, rfl, rfl, .of (s1 _ _ hs), at_bl (by omega) (by omega), _, rfl, by wtm_at "sz", ?_⟩
  wtm_at "new p2 H2 s2 e2"
  have l1 : ((ss.map V.bl).take k).length ≤ 1000 := by rw [List.length_take, hl]; omega
  refine cat_any (s2 _ _ e1) e2 (small10 (by show _ + 1 ≤ _; omega)) fun H3 p3 s3 e3 => ?_
  refine ⟨_, rfl, _, rfl, _, _, rfl, rfl, _, rfl, st, _, rfl, .of (s3 _ _ (s2 _ _ (s1 _ _ hs))), fun z => ?_, ?_⟩
  · have z1 := z.1
    rw [show ((k : Int) + 1) = ((k + 1 : Nat) : Int) from rfl, HT.sIx_nat, hl] at z1
    omega
  wtm_at "new p4 H4 s4 e4"
  rw [show ((k : Int) + 1) = ((k + 1 : Nat) : Int) from rfl, cut_hi] at e4
  refine cat_any (s4 _ _ e3) e4 (small10 ?_) fun H5 p5 s5 e5 => ?_
  · rw [List.length_append, List.length_drop, hl]
    show _ + 1 + _ ≤ _
    omega
  · refine q _ p5 (s1.trans (s2.trans (s3.trans (s4.trans s5)))) ?_
    rw [flip_split _ _ hk, e5, Int.toNat_natCast]

def sp_law_moved : Sp := fun vs H Q _ => ∃ (st : Addr) (k : Nat) (ss : List Bool), vs = [.ref st, vn k] ∧ H st = some (.tup (ss.map V.bl)) ∧ ss.length ≤ 1000 ∧
  ∀ (H' : Hp) (p : Addr), Same H H' → H p = none → H' p = some (.tup ((flip ss k).map V.bl)) → Q (.ref p) H'
theorem ok_law_moved (T : Txt K mg Z) : FnOk P w K mg base CX0 1 Z.a_law_moved Z.d_law_moved ["stand", "relay"] sp_law_moved := by
  refine T.F__law_moved.ok sc_law_moved (fun vs H Q E h => by obtain ⟨_, _, _, rfl, _⟩ := h; rfl) (fun cdv A outer s H vs Q E hr h => ?_)
  obtain ⟨st, k, ss, rfl, hs, h1000, q⟩ := h
  refine ⟨_, (pss_one (ps_ret (pe_callTy call_tuple_of (by rfl) T.n_tuple (by decide +kernel) (pa_cons (pe_lc (own := [("k", 2)]) (g := gName 2) (tt := tYes) rfl sc_law_moved.nd (pi_range1 rfl T.n_range (pa_cons (pe_callB (r := rLenSeq K) call_len_seq (by rfl) T.n_len PySem.boot_len (pa_cons (pv 0) pa_nil)) pa_nil)) (blkOk_by (own := [("k", 2)]) (N := ["stand", "relay", "k"]) (sc := defScope s_law_moved) (by decide +kernel)) (fun _ _ _ _ _ => pg_name (i := 2) sc_law_moved.nd rfl (Or.inl rfl)) (fun _ _ _ _ _ => pts_nil) (fun _ _ _ _ _ => (pe_cmpR op_ne (pe_ix (r := rIxT K) ix_tup (pv 0) (pv 2) (fun _ _ => rfl)) (pe_cmpR op_eq (pv 2) (pv 1) (nomark _)) (nomark _)))) pa_nil)))), ?_⟩
  have hl : (ss.map V.bl).length = ss.length := List.length_map _
  refine ⟨_, rfl, st, _, rfl, .inr (.of hs), _, rfl, by omega, by omega, fun D nD => lc_range (lo := 0) (n := (ss.map V.bl).length) (fun i H' => Same H H' ∧ H' D = some (.lst (((flip ss k).take i).map V.bl))) ?_ ?_ ?_⟩
  · exact ⟨Same.new nD, upd_same⟩
  · rintro i H2 hi ⟨s2, hD⟩
    wtm_at "lc"
    refine ⟨_, rfl, _, rfl, st, _, 0 + (i : Int), _, rfl, rfl, .of (s2 _ _ hs), at_bl (by omega) (by omega), _, rfl, _, rfl, rfl, rfl, ?_⟩
    refine ⟨_, hD, small11 (by rw [List.length_map, List.length_take]; omega), Same.lst s2 nD, ?_⟩
    rw [upd_same, List.take_add_one, flip_get _ _ _ (by omega), List.map_append, toNat0]
    have e1 : decide (V.int (0 + (i : Int)) = vn k) = decide (i = k) := decide_eq_decide.mpr ⟨fun e => by have := V.int.inj e; omega, fun e => by rw [e, Int.zero_add]; rfl⟩
    rw [e1]
    have e2 : (!decide (V.bl (ss.getD i false) = V.bl (decide (i = k)))) = (ss.getD i false != decide (i = k)) := by cases ss.getD i false <;> cases decide (i = k) <;> rfl
    rw [e2]
    rfl
  · rintro H2 ⟨s2, hD⟩
    refine ⟨D, _, rfl, .inl ⟨.of hD, ?_⟩⟩
    wtm_at "new p H3 s3 e3"
    rw [List.take_of_length_le (by rw [flip_len]; omega)] at e3
    exact q _ _ (s2.trans s3) (s2.free np) e3

def walkPost (Z : Ad) (ws : List W) (ps ss : List Bool) (ms : List Int) (H : Hp) (Q : VK) (E : XK) : Prop := match walkR ws ps ss ms with
  | .at t => ∀ (H' : Hp) (a : Addr), Same H H' → H' a = some (.tup (t.map V.bl)) → t.length = ss.length → Q (.ref a) H'
  | .norelay => ∀ H', Same H H' → E (.ref Z.CNoRelay) none H'
  | .still => ∀ H', Same H H' → E (.ref Z.CStill) none H'
theorem walkPost.norelay {Z : Ad} {ws : List W} {ps ss : List Bool} {ms : List Int} {H : Hp} {Q : VK} {E : XK} (h : walkPost Z ws ps ss ms H Q E) (e : walkR ws ps ss ms = .norelay) : ∀ H', Same H H' → E (.ref Z.CNoRelay) none H' := by
  unfold walkPost at h; rw [e] at h; exact h
theorem walkPost.still {Z : Ad} {ws : List W} {ps ss : List Bool} {ms : List Int} {H : Hp} {Q : VK} {E : XK} (h : walkPost Z ws ps ss ms H Q E) (e : walkR ws ps ss ms = .still) : ∀ H', Same H H' → E (.ref Z.CStill) none H' := by
  unfold walkPost at h; rw [e] at h; exact h
theorem walkPost.at {Z : Ad} {ws : List W} {ps ss t : List Bool} {ms : List Int} {H : Hp} {Q : VK} {E : XK} (h : walkPost Z ws ps ss ms H Q E) (e : walkR ws ps ss ms = .at t) : ∀ (H' : Hp) (a : Addr), Same H H' → H' a = some (.tup (t.map V.bl)) → t.length = ss.length → Q (.ref a) H' := by
  unfold walkPost at h; rw [e] at h; exact h
def sp_walked (Z : Ad) : Sp := fun vs H Q E => ∃ (b pr st mv : Addr) (n m : Nat) (us : List V) (ws : List W) (ps ss : List Bool) (ms : List Int), vs = [.ref b, .ref pr, .ref st, .ref mv] ∧ BoardAt H b us ws n m ∧ H pr = some (.tup (ps.map V.bl)) ∧ H st = some (.tup (ss.map V.bl)) ∧ H mv = some (.lst (ms.map V.int)) ∧
  ss.length = n ∧ ps.length = m ∧ walkPost Z ws ps ss ms H Q E
theorem ok_walked (T : Txt K mg Z) : FnOk P w K mg base (L2.CX P w) 12 Z.awalked Z.dwalked ["board", "pressed", "stand", "moves"] (sp_walked Z) := by
  have Gcan_move := ok_can_move (P := P) (w := w) (base := base) T
  have Gmoved := ok_moved (P := P) (w := w) (base := base) T
  refine T.F_walked.okX scwalked (fun vs H Q E h => by obtain ⟨_, _, _, _, _, _, _, _, _, _, _, rfl, _⟩ := h; rfl) (fun cdv A outer s H vs Q E hr h => ?_)
  obtain ⟨b, pr, st, mv, n, m, us, ws, ps, ss, ms, rfl, B, hp, hs, hm, hsl, hpl, q⟩ := h
  refine ⟨_, (pss_cons (ps_for (passes_of rfl) rfl (pi_list (pv 3)) (pg_name (i := 4) scwalked.nd rfl (Or.inl rfl))
      (pss_cons (ps_if (pt_not (pt_chain op_le op_lt pe_int (pv 4) (pe_callB (r := rLenSeq K) call_len_seq (by rfl) T.n_len PySem.boot_len (pa_cons (pv 0) pa_nil)))) (pss_one (ps_raise rfl (takes_of rfl rfl rfl rfl) (pmk_own PySem.F.excBase_ValueError T.x_NoRelay T.c_NoRelay T.k_NoRelay (raises_own T.sb_NoRelay T.ty_NoRelay) rfl))) pss_nil)
      (pss_cons (ps_if (pt_not (pt_val (pe_call Gcan_move (hr.mono (by omega)) (by rfl) T.m_can_move T.F_can_move.kp T.b_can_move .nil pass0 (pa_cons (pv 0) (pa_cons (pv 1) (pa_cons (pv 2) (pa_cons (pv 4) pa_nil))))))) (pss_one (ps_raise rfl (takes_of rfl rfl rfl rfl) (pmk_own PySem.F.excBase_ValueError T.x_Still T.c_Still T.k_Still (raises_own T.sb_Still T.ty_Still) rfl))) pss_nil)
      (pss_one (ps_set (i := 2) scwalked.nd rfl (Or.inl rfl) (pe_call Gmoved (hr.mono (by omega)) (by rfl) T.m_moved T.F_moved.kp T.b_moved .nil pass0 (pa_cons (pv 2) (pa_cons (pv 4) pa_nil))))))))
      (pss_one (ps_ret (pv 2)))), ?_⟩
  have hu := B.ulen
  have hwl := B.len
  refine ⟨_, rfl, mv, rfl, ⟨_, .of hm⟩, for_list (K := K) (a := mv) (xs := ms.map V.int) (fun i σ H' => ∃ t st' x, σ = [some (.ref b), some (.ref pr), some (.ref st'), some (.ref mv), x] ∧ Same H H' ∧ H' st' = some (.tup (t.map V.bl)) ∧ t.length = n ∧ walkR ws ps ss ms = walkR ws ps t (ms.drop i)) ?_ ?_ ?_ ?_⟩
  · exact ⟨ss, st, none, rfl, Same.refl _, hs, hsl, rfl⟩
  · rintro i σ H' _ ⟨t, st', x, _, s1, _⟩
    exact .of (s1 _ _ hm)
  · rintro i v σ H1 hi ⟨t, st', x, rfl, s1, h1, hl1, hw1⟩
    obtain ⟨r, hr1, rfl⟩ : ∃ r, ms[i]? = some r ∧ v = V.int r := by
      rw [List.getElem?_map] at hi
      cases e : ms[i]? with
      | none => rw [e] at hi; cases hi
      | some r => rw [e] at hi; exact ⟨r, rfl, (Option.some.inj hi).symm⟩
    obtain ⟨hil, hget⟩ := List.getElem?_eq_some_iff.mp hr1
    have hdrop : ms.drop i = r :: ms.drop (i + 1) := by rw [← hget]; exact List.drop_eq_getElem_cons hil
    rw [hdrop] at hw1
    refine ⟨_, rfl, _, _, rfl, rfl, _, rfl, ?_⟩
    have hb : (0 ≤ r ∧ r < (ws.length : Int)) ∨ ¬ (0 ≤ r ∧ r < (ws.length : Int)) := by omega
    rcases hb with hb | hb
    · refine iT (decide_eq_true hb.1) ?_
      refine ⟨_, rfl, b, us, rfl, .inl (.of (s1 _ _ B.lst)), _, _, rfl, rfl, _, rfl, ?_⟩
      rw [decide_eq_true (show r < ((us.length : Nat) : Int) by omega)]
      refine iF rfl ?_
      obtain ⟨k, rfl⟩ : ∃ k : Nat, r = (k : Int) := ⟨r.toNat, by omega⟩
      refine ⟨_, rfl, _, rfl, _, rfl, _, rfl, b, pr, st', k, n, m, us, ws, ps, t, rfl, by omega, B.same s1, s1 _ _ hp, h1, hl1, hpl, _, rfl, ?_⟩
      simp only [walkR] at hw1
      rw [if_pos hb, Int.toNat_natCast] at hw1
      refine iB (fun c => ?_) (fun c => ?_)
      · rw [if_neg (by rw [notT c]; decide)] at hw1
        exact q.still hw1 _ s1
      · rw [if_pos (notF c)] at hw1
        refine ⟨_, rfl, _, rfl, st', k, t, rfl, h1, by omega, by have := B.n6; omega, fun H2 p2 s2 e2 => ?_⟩
        exact ⟨flip t k, p2, _, rfl, s1.trans s2, e2, by rw [flip_len]; exact hl1, hw1⟩
    · have fin : walkR ws ps ss ms = .norelay := by
        rw [hw1]; simp only [walkR]; rw [if_neg hb]
      refine iB (fun c => ?_) (fun c => ?_)
      · refine ⟨_, rfl, b, us, rfl, .inl (.of (s1 _ _ B.lst)), _, _, rfl, rfl, _, rfl, ?_⟩
        have c' := of_decide_eq_true c
        rw [decide_eq_false (show ¬ r < ((us.length : Nat) : Int) by omega)]
        refine iT rfl ?_
        exact q.norelay fin _ s1
      · refine ⟨_, rfl, ?_⟩
        refine iT rfl ?_
        exact q.norelay fin _ s1
  · rintro σ H1 ⟨t, st', x, rfl, s1, h1, hl1, hw1⟩
    rw [List.length_map, List.drop_length] at hw1
    exact ⟨_, rfl, q.at hw1 _ _ s1 h1 (by rw [hl1, hsl])⟩

def marksL (d : Int) : List Bool := ((List.range 6).map fun (k : Nat) => decide ((k : Int) = d)) ++ [true]
theorem shBl (bs : List Bool) : Sh (.list (bs.map PyData.bool)) 1 := Sh.lst fun d hd => by
  obtain ⟨b, _, rfl⟩ := List.mem_map.mp hd
  exact Sh.bool b 0
def sp_law_refused : Sp := fun vs H Q _ => ∃ (a : Addr) (d : Int), vs = [.ref a, .int d] ∧ H a = some (.lst ((marksL d).map V.bl)) ∧ ∀ H', Same H H' → Q (.bl true) H'
theorem ok_law_refused (T : Txt K mg Z) : FnOk P w K mg base CX0 1 Z.a_law_refused Z.d_law_refused ["marks", "which"] sp_law_refused := by
  refine T.F__law_refused.ok sc_law_refused (fun vs H Q E h => by obtain ⟨_, _, rfl, _⟩ := h; rfl) (fun cdv A outer s H vs Q E hr h => ?_)
  obtain ⟨a, d, rfl, ha, q⟩ := h
  refine ⟨_, (pss_one (ps_ret (pe_cmpR (r := rEqD K) (op_eqD hr.units) (pv 0) (pe_op op_cat (pe_lc (own := [("k", 2)]) (g := gName 2) (tt := tYes) rfl sc_law_refused.nd (pi_range1 rfl T.n_range (pa_cons pe_int pa_nil)) (blkOk_by (own := [("k", 2)]) (N := ["marks", "which", "k"]) (sc := defScope s_law_refused) (by decide +kernel)) (fun _ _ _ _ _ => pg_name (i := 2) sc_law_refused.nd rfl (Or.inl rfl)) (fun _ _ _ _ _ => pts_nil) (fun _ _ _ _ _ => (pe_cmpR op_eq (pv 2) (pv 1) (nomark _)))) (pe_lst (pa_cons pe_bl pa_nil))) (nomark _)))), ?_⟩
  refine ⟨_, rfl, 6, rfl, by omega, by omega, fun D nD => lc_range (lo := 0) (n := 6) (fun i H' => Same H H' ∧ H' D = some (.lst (((List.range i).map fun (k : Nat) => decide ((k : Int) = d)).map V.bl))) ?_ ?_ ?_⟩
  · exact ⟨Same.new nD, upd_same⟩
  · rintro i H2 hi ⟨s2, hD⟩
    wtm_at "lc"
    refine ⟨_, rfl, _, rfl, rfl, _, hD, small11 (by rw [List.length_map, List.length_map, List.length_range]; omega), Same.lst s2 nD, ?_⟩
    rw [upd_same, List.range_succ, List.map_append, List.map_append, dec_vi, Int.zero_add]
    rfl
  · rintro H2 ⟨s2, hD⟩
    refine ⟨by wtm_at "sz", ?_⟩
    wtm_at "new p H3 s3 e3"
    refine ⟨D, p, _, _, rfl, rfl, s3 _ _ hD, e3, small10 (by rw [List.length_map, List.length_map, List.length_range]; decide), ?_⟩
    wtm_at "new r H4 s4 e4"
    have s24 := s2.trans (s3.trans s4)
    have e4' : H4 r = some (.lst ((marksL d).map V.bl)) := by
      rw [e4]; unfold marksL; rw [List.map_append]; rfl
    refine ⟨_, _, .lst (.of (s24 _ _ ha)) (dpAll_map fun b _ => .bl b), .lst (.of e4') (dpAll_map fun b _ => .bl b), (shBl _).shaped (by decide), (shBl _).shaped (by decide), ?_⟩
    rw [(shBl _).refl]
    exact q _ s24

theorem marks_3 : marksL 3 = [false, false, false, true, false, false, true] := by decide
theorem marks_4 : marksL 4 = [false, false, false, false, true, false, true] := by decide
def sp_law_told : Sp := fun vs H Q _ => ∃ (b pr st mv : Addr) (n m : Nat) (us : List V) (ws : List W) (ps ss : List Bool) (ms : List Int), vs = [.ref b, .ref pr, .ref st, .ref mv] ∧ BoardAt H b us ws n m ∧ H pr = some (.tup (ps.map V.bl)) ∧ H st = some (.tup (ss.map V.bl)) ∧ H mv = some (.lst (ms.map V.int)) ∧
  ss.length = n ∧ ps.length = m ∧ match walkR ws ps ss ms with
  | .at t => ∀ (H' : Hp) (p a k : Addr), Same H H' → H' p = some (.tup [.ref a, .ref k]) → H' a = some (.tup (t.map V.bl)) → H' k = some (.lst []) → t.length = n → Q (.ref p) H'
  | .norelay => ∀ (H' : Hp) (p k : Addr) (v : V), Same H H' → H' p = some (.tup [v, .ref k]) → H' k = some (.lst ((marksL 3).map V.bl)) → Q (.ref p) H'
  | .still => ∀ (H' : Hp) (p k : Addr) (v : V), Same H H' → H' p = some (.tup [v, .ref k]) → H' k = some (.lst ((marksL 4).map V.bl)) → Q (.ref p) H'
theorem ok_law_told (T : Txt K mg Z) : FnOk P w K mg base CX0 13 Z.a_law_told Z.d_law_told ["board", "pressed", "stand", "moves"] sp_law_told := by
  have Gwalked := ok_walked (P := P) (w := w) (base := base) T
  refine T.F__law_told.ok sc_law_told (fun vs H Q E h => by obtain ⟨_, _, _, _, _, _, _, _, _, _, _, rfl, _⟩ := h; rfl) (fun cdv A outer s H vs Q E hr h => ?_)
  obtain ⟨b, pr, st, mv, n, m, us, ws, ps, ss, ms, rfl, B, hp, hs, hm, hsl, hpl, q⟩ := h
  refine ⟨_, (pss_cons (ps_set (i := 4) sc_law_told.nd rfl (Or.inl rfl) pe_non)
      (pss_cons (ps_set (i := 5) sc_law_told.nd rfl (Or.inl rfl) (pe_lst pa_nil))
      (pss_cons (ps_try_as (i := 6) (tb := (fun W => tAsg (tCallS (sp_walked Z) (WE W) (tCons (tVar 0) (tCons (tVar 1) (tCons (tVar 2) (tCons (tVar 3) tNil))))) (gName 4))) (ts := (fun a cls d => tSuite K Z.CTooMany Z.CDeep Z.CNoContact Z.CNoRelay Z.CStill Z.CNoNote 6 5 a cls d)) (Wout := fun _ _ _ _ => False) rfl rfl sc_law_told.nd rfl rfl ⟨rfl, by decide, .inl T.c_RoomError⟩ takes0 (fun W pn xe tk _ => (pss_one (ps_set (i := 4) sc_law_told.nd rfl (Or.inl rfl) (pe_callS Gwalked (hr.mono (by omega)) rfl T.m_walked T.F_walked.kp T.b_walked (fun σ => passAt tk σ) (pa_cons (pv 0) (pa_cons (pv 1) (pa_cons (pv 2) (pa_cons (pv 3) pa_nil)))))))) (fun a oe cls d pn hz hf => (pss_cons (ps_set (i := 5) sc_law_told.nd rfl (Or.inl rfl) (pe_lst (pa_cons (pe_callB (r := rIsX K a cls d) (call_isX hz hf) (by rfl) T.n_isinstance (by decide +kernel) (pa_cons (pv 6) (pa_cons (pe_glob rfl T.c_TooMany rfl) pa_nil))) (pa_cons (pe_callB (r := rIsX K a cls d) (call_isX hz hf) (by rfl) T.n_isinstance (by decide +kernel) (pa_cons (pv 6) (pa_cons (pe_glob rfl T.c_Deep rfl) pa_nil))) (pa_cons (pe_callB (r := rIsX K a cls d) (call_isX hz hf) (by rfl) T.n_isinstance (by decide +kernel) (pa_cons (pv 6) (pa_cons (pe_glob rfl T.c_NoContact rfl) pa_nil))) (pa_cons (pe_callB (r := rIsX K a cls d) (call_isX hz hf) (by rfl) T.n_isinstance (by decide +kernel) (pa_cons (pv 6) (pa_cons (pe_glob rfl T.c_NoRelay rfl) pa_nil))) pa_nil))))))
      (pss_one (ps_set (i := 5) sc_law_told.nd rfl (Or.inl rfl) (pe_op op_cat (pv 5) (pe_lst (pa_cons (pe_callB (r := rIsX K a cls d) (call_isX hz hf) (by rfl) T.n_isinstance (by decide +kernel) (pa_cons (pv 6) (pa_cons (pe_glob rfl T.c_Still rfl) pa_nil))) (pa_cons (pe_callB (r := rIsX K a cls d) (call_isX hz hf) (by rfl) T.n_isinstance (by decide +kernel) (pa_cons (pv 6) (pa_cons (pe_glob rfl T.c_NoNote rfl) pa_nil))) (pa_cons (pe_callB (r := rIsX K a cls d) (call_isX hz hf) (by rfl) T.n_isinstance (by decide +kernel) (pa_cons (pv 6) (pa_cons (pe_bltn (v := .ty "ValueError") (u := .type "ValueError") (by rfl) T.n_ValueError (by decide +kernel) rfl) pa_nil))) pa_nil))))))))))
      (pss_one (ps_ret (pe_tup (pa_cons (pv 4) (pa_cons (pv 5) pa_nil)))))))), ?_⟩
  refine ⟨Nat.zero_le _, ?_⟩
  wtm_at "new k H1 s1 e1"
  refine ⟨_, rfl, _, rfl, _, rfl, _, rfl, b, pr, st, mv, n, m, us, ws, ps, ss, ms, rfl, B.same s1, s1 _ _ hp, s1 _ _ hs, s1 _ _ hm, hsl, hpl, ?_⟩
  unfold walkPost
  cases hw : walkR ws ps ss ms with
  | «at» t =>
    rw [hw] at q
    intro H2 a s2 ha hl
    refine ⟨_, rfl, _, rfl, by wtm_at "sz", ?_⟩
    wtm_at "new p H3 s3 e3"
    exact q _ _ _ _ (s1.trans (s2.trans s3)) e3 (s3 _ _ ha) ((s2.trans s3) _ _ e1) (by rw [hl, hsl])
  | norelay =>
    rw [hw] at q
    intro H2 s2
    refine ⟨true, T.e_NoRelay, fun _ a na => ?_, fun z => Bool.noConfusion z⟩
    refine suite_run T.E_NoRelay T.i_NoRelay_TooMany T.i_NoRelay_Deep T.i_NoRelay_NoContact T.i_NoRelay_NoRelay T.i_NoRelay_Still T.i_NoRelay_NoNote T.v_NoRelay rfl (Nat.le_of_ble_eq_true (n := 6) rfl) (by decide) fun H3 p0 p s3 e3 => ?_
    refine ⟨_, rfl, _, rfl, by wtm_at "sz", ?_⟩
    wtm_at "new r H4 s4 e4"
    exact q _ _ _ _ (s1.trans (s2.trans (s3.trans s4))) e4 (by rw [marks_3]; exact s4 _ _ e3)
  | still =>
    rw [hw] at q
    intro H2 s2
    refine ⟨true, T.e_Still, fun _ a na => ?_, fun z => Bool.noConfusion z⟩
    refine suite_run T.E_Still T.i_Still_TooMany T.i_Still_Deep T.i_Still_NoContact T.i_Still_NoRelay T.i_Still_Still T.i_Still_NoNote T.v_Still rfl (Nat.le_of_ble_eq_true (n := 6) rfl) (by decide) fun H3 p0 p s3 e3 => ?_
    refine ⟨_, rfl, _, rfl, by wtm_at "sz", ?_⟩
    wtm_at "new r H4 s4 e4"
    exact q _ _ _ _ (s1.trans (s2.trans (s3.trans s4))) e4 (by rw [marks_4]; exact s4 _ _ e3)

theorem RoomAt.board {H H' : Hp} {p b pr st : Addr} {n m : Nat} {ws : List W} {us : List V} {ps ss : List Bool} (R : RoomAt H H' p b pr st n m ws us ps ss) : BoardAt H' b us ws n m := ⟨R.lst, R.was, R.len, R.n6, R.fit.mono (by decide)⟩
theorem shInts (ms : List Int) : Sh (.list (ms.map PyData.int)) 1 := Sh.lst fun d hd => by
  obtain ⟨b, _, rfl⟩ := List.mem_map.mp hd
  exact Sh.int b 0
theorem dpInts {K : PySem.W.Frag} {H : Hp} {a : Addr} {ms : List Int} (h : H a = some (.lst (ms.map V.int))) : Dp K H (.ref a) (.list (ms.map PyData.int)) := .lst (.of h) (dpAll_map fun b _ => .int b)
/-- what the law's loop carries -/
def Duely (ws : List W) (ps ss t : List Bool) (ms : List Int) (d : Int) : Prop := (d = -1 ∧ walkR ws ps ss ms = .at t) ∨ (d = 3 ∧ walkR ws ps ss ms = .norelay) ∨ (d = 4 ∧ walkR ws ps ss ms = .still)
theorem duely_stay {ws : List W} {ps ss t : List Bool} {ms : List Int} {d r : Int} (h : Duely ws ps ss t ms d) (hd : ¬ d < 0) : Duely ws ps ss t (ms ++ [r]) d := by
  rcases h with ⟨e, _⟩ | ⟨e, h⟩ | ⟨e, h⟩
  · omega
  · exact .inr (.inl ⟨e, by rw [walkR_snoc, h]⟩)
  · exact .inr (.inr ⟨e, by rw [walkR_snoc, h]⟩)
theorem duely_at {ws : List W} {ps ss t : List Bool} {ms : List Int} {d : Int} (h : Duely ws ps ss t ms d) (hd : d < 0) : walkR ws ps ss ms = .at t := by
  rcases h with ⟨_, h⟩ | ⟨e, _⟩ | ⟨e, _⟩
  · exact h
  · omega
  · omega
def sp_law (K : PySem.W.Frag) : Sp := fun vs H Q _ => ∃ (a : Addr) (ns : List Int), vs = [.ref a] ∧ SqL K H a (ns.map V.int) ∧ ns.length ≤ 63 ∧ ∀ H', Q (.bl true) H'
theorem ok_law (T : Txt K mg Z) : FnOk P w K mg base CX0 14 Z.alaw Z.dlaw ["script"] (sp_law K) := by
  have G_law_room := ok_law_room (P := P) (w := w) (base := base) T
  have G_law_cell_at := ok_law_cell_at (P := P) (w := w) (base := base) T
  have G_law_pick := ok_law_pick (P := P) (w := w) (base := base) T
  have G_law_mix := ok_law_mix (P := P) (w := w) (base := base) T
  have G_law_movable := ok_law_movable (P := P) (w := w) (base := base) T
  have G_law_moved := ok_law_moved (P := P) (w := w) (base := base) T
  have G_law_is_stand := ok_law_is_stand (P := P) (w := w) (base := base) T
  have G_law_told := ok_law_told (P := P) (w := w) (base := base) T
  have G_law_refused := ok_law_refused (P := P) (w := w) (base := base) T
  have G_law_list := ok_law_list (P := P) (w := w) (base := base) T
  have Gmovable := ok_movable (P := P) (w := w) (base := base) T
  refine T.F_law.ok sclaw (fun vs H Q E h => by obtain ⟨_, _, rfl, _⟩ := h; rfl) (fun cdv A outer s H vs Q E hr h => ?_)
  obtain ⟨a, ns, rfl, hS, hlen, q⟩ := h
  refine ⟨_, (pss_cons (ps_set (i := 1) sclaw.nd rfl (Or.inl rfl) (pe_call G_law_room (hr.mono (by omega)) (by rfl) T.m__law_room T.F__law_room.kp T.b__law_room .nil pass0 (pa_cons (pv 0) pa_nil)))
      (pss_cons (ps_set (i := 2) sclaw.nd rfl (Or.inl rfl) (pe_callTy call_list_of (by rfl) T.n_list (by decide +kernel) (pa_cons (pe_ix (r := rIxT K) ix_tup (pv 1) pe_int (fun _ _ => rfl)) pa_nil)))
      (pss_cons (ps_set (i := 3) sclaw.nd rfl (Or.inl rfl) (pe_ix (r := rIxT K) ix_tup (pv 1) pe_int (fun _ _ => rfl)))
      (pss_cons (ps_set (i := 4) sclaw.nd rfl (Or.inl rfl) (pe_ix (r := rIxT K) ix_tup (pv 1) pe_int (fun _ _ => rfl)))
      (pss_cons (ps_set (i := 5) sclaw.nd rfl (Or.inl rfl) (pe_un un_neg pe_int))
      (pss_cons (ps_set (i := 6) sclaw.nd rfl (Or.inl rfl) (pe_lst pa_nil))
      (pss_cons (ps_for PassesOwn.never rfl (pi_range1 rfl T.n_range (pa_cons (pe_op op_mod (pe_call G_law_cell_at (hr.mono (by omega)) (by rfl) T.m__law_cell_at T.F__law_cell_at.kp T.b__law_cell_at .nil pass0 (pa_cons (pv 0) (pa_cons pe_int pa_nil))) pe_int) pa_nil)) (pg_name (i := 7) sclaw.nd rfl (Or.inl rfl))
      (pss_cons (ps_set (i := 8) sclaw.nd rfl (Or.inl rfl) (pe_op op_fdiv (pe_call G_law_mix (hr.mono (by omega)) (by rfl) T.m__law_mix T.F__law_mix.kp T.b__law_mix .nil pass0 (pa_cons (pe_call G_law_pick (hr.mono (by omega)) (by rfl) T.m__law_pick T.F__law_pick.kp T.b__law_pick .nil pass0 (pa_cons (pv 0) (pa_cons (pe_op op_add pe_int (pv 7)) pa_nil))) (pa_cons (pv 7) pa_nil))) pe_int))
      (pss_cons (ps_set (i := 9) sclaw.nd rfl (Or.inl rfl) (pe_call G_law_movable (hr.mono (by omega)) (by rfl) T.m__law_movable T.F__law_movable.kp T.b__law_movable .nil pass0 (pa_cons (pv 2) (pa_cons (pv 3) (pa_cons (pv 4) pa_nil)))))
      (pss_cons (ps_set (i := 10) sclaw.nd rfl (Or.inl rfl) (pe_op op_mod (pe_op op_fdiv (pv 8) pe_int) (pe_callB (r := rLenSeq K) call_len_seq (by rfl) T.n_len PySem.boot_len (pa_cons (pv 2) pa_nil))))
      (C8.pss_cut (ps_if (PW.pt (pw_and (pt_cmpR (r := rNeD K) (op_neD hr.units) (pv 9) (pe_lst pa_nil) (nomark _)) (pw_and1 (pt_cmpR op_gt (pe_op op_mod (pv 8) pe_int) pe_int (nomark _))))) (pss_one (ps_set (i := 10) sclaw.nd rfl (Or.inl rfl) (pe_ix (r := rIxL K) ix_list (pv 9) (pe_op op_mod (pe_op op_fdiv (pv 8) pe_int) (pe_callB (r := rLenSeq K) call_len_seq (by rfl) T.n_len PySem.boot_len (pa_cons (pv 9) pa_nil))) (fun _ _ => rfl)))) pss_nil)
      (C8.pss_cut (ps_if (pt_cmpR op_eq (pe_op op_mod (pv 8) pe_int) pe_int (nomark _)) (pss_one (ps_set (i := 10) sclaw.nd rfl (Or.inl rfl) (pe_ix (r := rIxL K) ix_list (pe_lst (pa_cons (pe_un un_neg pe_int) (pa_cons (pe_callB (r := rLenSeq K) call_len_seq (by rfl) T.n_len PySem.boot_len (pa_cons (pv 2) pa_nil)) (pa_cons (pe_op op_sub (pe_un un_neg pe_int) (pe_op op_mod (pe_op op_fdiv (pv 8) pe_int) pe_int)) (pa_cons (pe_op op_add (pe_callB (r := rLenSeq K) call_len_seq (by rfl) T.n_len PySem.boot_len (pa_cons (pv 2) pa_nil)) (pe_op op_mod (pe_op op_fdiv (pv 8) pe_int) pe_int)) pa_nil))))) (pe_op op_mod (pe_op op_fdiv (pv 8) pe_int) pe_int) (fun _ _ => rfl)))) pss_nil)
      (pss_cons (ps_expr (pe_bm PySem.F.plainAttrs_list PySem.F.slot_list_append PySem.F.type_list_append mt_append (pv 6) (pa_cons (pv 10) pa_nil)))
      (pss_one (ps_if (PW.pt (pw_and (pt_cmpR op_lt (pv 5) pe_int (nomark _)) (pw_and1 (pt_not (pt_chain op_le op_lt pe_int (pv 10) (pe_callB (r := rLenSeq K) call_len_seq (by rfl) T.n_len PySem.boot_len (pa_cons (pv 2) pa_nil))))))) (pss_one (ps_set (i := 5) sclaw.nd rfl (Or.inl rfl) pe_int)) (pss_one (ps_if (PW.pt (pw_and (pt_cmpR op_lt (pv 5) pe_int (nomark _)) (pw_and1 (pt_cmpR (r := rIn K true) op_notIn_seq (pv 10) (pv 9) (by rfl))))) (pss_one (ps_set (i := 5) sclaw.nd rfl (Or.inl rfl) pe_int)) (pss_one (ps_if (pt_cmpR op_lt (pv 5) pe_int (nomark _)) (pss_one (ps_set (i := 4) sclaw.nd rfl (Or.inl rfl) (pe_call G_law_moved (hr.mono (by omega)) (by rfl) T.m__law_moved T.F__law_moved.kp T.b__law_moved .nil pass0 (pa_cons (pv 4) (pa_cons (pv 10) pa_nil))))) pss_nil)))))))))))))
      (pss_cons (ps_set (i := 11) sclaw.nd rfl (Or.inl rfl) (pe_callTy call_list_of (by rfl) T.n_list (by decide +kernel) (pa_cons (pv 6) pa_nil)))
      (pss_cons (ps_set (i := 12) sclaw.nd rfl (Or.inl rfl) (pe_call G_law_told (hr.mono (by omega)) (by rfl) T.m__law_told T.F__law_told.kp T.b__law_told .nil pass0 (pa_cons (pv 2) (pa_cons (pv 3) (pa_cons (pe_ix (r := rIxT K) ix_tup (pv 1) pe_int (fun _ _ => rfl)) (pa_cons (pv 11) pa_nil))))))
      (pss_cons (ps_if (PW.pt (pw_or (pt_cmpR (r := rNeD K) (op_neD hr.units) (pv 11) (pv 6) (nomark _)) (pw_or1 (pt_cmpR (r := rNeD K) (op_neD hr.units) (pv 2) (pe_ix (r := rIxT K) ix_tup (pv 1) pe_int (fun _ _ => rfl)) (nomark _))))) (pss_one (ps_ret pe_bl)) pss_nil)
      (pss_cons (ps_if (pt_cmpR op_ge (pv 5) pe_int (nomark _)) (pss_one (ps_ret (pe_call G_law_refused (hr.mono (by omega)) (by rfl) T.m__law_refused T.F__law_refused.kp T.b__law_refused .nil pass0 (pa_cons (pe_ix (r := rIxT K) ix_tup (pv 12) pe_int (fun _ _ => rfl)) (pa_cons (pv 5) pa_nil))))) pss_nil)
      (pss_cons (ps_if (PW.pt (pw_or (pt_cmpR (r := rNeD K) (op_neD hr.units) (pe_ix (r := rIxT K) ix_tup (pv 12) pe_int (fun _ _ => rfl)) (pe_lst pa_nil) (nomark _)) (pw_or (pt_not (pt_val (pe_call G_law_is_stand (hr.mono (by omega)) (by rfl) T.m__law_is_stand T.F__law_is_stand.kp T.b__law_is_stand .nil pass0 (pa_cons (pe_ix (r := rIxT K) ix_tup (pv 12) pe_int (fun _ _ => rfl)) (pa_cons (pe_callB (r := rLenSeq K) call_len_seq (by rfl) T.n_len PySem.boot_len (pa_cons (pv 2) pa_nil)) pa_nil))))) (pw_or1 (pt_cmpR (r := rNeD K) (op_neD hr.units) (pe_ix (r := rIxT K) ix_tup (pv 12) pe_int (fun _ _ => rfl)) (pv 4) (nomark _)))))) (pss_one (ps_ret pe_bl)) pss_nil)
      (pss_cons (ps_set (i := 9) sclaw.nd rfl (Or.inl rfl) (pe_call G_law_movable (hr.mono (by omega)) (by rfl) T.m__law_movable T.F__law_movable.kp T.b__law_movable .nil pass0 (pa_cons (pv 2) (pa_cons (pv 3) (pa_cons (pv 4) pa_nil)))))
      (pss_cons (ps_set (i := 13) sclaw.nd rfl (Or.inl rfl) (pe_call Gmovable (hr.mono (by omega)) (by rfl) T.m_movable T.F_movable.kp T.b_movable .nil pass0 (pa_cons (pv 2) (pa_cons (pv 3) (pa_cons (pv 4) pa_nil)))))
      (pss_cons (ps_if (pt_not (pt_val (pe_call G_law_list (hr.mono (by omega)) (by rfl) T.m__law_list T.F__law_list.kp T.b__law_list .nil pass0 (pa_cons (pv 13) (pa_cons (pv 9) pa_nil))))) (pss_one (ps_ret pe_bl)) pss_nil)
      (pss_cons (ps_expr (pe_bm PySem.F.plainAttrs_list PySem.F.slot_list_append PySem.F.type_list_append mt_append (pv 13) (pa_cons pe_int pa_nil)))
      (pss_one (ps_ret (pe_call G_law_list (hr.mono (by omega)) (by rfl) T.m__law_list T.F__law_list.kp T.b__law_list .nil pass0 (pa_cons (pe_call Gmovable (hr.mono (by omega)) (by rfl) T.m_movable T.F_movable.kp T.b_movable .nil pass0 (pa_cons (pv 2) (pa_cons (pv 3) (pa_cons (pv 4) pa_nil)))) (pa_cons (pv 9) pa_nil))))))))))))))))))))), ?_⟩
  wtm_at "rd"
  refine ⟨a, ns, rfl, hS, fun H1 p b pr st n m ws us ps ss R => ?_⟩
  have B1 := R.board
  have hu := B1.ulen
  have h6 := B1.n6
  have h1n := R.n1
  have hwl := B1.len
  refine ⟨_, rfl, p, _, 0, _, rfl, rfl, .of R.tup, atI_nat (j := 0) rfl, b, us, rfl, .inl (.of R.lst), ?_⟩
  wtm_at "new L H2 s2 e2"
  have B2 : BoardAt H2 L us ws n m := ⟨e2, WAs.same s2 B1.was, B1.len, B1.n6, B1.fit⟩
  have p2 := s2 _ _ R.tup
  have pr2 := s2 _ _ R.pr
  have st2 := s2 _ _ R.st
  refine ⟨_, rfl, p, _, 1, _, rfl, rfl, .of p2, atI_nat (j := 1) rfl, _, rfl, p, _, 2, _, rfl, rfl, .of p2, atI_nat (j := 2) rfl, ?_⟩
  refine ⟨_, rfl, Nat.zero_le _, ?_⟩
  wtm_at "new M H3 s3 e3"
  have s13 := R.same.trans (s2.trans s3)
  refine ⟨_, rfl, a, ns, 3, rfl, s13.seq hS, by omega, fun c => ?_⟩
  refine ⟨_, _, rfl, rfl, by show (0 : Int) < 21; decide, _, rfl, by omega, by omega, ?_⟩
  refine for_range (lo := 0) (n := (c % 21).toNat) (fun i σ H' => ∃ t st' d ms x1 x2 x3 x4, σ = [some (.ref a), some (.ref p), some (.ref L), some (.ref pr), some (.ref st'), some (.int d), some (.ref M), x1, x2, x3, x4, none, none, none] ∧ Same H2 H' ∧ H' st' = some (.tup (t.map V.bl)) ∧ t.length = n ∧
      H' M = some (.lst (ms.map V.int)) ∧ ms.length ≤ i ∧ Duely ws ps ss t ms d) ?_ ?_ ?_
  · exact ⟨ss, st, -1, [], none, none, none, none, rfl, s3, s3 _ _ st2, R.slen, e3, Nat.le_refl _, .inl ⟨rfl, rfl⟩⟩
  · rintro i σ H4 hi ⟨t, st', d, ms, x1, x2, x3, x4, rfl, s4, h4, hl4, hM, hml, hd⟩
    refine ⟨_, rfl, _, rfl, _, _, rfl, rfl, a, ns, 12 + (0 + (i : Int)), rfl, (R.same.trans (s2.trans s4)).seq hS, by omega, fun c1 => ?_⟩
    refine ⟨_, rfl, c1, _, rfl, fun x hx0 hx1 => ?_⟩
    refine ⟨_, _, rfl, rfl, ⟨by decide, by decide⟩, ?_⟩
    have hx : 0 ≤ x / 7 := by omega
    wtm_at "ds"
    generalize x / 7 = mx at *
    refine ⟨_, rfl, _, rfl, _, rfl, L, pr, st', n, m, us, ws, ps, t, rfl, B2.same s4, s4 _ _ pr2, h4, hl4, R.plen, fun H5 ca s5 n5 e5 => ?_⟩
    refine ⟨_, rfl, _, _, rfl, rfl, ⟨by decide, by decide⟩, _, rfl, L, us, rfl, .inl (.of ((s4.trans s5) _ _ e2)), _, _, rfl, rfl, by omega, ?_⟩
    have hml5 : (movL ws ps t).length ≤ 6 := by have := movL_le ws ps t; omega
    refine ⟨fun σ' H' => ∃ r : Int, Same H5 H' ∧ σ' = [some (.ref a), some (.ref p), some (.ref L), some (.ref pr), some (.ref st'), some (.int d), some (.ref M), some (.int (0 + (i : Int))), some (.int mx), some (.ref ca), some (.int r), none, none, none], ?_, ?_⟩
    · refine ⟨_, rfl, Nat.zero_le _, ?_⟩
      wtm_at "new X H6 s6 e6"
      refine ⟨_, _, dpI (s6 _ _ e5), dpI (ks := []) e6, (shI _).shaped (by decide), (shI _).shaped (by decide), _, rfl, ?_⟩
      rw [eqv_il]
      refine iB (fun z => ?_) (fun z => ?_)
      · have hne : movL ws ps t ≠ [] := of_decide_eq_false (notT z)
        have hpos : 0 < (movL ws ps t).length := List.length_pos_iff.mpr hne
        refine ⟨_, rfl, _, _, rfl, rfl, by show (0 : Int) < 12; decide, _, _, rfl, rfl, _, rfl, ?_⟩
        refine iB (fun z2 => ?_) (fun z2 => ?_)
        · refine ⟨_, rfl, _, rfl, _, _, rfl, rfl, ⟨by decide, by decide⟩, _, rfl, ca, _, rfl, .inl (.of (s6 _ _ e5)), _, _, rfl, rfl, by rw [List.length_map]; omega, ?_⟩
          have b1 : 0 ≤ mx / 12 % (((movL ws ps t).map vn).length : Int) ∧ mx / 12 % (((movL ws ps t).map vn).length : Int) < (((movL ws ps t).map vn).length : Int) := ⟨Int.emod_nonneg _ (by rw [List.length_map]; omega), Int.emod_lt_of_pos _ (by rw [List.length_map]; omega)⟩
          rw [List.length_map] at b1
          obtain ⟨j, ej⟩ : ∃ j : Nat, mx / 12 % ((movL ws ps t).length : Int) = (j : Int) := ⟨(mx / 12 % ((movL ws ps t).length : Int)).toNat, by omega⟩
          have hj : j < (movL ws ps t).length := by omega
          have gj : ((movL ws ps t).map vn)[j]? = some (vn (movL ws ps t)[j]) := by rw [List.getElem?_map, List.getElem?_eq_getElem hj]; rfl
          refine ⟨ca, _, _, _, rfl, rfl, .of (s6 _ _ e5), at_of (j := j) (by rw [List.length_map]; exact ej) gj, ?_⟩
          exact ⟨((movL ws ps t)[j] : Int), s6, rfl⟩
        · exact ⟨_, s6, rfl⟩
      · refine iF rfl ?_
        exact ⟨_, s6, rfl⟩
    rintro σ' H6 ⟨r0, s6, rfl⟩
    have s26 := s4.trans (s5.trans s6)
    refine ⟨fun σ' H' => ∃ r : Int, Same H6 H' ∧ σ' = [some (.ref a), some (.ref p), some (.ref L), some (.ref pr), some (.ref st'), some (.int d), some (.ref M), some (.int (0 + (i : Int))), some (.int mx), some (.ref ca), some (.int r), none, none, none], ?_, ?_⟩
    · refine ⟨_, rfl, _, _, rfl, rfl, by show (0 : Int) < 40; decide, rfl, _, rfl, ?_⟩
      refine iB (fun z => ?_) (fun z => ?_)
      · refine ⟨_, rfl, _, rfl, L, us, rfl, .inl (.of (s26 _ _ e2)), ?_⟩
        refine ⟨_, rfl, _, rfl, _, _, rfl, rfl, ⟨by decide, by decide⟩, _, _, rfl, rfl, by show (0 : Int) < 900; decide, _, _, rfl, rfl, ?_⟩
        refine ⟨_, rfl, L, us, rfl, .inl (.of (s26 _ _ e2)), _, rfl, _, _, rfl, rfl, ⟨by decide, by decide⟩, _, _, rfl, rfl, by show (0 : Int) < 900; decide, _, _, rfl, rfl, ?_⟩
        refine ⟨by wtm_at "sz", ?_⟩
        wtm_at "new Y H7 s7 e7"
        refine ⟨_, rfl, _, _, rfl, rfl, ⟨by decide, by decide⟩, _, _, rfl, rfl, by show (0 : Int) < 4; decide, ?_⟩
        rcases (by omega : mx / 40 % 4 = 0 ∨ mx / 40 % 4 = 1 ∨ mx / 40 % 4 = 2 ∨ mx / 40 % 4 = 3) with e | e | e | e
        · exact ⟨Y, _, _, _, rfl, rfl, .of e7, at_of (j := 0) e rfl, _, s7, rfl⟩
        · exact ⟨Y, _, _, _, rfl, rfl, .of e7, at_of (j := 1) e rfl, _, s7, rfl⟩
        · exact ⟨Y, _, _, _, rfl, rfl, .of e7, at_of (j := 2) e rfl, _, s7, rfl⟩
        · exact ⟨Y, _, _, _, rfl, rfl, .of e7, at_of (j := 3) e rfl, _, s7, rfl⟩
      · exact ⟨r0, Same.refl _, rfl⟩
    rintro σ' H7 ⟨r, s7, rfl⟩
    have s27 := s26.trans s7
    have s47 := s5.trans (s6.trans s7)
    have hM7 := s47 _ _ hM
    refine ⟨_, rfl, .inl ⟨rfl, _, .of hM7⟩, _, rfl, M, _, _, rfl, rfl, hM7, small11 (by rw [List.length_map]; omega), ?_⟩
    have t78 : Tk H7 (upd H7 M (.lst (ms.map V.int ++ [V.int r]))) := Tk.lst hM7
    have s28 : Same H2 (upd H7 M (.lst (ms.map V.int ++ [V.int r]))) := Same.lst s27 nM
    have hM8 : (upd H7 M (.lst (ms.map V.int ++ [V.int r]))) M = some (.lst ((ms ++ [r]).map V.int)) := by rw [upd_same, List.map_append]; rfl
    have hca : (upd H7 M (.lst (ms.map V.int ++ [V.int r]))) ca = some (.lst ((movL ws ps t).map vn)) := by
      have : ca ≠ M := fun e => by rw [e, hM] at n5; cases n5
      rw [upd_ne this]; exact (s6.trans s7) _ _ e5
    have h48 : (upd H7 M (.lst (ms.map V.int ++ [V.int r]))) st' = some (.tup (t.map V.bl)) := t78 _ _ (s47 _ _ h4)
    generalize upd H7 M (.lst (ms.map V.int ++ [V.int r])) = H8 at *
    refine ⟨_, rfl, _, _, rfl, rfl, _, rfl, ?_⟩
    refine iB (fun z => ?_) (fun z => ?_)
    · have hdn := of_decide_eq_true z
      have hat := duely_at hd hdn
      refine ⟨_, rfl, _, _, rfl, rfl, _, rfl, ?_⟩
      have nr : ¬ (0 ≤ r ∧ r < (n : Int)) → Duely ws ps ss t (ms ++ [r]) 3 := fun hb => .inr (.inl ⟨rfl, by
        rw [walkR_snoc, hat]
        simp only [walkR]
        rw [if_neg (by rw [hwl]; exact hb)]⟩)
      refine iB (fun z0 => ?_) (fun z0 => ?_)
      · have hr0 := of_decide_eq_true z0
        refine ⟨_, rfl, L, us, rfl, .inl (.of (s28 _ _ e2)), _, _, rfl, rfl, _, rfl, ?_⟩
        refine iB (fun z1 => ?_) (fun z1 => ?_)
        · have hr1 := of_decide_eq_false (notT z1)
          exact ⟨t, st', 3, ms ++ [r], _, _, _, _, rfl, s28, h48, hl4, hM8, by rw [List.length_append, List.length_singleton]; omega, nr (by omega)⟩
        · have hr1 := of_decide_eq_true (notF z1)
          obtain ⟨k, rfl⟩ : ∃ k : Nat, r = (k : Int) := ⟨r.toNat, by omega⟩
          have hk : k < n := by omega
          refine ⟨_, rfl, _, _, rfl, rfl, _, rfl, ?_⟩
          refine iT (decide_eq_true hdn) ?_
          refine ⟨_, rfl, _, rfl, ca, _, rfl, .inl (.of hca), rfl, flat_vn _, _, rfl, ?_⟩
          rw [if_pos rfl, inV_vn]
          have any_iff : ((movL ws ps t).any fun j => decide ((j : Int) = (k : Int))) = canMove ws ps t k := by
            cases hc : canMove ws ps t k with
            | true => exact List.any_eq_true.mpr ⟨k, mem_movL.mpr ⟨by omega, hc⟩, decide_eq_true rfl⟩
            | false =>
              refine List.any_eq_false.mpr fun j hj e => ?_
              have : j = k := by have := of_decide_eq_true e; omega
              subst this
              rw [(mem_movL.mp hj).2] at hc
              cases hc
          rw [any_iff]
          have step : walkR ws ps t [(k : Int)] = if canMove ws ps t k = true then .at (flip t k) else .still := by
            simp only [walkR]
            rw [if_pos (by omega), Int.toNat_natCast]
          refine iB (fun z2 => ?_) (fun z2 => ?_)
          · refine ⟨t, st', 4, ms ++ [(k : Int)], _, _, _, _, rfl, s28, h48, hl4, hM8, by rw [List.length_append, List.length_singleton]; omega, .inr (.inr ⟨rfl, ?_⟩)⟩
            rw [walkR_snoc, hat]
            show walkR ws ps t [(k : Int)] = _
            rw [step, if_neg (by rw [notT z2]; decide)]
          · refine ⟨_, rfl, _, _, rfl, rfl, _, rfl, ?_⟩
            refine iT (decide_eq_true hdn) ?_
            refine ⟨_, rfl, _, rfl, st', k, t, rfl, h48, by omega, fun H9 p9 s9 n9 e9 => ?_⟩
            refine ⟨flip t k, p9, d, ms ++ [(k : Int)], _, _, _, _, rfl, s28.trans s9, e9, by rw [flip_len]; exact hl4, s9 _ _ hM8, by rw [List.length_append, List.length_singleton]; omega, .inl ⟨?_, ?_⟩⟩
            · rcases hd with ⟨e, _⟩ | ⟨e, _⟩ | ⟨e, _⟩
              · exact e
              · omega
              · omega
            · rw [walkR_snoc, hat]
              show walkR ws ps t [(k : Int)] = _
              rw [step, if_pos (notF z2)]
      · have hr0 := of_decide_eq_false z0
        refine ⟨_, rfl, ?_⟩
        refine iT rfl ?_
        exact ⟨t, st', 3, ms ++ [r], _, _, _, _, rfl, s28, h48, hl4, hM8, by rw [List.length_append, List.length_singleton]; omega, nr (by omega)⟩
    · have hdn := of_decide_eq_false z
      refine iF rfl ?_
      refine ⟨_, rfl, _, _, rfl, rfl, _, rfl, ?_⟩
      refine iF (decide_eq_false hdn) ?_
      refine iF rfl ?_
      refine ⟨_, rfl, _, _, rfl, rfl, _, rfl, ?_⟩
      refine iF (decide_eq_false hdn) ?_
      exact ⟨t, st', d, ms ++ [r], _, _, _, _, rfl, s28, h48, hl4, hM8, by rw [List.length_append, List.length_singleton]; omega, duely_stay hd hdn⟩
  rintro σ H4 ⟨t, st', d, ms, x1, x2, x3, x4, rfl, s4, h4, hl4, hM, hml, hd⟩
  refine ⟨_, rfl, M, _, rfl, .inl (.of hM), ?_⟩
  wtm_at "new N H5 s5 e5"
  have s25 := s4.trans s5
  refine ⟨_, rfl, _, rfl, _, rfl, p, _, 2, _, rfl, rfl, .of (s25 _ _ p2), atI_nat (j := 2) rfl, _, rfl, L, pr, st, N, n, m, us, ws, ps, ss, ms, rfl, B2.same s25, s25 _ _ pr2, s25 _ _ st2, e5, R.slen, R.plen, ?_⟩
  have eqs : ∀ (H6 : Hp) (s6 : Same H5 H6) (D : Ends) (σ : St) (rest : TS) (hN : σ[11]? = some (some (.ref N))) (hMM : σ[6]? = some (some (.ref M))) (hLL : σ[2]? = some (some (.ref L))) (hpp : σ[1]? = some (some (.ref p))), rest D σ H6 →
      tSeq (tIfS (tOr (tTest (tOp (rNeD K) (tVar 11) (tVar 6))) (tTest (tOp (rNeD K) (tVar 2) (tOp (rIxT K) (tVar 1) (tC (.int 0)))))) (tRet (tC (.bl false))) tNext) rest D σ H6 := by
    intro H6 s6 D σ rest hN hMM hLL hpp hrest
    refine ⟨_, hN, _, hMM, _, _, dpInts (s6 _ _ e5), dpInts ((s5.trans s6) _ _ hM), (shInts _).shaped (by decide), (shInts _).shaped (by decide), _, rfl, ?_⟩
    rw [(shInts _).refl]
    refine iF rfl ?_
    have s26 := s25.trans s6
    have B6 := B2.same s26
    have sh : Sh (.list (ws.map wd)) (10 + 1) := shWs B6.fit
    refine ⟨_, hLL, _, hpp, p, _, 0, _, rfl, rfl, .of (s26 _ _ p2), atI_nat (j := 0) rfl, _, _, .lst (.of B6.lst) (dpWs B6.was), .lst (.of ((s2.trans s26) _ _ R.lst)) (dpWs B6.was), sh.shaped (by decide), sh.shaped (by decide), _, rfl, ?_⟩
    rw [sh.refl]
    refine iF rfl ?_
    exact hrest
  rcases hd with ⟨rfl, hw⟩ | ⟨rfl, hw⟩ | ⟨rfl, hw⟩
  · rw [hw]
    intro H6 tp ta tk s6 e6 ha hk htl
    refine eqs H6 s6 _ _ _ rfl rfl rfl rfl ?_
    refine ⟨_, rfl, _, _, rfl, rfl, _, rfl, ?_⟩
    refine iF (by decide) ?_
    refine ⟨_, rfl, tp, _, 1, _, rfl, rfl, .of e6, atI_nat (j := 1) rfl, Nat.zero_le _, ?_⟩
    wtm_at "new X H7 s7 e7"
    refine ⟨_, _, dpI (ks := []) (s7 _ _ hk), dpI (ks := []) e7, (shI _).shaped (by decide), (shI _).shaped (by decide), _, rfl, ?_⟩
    rw [(shI _).refl]
    refine iF rfl ?_
    have s27 := s25.trans (s6.trans s7)
    refine ⟨_, rfl, tp, _, 0, _, rfl, rfl, .of (s7 _ _ e6), atI_nat (j := 0) rfl, _, rfl, L, us, rfl, .inl (.of (s27 _ _ e2)), ta, t, n, by rw [hu]; rfl, s7 _ _ ha, htl, by omega, fun H8 s8 => ?_⟩
    refine ⟨_, rfl, ?_⟩
    refine iF rfl ?_
    have s78 := s7.trans s8
    have s48 := s5.trans (s6.trans s78)
    refine ⟨_, rfl, tp, _, 0, _, rfl, rfl, .of (s78 _ _ e6), atI_nat (j := 0) rfl, _, rfl, _, _, dpB (s78 _ _ ha), dpB (s48 _ _ h4), (shB _).shaped (by decide), (shB _).shaped (by decide), _, rfl, ?_⟩
    rw [(shB _).refl]
    refine iF rfl ?_
    have s28 := s27.trans s8
    refine ⟨_, rfl, _, rfl, _, rfl, L, pr, st', n, m, us, ws, ps, t, rfl, B2.same s28, s28 _ _ pr2, s48 _ _ h4, hl4, R.plen, fun H9 c9 s9 n9 e9 => ?_⟩
    have s29 := s28.trans s9
    have s49 := s48.trans s9
    refine ⟨_, rfl, _, rfl, _, rfl, L, pr, st', n, m, us, ws, ps, t, rfl, B2.same s29, s29 _ _ pr2, s49 _ _ h4, hl4, R.plen, fun Ha ca sa na ea => ?_⟩
    have hle : (movL ws ps t).length ≤ 1000 := by have := movL_le ws ps t; omega
    refine ⟨_, rfl, _, rfl, ca, c9, _, rfl, ea, sa _ _ e9, hle, ?_⟩
    refine ⟨_, rfl, ?_⟩
    refine iF rfl ?_
    refine ⟨_, rfl, .inl ⟨rfl, _, .of ea⟩, ca, _, _, rfl, rfl, ea, small11 (by rw [List.length_map]; omega), ?_⟩
    have s9b : Same H9 (upd Ha ca (.lst ((movL ws ps t).map vn ++ [V.int 0]))) := Same.lst sa na
    generalize upd Ha ca (.lst ((movL ws ps t).map vn ++ [V.int 0])) = Hb at *
    have s2b := s29.trans s9b
    have s4b := s49.trans s9b
    refine ⟨_, rfl, _, rfl, _, rfl, L, pr, st', n, m, us, ws, ps, t, rfl, B2.same s2b, s2b _ _ pr2, s4b _ _ h4, hl4, R.plen, fun Hc cc sc nc ec => ?_⟩
    exact ⟨_, rfl, cc, c9, _, rfl, ec, sc _ _ (s9b _ _ e9), hle, q _⟩
  · rw [hw]
    intro H6 tp tk v s6 e6 hk
    refine eqs H6 s6 _ _ _ rfl rfl rfl rfl ?_
    refine ⟨_, rfl, _, _, rfl, rfl, _, rfl, ?_⟩
    refine iT (by decide) ?_
    exact ⟨_, rfl, tp, _, 1, _, rfl, rfl, .of e6, atI_nat (j := 1) rfl, _, rfl, tk, 3, rfl, hk, fun H7 s7 => q _⟩
  · rw [hw]
    intro H6 tp tk v s6 e6 hk
    refine eqs H6 s6 _ _ _ rfl rfl rfl rfl ?_
    refine ⟨_, rfl, _, _, rfl, rfl, _, rfl, ?_⟩
    refine iT (by decide) ?_
    exact ⟨_, rfl, tp, _, 1, _, rfl, rfl, .of e6, atI_nat (j := 1) rfl, _, rfl, tk, 4, rfl, hk, fun H7 s7 => q _⟩

end
theorem all_mk {l : PySem.W.OpenLaw} {w : World} {K : PySem.W.Frag} {h : Heap} {mg : Str → Option Value} {fa : Addr} (X : K.In h) (G : h.Ns mainGlobals mg) (hfa : mg "law" = some (.ref fa))
    {f0 f1 f2 f3 f4 f5 f6 f7 f8 f9 f10 f11 f12 f13 f14 f15 f16 f17 f18 f19 f20 f21 f22 : Addr}
    {CRoomError CTooMany CDeep CNoContact CNoRelay CStill CNoNote : Addr}
    {od0 an0 : Option Addr} {sl0 : Array (Option Value)} {oc0 kV0 dc0 pm0 cd0 ct0 : Value}
    (a0 : PySem.W.nsIn K mainGlobals "worth" = some (some (.ref f0))) (l0 : K.lookup f0 = some ⟨oc0, od0, .func (PySem.W.fnOf "worth" "worth" (defArgs sworth) (defBody sworth) (defScope sworth) .none kV0 dc0 pm0 an0 cd0 ct0), sl0⟩) (c0 : PySem.W.codeIn K cd0 "worth" = true) (k0 : PySem.W.keepIn K (.ref f0) = true)
    {od1 an1 : Option Addr} {sl1 : Array (Option Value)} {oc1 kV1 dc1 pm1 cd1 ct1 : Value}
    (a1 : PySem.W.nsIn K mainGlobals "can_move" = some (some (.ref f1))) (l1 : K.lookup f1 = some ⟨oc1, od1, .func (PySem.W.fnOf "can_move" "can_move" (defArgs scan_move) (defBody scan_move) (defScope scan_move) .none kV1 dc1 pm1 an1 cd1 ct1), sl1⟩) (c1 : PySem.W.codeIn K cd1 "can_move" = true) (k1 : PySem.W.keepIn K (.ref f1) = true)
    {od2 an2 : Option Addr} {sl2 : Array (Option Value)} {oc2 kV2 dc2 pm2 cd2 ct2 : Value}
    (a2 : PySem.W.nsIn K mainGlobals "movable" = some (some (.ref f2))) (l2 : K.lookup f2 = some ⟨oc2, od2, .func (PySem.W.fnOf "movable" "movable" (defArgs smovable) (defBody smovable) (defScope smovable) .none kV2 dc2 pm2 an2 cd2 ct2), sl2⟩) (c2 : PySem.W.codeIn K cd2 "movable" = true) (k2 : PySem.W.keepIn K (.ref f2) = true)
    {od3 an3 : Option Addr} {sl3 : Array (Option Value)} {oc3 kV3 dc3 pm3 cd3 ct3 : Value}
    (a3 : PySem.W.nsIn K mainGlobals "moved" = some (some (.ref f3))) (l3 : K.lookup f3 = some ⟨oc3, od3, .func (PySem.W.fnOf "moved" "moved" (defArgs smoved) (defBody smoved) (defScope smoved) .none kV3 dc3 pm3 an3 cd3 ct3), sl3⟩) (c3 : PySem.W.codeIn K cd3 "moved" = true) (k3 : PySem.W.keepIn K (.ref f3) = true)
    {od4 an4 : Option Addr} {sl4 : Array (Option Value)} {oc4 kV4 dc4 pm4 cd4 ct4 : Value}
    (a4 : PySem.W.nsIn K mainGlobals "walked" = some (some (.ref f4))) (l4 : K.lookup f4 = some ⟨oc4, od4, .func (PySem.W.fnOf "walked" "walked" (defArgs swalked) (defBody swalked) (defScope swalked) .none kV4 dc4 pm4 an4 cd4 ct4), sl4⟩) (c4 : PySem.W.codeIn K cd4 "walked" = true) (k4 : PySem.W.keepIn K (.ref f4) = true)
    {od5 an5 : Option Addr} {sl5 : Array (Option Value)} {oc5 kV5 dc5 pm5 cd5 ct5 : Value}
    (a5 : PySem.W.nsIn K mainGlobals "_law_cell_at" = some (some (.ref f5))) (l5 : K.lookup f5 = some ⟨oc5, od5, .func (PySem.W.fnOf "_law_cell_at" "_law_cell_at" (defArgs s_law_cell_at) (defBody s_law_cell_at) (defScope s_law_cell_at) .none kV5 dc5 pm5 an5 cd5 ct5), sl5⟩) (c5 : PySem.W.codeIn K cd5 "_law_cell_at" = true) (k5 : PySem.W.keepIn K (.ref f5) = true)
    {od6 an6 : Option Addr} {sl6 : Array (Option Value)} {oc6 kV6 dc6 pm6 cd6 ct6 : Value}
    (a6 : PySem.W.nsIn K mainGlobals "_law_pick" = some (some (.ref f6))) (l6 : K.lookup f6 = some ⟨oc6, od6, .func (PySem.W.fnOf "_law_pick" "_law_pick" (defArgs s_law_pick) (defBody s_law_pick) (defScope s_law_pick) .none kV6 dc6 pm6 an6 cd6 ct6), sl6⟩) (c6 : PySem.W.codeIn K cd6 "_law_pick" = true) (k6 : PySem.W.keepIn K (.ref f6) = true)
    {od7 an7 : Option Addr} {sl7 : Array (Option Value)} {oc7 kV7 dc7 pm7 cd7 ct7 : Value}
    (a7 : PySem.W.nsIn K mainGlobals "_law_whole" = some (some (.ref f7))) (l7 : K.lookup f7 = some ⟨oc7, od7, .func (PySem.W.fnOf "_law_whole" "_law_whole" (defArgs s_law_whole) (defBody s_law_whole) (defScope s_law_whole) .none kV7 dc7 pm7 an7 cd7 ct7), sl7⟩) (c7 : PySem.W.codeIn K cd7 "_law_whole" = true) (k7 : PySem.W.keepIn K (.ref f7) = true)
    {od8 an8 : Option Addr} {sl8 : Array (Option Value)} {oc8 kV8 dc8 pm8 cd8 ct8 : Value}
    (a8 : PySem.W.nsIn K mainGlobals "_law_mix" = some (some (.ref f8))) (l8 : K.lookup f8 = some ⟨oc8, od8, .func (PySem.W.fnOf "_law_mix" "_law_mix" (defArgs s_law_mix) (defBody s_law_mix) (defScope s_law_mix) .none kV8 dc8 pm8 an8 cd8 ct8), sl8⟩) (c8 : PySem.W.codeIn K cd8 "_law_mix" = true) (k8 : PySem.W.keepIn K (.ref f8) = true)
    {od9 an9 : Option Addr} {sl9 : Array (Option Value)} {oc9 kV9 dc9 pm9 cd9 ct9 : Value}
    (a9 : PySem.W.nsIn K mainGlobals "_law_leaf" = some (some (.ref f9))) (l9 : K.lookup f9 = some ⟨oc9, od9, .func (PySem.W.fnOf "_law_leaf" "_law_leaf" (defArgs s_law_leaf) (defBody s_law_leaf) (defScope s_law_leaf) .none kV9 dc9 pm9 an9 cd9 ct9), sl9⟩) (c9 : PySem.W.codeIn K cd9 "_law_leaf" = true) (k9 : PySem.W.keepIn K (.ref f9) = true)
    {od10 an10 : Option Addr} {sl10 : Array (Option Value)} {oc10 kV10 dc10 pm10 cd10 ct10 : Value}
    (a10 : PySem.W.nsIn K mainGlobals "_law_word" = some (some (.ref f10))) (l10 : K.lookup f10 = some ⟨oc10, od10, .func (PySem.W.fnOf "_law_word" "_law_word" (defArgs s_law_word) (defBody s_law_word) (defScope s_law_word) .none kV10 dc10 pm10 an10 cd10 ct10), sl10⟩) (c10 : PySem.W.codeIn K cd10 "_law_word" = true) (k10 : PySem.W.keepIn K (.ref f10) = true)
    {od11 an11 : Option Addr} {sl11 : Array (Option Value)} {oc11 kV11 dc11 pm11 cd11 ct11 : Value}
    (a11 : PySem.W.nsIn K mainGlobals "_law_board" = some (some (.ref f11))) (l11 : K.lookup f11 = some ⟨oc11, od11, .func (PySem.W.fnOf "_law_board" "_law_board" (defArgs s_law_board) (defBody s_law_board) (defScope s_law_board) .none kV11 dc11 pm11 an11 cd11 ct11), sl11⟩) (c11 : PySem.W.codeIn K cd11 "_law_board" = true) (k11 : PySem.W.keepIn K (.ref f11) = true)
    {od12 an12 : Option Addr} {sl12 : Array (Option Value)} {oc12 kV12 dc12 pm12 cd12 ct12 : Value}
    (a12 : PySem.W.nsIn K mainGlobals "_law_bits" = some (some (.ref f12))) (l12 : K.lookup f12 = some ⟨oc12, od12, .func (PySem.W.fnOf "_law_bits" "_law_bits" (defArgs s_law_bits) (defBody s_law_bits) (defScope s_law_bits) .none kV12 dc12 pm12 an12 cd12 ct12), sl12⟩) (c12 : PySem.W.codeIn K cd12 "_law_bits" = true) (k12 : PySem.W.keepIn K (.ref f12) = true)
    {od13 an13 : Option Addr} {sl13 : Array (Option Value)} {oc13 kV13 dc13 pm13 cd13 ct13 : Value}
    (a13 : PySem.W.nsIn K mainGlobals "_law_wrapped" = some (some (.ref f13))) (l13 : K.lookup f13 = some ⟨oc13, od13, .func (PySem.W.fnOf "_law_wrapped" "_law_wrapped" (defArgs s_law_wrapped) (defBody s_law_wrapped) (defScope s_law_wrapped) .none kV13 dc13 pm13 an13 cd13 ct13), sl13⟩) (c13 : PySem.W.codeIn K cd13 "_law_wrapped" = true) (k13 : PySem.W.keepIn K (.ref f13) = true)
    {od14 an14 : Option Addr} {sl14 : Array (Option Value)} {oc14 kV14 dc14 pm14 cd14 ct14 : Value}
    (a14 : PySem.W.nsIn K mainGlobals "_law_room" = some (some (.ref f14))) (l14 : K.lookup f14 = some ⟨oc14, od14, .func (PySem.W.fnOf "_law_room" "_law_room" (defArgs s_law_room) (defBody s_law_room) (defScope s_law_room) .none kV14 dc14 pm14 an14 cd14 ct14), sl14⟩) (c14 : PySem.W.codeIn K cd14 "_law_room" = true) (k14 : PySem.W.keepIn K (.ref f14) = true)
    {od15 an15 : Option Addr} {sl15 : Array (Option Value)} {oc15 kV15 dc15 pm15 cd15 ct15 : Value}
    (a15 : PySem.W.nsIn K mainGlobals "_law_worth" = some (some (.ref f15))) (l15 : K.lookup f15 = some ⟨oc15, od15, .func (PySem.W.fnOf "_law_worth" "_law_worth" (defArgs s_law_worth) (defBody s_law_worth) (defScope s_law_worth) .none kV15 dc15 pm15 an15 cd15 ct15), sl15⟩) (c15 : PySem.W.codeIn K cd15 "_law_worth" = true) (k15 : PySem.W.keepIn K (.ref f15) = true)
    {od16 an16 : Option Addr} {sl16 : Array (Option Value)} {oc16 kV16 dc16 pm16 cd16 ct16 : Value}
    (a16 : PySem.W.nsIn K mainGlobals "_law_movable" = some (some (.ref f16))) (l16 : K.lookup f16 = some ⟨oc16, od16, .func (PySem.W.fnOf "_law_movable" "_law_movable" (defArgs s_law_movable) (defBody s_law_movable) (defScope s_law_movable) .none kV16 dc16 pm16 an16 cd16 ct16), sl16⟩) (c16 : PySem.W.codeIn K cd16 "_law_movable" = true) (k16 : PySem.W.keepIn K (.ref f16) = true)
    {od17 an17 : Option Addr} {sl17 : Array (Option Value)} {oc17 kV17 dc17 pm17 cd17 ct17 : Value}
    (a17 : PySem.W.nsIn K mainGlobals "_law_moved" = some (some (.ref f17))) (l17 : K.lookup f17 = some ⟨oc17, od17, .func (PySem.W.fnOf "_law_moved" "_law_moved" (defArgs s_law_moved) (defBody s_law_moved) (defScope s_law_moved) .none kV17 dc17 pm17 an17 cd17 ct17), sl17⟩) (c17 : PySem.W.codeIn K cd17 "_law_moved" = true) (k17 : PySem.W.keepIn K (.ref f17) = true)
    {od18 an18 : Option Addr} {sl18 : Array (Option Value)} {oc18 kV18 dc18 pm18 cd18 ct18 : Value}
    (a18 : PySem.W.nsIn K mainGlobals "_law_is_stand" = some (some (.ref f18))) (l18 : K.lookup f18 = some ⟨oc18, od18, .func (PySem.W.fnOf "_law_is_stand" "_law_is_stand" (defArgs s_law_is_stand) (defBody s_law_is_stand) (defScope s_law_is_stand) .none kV18 dc18 pm18 an18 cd18 ct18), sl18⟩) (c18 : PySem.W.codeIn K cd18 "_law_is_stand" = true) (k18 : PySem.W.keepIn K (.ref f18) = true)
    {od19 an19 : Option Addr} {sl19 : Array (Option Value)} {oc19 kV19 dc19 pm19 cd19 ct19 : Value}
    (a19 : PySem.W.nsIn K mainGlobals "_law_list" = some (some (.ref f19))) (l19 : K.lookup f19 = some ⟨oc19, od19, .func (PySem.W.fnOf "_law_list" "_law_list" (defArgs s_law_list) (defBody s_law_list) (defScope s_law_list) .none kV19 dc19 pm19 an19 cd19 ct19), sl19⟩) (c19 : PySem.W.codeIn K cd19 "_law_list" = true) (k19 : PySem.W.keepIn K (.ref f19) = true)
    {od20 an20 : Option Addr} {sl20 : Array (Option Value)} {oc20 kV20 dc20 pm20 cd20 ct20 : Value}
    (a20 : PySem.W.nsIn K mainGlobals "_law_refused" = some (some (.ref f20))) (l20 : K.lookup f20 = some ⟨oc20, od20, .func (PySem.W.fnOf "_law_refused" "_law_refused" (defArgs s_law_refused) (defBody s_law_refused) (defScope s_law_refused) .none kV20 dc20 pm20 an20 cd20 ct20), sl20⟩) (c20 : PySem.W.codeIn K cd20 "_law_refused" = true) (k20 : PySem.W.keepIn K (.ref f20) = true)
    {od21 an21 : Option Addr} {sl21 : Array (Option Value)} {oc21 kV21 dc21 pm21 cd21 ct21 : Value}
    (a21 : PySem.W.nsIn K mainGlobals "_law_told" = some (some (.ref f21))) (l21 : K.lookup f21 = some ⟨oc21, od21, .func (PySem.W.fnOf "_law_told" "_law_told" (defArgs s_law_told) (defBody s_law_told) (defScope s_law_told) .none kV21 dc21 pm21 an21 cd21 ct21), sl21⟩) (c21 : PySem.W.codeIn K cd21 "_law_told" = true) (k21 : PySem.W.keepIn K (.ref f21) = true)
    {od22 an22 : Option Addr} {sl22 : Array (Option Value)} {oc22 kV22 dc22 pm22 cd22 ct22 : Value}
    (a22 : PySem.W.nsIn K mainGlobals "law" = some (some (.ref f22))) (l22 : K.lookup f22 = some ⟨oc22, od22, .func (PySem.W.fnOf "law" "law" (defArgs slaw) (defBody slaw) (defScope slaw) .none kV22 dc22 pm22 an22 cd22 ct22), sl22⟩) (c22 : PySem.W.codeIn K cd22 "law" = true) (k22 : PySem.W.keepIn K (.ref f22) = true)
    (z_range : PySem.W.nsIn K mainGlobals "range" = some none)
    (z_len : PySem.W.nsIn K mainGlobals "len" = some none)
    (z_isinstance : PySem.W.nsIn K mainGlobals "isinstance" = some none)
    (z_int : PySem.W.nsIn K mainGlobals "int" = some none)
    (z_bool : PySem.W.nsIn K mainGlobals "bool" = some none)
    (z_tuple : PySem.W.nsIn K mainGlobals "tuple" = some none)
    (z_all : PySem.W.nsIn K mainGlobals "all" = some none)
    (z_list : PySem.W.nsIn K mainGlobals "list" = some none)
    (z_ValueError : PySem.W.nsIn K mainGlobals "ValueError" = some none)
    (aC_RoomError : PySem.W.nsIn K mainGlobals "RoomError" = some (some (.ref CRoomError)))
    (aC_TooMany : PySem.W.nsIn K mainGlobals "TooMany" = some (some (.ref CTooMany)))
    (aC_Deep : PySem.W.nsIn K mainGlobals "Deep" = some (some (.ref CDeep)))
    (aC_NoContact : PySem.W.nsIn K mainGlobals "NoContact" = some (some (.ref CNoContact)))
    (aC_NoRelay : PySem.W.nsIn K mainGlobals "NoRelay" = some (some (.ref CNoRelay)))
    (aC_Still : PySem.W.nsIn K mainGlobals "Still" = some (some (.ref CStill)))
    (aC_NoNote : PySem.W.nsIn K mainGlobals "NoNote" = some (some (.ref CNoNote)))
    (cl_RoomError : PySem.W.isClsIn K CRoomError = true) (tt_RoomError : PySem.W.typeIn K (.ref CRoomError) = some (.type "type"))
    (cl_TooMany : PySem.W.isClsIn K CTooMany = true) (tt_TooMany : PySem.W.typeIn K (.ref CTooMany) = some (.type "type"))
    (cl_Deep : PySem.W.isClsIn K CDeep = true) (tt_Deep : PySem.W.typeIn K (.ref CDeep) = some (.type "type"))
    (cl_NoContact : PySem.W.isClsIn K CNoContact = true) (tt_NoContact : PySem.W.typeIn K (.ref CNoContact) = some (.type "type"))
    (cl_NoRelay : PySem.W.isClsIn K CNoRelay = true) (tt_NoRelay : PySem.W.typeIn K (.ref CNoRelay) = some (.type "type"))
    (cl_Still : PySem.W.isClsIn K CStill = true) (tt_Still : PySem.W.typeIn K (.ref CStill) = some (.type "type"))
    (cl_NoNote : PySem.W.isClsIn K CNoNote = true) (tt_NoNote : PySem.W.typeIn K (.ref CNoNote) = some (.type "type"))
    (sbR : PySem.W.subIn K (.ref CRoomError) (.type "BaseException") = some true)
    (x_NoRelay : PySem.W.excIn K CNoRelay [.type "ValueError", .type "Exception", .type "BaseException", .type "object"] "ValueError.__new__" = true)
    (k_NoRelay : PySem.W.keepIn K (.ref CNoRelay) = true)
    (sb_NoRelay : PySem.W.subIn K (.ref CNoRelay) (.type "BaseException") = some true)
    (sv_NoRelay : PySem.W.subIn K (.ref CNoRelay) (.type "ValueError") = some true)
    (sr_NoRelay : PySem.W.subIn K (.ref CNoRelay) (.ref CRoomError) = some true)
    (s_NoRelay_TooMany : PySem.W.subIn K (.ref CNoRelay) (.ref CTooMany) = some false)
    (s_NoRelay_Deep : PySem.W.subIn K (.ref CNoRelay) (.ref CDeep) = some false)
    (s_NoRelay_NoContact : PySem.W.subIn K (.ref CNoRelay) (.ref CNoContact) = some false)
    (s_NoRelay_NoRelay : PySem.W.subIn K (.ref CNoRelay) (.ref CNoRelay) = some true)
    (s_NoRelay_Still : PySem.W.subIn K (.ref CNoRelay) (.ref CStill) = some false)
    (s_NoRelay_NoNote : PySem.W.subIn K (.ref CNoRelay) (.ref CNoNote) = some false)
    (hg_NoRelay : PySem.W.findIn K (.ref CNoRelay) "__getattribute__" = some (some (.builtin "BaseException.__getattribute__")))
    (hk_NoRelay : PySem.W.findIn K (.ref CNoRelay) "__getattr__" = some none)
    (hd_NoRelay : PySem.W.hasDictIn K CNoRelay = true)
    (ha_NoRelay : PySem.W.findIn K (.ref CNoRelay) "__class__" = some (some (.builtin "object.__class__")))
    (hm_NoRelay : PySem.W.mroIn K CNoRelay (.type "object") = some true)
    (x_Still : PySem.W.excIn K CStill [.type "ValueError", .type "Exception", .type "BaseException", .type "object"] "ValueError.__new__" = true)
    (k_Still : PySem.W.keepIn K (.ref CStill) = true)
    (sb_Still : PySem.W.subIn K (.ref CStill) (.type "BaseException") = some true)
    (sv_Still : PySem.W.subIn K (.ref CStill) (.type "ValueError") = some true)
    (sr_Still : PySem.W.subIn K (.ref CStill) (.ref CRoomError) = some true)
    (s_Still_TooMany : PySem.W.subIn K (.ref CStill) (.ref CTooMany) = some false)
    (s_Still_Deep : PySem.W.subIn K (.ref CStill) (.ref CDeep) = some false)
    (s_Still_NoContact : PySem.W.subIn K (.ref CStill) (.ref CNoContact) = some false)
    (s_Still_NoRelay : PySem.W.subIn K (.ref CStill) (.ref CNoRelay) = some false)
    (s_Still_Still : PySem.W.subIn K (.ref CStill) (.ref CStill) = some true)
    (s_Still_NoNote : PySem.W.subIn K (.ref CStill) (.ref CNoNote) = some false)
    (hg_Still : PySem.W.findIn K (.ref CStill) "__getattribute__" = some (some (.builtin "BaseException.__getattribute__")))
    (hk_Still : PySem.W.findIn K (.ref CStill) "__getattr__" = some none)
    (hd_Still : PySem.W.hasDictIn K CStill = true)
    (ha_Still : PySem.W.findIn K (.ref CStill) "__class__" = some (some (.builtin "object.__class__")))
    (hm_Still : PySem.W.mroIn K CStill (.type "object") = some true)
    (x_n : PySem.W.specialIn K (.builtin "object.__class__") "__get__" = some (some (.builtin "getset_descriptor.__get__")))
    (x_t : PySem.W.takesIn K (.builtin "object.__class__") = some true)
    : ∃ fd : FuncData, (∀ (s : Shared) (v : Value), BindsTo s fd ⟨[v], []⟩ [("script", v)]) ∧ ∀ base : Heap, K.In base → base.Ns mainGlobals mg → FnOk l.prog w K mg base CX0 14 fa fd ["script"] (sp_law K) := by
  have e := hfa.symm.trans (PySem.W.mg_of X G a22)
  cases e
  have F0 := fun_mk (st := sworth) l0 c0 k0
  have F1 := fun_mk (st := scan_move) l1 c1 k1
  have F2 := fun_mk (st := smovable) l2 c2 k2
  have F3 := fun_mk (st := smoved) l3 c3 k3
  have F4 := fun_mk (st := swalked) l4 c4 k4
  have F5 := fun_mk (st := s_law_cell_at) l5 c5 k5
  have F6 := fun_mk (st := s_law_pick) l6 c6 k6
  have F7 := fun_mk (st := s_law_whole) l7 c7 k7
  have F8 := fun_mk (st := s_law_mix) l8 c8 k8
  have F9 := fun_mk (st := s_law_leaf) l9 c9 k9
  have F10 := fun_mk (st := s_law_word) l10 c10 k10
  have F11 := fun_mk (st := s_law_board) l11 c11 k11
  have F12 := fun_mk (st := s_law_bits) l12 c12 k12
  have F13 := fun_mk (st := s_law_wrapped) l13 c13 k13
  have F14 := fun_mk (st := s_law_room) l14 c14 k14
  have F15 := fun_mk (st := s_law_worth) l15 c15 k15
  have F16 := fun_mk (st := s_law_movable) l16 c16 k16
  have F17 := fun_mk (st := s_law_moved) l17 c17 k17
  have F18 := fun_mk (st := s_law_is_stand) l18 c18 k18
  have F19 := fun_mk (st := s_law_list) l19 c19 k19
  have F20 := fun_mk (st := s_law_refused) l20 c20 k20
  have F21 := fun_mk (st := s_law_told) l21 c21 k21
  have F22 := fun_mk (st := slaw) l22 c22 k22
  have T : Txt K mg { aworth := f0, acan_move := f1, amovable := f2, amoved := f3, awalked := f4, a_law_cell_at := f5, a_law_pick := f6, a_law_whole := f7, a_law_mix := f8, a_law_leaf := f9, a_law_word := f10, a_law_board := f11, a_law_bits := f12, a_law_wrapped := f13, a_law_room := f14, a_law_worth := f15, a_law_movable := f16, a_law_moved := f17, a_law_is_stand := f18, a_law_list := f19, a_law_refused := f20, a_law_told := f21, alaw := fa, dworth := (PySem.W.fnOf "worth" "worth" (defArgs sworth) (defBody sworth) (defScope sworth) .none kV0 dc0 pm0 an0 cd0 ct0), dcan_move := (PySem.W.fnOf "can_move" "can_move" (defArgs scan_move) (defBody scan_move) (defScope scan_move) .none kV1 dc1 pm1 an1 cd1 ct1), dmovable := (PySem.W.fnOf "movable" "movable" (defArgs smovable) (defBody smovable) (defScope smovable) .none kV2 dc2 pm2 an2 cd2 ct2), dmoved := (PySem.W.fnOf "moved" "moved" (defArgs smoved) (defBody smoved) (defScope smoved) .none kV3 dc3 pm3 an3 cd3 ct3), dwalked := (PySem.W.fnOf "walked" "walked" (defArgs swalked) (defBody swalked) (defScope swalked) .none kV4 dc4 pm4 an4 cd4 ct4), d_law_cell_at := (PySem.W.fnOf "_law_cell_at" "_law_cell_at" (defArgs s_law_cell_at) (defBody s_law_cell_at) (defScope s_law_cell_at) .none kV5 dc5 pm5 an5 cd5 ct5), d_law_pick := (PySem.W.fnOf "_law_pick" "_law_pick" (defArgs s_law_pick) (defBody s_law_pick) (defScope s_law_pick) .none kV6 dc6 pm6 an6 cd6 ct6), d_law_whole := (PySem.W.fnOf "_law_whole" "_law_whole" (defArgs s_law_whole) (defBody s_law_whole) (defScope s_law_whole) .none kV7 dc7 pm7 an7 cd7 ct7), d_law_mix := (PySem.W.fnOf "_law_mix" "_law_mix" (defArgs s_law_mix) (defBody s_law_mix) (defScope s_law_mix) .none kV8 dc8 pm8 an8 cd8 ct8), d_law_leaf := (PySem.W.fnOf "_law_leaf" "_law_leaf" (defArgs s_law_leaf) (defBody s_law_leaf) (defScope s_law_leaf) .none kV9 dc9 pm9 an9 cd9 ct9), d_law_word := (PySem.W.fnOf "_law_word" "_law_word" (defArgs s_law_word) (defBody s_law_word) (defScope s_law_word) .none kV10 dc10 pm10 an10 cd10 ct10), d_law_board := (PySem.W.fnOf "_law_board" "_law_board" (defArgs s_law_board) (defBody s_law_board) (defScope s_law_board) .none kV11 dc11 pm11 an11 cd11 ct11), d_law_bits := (PySem.W.fnOf "_law_bits" "_law_bits" (defArgs s_law_bits) (defBody s_law_bits) (defScope s_law_bits) .none kV12 dc12 pm12 an12 cd12 ct12), d_law_wrapped := (PySem.W.fnOf "_law_wrapped" "_law_wrapped" (defArgs s_law_wrapped) (defBody s_law_wrapped) (defScope s_law_wrapped) .none kV13 dc13 pm13 an13 cd13 ct13), d_law_room := (PySem.W.fnOf "_law_room" "_law_room" (defArgs s_law_room) (defBody s_law_room) (defScope s_law_room) .none kV14 dc14 pm14 an14 cd14 ct14), d_law_worth := (PySem.W.fnOf "_law_worth" "_law_worth" (defArgs s_law_worth) (defBody s_law_worth) (defScope s_law_worth) .none kV15 dc15 pm15 an15 cd15 ct15), d_law_movable := (PySem.W.fnOf "_law_movable" "_law_movable" (defArgs s_law_movable) (defBody s_law_movable) (defScope s_law_movable) .none kV16 dc16 pm16 an16 cd16 ct16), d_law_moved := (PySem.W.fnOf "_law_moved" "_law_moved" (defArgs s_law_moved) (defBody s_law_moved) (defScope s_law_moved) .none kV17 dc17 pm17 an17 cd17 ct17), d_law_is_stand := (PySem.W.fnOf "_law_is_stand" "_law_is_stand" (defArgs s_law_is_stand) (defBody s_law_is_stand) (defScope s_law_is_stand) .none kV18 dc18 pm18 an18 cd18 ct18), d_law_list := (PySem.W.fnOf "_law_list" "_law_list" (defArgs s_law_list) (defBody s_law_list) (defScope s_law_list) .none kV19 dc19 pm19 an19 cd19 ct19), d_law_refused := (PySem.W.fnOf "_law_refused" "_law_refused" (defArgs s_law_refused) (defBody s_law_refused) (defScope s_law_refused) .none kV20 dc20 pm20 an20 cd20 ct20), d_law_told := (PySem.W.fnOf "_law_told" "_law_told" (defArgs s_law_told) (defBody s_law_told) (defScope s_law_told) .none kV21 dc21 pm21 an21 cd21 ct21), dlaw := (PySem.W.fnOf "law" "law" (defArgs slaw) (defBody slaw) (defScope slaw) .none kV22 dc22 pm22 an22 cd22 ct22), CRoomError := CRoomError, CTooMany := CTooMany, CDeep := CDeep, CNoContact := CNoContact, CNoRelay := CNoRelay, CStill := CStill, CNoNote := CNoNote } := {
    F_worth := F0,
    m_worth := PySem.W.mg_of X G a0,
    b_worth := F0.binds (ps := ["word", "stand", "pressed"]) fun _ _ _ _ _ _ us hl => match us, hl with | [_, _, _], _ => rfl,
    F_can_move := F1,
    m_can_move := PySem.W.mg_of X G a1,
    b_can_move := F1.binds (ps := ["board", "pressed", "stand", "relay"]) fun _ _ _ _ _ _ us hl => match us, hl with | [_, _, _, _], _ => rfl,
    F_movable := F2,
    m_movable := PySem.W.mg_of X G a2,
    b_movable := F2.binds (ps := ["board", "pressed", "stand"]) fun _ _ _ _ _ _ us hl => match us, hl with | [_, _, _], _ => rfl,
    F_moved := F3,
    m_moved := PySem.W.mg_of X G a3,
    b_moved := F3.binds (ps := ["stand", "relay"]) fun _ _ _ _ _ _ us hl => match us, hl with | [_, _], _ => rfl,
    F_walked := F4,
    m_walked := PySem.W.mg_of X G a4,
    b_walked := F4.binds (ps := ["board", "pressed", "stand", "moves"]) fun _ _ _ _ _ _ us hl => match us, hl with | [_, _, _, _], _ => rfl,
    F__law_cell_at := F5,
    m__law_cell_at := PySem.W.mg_of X G a5,
    b__law_cell_at := F5.binds (ps := ["script", "k"]) fun _ _ _ _ _ _ us hl => match us, hl with | [_, _], _ => rfl,
    F__law_pick := F6,
    m__law_pick := PySem.W.mg_of X G a6,
    b__law_pick := F6.binds (ps := ["script", "k"]) fun _ _ _ _ _ _ us hl => match us, hl with | [_, _], _ => rfl,
    F__law_whole := F7,
    m__law_whole := PySem.W.mg_of X G a7,
    b__law_whole := F7.binds (ps := ["x"]) fun _ _ _ _ _ _ us hl => match us, hl with | [_], _ => rfl,
    F__law_mix := F8,
    m__law_mix := PySem.W.mg_of X G a8,
    b__law_mix := F8.binds (ps := ["cell", "k"]) fun _ _ _ _ _ _ us hl => match us, hl with | [_, _], _ => rfl,
    F__law_leaf := F9,
    m__law_leaf := PySem.W.mg_of X G a9,
    b__law_leaf := F9.binds (ps := ["mixed", "relays", "buttons"]) fun _ _ _ _ _ _ us hl => match us, hl with | [_, _, _], _ => rfl,
    F__law_word := F10,
    m__law_word := PySem.W.mg_of X G a10,
    b__law_word := F10.binds (ps := ["cell", "k", "deep", "relays", "buttons"]) fun _ _ _ _ _ _ us hl => match us, hl with | [_, _, _, _, _], _ => rfl,
    F__law_board := F11,
    m__law_board := PySem.W.mg_of X G a11,
    b__law_board := F11.binds (ps := ["script", "start", "relays", "buttons", "deep"]) fun _ _ _ _ _ _ us hl => match us, hl with | [_, _, _, _, _], _ => rfl,
    F__law_bits := F12,
    m__law_bits := PySem.W.mg_of X G a12,
    b__law_bits := F12.binds (ps := ["number", "size"]) fun _ _ _ _ _ _ us hl => match us, hl with | [_, _], _ => rfl,
    F__law_wrapped := F13,
    m__law_wrapped := PySem.W.mg_of X G a13,
    b__law_wrapped := F13.binds (ps := ["word", "mixed"]) fun _ _ _ _ _ _ us hl => match us, hl with | [_, _], _ => rfl,
    F__law_room := F14,
    m__law_room := PySem.W.mg_of X G a14,
    b__law_room := F14.binds (ps := ["script"]) fun _ _ _ _ _ _ us hl => match us, hl with | [_], _ => rfl,
    F__law_worth := F15,
    m__law_worth := PySem.W.mg_of X G a15,
    b__law_worth := F15.binds (ps := ["word", "stand", "pressed"]) fun _ _ _ _ _ _ us hl => match us, hl with | [_, _, _], _ => rfl,
    F__law_movable := F16,
    m__law_movable := PySem.W.mg_of X G a16,
    b__law_movable := F16.binds (ps := ["board", "pressed", "stand"]) fun _ _ _ _ _ _ us hl => match us, hl with | [_, _, _], _ => rfl,
    F__law_moved := F17,
    m__law_moved := PySem.W.mg_of X G a17,
    b__law_moved := F17.binds (ps := ["stand", "relay"]) fun _ _ _ _ _ _ us hl => match us, hl with | [_, _], _ => rfl,
    F__law_is_stand := F18,
    m__law_is_stand := PySem.W.mg_of X G a18,
    b__law_is_stand := F18.binds (ps := ["found", "size"]) fun _ _ _ _ _ _ us hl => match us, hl with | [_, _], _ => rfl,
    F__law_list := F19,
    m__law_list := PySem.W.mg_of X G a19,
    b__law_list := F19.binds (ps := ["found", "due"]) fun _ _ _ _ _ _ us hl => match us, hl with | [_, _], _ => rfl,
    F__law_refused := F20,
    m__law_refused := PySem.W.mg_of X G a20,
    b__law_refused := F20.binds (ps := ["marks", "which"]) fun _ _ _ _ _ _ us hl => match us, hl with | [_, _], _ => rfl,
    F__law_told := F21,
    m__law_told := PySem.W.mg_of X G a21,
    b__law_told := F21.binds (ps := ["board", "pressed", "stand", "moves"]) fun _ _ _ _ _ _ us hl => match us, hl with | [_, _, _, _], _ => rfl,
    F_law := F22,
    m_law := PySem.W.mg_of X G a22,
    b_law := F22.binds (ps := ["script"]) fun _ _ _ _ _ _ us hl => match us, hl with | [_], _ => rfl,
    n_range := PySem.W.mg_none_of X G z_range,
    n_len := PySem.W.mg_none_of X G z_len,
    n_isinstance := PySem.W.mg_none_of X G z_isinstance,
    n_int := PySem.W.mg_none_of X G z_int,
    n_bool := PySem.W.mg_none_of X G z_bool,
    n_tuple := PySem.W.mg_none_of X G z_tuple,
    n_all := PySem.W.mg_none_of X G z_all,
    n_list := PySem.W.mg_none_of X G z_list,
    n_ValueError := PySem.W.mg_none_of X G z_ValueError,
    c_RoomError := PySem.W.mg_of X G aC_RoomError,
    c_TooMany := PySem.W.mg_of X G aC_TooMany,
    c_Deep := PySem.W.mg_of X G aC_Deep,
    c_NoContact := PySem.W.mg_of X G aC_NoContact,
    c_NoRelay := PySem.W.mg_of X G aC_NoRelay,
    x_NoRelay := x_NoRelay,
    k_NoRelay := k_NoRelay,
    sb_NoRelay := sb_NoRelay,
    ty_NoRelay := tt_NoRelay,
    e_NoRelay := exm_own sbR cl_RoomError tt_RoomError sr_NoRelay,
    v_NoRelay := kit_val sv_NoRelay,
    i_NoRelay_TooMany := kit_own cl_TooMany tt_TooMany s_NoRelay_TooMany s_NoRelay_NoRelay,
    i_NoRelay_Deep := kit_own cl_Deep tt_Deep s_NoRelay_Deep s_NoRelay_NoRelay,
    i_NoRelay_NoContact := kit_own cl_NoContact tt_NoContact s_NoRelay_NoContact s_NoRelay_NoRelay,
    i_NoRelay_NoRelay := kit_own cl_NoRelay tt_NoRelay s_NoRelay_NoRelay s_NoRelay_NoRelay,
    i_NoRelay_Still := kit_own cl_Still tt_Still s_NoRelay_Still s_NoRelay_NoRelay,
    i_NoRelay_NoNote := kit_own cl_NoNote tt_NoNote s_NoRelay_NoNote s_NoRelay_NoRelay,
    E_NoRelay := ⟨hg_NoRelay, hk_NoRelay, sb_NoRelay, hd_NoRelay, ha_NoRelay, x_n, x_t, hm_NoRelay⟩,
    c_Still := PySem.W.mg_of X G aC_Still,
    x_Still := x_Still,
    k_Still := k_Still,
    sb_Still := sb_Still,
    ty_Still := tt_Still,
    e_Still := exm_own sbR cl_RoomError tt_RoomError sr_Still,
    v_Still := kit_val sv_Still,
    i_Still_TooMany := kit_own cl_TooMany tt_TooMany s_Still_TooMany s_Still_Still,
    i_Still_Deep := kit_own cl_Deep tt_Deep s_Still_Deep s_Still_Still,
    i_Still_NoContact := kit_own cl_NoContact tt_NoContact s_Still_NoContact s_Still_Still,
    i_Still_NoRelay := kit_own cl_NoRelay tt_NoRelay s_Still_NoRelay s_Still_Still,
    i_Still_Still := kit_own cl_Still tt_Still s_Still_Still s_Still_Still,
    i_Still_NoNote := kit_own cl_NoNote tt_NoNote s_Still_NoNote s_Still_Still,
    E_Still := ⟨hg_Still, hk_Still, sb_Still, hd_Still, ha_Still, x_n, x_t, hm_Still⟩,
    c_NoNote := PySem.W.mg_of X G aC_NoNote }
  exact ⟨(PySem.W.fnOf "law" "law" (defArgs slaw) (defBody slaw) (defScope slaw) .none kV22 dc22 pm22 an22 cd22 ct22), fun s v => .of_eq rfl, fun base _ _ => ok_law T⟩
end Rl
open PySem PySem.W PyProof.Rows in
set_option maxRecDepth 100000 in
set_option maxHeartbeats 0 in
theorem PySem.Challenge.cw_relayroom_k04_moves_holds : PySem.Challenge.rw_relayroom_k04_moves.Holds := by
  w_on; o_law; k_head; (case hw => w_witness2)
  k_fill
  refine L2.walk_of (l := PySem.Challenge.rw_relayroom_k04_moves) (n := 63) (k := 14) (x := "script") (CX := fun w => L2.CX0) (sp := fun w => Rl.sp_law _) rfl (by decide) rfl ⟨rfl, by decide, by decide⟩ (fun w h Y => PySem.W.kIn_of Y) ?F (fun _ _ a ns hl _ hS => ⟨a, ns, rfl, hS, hl, fun _ => rfl⟩) (fun _ _ _ _ _ h => h)
  case F =>
    intro w mg fa h KX G hmg
    refine' Rl.all_mk KX G hmg ?a0 ?l0 ?c0 ?k0 ?a1 ?l1 ?c1 ?k1 ?a2 ?l2 ?c2 ?k2 ?a3 ?l3 ?c3 ?k3 ?a4 ?l4 ?c4 ?k4 ?a5 ?l5 ?c5 ?k5 ?a6 ?l6 ?c6 ?k6 ?a7 ?l7 ?c7 ?k7 ?a8 ?l8 ?c8 ?k8 ?a9 ?l9 ?c9 ?k9 ?a10 ?l10 ?c10 ?k10 ?a11 ?l11 ?c11 ?k11 ?a12 ?l12 ?c12 ?k12 ?a13 ?l13 ?c13 ?k13 ?a14 ?l14 ?c14 ?k14 ?a15 ?l15 ?c15 ?k15 ?a16 ?l16 ?c16 ?k16 ?a17 ?l17 ?c17 ?k17 ?a18 ?l18 ?c18 ?k18 ?a19 ?l19 ?c19 ?k19 ?a20 ?l20 ?c20 ?k20 ?a21 ?l21 ?c21 ?k21 ?a22 ?l22 ?c22 ?k22 ?z_range ?z_len ?z_isinstance ?z_int ?z_bool ?z_tuple ?z_all ?z_list ?z_ValueError ?aC_RoomError ?aC_TooMany ?aC_Deep ?aC_NoContact ?aC_NoRelay ?aC_Still ?aC_NoNote ?cl_RoomError ?tt_RoomError ?cl_TooMany ?tt_TooMany ?cl_Deep ?tt_Deep ?cl_NoContact ?tt_NoContact ?cl_NoRelay ?tt_NoRelay ?cl_Still ?tt_Still ?cl_NoNote ?tt_NoNote ?sbR ?x_NoRelay ?k_NoRelay ?sb_NoRelay ?sv_NoRelay ?sr_NoRelay ?s_NoRelay_TooMany ?s_NoRelay_Deep ?s_NoRelay_NoContact ?s_NoRelay_NoRelay ?s_NoRelay_Still ?s_NoRelay_NoNote ?hg_NoRelay ?hk_NoRelay ?hd_NoRelay ?ha_NoRelay ?hm_NoRelay ?x_Still ?k_Still ?sb_Still ?sv_Still ?sr_Still ?s_Still_TooMany ?s_Still_Deep ?s_Still_NoContact ?s_Still_NoRelay ?s_Still_Still ?s_Still_NoNote ?hg_Still ?hk_Still ?hd_Still ?ha_Still ?hm_Still ?x_n ?x_t
    (case a0 => k_is)
    (case l0 => k_is)
    (case c0 => k_is)
    (case k0 => k_is)
    (case a1 => k_is)
    (case l1 => k_is)
    (case c1 => k_is)
    (case k1 => k_is)
    (case a2 => k_is)
    (case l2 => k_is)
    (case c2 => k_is)
    (case k2 => k_is)
    (case a3 => k_is)
    (case l3 => k_is)
    (case c3 => k_is)
    (case k3 => k_is)
    (case a4 => k_is)
    (case l4 => k_is)
    (case c4 => k_is)
    (case k4 => k_is)
    (case a5 => k_is)
    (case l5 => k_is)
    (case c5 => k_is)
    (case k5 => k_is)
    (case a6 => k_is)
    (case l6 => k_is)
    (case c6 => k_is)
    (case k6 => k_is)
    (case a7 => k_is)
    (case l7 => k_is)
    (case c7 => k_is)
    (case k7 => k_is)
    (case a8 => k_is)
    (case l8 => k_is)
    (case c8 => k_is)
    (case k8 => k_is)
    (case a9 => k_is)
    (case l9 => k_is)
    (case c9 => k_is)
    (case k9 => k_is)
    (case a10 => k_is)
    (case l10 => k_is)
    (case c10 => k_is)
    (case k10 => k_is)
    (case a11 => k_is)
    (case l11 => k_is)
    (case c11 => k_is)
    (case k11 => k_is)
    (case a12 => k_is)
    (case l12 => k_is)
    (case c12 => k_is)
    (case k12 => k_is)
    (case a13 => k_is)
    (case l13 => k_is)
    (case c13 => k_is)
    (case k13 => k_is)
    (case a14 => k_is)
    (case l14 => k_is)
    (case c14 => k_is)
    (case k14 => k_is)
    (case a15 => k_is)
    (case l15 => k_is)
    (case c15 => k_is)
    (case k15 => k_is)
    (case a16 => k_is)
    (case l16 => k_is)
    (case c16 => k_is)
    (case k16 => k_is)
    (case a17 => k_is)
    (case l17 => k_is)
    (case c17 => k_is)
    (case k17 => k_is)
    (case a18 => k_is)
    (case l18 => k_is)
    (case c18 => k_is)
    (case k18 => k_is)
    (case a19 => k_is)
    (case l19 => k_is)
    (case c19 => k_is)
    (case k19 => k_is)
    (case a20 => k_is)
    (case l20 => k_is)
    (case c20 => k_is)
    (case k20 => k_is)
    (case a21 => k_is)
    (case l21 => k_is)
    (case c21 => k_is)
    (case k21 => k_is)
    (case a22 => k_is)
    (case l22 => k_is)
    (case c22 => k_is)
    (case k22 => k_is)
    (case z_range => k_is)
    (case z_len => k_is)
    (case z_isinstance => k_is)
    (case z_int => k_is)
    (case z_bool => k_is)
    (case z_tuple => k_is)
    (case z_all => k_is)
    (case z_list => k_is)
    (case z_ValueError => k_is)
    (case aC_RoomError => k_is)
    (case aC_TooMany => k_is)
    (case aC_Deep => k_is)
    (case aC_NoContact => k_is)
    (case aC_NoRelay => k_is)
    (case aC_Still => k_is)
    (case aC_NoNote => k_is)
    (case cl_RoomError => k_is)
    (case tt_RoomError => k_is)
    (case cl_TooMany => k_is)
    (case tt_TooMany => k_is)
    (case cl_Deep => k_is)
    (case tt_Deep => k_is)
    (case cl_NoContact => k_is)
    (case tt_NoContact => k_is)
    (case cl_NoRelay => k_is)
    (case tt_NoRelay => k_is)
    (case cl_Still => k_is)
    (case tt_Still => k_is)
    (case cl_NoNote => k_is)
    (case tt_NoNote => k_is)
    (case sbR => k_is)
    (case x_NoRelay => k_exc)
    (case k_NoRelay => k_is)
    (case sb_NoRelay => k_is)
    (case sv_NoRelay => k_is)
    (case sr_NoRelay => k_is)
    (case s_NoRelay_TooMany => first | rfl | k_is)
    (case s_NoRelay_Deep => first | rfl | k_is)
    (case s_NoRelay_NoContact => first | rfl | k_is)
    (case s_NoRelay_NoRelay => first | rfl | k_is)
    (case s_NoRelay_Still => first | rfl | k_is)
    (case s_NoRelay_NoNote => first | rfl | k_is)
    (case hg_NoRelay => k_is)
    (case hk_NoRelay => k_is)
    (case hd_NoRelay => k_is)
    (case ha_NoRelay => k_is)
    (case hm_NoRelay => k_is)
    (case x_Still => k_exc)
    (case k_Still => k_is)
    (case sb_Still => k_is)
    (case sv_Still => k_is)
    (case sr_Still => k_is)
    (case s_Still_TooMany => first | rfl | k_is)
    (case s_Still_Deep => first | rfl | k_is)
    (case s_Still_NoContact => first | rfl | k_is)
    (case s_Still_NoRelay => first | rfl | k_is)
    (case s_Still_Still => first | rfl | k_is)
    (case s_Still_NoNote => first | rfl | k_is)
    (case hg_Still => k_is)
    (case hk_Still => k_is)
    (case hd_Still => k_is)
    (case ha_Still => k_is)
    (case hm_Still => k_is)
    (case x_n => k_is)
    (case x_t => k_is)
#print axioms PySem.Challenge.cw_relayroom_k04_moves_holds
