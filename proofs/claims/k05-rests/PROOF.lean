import PyProof.Rows.All
import Wide.All
import OpenK.AllK
import Wide.FinOn
import HandS.ForMost
import HandS.ForExc
import HandS.IsInst
import HandS.ExcIs
import HandS.Flow
import HandS.WideBits
import HandS.Codes
import HandS.TupAny
import PySem.Challenge.RW_relayroom_k05_rests
set_option Elab.async false
set_option linter.all false
set_option maxRecDepth 100000
namespace Rl
open PySem L2
/-! ### words -/
inductive W where
  | on | off | relay (k : Int) | button (k : Int) | not (w : W) | and (a b : W) | or (a b : W)
  deriving DecidableEq
def W.depth : W → Nat
  | .not w => w.depth + 1
  | .and a b => max a.depth b.depth + 1
  | .or a b => max a.depth b.depth + 1
  | _ => 1
/-- all contacts are there: n relays, m buttons -/
def W.wired (n m : Nat) : W → Prop
  | .on => True
  | .off => True
  | .relay k => 0 ≤ k ∧ k < (n : Int)
  | .button k => 0 ≤ k ∧ k < (m : Int)
  | .not w => w.wired n m
  | .and a b => a.wired n m ∧ b.wired n m
  | .or a b => a.wired n m ∧ b.wired n m
theorem W.depth_pos : ∀ w : W, 1 ≤ w.depth
  | .on => Nat.le_refl _
  | .off => Nat.le_refl _
  | .relay _ => Nat.le_refl _
  | .button _ => Nat.le_refl _
  | .not _ => Nat.le_add_left _ _
  | .and _ _ => Nat.le_add_left _ _
  | .or _ _ => Nat.le_add_left _ _
def W.eval (st pr : List Bool) : W → Bool
  | .on => true
  | .off => false
  | .relay k => st.getD k.toNat false
  | .button k => pr.getD k.toNat false
  | .not w => !w.eval st pr
  | .and a b => a.eval st pr && b.eval st pr
  | .or a b => a.eval st pr || b.eval st pr
/-- a word stands at a -/
def WA (H : Hp) : W → Addr → Prop
  | .on, a => H a = some (.tup [.str "on"])
  | .off, a => H a = some (.tup [.str "off"])
  | .relay k, a => H a = some (.tup [.str "relay", .int k])
  | .button k, a => H a = some (.tup [.str "button", .int k])
  | .not w, a => ∃ b, H a = some (.tup [.str "not", .ref b]) ∧ WA H w b
  | .and x y, a => ∃ b c, H a = some (.tup [.str "and", .ref b, .ref c]) ∧ WA H x b ∧ WA H y c
  | .or x y, a => ∃ b c, H a = some (.tup [.str "or", .ref b, .ref c]) ∧ WA H x b ∧ WA H y c
/-- tuples stay -/
def Tk (H H' : Hp) : Prop := ∀ b xs, H b = some (.tup xs) → H' b = some (.tup xs)
theorem Tk.refl (H : Hp) : Tk H H := fun _ _ h => h
theorem Tk.trans {H H1 H2 : Hp} (a : Tk H H1) (b : Tk H1 H2) : Tk H H2 := fun c o h => b c o (a c o h)
theorem Same.tk {H H' : Hp} (s : Same H H') : Tk H H' := fun b xs h => s b _ h
theorem Tk.lst {H : Hp} {D : Addr} {xs ys : List V} (h : H D = some (.lst xs)) : Tk H (upd H D (.lst ys)) := fun b zs q => by
  rw [upd_ne (ne_of q h (by intro z; cases z))]; exact q
theorem Tk.new {H : Hp} {p : Addr} {o : HO} (h : H p = none) : Tk H (upd H p o) := fun b zs q => by
  rw [upd_ne (ne_of_none q h)]; exact q
theorem Same.new {H : Hp} {p : Addr} {o : HO} (h : H p = none) : Same H (upd H p o) := fun b u q => by rw [upd_ne (ne_of_none q h)]; exact q
theorem Same.get {H H' : Hp} {b : Addr} {o : HO} (s : Same H H') (h : H b = some o) : H' b = some o := s b o h
theorem Same.lst {H0 H : Hp} {D : Addr} {o : HO} (h : Same H0 H) (n : H0 D = none) : Same H0 (upd H D o) := fun b u q => by
  rw [upd_ne (ne_of_none q n)]; exact h b u q
theorem WA.tk : ∀ {w : W} {H H' : Hp} {a : Addr}, Tk H H' → WA H w a → WA H' w a
  | .on, _, _, _, t, h => t _ _ h
  | .off, _, _, _, t, h => t _ _ h
  | .relay _, _, _, _, t, h => t _ _ h
  | .button _, _, _, _, t, h => t _ _ h
  | .not _, _, _, _, t, h => let ⟨b, e, q⟩ := h; ⟨b, t _ _ e, WA.tk t q⟩
  | .and _ _, _, _, _, t, h => let ⟨b, c, e, q, r⟩ := h; ⟨b, c, t _ _ e, WA.tk t q, WA.tk t r⟩
  | .or _ _, _, _, _, t, h => let ⟨b, c, e, q, r⟩ := h; ⟨b, c, t _ _ e, WA.tk t q, WA.tk t r⟩
theorem WA.same {w : W} {H H' : Hp} {a : Addr} (s : Same H H') (h : WA H w a) : WA H' w a := WA.tk (Same.tk s) h
/-- a list's items are words -/
def WAs (H : Hp) (ws : List W) (vs : List V) : Prop := Paired (fun (w : W) (v : V) => ∃ a, v = .ref a ∧ WA H w a) ws vs
theorem paired_snoc {α β : Type} {F : α → β → Prop} : ∀ {l : List α} {r : List β} {a : α} {b : β}, Paired F l r → F a b → Paired F (l ++ [a]) (r ++ [b])
  | _, _, _, _, .nil, h => .cons h .nil
  | _, _, _, _, .cons r t, h => .cons r (paired_snoc t h)
theorem paired_get {α β : Type} {F : α → β → Prop} : ∀ {l : List α} {r : List β} {i : Nat} {b : β}, Paired F l r → r[i]? = some b → ∃ a, l[i]? = some a ∧ F a b
  | _, _, _, _, .nil, h => by simp at h
  | _, _, 0, _, .cons r t, h => by simp at h; subst h; exact ⟨_, rfl, r⟩
  | _, _, i + 1, b, .cons r t, h => by
    obtain ⟨a, e, q⟩ := paired_get (i := i) (b := b) t (by simpa using h)
    exact ⟨a, by simpa using e, q⟩
theorem paired_getl {α β : Type} {F : α → β → Prop} : ∀ {l : List α} {r : List β} {i : Nat} {a : α}, Paired F l r → l[i]? = some a → ∃ b, r[i]? = some b ∧ F a b
  | _, _, _, _, .nil, h => by simp at h
  | _, _, 0, _, .cons r t, h => by simp at h; subst h; exact ⟨_, rfl, r⟩
  | _, _, i + 1, a, .cons r t, h => by
    obtain ⟨b, e, q⟩ := paired_getl (i := i) (a := a) t (by simpa using h)
    exact ⟨b, by simpa using e, q⟩
theorem WAs.tk {H H' : Hp} {ws : List W} {vs : List V} (t : Tk H H') (h : WAs H ws vs) : WAs H' ws vs := Paired.mapP h fun _ _ ⟨a, e, q⟩ => ⟨a, e, WA.tk t q⟩
theorem WAs.same {H H' : Hp} {ws : List W} {vs : List V} (t : Same H H') (h : WAs H ws vs) : WAs H' ws vs := WAs.tk (Same.tk t) h
theorem WAs.length {H : Hp} {ws : List W} {vs : List V} (h : WAs H ws vs) : ws.length = vs.length := Paired.length h
theorem inV_bl (b : Bool) : ∀ bs : List Bool, inV (.bl b) (bs.map V.bl) = bs.any (fun x => x == b)
  | [] => rfl
  | x :: r => by
    show (eqV (.bl x) (.bl b) || inV (.bl b) (r.map V.bl)) = ((x == b) || r.any (fun x => x == b))
    rw [inV_bl b r]
    cases x <;> cases b <;> rfl
theorem flat_bl : ∀ bs : List Bool, (bs.map V.bl).all flatV = true
  | [] => rfl
  | _ :: r => flat_bl r
def W.parts : W → List W
  | .not w => [w]
  | .and a b => [a, b]
  | .or a b => [a, b]
  | _ => []
theorem cut1 (x : V) (xs : List V) : cutV (x :: xs) (some 1) none = xs := by
  unfold cutV
  rw [show HT.sIx (x :: xs).length 0 (some 1) = min 1 (x :: xs).length from HT.sIx_nat (x :: xs).length 0 1, HT.sIx_none]
  rw [show min 1 (x :: xs).length = 1 by rw [List.length_cons]; omega]
  show List.take ((x :: xs).length - 1) xs = xs
  rw [List.length_cons, Nat.add_sub_cancel]
  exact List.take_length
/-- a word's place, told by its tag and its parts -/
def W.tag : W → Str
  | .on => "on" | .off => "off" | .relay _ => "relay" | .button _ => "button" | .not _ => "not" | .and _ _ => "and" | .or _ _ => "or"
theorem WA.parts {H : Hp} {w : W} {a : Addr} (h : WA H w a) (n1 : ∀ k, w ≠ .relay k) (n2 : ∀ k, w ≠ .button k) : ∃ us, H a = some (.tup (.str w.tag :: us)) ∧ WAs H w.parts us := by
  cases w with
  | on => exact ⟨[], h, .nil⟩
  | off => exact ⟨[], h, .nil⟩
  | relay k => exact absurd rfl (n1 k)
  | button k => exact absurd rfl (n2 k)
  | not x => obtain ⟨b, e, q⟩ := h; exact ⟨_, e, .cons ⟨b, rfl, q⟩ .nil⟩
  | and x y => obtain ⟨b, c, e, q, r⟩ := h; exact ⟨_, e, .cons ⟨b, rfl, q⟩ (.cons ⟨c, rfl, r⟩ .nil)⟩
  | or x y => obtain ⟨b, c, e, q, r⟩ := h; exact ⟨_, e, .cons ⟨b, rfl, q⟩ (.cons ⟨c, rfl, r⟩ .nil)⟩
theorem parts_ok {w x : W} {n m N : Nat} (hx : x ∈ w.parts) (hw : w.wired n m) (hd : w.depth ≤ N + 1) : x.wired n m ∧ x.depth ≤ N := by
  cases w with
  | not y =>
    rcases List.mem_singleton.mp hx with rfl
    exact ⟨hw, Nat.le_of_succ_le_succ hd⟩
  | and y z =>
    have hd' : max y.depth z.depth + 1 ≤ N + 1 := hd
    rcases List.mem_cons.mp hx with rfl | hx
    · exact ⟨hw.1, by omega⟩
    · rcases List.mem_singleton.mp hx with rfl
      exact ⟨hw.2, by omega⟩
  | or y z =>
    have hd' : max y.depth z.depth + 1 ≤ N + 1 := hd
    rcases List.mem_cons.mp hx with rfl | hx
    · exact ⟨hw.1, by omega⟩
    · rcases List.mem_singleton.mp hx with rfl
      exact ⟨hw.2, by omega⟩
  | on => cases hx
  | off => cases hx
  | relay k => cases hx
  | button k => cases hx
/-! ### tests -/
theorem iF {c : Bool} {A B : Prop} (h : c = false) (q : B) : if c = true then A else B := by rw [h]; exact iteF q
theorem iT {c : Bool} {A B : Prop} (h : c = true) (q : A) : if c = true then A else B := by rw [h]; exact iteT q
theorem iB {c : Bool} {A B : Prop} (h1 : c = true → A) (h2 : c = false → B) : if c = true then A else B := by
  cases c with
  | true => exact iteT (h1 rfl)
  | false => exact iteF (h2 rfl)
abbrev rLenSeq (K : PySem.W.Frag) : List V → Hp → VK → Prop := fun xs H Q => ∃ p ys, xs = [.ref p] ∧ (SqL K H p ys ∨ SqT K H p ys) ∧ Q (.int ys.length) H
theorem tag_val {K : PySem.W.Frag} {σ : St} {H : Hp} {Q : VK} {i : Nat} {a : Addr} {t s : Str} {rest : List V} (h : σ[i]? = some (some (.ref a))) (e : H a = some (.tup (.str t :: rest))) (q : Q (.bl (decide (V.str t = V.str s))) H) :
    tOp rEq (tOp (rIxT K) (tVar i) (tC (.int 0))) (tC (.str s)) σ H Q := ⟨_, h, _, _, _, _, rfl, rfl, .of e, atI_nat (j := 0) rfl, rfl, q⟩
theorem tag_test {K : PySem.W.Frag} {σ : St} {H : Hp} {Q : Bool → Hp → Prop} {i : Nat} {a : Addr} {t s : Str} {rest : List V} (h : σ[i]? = some (some (.ref a))) (e : H a = some (.tup (.str t :: rest))) (q : Q (decide (V.str t = V.str s)) H) :
    tTest (tOp rEq (tOp (rIxT K) (tVar i) (tC (.int 0))) (tC (.str s))) σ H Q := tag_val h e ⟨_, rfl, q⟩
theorem at_bl {bs : List Bool} {k : Int} (h0 : 0 ≤ k) (h1 : k < (bs.length : Int)) : atI (bs.map V.bl) k = some (.bl (bs.getD k.toNat false)) := by
  have h : k.toNat < bs.length := by omega
  refine at_of (j := k.toNat) (by omega) ?_
  rw [List.getElem?_map, List.getElem?_eq_getElem h, List.getD_eq_getElem?_getD, List.getElem?_eq_getElem h]; rfl
theorem notF {b : Bool} (h : (!b) = false) : b = true := by cases b <;> first | rfl | cases h
theorem notT {b : Bool} (h : (!b) = true) : b = false := by cases b <;> first | rfl | cases h
theorem WA.pairs {H : Hp} {x : W} {a : Addr} (h : WA H x a) : (∃ y z, x = .and y z) ∨ (∃ y z, x = .or y z) ∨ (∃ t us, H a = some (.tup (.str t :: us)) ∧ decide (V.str t = V.str "and") = false ∧ decide (V.str t = V.str "or") = false) := by
  cases x with
  | and y z => exact .inl ⟨_, _, rfl⟩
  | or y z => exact .inr (.inl ⟨_, _, rfl⟩)
  | not y => obtain ⟨b, e, _⟩ := h; exact .inr (.inr ⟨_, _, e, decide_eq_false (by decide +kernel), decide_eq_false (by decide +kernel)⟩)
  | on => exact .inr (.inr ⟨_, _, h, decide_eq_false (by decide +kernel), decide_eq_false (by decide +kernel)⟩)
  | off => exact .inr (.inr ⟨_, _, h, decide_eq_false (by decide +kernel), decide_eq_false (by decide +kernel)⟩)
  | relay k => exact .inr (.inr ⟨_, _, h, decide_eq_false (by decide +kernel), decide_eq_false (by decide +kernel)⟩)
  | button k => exact .inr (.inr ⟨_, _, h, decide_eq_false (by decide +kernel), decide_eq_false (by decide +kernel)⟩)
theorem small10 {n : Nat} (h : n ≤ 10000) : n ≤ sizeLine := Nat.le_trans h (by decide)
theorem small11 {n : Nat} (h : n ≤ 10000) : n < sizeLine := Nat.lt_of_le_of_lt h (by decide)
/-! ### data of the law's own -/
def bits (z : Int) (n : Nat) : List Bool := (List.range n).map fun k => decide (z / 2 ^ k % 2 = 1)
theorem bits_succ (z : Int) (n : Nat) : bits z (n + 1) = bits z n ++ [decide (z / 2 ^ n % 2 = 1)] := by unfold bits; rw [List.range_succ, List.map_append]; rfl
theorem bits_len (z : Int) (n : Nat) : (bits z n).length = n := by unfold bits; rw [List.length_map, List.length_range]
theorem dec_vi (a b : Int) : decide (V.int a = V.int b) = decide (a = b) := decide_eq_decide.mpr ⟨fun e => V.int.inj e, fun e => by rw [e]⟩
theorem toNat0 (i : Nat) : ((0 : Int) + (i : Int)).toNat = i := by omega
def Fit (n m : Nat) (d : Int) (w : W) : Prop := w.wired n m ∧ (w.depth : Int) ≤ d
def Fits (n m : Nat) (d : Int) (ws : List W) : Prop := ∀ w ∈ ws, Fit n m d w
theorem Fits.snoc {n m : Nat} {d : Int} {ws : List W} {w : W} (h : Fits n m d ws) (f : Fit n m d w) : Fits n m d (ws ++ [w]) := fun x hx => by
  rcases List.mem_append.mp hx with q | q
  · exact h x q
  · rw [List.mem_singleton.mp q]; exact f
/-- a list of tuples of bools -/
def Tups (H : Hp) (bss : List (List Bool)) (us : List V) : Prop := Paired (fun (bs : List Bool) (v : V) => ∃ a, v = .ref a ∧ H a = some (.tup (bs.map V.bl))) bss us
theorem Tups.tk {H H' : Hp} {bss : List (List Bool)} {us : List V} (t : Tk H H') (h : Tups H bss us) : Tups H' bss us := Paired.mapP h fun _ _ ⟨a, e, q⟩ => ⟨a, e, t _ _ q⟩
theorem Tups.same {H H' : Hp} {bss : List (List Bool)} {us : List V} (t : Same H H') (h : Tups H bss us) : Tups H' bss us := Tups.tk (Same.tk t) h
theorem Tups.length {H : Hp} {bss : List (List Bool)} {us : List V} (h : Tups H bss us) : bss.length = us.length := Paired.length h
def allBits (n i : Nat) : List (List Bool) := (List.range i).map fun (k : Nat) => bits (k : Int) n
theorem allBits_succ (n i : Nat) : allBits n (i + 1) = allBits n i ++ [bits (i : Int) n] := by unfold allBits; rw [List.range_succ, List.map_append]; rfl
theorem allBits_len (n i : Nat) : (allBits n i).length = i := by unfold allBits; rw [List.length_map, List.length_range]
theorem allBits_get {n i k : Nat} (h : k < i) : (allBits n i)[k]? = some (bits (k : Int) n) := by
  unfold allBits
  rw [List.getElem?_map, List.getElem?_range h]; rfl
theorem allBits_get' {n i k : Nat} {bs : List Bool} (h : (allBits n i)[k]? = some bs) : k < i ∧ bs = bits (k : Int) n := by
  have hk : k < i := by
    have := (List.getElem?_eq_some_iff.mp h).1
    rw [allBits_len] at this; exact this
  rw [allBits_get hk] at h
  exact ⟨hk, (Option.some.inj h).symm⟩
theorem shl_one (n : Nat) : ((1 : Int) * 2 ^ ((n : Int).toNat)).toNat = 2 ^ n := by
  rw [Int.one_mul, Int.toNat_natCast]
  have : ((2 : Int) ^ n) = ((2 ^ n : Nat) : Int) := by rw [Int.natCast_pow]; rfl
  rw [this, Int.toNat_natCast]
theorem pow_le64 {n : Nat} (h : n ≤ 6) : 2 ^ n ≤ 64 := Nat.pow_le_pow_right (by decide) h
theorem pow_cast (n : Nat) : ((2 : Int) ^ n) = ((2 ^ n : Nat) : Int) := by rw [Int.natCast_pow]; rfl
section
variable {P : Program} {w : World} {K : PySem.W.Frag} {mg : Str → Option Value} {base : Heap}
theorem fn_none {k : Nat} {f : Addr} {fd : FuncData} {ps : List Str} {sp : Sp} (no : ∀ vs H Q E, ¬ sp vs H Q E) : FnOk P w K mg base CX0 k f fd ps sp :=
  ⟨fun vs H Q E h => absurd h (no vs H Q E), fun A outer s H args us vs Q E _ _ _ _ h => absurd h (no vs H Q E)⟩
end
/-! ### data for == -/
def Sh (d : PyData) (k : Nat) : Prop := d.canLay0 = true ∧ d.depth ≤ k
theorem Sh.shaped {d : PyData} {k : Nat} (h : Sh d k) (hk : k ≤ 64) : SeqAt.shaped d = true := by
  unfold SeqAt.shaped
  rw [h.1, decide_eq_true (Nat.le_trans h.2 hk)]; rfl
theorem Sh.refl {d : PyData} {k : Nat} (h : Sh d k) : PyData.eqv d d = true := SeqAt.eqv_refl d h.1
theorem Sh.bool (b : Bool) (k : Nat) : Sh (.bool b) k := ⟨by simp [PyData.canLay0], by simp [PyData.depth]⟩
theorem Sh.int (b : Int) (k : Nat) : Sh (.int b) k := ⟨by simp [PyData.canLay0], by simp [PyData.depth]⟩
theorem Sh.str (b : Str) (k : Nat) (h : PyData.strOk b = true := by decide +kernel) : Sh (.str b) k := ⟨by simp [PyData.canLay0, h], by simp [PyData.depth]⟩
theorem Sh.all {k : Nat} : ∀ {ds : List PyData}, (∀ d ∈ ds, Sh d k) → PyData.canLayAll0 ds = true ∧ PyData.depthAll ds ≤ k
  | [], _ => by simp [PyData.canLayAll0, PyData.depthAll]
  | d :: ds, h => by
    have h1 := h d (.head _)
    have h2 := Sh.all (ds := ds) fun e he => h e (.tail _ he)
    simp only [PyData.canLayAll0, PyData.depthAll, h1.1, h2.1, Bool.and_self, true_and]
    have a1 := h1.2
    have a2 := h2.2
    omega
theorem Sh.tup {k : Nat} {ds : List PyData} (h : ∀ d ∈ ds, Sh d k) : Sh (.tuple ds) (k + 1) := by
  have q := Sh.all h
  refine ⟨by simp [PyData.canLay0, q.1], ?_⟩
  have := q.2
  simp only [PyData.depth]; omega
theorem Sh.lst {k : Nat} {ds : List PyData} (h : ∀ d ∈ ds, Sh d k) : Sh (.list ds) (k + 1) := by
  have q := Sh.all h
  refine ⟨by simp [PyData.canLay0, q.1], ?_⟩
  have := q.2
  simp only [PyData.depth]; omega
theorem Sh.mono {d : PyData} {k j : Nat} (h : Sh d k) (hk : k ≤ j) : Sh d j := ⟨h.1, Nat.le_trans h.2 hk⟩
theorem dpAll_map {α : Type} {K : PySem.W.Frag} {H : Hp} {f : α → V} {g : α → PyData} : ∀ {l : List α}, (∀ x ∈ l, Dp K H (f x) (g x)) → DpAll K H (l.map f) (l.map g)
  | [], _ => .nil
  | x :: _, h => .cons (h x (.head _)) (dpAll_map fun y hy => h y (.tail _ hy))
def bd (bs : List Bool) : PyData := .tuple (bs.map PyData.bool)
theorem shB (bs : List Bool) : Sh (bd bs) 1 := Sh.tup fun d hd => by
  obtain ⟨b, _, rfl⟩ := List.mem_map.mp hd
  exact Sh.bool b 0
theorem dpB {K : PySem.W.Frag} {H : Hp} {a : Addr} {bs : List Bool} (h : H a = some (.tup (bs.map V.bl))) : Dp K H (.ref a) (bd bs) := .tup (.of h) (dpAll_map fun b _ => .bl b)
theorem eqv_bools : ∀ as bs : List Bool, PyData.eqvAll (as.map PyData.bool) (bs.map PyData.bool) = decide (as = bs)
  | [], [] => by simp [PyData.eqvAll]
  | [], _ :: _ => by simp [PyData.eqvAll]
  | _ :: _, [] => by simp [PyData.eqvAll]
  | a :: as, b :: bs => by
    simp only [List.map_cons, PyData.eqvAll, eqv_bools as bs, List.cons.injEq]
    cases a <;> cases b <;> simp [PyData.eqv]
theorem eqv_bd (as bs : List Bool) : PyData.eqv (bd as) (bd bs) = decide (as = bs) := by
  unfold bd
  simp only [PyData.eqv, eqv_bools]
/-- a word as data -/
def wd : W → PyData
  | .on => .tuple [.str "on"]
  | .off => .tuple [.str "off"]
  | .relay k => .tuple [.str "relay", .int k]
  | .button k => .tuple [.str "button", .int k]
  | .not x => .tuple [.str "not", wd x]
  | .and x y => .tuple [.str "and", wd x, wd y]
  | .or x y => .tuple [.str "or", wd x, wd y]
theorem dpW {K : PySem.W.Frag} {H : Hp} : ∀ {w : W} {a : Addr}, WA H w a → Dp K H (.ref a) (wd w)
  | .on, _, h => .tup (.of h) (.cons (.str _) .nil)
  | .off, _, h => .tup (.of h) (.cons (.str _) .nil)
  | .relay _, _, h => .tup (.of h) (.cons (.str _) (.cons (.int _) .nil))
  | .button _, _, h => .tup (.of h) (.cons (.str _) (.cons (.int _) .nil))
  | .not _, _, h => let ⟨_, e, q⟩ := h; .tup (.of e) (.cons (.str _) (.cons (dpW q) .nil))
  | .and _ _, _, h => let ⟨_, _, e, q, r⟩ := h; .tup (.of e) (.cons (.str _) (.cons (dpW q) (.cons (dpW r) .nil)))
  | .or _ _, _, h => let ⟨_, _, e, q, r⟩ := h; .tup (.of e) (.cons (.str _) (.cons (dpW q) (.cons (dpW r) .nil)))
theorem shW : ∀ w : W, Sh (wd w) w.depth
  | .on => Sh.tup (k := 0) fun d hd => by simp at hd; subst hd; exact Sh.str _ _
  | .off => Sh.tup (k := 0) fun d hd => by simp at hd; subst hd; exact Sh.str _ _
  | .relay _ => Sh.tup (k := 0) fun d hd => by simp at hd; rcases hd with rfl | rfl <;> first | exact Sh.str _ _ | exact Sh.int _ _
  | .button _ => Sh.tup (k := 0) fun d hd => by simp at hd; rcases hd with rfl | rfl <;> first | exact Sh.str _ _ | exact Sh.int _ _
  | .not x => Sh.tup (k := x.depth) fun d hd => by simp at hd; rcases hd with rfl | rfl <;> first | exact Sh.str _ _ | exact shW x
  | .and x y => Sh.tup (k := max x.depth y.depth) fun d hd => by
    simp at hd; rcases hd with rfl | rfl | rfl
    · exact Sh.str _ _
    · exact (shW x).mono (Nat.le_max_left _ _)
    · exact (shW y).mono (Nat.le_max_right _ _)
  | .or x y => Sh.tup (k := max x.depth y.depth) fun d hd => by
    simp at hd; rcases hd with rfl | rfl | rfl
    · exact Sh.str _ _
    · exact (shW x).mono (Nat.le_max_left _ _)
    · exact (shW y).mono (Nat.le_max_right _ _)
/-! ### numbers and bits -/
theorem bit_nat (j k : Nat) : decide ((j : Int) / 2 ^ k % 2 = 1) = Nat.testBit j k := by
  rw [Nat.testBit_eq_decide_div_mod_eq]
  refine decide_eq_decide.mpr ?_
  rw [pow_cast, ← Int.natCast_ediv]
  omega
theorem bits_nat (j n : Nat) : bits (j : Int) n = (List.range n).map (Nat.testBit j) := by
  unfold bits
  exact List.map_congr_left fun k _ => bit_nat j k
theorem bits_mod (j n : Nat) : bits (j : Int) n = bits ((j % 2 ^ n : Nat) : Int) n := by
  rw [bits_nat, bits_nat]
  refine List.map_congr_left fun k hk => ?_
  rw [Nat.testBit_mod_two_pow, decide_eq_true (List.mem_range.mp hk), Bool.true_and]
theorem shr_nat (j n : Nat) : (j : Int) / 2 ^ n = ((j / 2 ^ n : Nat) : Int) := by rw [pow_cast, Int.natCast_ediv]
/-! ### boards -/
def canMove (ws : List W) (ps ss : List Bool) (k : Nat) : Bool := (ws.getD k .off).eval ss ps != ss.getD k false
def movL (ws : List W) (ps ss : List Bool) : List Nat := (List.range ws.length).filter (canMove ws ps ss)
def vn (k : Nat) : V := .int (k : Int)
structure BoardAt (H : Hp) (b : Addr) (us : List V) (ws : List W) (n m : Nat) : Prop where
  lst : H b = some (.lst us)
  was : WAs H ws us
  len : ws.length = n
  n6 : n ≤ 6
  fit : Fits n m 10 ws
theorem BoardAt.same {H H' : Hp} {b : Addr} {us : List V} {ws : List W} {n m : Nat} (B : BoardAt H b us ws n m) (s : Same H H') : BoardAt H' b us ws n m := ⟨s _ _ B.lst, WAs.same s B.was, B.len, B.n6, B.fit⟩
theorem BoardAt.ulen {H : Hp} {b : Addr} {us : List V} {ws : List W} {n m : Nat} (B : BoardAt H b us ws n m) : us.length = n := by rw [← WAs.length B.was]; exact B.len
theorem BoardAt.at {H : Hp} {b : Addr} {us : List V} {ws : List W} {n m : Nat} (B : BoardAt H b us ws n m) {k : Nat} (h : k < n) : ∃ c, us[k]? = some (.ref c) ∧ WA H (ws.getD k .off) c ∧ Fit n m 10 (ws.getD k .off) := by
  have hk : k < ws.length := by rw [B.len]; exact h
  obtain ⟨v, hv, c, rfl, hc⟩ := paired_getl B.was (List.getElem?_eq_getElem hk)
  have e : ws.getD k .off = ws[k] := by rw [List.getD_eq_getElem?_getD, List.getElem?_eq_getElem hk]; rfl
  rw [e]
  exact ⟨c, hv, hc, B.fit _ (List.getElem_mem hk)⟩
theorem Fits.mono {n m : Nat} {d e : Int} {ws : List W} (h : Fits n m d ws) (hd : d ≤ e) : Fits n m e ws := fun w hw => ⟨(h w hw).1, Int.le_trans (h w hw).2 hd⟩
theorem filter_snoc {α : Type} (f : α → Bool) (l : List α) (x : α) : (l ++ [x]).filter f = if f x = true then l.filter f ++ [x] else l.filter f := by
  rw [List.filter_append]
  by_cases h : f x = true
  · rw [if_pos h]; simp [h]
  · rw [if_neg h]; simp [h]
theorem movL_le (ws : List W) (ps ss : List Bool) : (movL ws ps ss).length ≤ ws.length := by
  unfold movL
  have := List.length_filter_le (canMove ws ps ss) (List.range ws.length)
  rw [List.length_range] at this
  exact this
def il (ks : List Nat) : PyData := .list (ks.map fun (k : Nat) => PyData.int (k : Int))
theorem shI (ks : List Nat) : Sh (il ks) 1 := Sh.lst fun d hd => by
  obtain ⟨b, _, rfl⟩ := List.mem_map.mp hd
  exact Sh.int _ 0
theorem dpI {K : PySem.W.Frag} {H : Hp} {a : Addr} {ks : List Nat} (h : H a = some (.lst (ks.map vn))) : Dp K H (.ref a) (il ks) := .lst (.of h) (dpAll_map fun b _ => .int b)
theorem eqv_ints : ∀ as bs : List Nat, PyData.eqvAll (as.map fun (k : Nat) => PyData.int (k : Int)) (bs.map fun (k : Nat) => PyData.int (k : Int)) = decide (as = bs)
  | [], [] => by simp [PyData.eqvAll]
  | [], _ :: _ => by simp [PyData.eqvAll]
  | _ :: _, [] => by simp [PyData.eqvAll]
  | a :: as, b :: bs => by
    simp only [List.map_cons, PyData.eqvAll, eqv_ints as bs, List.cons.injEq]
    by_cases h : a = b
    · subst h; simp [PyData.eqv]
    · have : ¬ (a : Int) = (b : Int) := fun e => h (by omega)
      simp [PyData.eqv, h, this]
theorem eqv_il (as bs : List Nat) : PyData.eqv (il as) (il bs) = decide (as = bs) := by
  unfold il
  simp only [PyData.eqv, eqv_ints]
theorem dpTs {K : PySem.W.Frag} {H : Hp} : ∀ {bss : List (List Bool)} {us : List V}, Tups H bss us → DpAll K H us (bss.map bd)
  | _, _, .nil => .nil
  | _, _, .cons ⟨_, e, h⟩ t => .cons (e ▸ dpB h) (dpTs t)
theorem shTs (bss : List (List Bool)) : Sh (.list (bss.map bd)) 2 := Sh.lst fun d hd => by
  obtain ⟨b, _, rfl⟩ := List.mem_map.mp hd
  exact shB b
theorem dpWs {K : PySem.W.Frag} {H : Hp} : ∀ {ws : List W} {us : List V}, WAs H ws us → DpAll K H us (ws.map wd)
  | _, _, .nil => .nil
  | _, _, .cons ⟨_, e, h⟩ t => .cons (e ▸ dpW h) (dpWs t)
theorem shWs {n m : Nat} {ws : List W} {k : Nat} (h : Fits n m (k : Int) ws) : Sh (.list (ws.map wd)) (k + 1) := Sh.lst fun d hd => by
  obtain ⟨x, hx, rfl⟩ := List.mem_map.mp hd
  exact (shW x).mono (by have := (h x hx).2; omega)
/-! ### classes of the program -/
theorem kit_own {K : PySem.W.Frag} {D C : Addr} {b : Bool} (hC : PySem.W.isClsIn K C = true) (tC : PySem.W.typeIn K (.ref C) = some (.type "type")) (s : PySem.W.subIn K (.ref D) (.ref C) = some b) (self : PySem.W.subIn K (.ref D) (.ref D) = some true) :
    PySem.W.kitOne K (.ref D) (.ref C) = some b := by
  unfold PySem.W.kitOne PySem.W.kitCls
  by_cases h : D = C
  · subst h
    rw [self] at s
    rw [if_pos (beq_self_eq_true _)]
    exact s
  · have h1 : ¬ ((Value.ref D == Value.ref C) = true) := fun e => h (by have := of_decide_eq_true (p := _) e; cases beq_iff_eq.mp e; rfl)
    rw [if_neg h1]
    have e2 : ((PySem.W.clsIn K C).isSome && PySem.W.typeIn K (.ref C) == some (.type "type")) = true := by
      have hC' : (PySem.W.clsIn K C).isSome = true := hC
      rw [hC', tC]; rfl
    show (if ((PySem.W.clsIn K C).isSome && PySem.W.typeIn K (.ref C) == some (.type "type")) = true then PySem.W.subIn K (.ref D) (.ref C) else none) = some b
    rw [if_pos e2]
    exact s
theorem kit_val {K : PySem.W.Frag} {D : Addr} (s : PySem.W.subIn K (.ref D) (.type "ValueError") = some true) : PySem.W.kitOne K (.ref D) (.type "ValueError") = some true := by
  unfold PySem.W.kitOne PySem.W.kitCls
  have h1 : ¬ ((Value.ref D == Value.type "ValueError") = true) := fun e => by cases beq_iff_eq.mp e
  rw [if_neg h1]
  show (if PySem.W.kitMeta "ValueError" = true then PySem.W.subIn K (.ref D) (.type "ValueError") else none) = some true
  rw [if_pos (by decide +kernel)]
  exact s
theorem exm_own {K : PySem.W.Frag} {D C : Addr} (h1 : PySem.W.subIn K (.ref C) (.type "BaseException") = some true) (hC : PySem.W.isClsIn K C = true) (tC : PySem.W.typeIn K (.ref C) = some (.type "type")) (s : PySem.W.subIn K (.ref D) (.ref C) = some true) : PySem.W.exmOne K (.ref D) (.ref C) = some true := by
  have e1 : (PySem.W.subIn K (.ref C) (.type "BaseException") == some true) = true := by rw [h1]; rfl
  have e2 : ((PySem.W.clsIn K C).isSome && PySem.W.typeIn K (.ref C) == some (.type "type")) = true := by
    have hC' : (PySem.W.clsIn K C).isSome = true := hC
    rw [hC', tC]; rfl
  show (if (PySem.W.subIn K (.ref C) (.type "BaseException") == some true) = true then (if ((PySem.W.clsIn K C).isSome && PySem.W.typeIn K (.ref C) == some (.type "type")) = true then PySem.W.subIn K (.ref D) (.ref C) else none) else none) = some true
  rw [if_pos e1, if_pos e2]
  exact s
/-! ### a suite that marks what was caught -/
def rIsX (K : PySem.W.Frag) (a : Addr) (cls : Value) (d : Option Addr) : List V → Hp → VK → Prop := fun xs H Q => ∃ D, cls = .ref D ∧ d = none ∧ ExcC K D ∧ rIsE K D a xs H Q
theorem call_isX {X : Cx} {a : Addr} {oe : Obj} {pn : List (Addr × Obj)} {cls : Value} {d : Option Addr} (hz : Zc cls d oe) (hf : ∃ vs, oe.data = .fields vs) : CallR (X.suite a ((a, oe) :: pn)) (.builtin "isinstance") (rIsX X.K a cls d) := by
  intro pins s σ H xs us Q I r h
  obtain ⟨D, rfl, rfl, E, q⟩ := h
  exact call_isE E hz hf pins s σ H xs us Q I r q
def tMark (K : PySem.W.Frag) (a : Addr) (cls : Value) (d : Option Addr) (i : Nat) (v : V) : TE := tCB (rIsX K a cls d) (tCons (tVar i) (tCons (tC v) tNil))
def tSuite (K : PySem.W.Frag) (c1 c2 c3 c4 c5 c6 : Addr) (i j : Nat) (a : Addr) (cls : Value) (d : Option Addr) : TS :=
  tSeq (tAsg (tLst (tCons (tMark K a cls d i (.ref c1)) (tCons (tMark K a cls d i (.ref c2)) (tCons (tMark K a cls d i (.ref c3)) (tCons (tMark K a cls d i (.ref c4)) tNil))))) (gName j))
    (tAsg (tOp rCat (tVar j) (tLst (tCons (tMark K a cls d i (.ref c5)) (tCons (tMark K a cls d i (.ref c6)) (tCons (tMark K a cls d i (.ty "ValueError")) tNil))))) (gName j))
theorem mark_run {K : PySem.W.Frag} {a D : Addr} {i : Nat} {v : V} {cv : Value} {b : Bool} {σ : St} {H : Hp} {Q : VK} (E : ExcC K D) (hi : σ[i]? = some (some (.ref a))) (hv : ∀ u, RelV v u → u = cv) (k : PySem.W.kitOne K (.ref D) cv = some b) (q : Q (.bl b) H) :
    tMark K a (.ref D) none i v σ H Q := ⟨_, hi, D, rfl, rfl, E, v, cv, b, rfl, hv, k, q⟩
theorem suite_run {K : PySem.W.Frag} {c1 c2 c3 c4 c5 c6 : Addr} {i j : Nat} {a D : Addr} {b1 b2 b3 b4 b5 b6 : Bool} {σ : St} {H : Hp} {Dn : Ends} (E : ExcC K D)
    (k1 : PySem.W.kitOne K (.ref D) (.ref c1) = some b1) (k2 : PySem.W.kitOne K (.ref D) (.ref c2) = some b2) (k3 : PySem.W.kitOne K (.ref D) (.ref c3) = some b3) (k4 : PySem.W.kitOne K (.ref D) (.ref c4) = some b4)
    (k5 : PySem.W.kitOne K (.ref D) (.ref c5) = some b5) (k6 : PySem.W.kitOne K (.ref D) (.ref c6) = some b6) (kv : PySem.W.kitOne K (.ref D) (.type "ValueError") = some true) (hi : σ[i]? = some (some (.ref a))) (hj : j < σ.length) (hij : j ≠ i)
    (q : ∀ (H' : Hp) (p0 p : Addr), Same H H' → H' p = some (.lst ([b1, b2, b3, b4, b5, b6, true].map V.bl)) → Dn.nx ((σ.set j (some (.ref p0))).set j (some (.ref p))) H') : tSuite K c1 c2 c3 c4 c5 c6 i j a (.ref D) none Dn σ H := by
  refine mark_run E hi (fun u h => h) k1 (mark_run E hi (fun u h => h) k2 (mark_run E hi (fun u h => h) k3 (mark_run E hi (fun u h => h) k4 ⟨small10 (Nat.le_of_ble_eq_true rfl), fun p0 np0 => ?_⟩)))
  have s0 : Same H (upd H p0 (.lst [.bl b1, .bl b2, .bl b3, .bl b4])) := Same.new np0
  have e0 : (upd H p0 (.lst [.bl b1, .bl b2, .bl b3, .bl b4])) p0 = some (.lst [.bl b1, .bl b2, .bl b3, .bl b4]) := upd_same
  generalize upd H p0 (.lst [.bl b1, .bl b2, .bl b3, .bl b4]) = H1 at *
  have hi2 : (σ.set j (some (.ref p0)))[i]? = some (some (.ref a)) := by rw [List.getElem?_set_ne hij]; exact hi
  refine ⟨_, List.getElem?_set_self hj, ?_⟩
  refine mark_run E hi2 (fun u h => h) k5 (mark_run E hi2 (fun u h => h) k6 (mark_run E hi2 (fun u h => h) kv ⟨small10 (Nat.le_of_ble_eq_true rfl), fun p1 np1 => ?_⟩))
  have s1 : Same H1 (upd H1 p1 (.lst [.bl b5, .bl b6, .bl true])) := Same.new np1
  have e1 : (upd H1 p1 (.lst [.bl b5, .bl b6, .bl true])) p1 = some (.lst [.bl b5, .bl b6, .bl true]) := upd_same
  generalize upd H1 p1 (.lst [.bl b5, .bl b6, .bl true]) = H2 at *
  refine ⟨p0, p1, _, _, rfl, rfl, s1 _ _ e0, e1, small10 (Nat.le_of_ble_eq_true rfl), fun p2 np2 => ?_⟩
  exact q _ p0 p2 (s0.trans (s1.trans (Same.new np2))) upd_same
/-! ### walks -/
def flip (ss : List Bool) (k : Nat) : List Bool := ss.set k (!ss.getD k false)
theorem flip_len (ss : List Bool) (k : Nat) : (flip ss k).length = ss.length := List.length_set
inductive WR where
  | norelay | still | at (ss : List Bool)
def walkR (ws : List W) (ps : List Bool) : List Bool → List Int → WR
  | ss, [] => .at ss
  | ss, r :: rs => if 0 ≤ r ∧ r < (ws.length : Int) then (if canMove ws ps ss r.toNat = true then walkR ws ps (flip ss r.toNat) rs else .still) else .norelay
theorem walkR_snoc (ws : List W) (ps : List Bool) (r : Int) : ∀ (rs : List Int) (ss : List Bool), walkR ws ps ss (rs ++ [r]) = match walkR ws ps ss rs with
    | .at t => walkR ws ps t [r]
    | e => e
  | [], ss => rfl
  | x :: rs, ss => by
    show walkR ws ps ss (x :: (rs ++ [r])) = _
    simp only [walkR]
    by_cases h : 0 ≤ x ∧ x < (ws.length : Int)
    · rw [if_pos h, if_pos h]
      by_cases h2 : canMove ws ps ss x.toNat = true
      · rw [if_pos h2, if_pos h2]; exact walkR_snoc ws ps r rs _
      · rw [if_neg h2, if_neg h2]
    · rw [if_neg h, if_neg h]
theorem flip_get (ss : List Bool) (k i : Nat) (h : i < ss.length) : (flip ss k)[i]? = some (ss.getD i false != (decide (i = k))) := by
  unfold flip
  have e : ss.getD i false = ss[i] := by rw [List.getD_eq_getElem?_getD, List.getElem?_eq_getElem h]; rfl
  by_cases hk : i = k
  · subst hk
    rw [List.getElem?_set_self h, decide_eq_true rfl]
    cases ss.getD i false <;> rfl
  · rw [List.getElem?_set_ne (Ne.symm hk), decide_eq_false hk, List.getElem?_eq_getElem h, e]
    cases ss[i] <;> rfl
theorem mem_movL {ws : List W} {ps ss : List Bool} {k : Nat} : k ∈ movL ws ps ss ↔ k < ws.length ∧ canMove ws ps ss k = true := by
  unfold movL
  rw [List.mem_filter, List.mem_range]
theorem inV_vn (r : Int) : ∀ ks : List Nat, inV (.int r) (ks.map vn) = ks.any (fun k => decide ((k : Int) = r))
  | [] => rfl
  | x :: rest => by
    show (eqV (.int x) (.int r) || inV (.int r) (rest.map vn)) = (decide ((x : Int) = r) || rest.any (fun k => decide ((k : Int) = r)))
    rw [inV_vn r rest]
    have e : eqV (.int x) (.int r) = decide ((x : Int) = r) := by
      show ((x : Int) == r) = decide ((x : Int) = r)
      exact Bool.beq_eq_decide_eq ..
    rw [e]
theorem flat_vn : ∀ ks : List Nat, (ks.map vn).all flatV = true
  | [] => rfl
  | _ :: r => flat_vn r
end Rl

local macro_rules
  | `(tactic| wtm_at $s:str) => do
    match s.getString.splitOn " " with
    | ["new", p, h, ss, e] =>
      let n := Lean.mkIdent (Lean.Name.mkSimple ("n" ++ p))
      let p := Lean.mkIdent (Lean.Name.mkSimple p)
      let h := Lean.mkIdent (Lean.Name.mkSimple h)
      let ss := Lean.mkIdent (Lean.Name.mkSimple ss)
      let e := Lean.mkIdent (Lean.Name.mkSimple e)
      `(tactic| (intro $p $n; generalize eNew : L2.upd _ $p _ = $h; have $ss : L2.Same _ $h := eNew ▸ Rl.Same.new $n; have $e : $h $p = some _ := eNew ▸ L2.upd_same; clear eNew))
    | ["hp"] => `(tactic| first | assumption | exact L2.SqL.of (by wtm_at "hp") | exact L2.SqT.of (by wtm_at "hp") | (refine Rl.Same.get (by assumption) ?_; wtm_at "hp") | (refine L2.Same.seq (by assumption) ?_; wtm_at "hp") | (refine Rl.WA.same (by assumption) ?_; wtm_at "hp") | (refine Rl.WAs.same (by assumption) ?_; wtm_at "hp"))
    | ["cond"] => `(tactic| first | omega | decide | exact Rl.small10 (Nat.le_of_ble_eq_true rfl) | exact ⟨by decide, by decide⟩ | exact ⟨by omega, by omega⟩ | exact .inr ⟨by decide, by decide⟩ | exact .inl ⟨by decide, by decide⟩ | exact .inl ⟨by omega, by omega⟩ | exact .inr ⟨by omega, by omega⟩)
    | ["r1"] => `(tactic| first | refine ⟨_, rfl, ?_⟩ | refine ⟨_, _, rfl, rfl, ?_⟩ | refine ⟨rfl, ?_⟩ | refine ⟨show (_ : Prop) from (by wtm_at "cond"), ?_⟩)
    | ["rd"] => `(tactic| ((repeat wtm_at "r1"); (try dsimp -proj -eta -iota only)))
    | ["dF"] => `(tactic| refine Rl.iF (decide_eq_false (by first | decide +kernel | (dsimp only [Rl.W.tag]; decide +kernel))) ?_)
    | ["dT"] => `(tactic| refine Rl.iT (decide_eq_true (by first | decide +kernel | rfl | (dsimp only [Rl.W.tag]; decide +kernel))) ?_)
    | ["lc"] => `(tactic| (refine ⟨rfl, ?_⟩; dsimp -proj -eta -iota only [L2.tYes]; refine Rl.iT rfl ?_))
    | ["ds"] => `(tactic| dsimp -proj -eta -iota only)
    | ["szs"] => `(tactic| try refine ⟨by exact Rl.small10 (Nat.le_of_ble_eq_true rfl), ?_⟩)
    | ["sz"] => `(tactic| exact Rl.small10 (Nat.le_of_ble_eq_true rfl))
    | _ => Lean.Macro.throwUnsupported

namespace Rl
open PySem L2
def topS (i : Nat) : Stmt := PySem.Challenge.pw_relayroom_k05_rests.main.body.getD i (.Pass ⟨0, 0, 0, 0⟩)
abbrev sworth : Stmt := topS 1
abbrev sswitches : Stmt := topS 2
abbrev scan_move : Stmt := topS 4
abbrev smovable : Stmt := topS 5
abbrev srests : Stmt := topS 6
abbrev s_law_cell_at : Stmt := topS 8
abbrev s_law_pick : Stmt := topS 9
abbrev s_law_mix : Stmt := topS 10
abbrev s_law_leaf : Stmt := topS 11
abbrev s_law_word : Stmt := topS 12
abbrev s_law_board : Stmt := topS 13
abbrev s_law_bits : Stmt := topS 14
abbrev s_law_wrapped : Stmt := topS 15
abbrev s_law_room : Stmt := topS 16
abbrev s_law_worth : Stmt := topS 17
abbrev s_law_movable : Stmt := topS 18
abbrev s_law_is_stand : Stmt := topS 20
abbrev slaw : Stmt := topS 21
theorem scworth : FnScope ["word", "stand", "pressed"] ["word", "stand", "pressed"] (defScope sworth) := ⟨rfl, rfl, rfl, by decide +kernel, rfl, by decide +kernel, by decide +kernel⟩
theorem scswitches : FnScope ["many", "found", "number", "k"] ["many"] (defScope sswitches) := ⟨rfl, rfl, rfl, by decide +kernel, rfl, by decide +kernel, by decide +kernel⟩
theorem sccan_move : FnScope ["board", "pressed", "stand", "relay"] ["board", "pressed", "stand", "relay"] (defScope scan_move) := ⟨rfl, rfl, rfl, by decide +kernel, rfl, by decide +kernel, by decide +kernel⟩
theorem scmovable : FnScope ["board", "pressed", "stand", "relay"] ["board", "pressed", "stand"] (defScope smovable) := ⟨rfl, rfl, rfl, by decide +kernel, rfl, by decide +kernel, by decide +kernel⟩
theorem scrests : FnScope ["board", "pressed", "stand"] ["board", "pressed"] (defScope srests) := ⟨rfl, rfl, rfl, by decide +kernel, rfl, by decide +kernel, by decide +kernel⟩
theorem sc_law_cell_at : FnScope ["script", "k"] ["script", "k"] (defScope s_law_cell_at) := ⟨rfl, rfl, rfl, by decide +kernel, rfl, by decide +kernel, by decide +kernel⟩
theorem sc_law_pick : FnScope ["script", "k"] ["script", "k"] (defScope s_law_pick) := ⟨rfl, rfl, rfl, by decide +kernel, rfl, by decide +kernel, by decide +kernel⟩
theorem sc_law_mix : FnScope ["cell", "k", "mixed"] ["cell", "k"] (defScope s_law_mix) := ⟨rfl, rfl, rfl, by decide +kernel, rfl, by decide +kernel, by decide +kernel⟩
theorem sc_law_leaf : FnScope ["mixed", "relays", "buttons", "spot"] ["mixed", "relays", "buttons"] (defScope s_law_leaf) := ⟨rfl, rfl, rfl, by decide +kernel, rfl, by decide +kernel, by decide +kernel⟩
theorem sc_law_word : FnScope ["cell", "k", "deep", "relays", "buttons", "mixed", "kind", "first"] ["cell", "k", "deep", "relays", "buttons"] (defScope s_law_word) := ⟨rfl, rfl, rfl, by decide +kernel, rfl, by decide +kernel, by decide +kernel⟩
theorem sc_law_board : FnScope ["script", "start", "relays", "buttons", "deep", "k"] ["script", "start", "relays", "buttons", "deep"] (defScope s_law_board) := ⟨rfl, rfl, rfl, by decide +kernel, rfl, by decide +kernel, by decide +kernel⟩
theorem sc_law_bits : FnScope ["number", "size", "k"] ["number", "size"] (defScope s_law_bits) := ⟨rfl, rfl, rfl, by decide +kernel, rfl, by decide +kernel, by decide +kernel⟩
theorem sc_law_wrapped : FnScope ["word", "mixed", "k"] ["word", "mixed"] (defScope s_law_wrapped) := ⟨rfl, rfl, rfl, by decide +kernel, rfl, by decide +kernel, by decide +kernel⟩
theorem sc_law_room : FnScope ["script", "cell", "relays", "buttons", "board", "pressed", "k"] ["script"] (defScope s_law_room) := ⟨rfl, rfl, rfl, by decide +kernel, rfl, by decide +kernel, by decide +kernel⟩
theorem sc_law_worth : FnScope ["word", "stand", "pressed", "worths", "part"] ["word", "stand", "pressed"] (defScope s_law_worth) := ⟨rfl, rfl, rfl, by decide +kernel, rfl, by decide +kernel, by decide +kernel⟩
theorem sc_law_movable : FnScope ["board", "pressed", "stand", "k"] ["board", "pressed", "stand"] (defScope s_law_movable) := ⟨rfl, rfl, rfl, by decide +kernel, rfl, by decide +kernel, by decide +kernel⟩
theorem sc_law_is_stand : FnScope ["found", "size", "one"] ["found", "size"] (defScope s_law_is_stand) := ⟨rfl, rfl, rfl, by decide +kernel, rfl, by decide +kernel, by decide +kernel⟩
theorem sclaw : FnScope ["script", "room", "board", "due", "number", "stand", "found", "one"] ["script"] (defScope slaw) := ⟨rfl, rfl, rfl, by decide +kernel, rfl, by decide +kernel, by decide +kernel⟩
structure Ad where
  (aworth aswitches acan_move amovable arests a_law_cell_at a_law_pick a_law_mix a_law_leaf a_law_word a_law_board a_law_bits a_law_wrapped a_law_room a_law_worth a_law_movable a_law_is_stand alaw : Addr)
  (dworth dswitches dcan_move dmovable drests d_law_cell_at d_law_pick d_law_mix d_law_leaf d_law_word d_law_board d_law_bits d_law_wrapped d_law_room d_law_worth d_law_movable d_law_is_stand dlaw : FuncData)
structure Txt (K : PySem.W.Frag) (mg : Str → Option Value) (A : Ad) : Prop where
  F_worth : Fun K "worth" "worth" sworth A.aworth A.dworth
  m_worth : mg "worth" = some (.ref A.aworth)
  b_worth : Binds K A.dworth ["word", "stand", "pressed"] []
  F_switches : Fun K "switches" "switches" sswitches A.aswitches A.dswitches
  m_switches : mg "switches" = some (.ref A.aswitches)
  b_switches : Binds K A.dswitches ["many"] []
  F_can_move : Fun K "can_move" "can_move" scan_move A.acan_move A.dcan_move
  m_can_move : mg "can_move" = some (.ref A.acan_move)
  b_can_move : Binds K A.dcan_move ["board", "pressed", "stand", "relay"] []
  F_movable : Fun K "movable" "movable" smovable A.amovable A.dmovable
  m_movable : mg "movable" = some (.ref A.amovable)
  b_movable : Binds K A.dmovable ["board", "pressed", "stand"] []
  F_rests : Fun K "rests" "rests" srests A.arests A.drests
  m_rests : mg "rests" = some (.ref A.arests)
  b_rests : Binds K A.drests ["board", "pressed"] []
  F__law_cell_at : Fun K "_law_cell_at" "_law_cell_at" s_law_cell_at A.a_law_cell_at A.d_law_cell_at
  m__law_cell_at : mg "_law_cell_at" = some (.ref A.a_law_cell_at)
  b__law_cell_at : Binds K A.d_law_cell_at ["script", "k"] []
  F__law_pick : Fun K "_law_pick" "_law_pick" s_law_pick A.a_law_pick A.d_law_pick
  m__law_pick : mg "_law_pick" = some (.ref A.a_law_pick)
  b__law_pick : Binds K A.d_law_pick ["script", "k"] []
  F__law_mix : Fun K "_law_mix" "_law_mix" s_law_mix A.a_law_mix A.d_law_mix
  m__law_mix : mg "_law_mix" = some (.ref A.a_law_mix)
  b__law_mix : Binds K A.d_law_mix ["cell", "k"] []
  F__law_leaf : Fun K "_law_leaf" "_law_leaf" s_law_leaf A.a_law_leaf A.d_law_leaf
  m__law_leaf : mg "_law_leaf" = some (.ref A.a_law_leaf)
  b__law_leaf : Binds K A.d_law_leaf ["mixed", "relays", "buttons"] []
  F__law_word : Fun K "_law_word" "_law_word" s_law_word A.a_law_word A.d_law_word
  m__law_word : mg "_law_word" = some (.ref A.a_law_word)
  b__law_word : Binds K A.d_law_word ["cell", "k", "deep", "relays", "buttons"] []
  F__law_board : Fun K "_law_board" "_law_board" s_law_board A.a_law_board A.d_law_board
  m__law_board : mg "_law_board" = some (.ref A.a_law_board)
  b__law_board : Binds K A.d_law_board ["script", "start", "relays", "buttons", "deep"] []
  F__law_bits : Fun K "_law_bits" "_law_bits" s_law_bits A.a_law_bits A.d_law_bits
  m__law_bits : mg "_law_bits" = some (.ref A.a_law_bits)
  b__law_bits : Binds K A.d_law_bits ["number", "size"] []
  F__law_wrapped : Fun K "_law_wrapped" "_law_wrapped" s_law_wrapped A.a_law_wrapped A.d_law_wrapped
  m__law_wrapped : mg "_law_wrapped" = some (.ref A.a_law_wrapped)
  b__law_wrapped : Binds K A.d_law_wrapped ["word", "mixed"] []
  F__law_room : Fun K "_law_room" "_law_room" s_law_room A.a_law_room A.d_law_room
  m__law_room : mg "_law_room" = some (.ref A.a_law_room)
  b__law_room : Binds K A.d_law_room ["script"] []
  F__law_worth : Fun K "_law_worth" "_law_worth" s_law_worth A.a_law_worth A.d_law_worth
  m__law_worth : mg "_law_worth" = some (.ref A.a_law_worth)
  b__law_worth : Binds K A.d_law_worth ["word", "stand", "pressed"] []
  F__law_movable : Fun K "_law_movable" "_law_movable" s_law_movable A.a_law_movable A.d_law_movable
  m__law_movable : mg "_law_movable" = some (.ref A.a_law_movable)
  b__law_movable : Binds K A.d_law_movable ["board", "pressed", "stand"] []
  F__law_is_stand : Fun K "_law_is_stand" "_law_is_stand" s_law_is_stand A.a_law_is_stand A.d_law_is_stand
  m__law_is_stand : mg "_law_is_stand" = some (.ref A.a_law_is_stand)
  b__law_is_stand : Binds K A.d_law_is_stand ["found", "size"] []
  F_law : Fun K "law" "law" slaw A.alaw A.dlaw
  m_law : mg "law" = some (.ref A.alaw)
  b_law : Binds K A.dlaw ["script"] []
  n_range : mg "range" = none
  n_tuple : mg "tuple" = none
  n_len : mg "len" = none
  n_int : mg "int" = none
  n_all : mg "all" = none
  n_isinstance : mg "isinstance" = none
  n_bool : mg "bool" = none
  n_list : mg "list" = none
section
variable {P : Program} {w : World} {K : PySem.W.Frag} {mg : Str → Option Value} {base : Heap} {Z : Ad}
def sp_law_cell_at (K : PySem.W.Frag) : Sp := fun vs H Q _ => ∃ (a : Addr) (ns : List Int) (k : Int), vs = [.ref a, .int k] ∧ SqL K H a (ns.map V.int) ∧ 0 ≤ k ∧ ∀ n : Int, Q (.int n) H
theorem ok_law_cell_at (T : Txt K mg Z) : FnOk P w K mg base CX0 1 Z.a_law_cell_at Z.d_law_cell_at ["script", "k"] (sp_law_cell_at K) := by
  refine T.F__law_cell_at.ok sc_law_cell_at (fun vs H Q E h => by obtain ⟨_, _, _, rfl, _⟩ := h; rfl) (fun cdv A outer s H vs Q E hr h => ?_)
  obtain ⟨a, ns, k, rfl, hS, h0, q⟩ := h
  refine ⟨_, (pss_cons (ps_if (pt_cmpR op_lt (pv 1) (pe_callB (r := rLenSeq K) call_len_seq (by rfl) T.n_len PySem.boot_len (pa_cons (pv 0) pa_nil)) (nomark _)) (pss_one (ps_ret (pe_ix (r := rIxL K) ix_list (pv 0) (pv 1) (fun _ _ => rfl)))) pss_nil)
      (pss_one (ps_ret pe_int))), ?_⟩
  refine ⟨_, rfl, _, rfl, a, _, rfl, .inl hS, ?_⟩
  wtm_at "rd"
  refine iB (fun c => ?_) (fun c => ?_)
  · have c' := of_decide_eq_true c
    rw [List.length_map] at c'
    obtain ⟨j, rfl⟩ : ∃ j : Nat, k = (j : Int) := ⟨k.toNat, by omega⟩
    have hj : j < ns.length := by omega
    refine ⟨_, rfl, _, rfl, a, _, _, .int ns[j], rfl, rfl, hS, atI_nat (by rw [List.getElem?_map, List.getElem?_eq_getElem hj]; rfl), ?_⟩
    exact q _
  · exact q _

def sp_law_pick (K : PySem.W.Frag) : Sp := sp_law_cell_at K
theorem ok_law_pick (T : Txt K mg Z) : FnOk P w K mg base CX0 2 Z.a_law_pick Z.d_law_pick ["script", "k"] (sp_law_pick K) := by
  have G_law_cell_at := ok_law_cell_at (P := P) (w := w) (base := base) T
  refine T.F__law_pick.ok sc_law_pick (fun vs H Q E h => by obtain ⟨_, _, _, rfl, _⟩ := h; rfl) (fun cdv A outer s H vs Q E hr h => ?_)
  obtain ⟨a, ns, k, rfl, hS, h0, q⟩ := h
  refine ⟨_, (pss_cons (ps_if (pt_cmpR op_lt (pv 1) (pe_callB (r := rLenSeq K) call_len_seq (by rfl) T.n_len PySem.boot_len (pa_cons (pv 0) pa_nil)) (nomark _)) (pss_one (ps_ret (pe_ix (r := rIxL K) ix_list (pv 0) (pv 1) (fun _ _ => rfl)))) pss_nil)
      (pss_one (ps_ret (pe_op op_fdiv (pe_op op_mod (pe_op op_mul (pe_op op_add (pe_op op_add (pe_call G_law_cell_at (hr.mono (by omega)) (by rfl) T.m__law_cell_at T.F__law_cell_at.kp T.b__law_cell_at .nil pass0 (pa_cons (pv 0) (pa_cons pe_int pa_nil))) (pe_op op_mul pe_int (pv 1))) pe_int) pe_int) pe_int) pe_int)))), ?_⟩
  refine ⟨_, rfl, _, rfl, a, _, rfl, .inl hS, ?_⟩
  wtm_at "rd"
  refine iB (fun c => ?_) (fun c => ?_)
  · have c' := of_decide_eq_true c
    rw [List.length_map] at c'
    obtain ⟨j, rfl⟩ : ∃ j : Nat, k = (j : Int) := ⟨k.toNat, by omega⟩
    have hj : j < ns.length := by omega
    refine ⟨_, rfl, _, rfl, a, _, _, .int ns[j], rfl, rfl, hS, atI_nat (by rw [List.getElem?_map, List.getElem?_eq_getElem hj]; rfl), ?_⟩
    exact q _
  · refine ⟨_, rfl, a, ns, 0, rfl, hS, by omega, fun n => ?_⟩
    wtm_at "rd"
    exact q _

def sp_law_mix : Sp := fun vs H Q _ => ∃ (c k : Int), vs = [.int c, .int k] ∧ ∀ n : Int, 0 ≤ n → n < 2147483587 → Q (.int n) H
theorem ok_law_mix (T : Txt K mg Z) : FnOk P w K mg base CX0 1 Z.a_law_mix Z.d_law_mix ["cell", "k"] sp_law_mix := by
  refine T.F__law_mix.ok sc_law_mix (fun vs H Q E h => by obtain ⟨_, _, rfl, _⟩ := h; rfl) (fun cdv A outer s H vs Q E hr h => ?_)
  obtain ⟨c, k, rfl, q⟩ := h
  refine ⟨_, (pss_cons (ps_set (i := 2) sc_law_mix.nd rfl (Or.inl rfl) (pe_op op_mod (pe_op op_add (pe_op op_add (pe_op op_mul (pv 0) pe_int) (pe_op op_mul pe_int (pv 1))) pe_int) pe_int))
      (pss_cons (ps_set (i := 2) sc_law_mix.nd rfl (Or.inl rfl) (pe_op op_mod (pe_op op_add (pe_op op_add (pe_op op_mul (pv 2) (pv 2)) (pe_op op_mul pe_int (pv 2))) (pv 1)) pe_int))
      (pss_one (ps_ret (pe_op op_mod (pe_op op_add (pe_op op_add (pe_op op_mul (pv 2) (pv 2)) (pe_op op_mul pe_int (pv 2))) (pe_op op_mul pe_int (pv 1))) pe_int))))), ?_⟩
  wtm_at "rd"
  have b1 : 0 ≤ (c * 69621 + 7001 * k + 3) % 2147483629 ∧ (c * 69621 + 7001 * k + 3) % 2147483629 < 2147483629 := ⟨Int.emod_nonneg _ (by decide), Int.emod_lt_of_pos _ (by decide)⟩
  generalize (c * 69621 + 7001 * k + 3) % 2147483629 = m1 at *
  wtm_at "rd"
  have b2 : 0 ≤ (m1 * m1 + 39373 * m1 + k) % 2147483647 ∧ (m1 * m1 + 39373 * m1 + k) % 2147483647 < 2147483647 := ⟨Int.emod_nonneg _ (by decide), Int.emod_lt_of_pos _ (by decide)⟩
  generalize (m1 * m1 + 39373 * m1 + k) % 2147483647 = m2 at *
  wtm_at "rd"
  exact q _ (Int.emod_nonneg _ (by decide)) (Int.emod_lt_of_pos _ (by decide))

def sp_law_leaf : Sp := fun vs H Q _ => ∃ (c : Int) (n m : Nat), vs = [.int c, .int n, .int m] ∧ ∀ (H' : Hp) (a : Addr) (w : W), Same H H' → WA H' w a → Fit n m 1 w → Q (.ref a) H'
theorem ok_law_leaf (T : Txt K mg Z) : FnOk P w K mg base CX0 1 Z.a_law_leaf Z.d_law_leaf ["mixed", "relays", "buttons"] sp_law_leaf := by
  refine T.F__law_leaf.ok sc_law_leaf (fun vs H Q E h => by obtain ⟨_, _, _, rfl, _⟩ := h; rfl) (fun cdv A outer s H vs Q E hr h => ?_)
  obtain ⟨c, n, m, rfl, q⟩ := h
  refine ⟨_, (pss_cons (ps_set (i := 3) sc_law_leaf.nd rfl (Or.inl rfl) (pe_op op_mod (pv 0) (pe_op op_add (pe_op op_add (pv 1) (pv 2)) pe_int)))
      (pss_cons (ps_if (pt_cmpR op_lt (pv 3) (pv 1) (nomark _)) (pss_one (ps_ret (pe_tup (pa_cons pe_str (pa_cons (pv 3) pa_nil))))) pss_nil)
      (pss_cons (ps_if (pt_cmpR op_lt (pv 3) (pe_op op_add (pv 1) (pv 2)) (nomark _)) (pss_one (ps_ret (pe_tup (pa_cons pe_str (pa_cons (pe_op op_sub (pv 3) (pv 1)) pa_nil))))) pss_nil)
      (pss_one (ps_ret (pe_ix (r := rIxL K) ix_list (pe_lst (pa_cons (pe_tup (pa_cons pe_str pa_nil)) (pa_cons (pe_tup (pa_cons pe_str pa_nil)) pa_nil))) (pe_op op_mod (pe_op op_fdiv (pv 0) pe_int) pe_int) (fun _ _ => rfl))))))), ?_⟩
  wtm_at "rd"
  have b1 : 0 ≤ c % ((n : Int) + m + 1) ∧ c % ((n : Int) + m + 1) < (n : Int) + m + 1 := ⟨Int.emod_nonneg _ (by omega), Int.emod_lt_of_pos _ (by omega)⟩
  generalize c % ((n : Int) + m + 1) = z at *
  refine iB (fun c1 => ?_) (fun c1 => ?_)
  · have c1' := of_decide_eq_true c1
    wtm_at "rd"
    wtm_at "szs"
    wtm_at "new p H1 s1 e1"
    exact q _ _ (.relay z) s1 e1 ⟨⟨by omega, by omega⟩, Int.le_refl 1⟩
  · have c1' := of_decide_eq_false c1
    wtm_at "rd"
    refine iB (fun c2 => ?_) (fun c2 => ?_)
    · have c2' := of_decide_eq_true c2
      wtm_at "rd"
      wtm_at "szs"
      wtm_at "new p H1 s1 e1"
      exact q _ _ (.button (z - n)) s1 e1 ⟨⟨by omega, by omega⟩, Int.le_refl 1⟩
    · wtm_at "szs"
      wtm_at "new p1 H1 s1 e1"
      wtm_at "szs"
      wtm_at "new p2 H2 s2 e2"
      wtm_at "szs"
      wtm_at "new p3 H3 s3 e3"
      wtm_at "rd"
      rcases (by omega : c / 64 % 2 = 0 ∨ c / 64 % 2 = 1) with e | e
      · exact ⟨_, _, _, _, rfl, rfl, .of e3, at_of (j := 0) e rfl, q _ _ .on (s1.trans (s2.trans s3)) (by wtm_at "hp") ⟨trivial, Int.le_refl 1⟩⟩
      · exact ⟨_, _, _, _, rfl, rfl, .of e3, at_of (j := 1) e rfl, q _ _ .off (s1.trans (s2.trans s3)) (by wtm_at "hp") ⟨trivial, Int.le_refl 1⟩⟩

def sp_law_word (N : Nat) : Sp := fun vs H Q _ => ∃ (c k d : Int) (n m : Nat), vs = [.int c, .int k, .int d, .int n, .int m] ∧ 1 ≤ d ∧ d ≤ N ∧ ∀ (H' : Hp) (a : Addr) (w : W), Same H H' → WA H' w a → Fit n m d w → Q (.ref a) H'
theorem st_law_word (T : Txt K mg Z) {N : Nat} (G_law_word : FnOk P w K mg base CX0 (N + 1) Z.a_law_word Z.d_law_word ["cell", "k", "deep", "relays", "buttons"] (sp_law_word N)) : FnOk P w K mg base CX0 (N + 2) Z.a_law_word Z.d_law_word ["cell", "k", "deep", "relays", "buttons"] (sp_law_word (N + 1)) := by
  have G_law_mix := ok_law_mix (P := P) (w := w) (base := base) T
  have G_law_leaf := ok_law_leaf (P := P) (w := w) (base := base) T
  refine T.F__law_word.ok sc_law_word (fun vs H Q E h => by obtain ⟨_, _, _, _, _, rfl, _⟩ := h; rfl) (fun cdv A outer s H vs Q E hr h => ?_)
  obtain ⟨c, k, d, n, m, rfl, hd1, hd2, q⟩ := h
  refine ⟨_, (pss_cons (ps_set (i := 5) sc_law_word.nd rfl (Or.inl rfl) (pe_op op_fdiv (pe_call G_law_mix (hr.mono (by omega)) (by rfl) T.m__law_mix T.F__law_mix.kp T.b__law_mix .nil pass0 (pa_cons (pv 0) (pa_cons (pv 1) pa_nil))) pe_int))
      (pss_cons (ps_set (i := 6) sc_law_word.nd rfl (Or.inl rfl) (pe_op op_mod (pv 5) pe_int))
      (pss_cons (ps_if (PW.pt (pw_or (pt_cmpR op_lt (pv 2) pe_int (nomark _)) (pw_or1 (pt_cmpR op_lt (pv 6) pe_int (nomark _))))) (pss_one (ps_ret (pe_call G_law_leaf (hr.mono (by omega)) (by rfl) T.m__law_leaf T.F__law_leaf.kp T.b__law_leaf .nil pass0 (pa_cons (pe_op op_fdiv (pv 5) pe_int) (pa_cons (pv 3) (pa_cons (pv 4) pa_nil)))))) pss_nil)
      (pss_cons (ps_set (i := 7) sc_law_word.nd rfl (Or.inl rfl) (pe_call G_law_word (hr.mono (by omega)) (by rfl) T.m__law_word T.F__law_word.kp T.b__law_word .nil pass0 (pa_cons (pv 0) (pa_cons (pe_op op_add (pe_op op_mul pe_int (pv 1)) pe_int) (pa_cons (pe_op op_sub (pv 2) pe_int) (pa_cons (pv 3) (pa_cons (pv 4) pa_nil)))))))
      (pss_cons (ps_if (pt_cmpR op_lt (pv 6) pe_int (nomark _)) (pss_one (ps_ret (pe_tup (pa_cons pe_str (pa_cons (pv 7) pa_nil))))) pss_nil)
      (pss_one (ps_ret (pe_tup (pa_cons (pe_ix (r := rIxL K) ix_list (pe_lst (pa_cons pe_str (pa_cons pe_str pa_nil))) (pe_op op_mod (pv 6) pe_int) (fun _ _ => rfl)) (pa_cons (pv 7) (pa_cons (pe_call G_law_word (hr.mono (by omega)) (by rfl) T.m__law_word T.F__law_word.kp T.b__law_word .nil pass0 (pa_cons (pv 0) (pa_cons (pe_op op_add (pe_op op_mul pe_int (pv 1)) pe_int) (pa_cons (pe_op op_sub (pv 2) pe_int) (pa_cons (pv 3) (pa_cons (pv 4) pa_nil)))))) pa_nil))))))))))), ?_⟩
  wtm_at "rd"
  refine ⟨c, k, rfl, fun x hx0 hx1 => ?_⟩
  wtm_at "rd"
  have leaf : ∀ (σ : St) (D : Ends), D.rt = Q → σ[5]? = some (some (.int (x / 7))) → σ[3]? = some (some (.int n)) → σ[4]? = some (some (.int m)) → tRet (tCall sp_law_leaf [] E0 (tCons (tOp (rI CDiv fun i j => .int (i / j)) (tVar 5) (tC (.int 10))) (tCons (tVar 3) (tCons (tVar 4) tNil)))) D σ H := by
    intro σ D hD h5 h3 h4
    refine ⟨_, h5, _, _, rfl, rfl, ⟨by decide, by decide⟩, _, h3, _, h4, _, n, m, rfl, fun H' a w s1 e1 f1 => ?_⟩
    rw [hD]
    exact q _ _ _ s1 e1 ⟨f1.1, Int.le_trans f1.2 hd1⟩
  refine iB (fun c1 => ?_) (fun c1 => ?_)
  · exact iT rfl (leaf _ _ rfl rfl rfl rfl)
  have c1' := of_decide_eq_false c1
  wtm_at "rd"
  have hk : 0 ≤ x / 7 % 10 ∧ x / 7 % 10 < 10 := by omega
  generalize x / 7 % 10 = kd at *
  refine iB (fun c2 => ?_) (fun c2 => ?_)
  · exact leaf _ _ rfl rfl rfl rfl
  have c2' := of_decide_eq_false c2
  wtm_at "rd"
  refine ⟨c, 2 * k + 1, d - 1, n, m, rfl, by omega, by omega, fun H1 a1 w1 s1 e1 f1 => ?_⟩
  wtm_at "rd"
  refine iB (fun c3 => ?_) (fun c3 => ?_)
  · wtm_at "rd"
    wtm_at "szs"
    wtm_at "new p H2 s2 e2"
    refine q _ _ (.not w1) (s1.trans s2) ⟨_, e2, WA.same s2 e1⟩ ⟨f1.1, ?_⟩
    have := f1.2
    show ((w1.depth + 1 : Nat) : Int) ≤ d
    omega
  · wtm_at "szs"
    wtm_at "new p H2 s2 e2"
    wtm_at "rd"
    have fin : ∀ (H3 : Hp) (a2 : Addr) (w2 : W), Same H2 H3 → WA H3 w2 a2 → Fit n m (d - 1) w2 → ∀ p, H3 p = none →
        Q (.ref p) (upd H3 p (.tup [.str "and", .ref a1, .ref a2])) ∧ Q (.ref p) (upd H3 p (.tup [.str "or", .ref a1, .ref a2])) := by
      intro H3 a2 w2 s3 e3 f2 p np
      have s4 : ∀ o, Same H3 (upd H3 p o) := fun o => Same.new np
      have dp : ((max w1.depth w2.depth + 1 : Nat) : Int) ≤ d := by
        have := f1.2
        have := f2.2
        omega
      exact ⟨q _ _ (.and w1 w2) (s1.trans (s2.trans (s3.trans (s4 _)))) ⟨_, _, upd_same, WA.same (s2.trans (s3.trans (s4 _))) e1, WA.same (s4 _) e3⟩ ⟨⟨f1.1, f2.1⟩, dp⟩,
        q _ _ (.or w1 w2) (s1.trans (s2.trans (s3.trans (s4 _)))) ⟨_, _, upd_same, WA.same (s2.trans (s3.trans (s4 _))) e1, WA.same (s4 _) e3⟩ ⟨⟨f1.1, f2.1⟩, dp⟩⟩
    rcases (by omega : kd % 2 = 0 ∨ kd % 2 = 1) with e | e
    · refine ⟨_, _, _, _, rfl, rfl, .of e2, at_of (j := 0) e rfl, ?_⟩
      wtm_at "rd"
      refine ⟨c, 2 * k + 2, d - 1, n, m, rfl, by omega, by omega, fun H3 a2 w2 s3 e3 f2 => ?_⟩
      exact ⟨by wtm_at "sz", fun p np => (fin H3 a2 w2 s3 e3 f2 p np).1⟩
    · refine ⟨_, _, _, _, rfl, rfl, .of e2, at_of (j := 1) e rfl, ?_⟩
      wtm_at "rd"
      refine ⟨c, 2 * k + 2, d - 1, n, m, rfl, by omega, by omega, fun H3 a2 w2 s3 e3 f2 => ?_⟩
      exact ⟨by wtm_at "sz", fun p np => (fin H3 a2 w2 s3 e3 f2 p np).2⟩
theorem ok_law_word (T : Txt K mg Z) : ∀ N : Nat, FnOk P w K mg base CX0 (N + 1) Z.a_law_word Z.d_law_word ["cell", "k", "deep", "relays", "buttons"] (sp_law_word N)
  | 0 => fn_none (by rintro vs H Q E ⟨c, k, d, n, m, _, h1, h2, _⟩; omega)
  | N + 1 => st_law_word T (ok_law_word T N)

def sp_law_board (K : PySem.W.Frag) : Sp := fun vs H Q _ => ∃ (a : Addr) (ns : List Int) (st d : Int) (n m : Nat), vs = [.ref a, .int st, .int n, .int m, .int d] ∧ SqL K H a (ns.map V.int) ∧ 0 ≤ st ∧ 1 ≤ d ∧ d ≤ 8 ∧ n ≤ 10 ∧
  ∀ (H' : Hp) (p : Addr) (ws : List W) (us : List V), Same H H' → H p = none → H' p = some (.lst us) → WAs H' ws us → ws.length = n → Fits n m d ws → Q (.ref p) H'
theorem ok_law_board (T : Txt K mg Z) : FnOk P w K mg base CX0 10 Z.a_law_board Z.d_law_board ["script", "start", "relays", "buttons", "deep"] (sp_law_board K) := by
  have G_law_pick := ok_law_pick (P := P) (w := w) (base := base) T
  have G_law_word := ok_law_word (P := P) (w := w) (base := base) T 8
  refine T.F__law_board.ok sc_law_board (fun vs H Q E h => by obtain ⟨_, _, _, _, _, _, rfl, _⟩ := h; rfl) (fun cdv A outer s H vs Q E hr h => ?_)
  obtain ⟨a, ns, st, d, n, m, rfl, hS, h0, hd1, hd2, hn, q⟩ := h
  refine ⟨_, (pss_one (ps_ret (pe_lc (own := [("k", 5)]) (g := gName 5) (tt := tYes) rfl sc_law_board.nd (pi_range1 rfl T.n_range (pa_cons (pv 2) pa_nil)) (blkOk_by (own := [("k", 5)]) (N := ["script", "start", "relays", "buttons", "deep", "k"]) (sc := defScope s_law_board) (by decide +kernel)) (fun _ _ _ _ _ => pg_name (i := 5) sc_law_board.nd rfl (Or.inl rfl)) (fun _ _ _ _ _ => pts_nil) (fun _ _ _ _ _ => (pe_call G_law_word (hr.mono (by omega)) (by rfl) T.m__law_word T.F__law_word.kp T.b__law_word .nil pass0 (pa_cons (pe_call G_law_pick (hr.mono (by omega)) (by rfl) T.m__law_pick T.F__law_pick.kp T.b__law_pick .nil pass0 (pa_cons (pv 0) (pa_cons (pe_op op_add (pv 1) (pv 5)) pa_nil))) (pa_cons (pv 5) (pa_cons (pv 4) (pa_cons (pv 2) (pa_cons (pv 3) pa_nil)))))))))), ?_⟩
  refine ⟨_, rfl, n, rfl, by omega, by omega, fun D nD => lc_range (lo := 0) (n := n) (fun i H' => ∃ ws us, Same H H' ∧ H' D = some (.lst us) ∧ WAs H' ws us ∧ ws.length = i ∧ Fits n m d ws) ?_ ?_ ?_⟩
  · exact ⟨[], [], Same.new nD, upd_same, .nil, rfl, fun _ h => nomatch h⟩
  · rintro i H1 hi ⟨ws, us, s1, hD, hw, hl, hf⟩
    wtm_at "lc"
    wtm_at "rd"
    refine ⟨a, ns, st + (0 + (i : Int)), rfl, s1.seq hS, by omega, fun c => ?_⟩
    wtm_at "rd"
    refine ⟨c, 0 + (i : Int), d, n, m, rfl, hd1, hd2, fun H2 b w1 s2 e2 f2 => ?_⟩
    have hlen := hw.length
    have t2 : Tk H2 (upd H2 D (.lst (us ++ [.ref b]))) := Tk.lst (s2 _ _ hD)
    exact ⟨us, s2 _ _ hD, small11 (by omega), ws ++ [w1], us ++ [.ref b], Same.lst (s1.trans s2) nD, upd_same, paired_snoc (WAs.tk ((Same.tk s2).trans t2) hw) ⟨b, rfl, WA.tk t2 e2⟩, by simp [hl], hf.snoc f2⟩
  · rintro H1 ⟨ws, us, s1, hD, hw, hl, hf⟩
    exact q _ _ _ _ s1 nD hD hw hl hf

def sp_law_bits : Sp := fun vs H Q _ => ∃ (z : Int) (n : Nat), vs = [.int z, .int n] ∧ n ≤ 1000 ∧
  ∀ (H' : Hp) (p : Addr), Same H H' → H p = none → H' p = some (.tup ((bits z n).map V.bl)) → Q (.ref p) H'
theorem ok_law_bits (T : Txt K mg Z) : FnOk P w K mg base CX0 1 Z.a_law_bits Z.d_law_bits ["number", "size"] sp_law_bits := by
  refine T.F__law_bits.ok sc_law_bits (fun vs H Q E h => by obtain ⟨_, _, rfl, _⟩ := h; rfl) (fun cdv A outer s H vs Q E hr h => ?_)
  obtain ⟨z, n, rfl, hn, q⟩ := h
  refine ⟨_, (pss_one (ps_ret (pe_callTy call_tuple_of (by rfl) T.n_tuple (by decide +kernel) (pa_cons (pe_lc (own := [("k", 2)]) (g := gName 2) (tt := tYes) rfl sc_law_bits.nd (pi_range1 rfl T.n_range (pa_cons (pv 1) pa_nil)) (blkOk_by (own := [("k", 2)]) (N := ["number", "size", "k"]) (sc := defScope s_law_bits) (by decide +kernel)) (fun _ _ _ _ _ => pg_name (i := 2) sc_law_bits.nd rfl (Or.inl rfl)) (fun _ _ _ _ _ => pts_nil) (fun _ _ _ _ _ => (pe_cmpR op_eq (pe_op op_mod (pe_op op_shr (pv 0) (pv 2)) pe_int) pe_int (nomark _)))) pa_nil)))), ?_⟩
  refine ⟨_, rfl, n, rfl, by omega, by omega, fun D nD => lc_range (lo := 0) (n := n) (fun i H' => Same H H' ∧ H' D = some (.lst ((bits z i).map V.bl))) ?_ ?_ ?_⟩
  · exact ⟨Same.new nD, upd_same⟩
  · rintro i H1 hi ⟨s1, hD⟩
    wtm_at "lc"
    wtm_at "rd"
    refine ⟨_, hD, small11 (by rw [List.length_map, bits_len]; omega), Same.lst s1 nD, ?_⟩
    rw [upd_same, bits_succ, List.map_append, dec_vi, toNat0]
    rfl
  · rintro H1 ⟨s1, hD⟩
    refine ⟨D, _, rfl, .inl ⟨.of hD, ?_⟩⟩
    wtm_at "new p H2 s2 e2"
    exact q _ _ (s1.trans s2) (s1.free np) e2

def sp_law_wrapped : Sp := fun vs H Q _ => ∃ (a : Addr) (c : Int) (w : W), vs = [.ref a, .int c] ∧ WA H w a ∧
  ∀ (H' : Hp) (b : Addr) (w' : W), Same H H' → WA H' w' b → (∀ n m d, Fit n m d w → Fit n m (d + 3) w') → Q (.ref b) H'
theorem ok_law_wrapped (T : Txt K mg Z) : FnOk P w K mg base CX0 1 Z.a_law_wrapped Z.d_law_wrapped ["word", "mixed"] sp_law_wrapped := by
  refine T.F__law_wrapped.ok sc_law_wrapped (fun vs H Q E h => by obtain ⟨_, _, _, rfl, _⟩ := h; rfl) (fun cdv A outer s H vs Q E hr h => ?_)
  obtain ⟨a, c, w0, rfl, hw, q⟩ := h
  refine ⟨_, (pss_cons (ps_for PassesOwn.never rfl (pi_range1 rfl T.n_range (pa_cons (pe_op op_mul (pe_op op_mod (pv 1) pe_int) (pe_callTy call_int1 (by rfl) T.n_int (by decide +kernel) (pa_cons (pe_cmpR op_eq (pe_op op_mod (pe_op op_fdiv (pv 1) pe_int) pe_int) pe_int (nomark _)) pa_nil))) pa_nil)) (pg_name (i := 2) sc_law_wrapped.nd rfl (Or.inl rfl))
      (pss_one (ps_set (i := 0) sc_law_wrapped.nd rfl (Or.inl rfl) (pe_tup (pa_cons pe_str (pa_cons (pv 0) pa_nil))))))
      (pss_one (ps_ret (pv 0)))), ?_⟩
  wtm_at "rd"
  refine .inr ⟨_, rfl, ?_⟩
  wtm_at "rd"
  have hj : ∀ b : Bool, 0 ≤ c % 4 * (if b = true then 1 else 0) ∧ c % 4 * (if b = true then 1 else 0) ≤ 3 := fun b => by cases b <;> simp <;> omega
  have hj := hj (decide (V.int (c / 4 % 4) = V.int 1))
  generalize c % 4 * (if decide (V.int (c / 4 % 4) = V.int 1) = true then (1 : Int) else 0) = j at *
  refine ⟨by omega, by omega, for_range (lo := 0) (n := j.toNat) (fun i σ H' => ∃ b w1 k, σ = [some (.ref b), some (.int c), k] ∧ Same H H' ∧ WA H' w1 b ∧ (∀ n m d, Fit n m d w0 → Fit n m (d + i) w1)) ?_ ?_ ?_⟩
  · exact ⟨a, w0, none, rfl, Same.refl _, hw, fun n m d f => ⟨f.1, by have := f.2; omega⟩⟩
  · rintro i σ H1 hi ⟨b, w1, k, rfl, s1, hb, f⟩
    wtm_at "rd"
    wtm_at "szs"
    wtm_at "new p H2 s2 e2"
    refine ⟨p, .not w1, _, rfl, s1.trans s2, ⟨_, e2, WA.same s2 hb⟩, fun n m d g => ⟨(f n m d g).1, ?_⟩⟩
    have := (f n m d g).2
    show ((w1.depth + 1 : Nat) : Int) ≤ d + ((i + 1 : Nat) : Int)
    omega
  · rintro σ H1 ⟨b, w1, k, rfl, s1, hb, f⟩
    refine ⟨_, rfl, q _ _ w1 s1 hb fun n m d g => ⟨(f n m d g).1, ?_⟩⟩
    have := (f n m d g).2
    omega

/-- a room at p: board, pressed, stand; made behind H -/
structure RoomAt (H H' : Hp) (p b pr st : Addr) (n m : Nat) (ws : List W) (us : List V) (ps ss : List Bool) : Prop where
  same : Same H H'
  tup : H' p = some (.tup [.ref b, .ref pr, .ref st])
  nb : H b = none
  lst : H' b = some (.lst us)
  was : WAs H' ws us
  pr : H' pr = some (.tup (ps.map V.bl))
  st : H' st = some (.tup (ss.map V.bl))
  n1 : 1 ≤ n
  n6 : n ≤ 6
  m4 : m ≤ 4
  len : ws.length = n
  plen : ps.length = m
  slen : ss.length = n
  fit : Fits n m 8 ws
def sp_law_room (K : PySem.W.Frag) : Sp := fun vs H Q _ => ∃ (a : Addr) (ns : List Int), vs = [.ref a] ∧ SqL K H a (ns.map V.int) ∧
  ∀ (H' : Hp) (p b pr st : Addr) (n m : Nat) (ws : List W) (us : List V) (ps ss : List Bool), RoomAt H H' p b pr st n m ws us ps ss → Q (.ref p) H'
theorem ok_law_room (T : Txt K mg Z) : FnOk P w K mg base CX0 11 Z.a_law_room Z.d_law_room ["script"] (sp_law_room K) := by
  have G_law_cell_at := ok_law_cell_at (P := P) (w := w) (base := base) T
  have G_law_board := ok_law_board (P := P) (w := w) (base := base) T
  have G_law_mix := ok_law_mix (P := P) (w := w) (base := base) T
  have G_law_wrapped := ok_law_wrapped (P := P) (w := w) (base := base) T
  have G_law_bits := ok_law_bits (P := P) (w := w) (base := base) T
  refine T.F__law_room.ok sc_law_room (fun vs H Q E h => by obtain ⟨_, _, rfl, _⟩ := h; rfl) (fun cdv A outer s H vs Q E hr h => ?_)
  obtain ⟨a, ns, rfl, hS, q⟩ := h
  refine ⟨_, (pss_cons (ps_set (i := 1) sc_law_room.nd rfl (Or.inr rfl) (pe_call G_law_cell_at (hr.mono (by omega)) (by rfl) T.m__law_cell_at T.F__law_cell_at.kp T.b__law_cell_at .nil pass0 (pa_cons (pv 0) (pa_cons pe_int pa_nil))))
      (pss_cons (ps_set (i := 2) sc_law_room.nd rfl (Or.inl rfl) (pe_op op_add pe_int (pe_op op_mod (pv 1) pe_int)))
      (C8.pss_cut (ps_if (pt_cmpR op_eq (pe_op op_mod (pe_op op_fdiv (pv 1) pe_int) pe_int) pe_int (nomark _)) (pss_one (ps_set (i := 2) sc_law_room.nd rfl (Or.inl rfl) pe_int)) pss_nil)
      (pss_cons (ps_set (i := 3) sc_law_room.nd rfl (Or.inl rfl) (pe_op op_mod (pe_op op_fdiv (pv 1) pe_int) pe_int))
      (pss_cons (ps_set (i := 4) sc_law_room.nd rfl (Or.inr rfl) (pe_call G_law_board (hr.mono (by omega)) (by rfl) T.m__law_board T.F__law_board.kp T.b__law_board .nil pass0 (pa_cons (pv 0) (pa_cons pe_int (pa_cons (pv 2) (pa_cons (pv 3) (pa_cons (pe_op op_add pe_int (pe_op op_mod (pe_op op_fdiv (pv 1) pe_int) pe_int)) pa_nil)))))))
      (pss_cons (ps_set (i := 4) sc_law_room.nd rfl (Or.inr rfl) (pe_lc (own := [("k", 6)]) (g := gName 6) (tt := tYes) rfl sc_law_room.nd (pi_range1 rfl T.n_range (pa_cons (pv 2) pa_nil)) (blkOk_by (own := [("k", 6)]) (N := ["script", "cell", "relays", "buttons", "board", "pressed", "k"]) (sc := defScope s_law_room) (by decide +kernel)) (fun _ _ _ _ _ => pg_name (i := 6) sc_law_room.nd rfl (Or.inl rfl)) (fun _ _ _ _ _ => pts_nil) (fun _ _ _ _ _ => (pe_call G_law_wrapped (hr.mono (by omega)) (by rfl) T.m__law_wrapped T.F__law_wrapped.kp T.b__law_wrapped .nil pass0 (pa_cons (pe_ix (r := rIxL K) ix_list (pv 4) (pv 6) (fun _ _ => rfl)) (pa_cons (pe_op op_fdiv (pe_call G_law_mix (hr.mono (by omega)) (by rfl) T.m__law_mix T.F__law_mix.kp T.b__law_mix .nil pass0 (pa_cons (pv 1) (pa_cons (pe_op op_add pe_int (pv 6)) pa_nil))) pe_int) pa_nil))))))
      (pss_cons (ps_set (i := 5) sc_law_room.nd rfl (Or.inl rfl) (pe_call G_law_bits (hr.mono (by omega)) (by rfl) T.m__law_bits T.F__law_bits.kp T.b__law_bits .nil pass0 (pa_cons (pe_call G_law_cell_at (hr.mono (by omega)) (by rfl) T.m__law_cell_at T.F__law_cell_at.kp T.b__law_cell_at .nil pass0 (pa_cons (pv 0) (pa_cons pe_int pa_nil))) (pa_cons (pv 3) pa_nil))))
      (pss_one (ps_ret (pe_tup (pa_cons (pv 4) (pa_cons (pv 5) (pa_cons (pe_call G_law_bits (hr.mono (by omega)) (by rfl) T.m__law_bits T.F__law_bits.kp T.b__law_bits .nil pass0 (pa_cons (pe_call G_law_cell_at (hr.mono (by omega)) (by rfl) T.m__law_cell_at T.F__law_cell_at.kp T.b__law_cell_at .nil pass0 (pa_cons (pv 0) (pa_cons pe_int pa_nil))) (pa_cons (pv 2) pa_nil))) pa_nil))))))))))))), ?_⟩
  wtm_at "rd"
  refine ⟨a, ns, 0, rfl, hS, by omega, fun c => ?_⟩
  wtm_at "rd"
  have hm : ∃ m : Nat, c / 45 % 5 = (m : Int) ∧ m ≤ 4 := ⟨(c / 45 % 5).toNat, by omega, by omega⟩
  obtain ⟨m, em, hm4⟩ := hm
  refine ⟨fun σ' H' => ∃ n : Nat, 1 ≤ n ∧ n ≤ 6 ∧ H' = H ∧ σ' = [some (.ref a), some (.int c), some (.int n), none, none, none, none], ?_, ?_⟩
  · wtm_at "rd"
    refine iB (fun c1 => ?_) (fun c1 => ?_)
    · exact ⟨6, by omega, by omega, rfl, rfl⟩
    · refine ⟨(1 + c % 5).toNat, by omega, by omega, rfl, ?_⟩
      show [some (.ref a), some (.int c), some (V.int (1 + c % 5)), none, none, none, none] = _
      rw [show (((1 + c % 5).toNat : Nat) : Int) = 1 + c % 5 by omega]
  rintro σ' H' ⟨n, hn1, hn6, rfl, rfl⟩
  wtm_at "rd"
  rw [em]
  refine ⟨a, ns, 4, 2 + c / 225 % 4, n, m, rfl, hS, by omega, by omega, by omega, by omega, fun H1 p1 ws us s1 n1 e1 w1 l1 f1 => ?_⟩
  refine ⟨_, rfl, n, rfl, by omega, by omega, fun D nD => lc_range (lo := 0) (n := n) (fun i H2 => ∃ ws2 us2, Same H1 H2 ∧ H2 D = some (.lst us2) ∧ WAs H2 ws2 us2 ∧ ws2.length = i ∧ Fits n m 8 ws2) ?_ ?_ ?_⟩
  · exact ⟨[], [], Same.new nD, upd_same, .nil, rfl, fun _ h => nomatch h⟩
  · rintro i H2 hi ⟨ws2, us2, s2, hD, hw, hl, hf⟩
    wtm_at "lc"
    wtm_at "rd"
    have hiw : i < ws.length := by omega
    obtain ⟨v, hv, b, rfl, hb⟩ := paired_getl w1 (List.getElem?_eq_getElem hiw)
    refine ⟨_, _, _, _, rfl, rfl, .of (s2 _ _ e1), at_of (j := i) (by omega) hv, ?_⟩
    wtm_at "rd"
    refine ⟨c, _, rfl, fun x hx0 hx1 => ?_⟩
    wtm_at "rd"
    refine ⟨b, _, ws[i], rfl, WA.same s2 hb, fun H3 b' w' s3 e3 g3 => ?_⟩
    have hlen := hw.length
    have t3 : Tk H3 (upd H3 D (.lst (us2 ++ [.ref b']))) := Tk.lst (s3 _ _ hD)
    have f8 : Fit n m 8 w' := by
      have f := g3 n m _ (f1 ws[i] (List.getElem_mem hiw))
      exact ⟨f.1, by have := f.2; omega⟩
    exact ⟨us2, s3 _ _ hD, small11 (by omega), ws2 ++ [w'], us2 ++ [.ref b'], Same.lst (s2.trans s3) nD, upd_same, paired_snoc (WAs.tk ((Same.tk s3).trans t3) hw) ⟨b', rfl, WA.tk t3 e3⟩, by simp [hl], hf.snoc f8⟩
  rintro H2 ⟨ws2, us2, s2, hD, hw, hl, hf⟩
  wtm_at "rd"
  refine ⟨a, ns, 1, rfl, (s1.trans s2).seq hS, by omega, fun c1 => ?_⟩
  wtm_at "rd"
  refine ⟨c1, m, rfl, by omega, fun H3 p3 s3 n3 e3 => ?_⟩
  wtm_at "rd"
  refine ⟨a, ns, 2, rfl, (s1.trans (s2.trans s3)).seq hS, by omega, fun c2 => ?_⟩
  wtm_at "rd"
  refine ⟨c2, n, rfl, by omega, fun H4 p4 s4 n4 e4 => ?_⟩
  wtm_at "szs"
  wtm_at "new p H5 s5 e5"
  have s45 := s4.trans s5
  exact q _ _ _ _ _ n m ws2 us2 _ _ ⟨s1.trans (s2.trans (s3.trans s45)), e5, s1.free nD, (s3.trans s45) _ _ hD, WAs.same (s3.trans s45) hw, s45 _ _ e3, s5 _ _ e4, hn1, hn6, hm4, hl, bits_len _ _, bits_len _ _, hf⟩

def sp_worth (N : Nat) : Sp := fun vs H Q _ => ∃ (a st pr : Addr) (w : W) (ss ps : List Bool), vs = [.ref a, .ref st, .ref pr] ∧ WA H w a ∧ H st = some (.tup (ss.map V.bl)) ∧ H pr = some (.tup (ps.map V.bl)) ∧
  w.wired ss.length ps.length ∧ w.depth ≤ N ∧ Q (.bl (w.eval ss ps)) H
theorem st_worth (T : Txt K mg Z) {N : Nat} (Gworth : FnOk P w K mg base CX0 N Z.aworth Z.dworth ["word", "stand", "pressed"] (sp_worth N)) : FnOk P w K mg base CX0 (N + 1) Z.aworth Z.dworth ["word", "stand", "pressed"] (sp_worth (N + 1)) := by
  refine T.F_worth.ok scworth (fun vs H Q E h => by obtain ⟨_, _, _, _, _, _, rfl, _⟩ := h; rfl) (fun cdv A outer s H vs Q E hr h => ?_)
  obtain ⟨a, st, pr, w, ss, ps, rfl, hw, hst, hpr, hwd, hd, q⟩ := h
  refine ⟨_, (pss_cons (ps_if (pt_cmpR op_eq (pe_ix (r := rIxT K) ix_tup (pv 0) pe_int (fun _ _ => rfl)) pe_str (nomark _)) (pss_one (ps_ret (pe_ix (r := rIxT K) ix_tup (pv 1) (pe_ix (r := rIxT K) ix_tup (pv 0) pe_int (fun _ _ => rfl)) (fun _ _ => rfl)))) pss_nil)
      (pss_cons (ps_if (pt_cmpR op_eq (pe_ix (r := rIxT K) ix_tup (pv 0) pe_int (fun _ _ => rfl)) pe_str (nomark _)) (pss_one (ps_ret (pe_ix (r := rIxT K) ix_tup (pv 2) (pe_ix (r := rIxT K) ix_tup (pv 0) pe_int (fun _ _ => rfl)) (fun _ _ => rfl)))) pss_nil)
      (pss_cons (ps_if (pt_cmpR op_eq (pe_ix (r := rIxT K) ix_tup (pv 0) pe_int (fun _ _ => rfl)) pe_str (nomark _)) (pss_one (ps_ret (pe_not (pe_call Gworth (hr.mono (by omega)) (by rfl) T.m_worth T.F_worth.kp T.b_worth .nil pass0 (pa_cons (pe_ix (r := rIxT K) ix_tup (pv 0) pe_int (fun _ _ => rfl)) (pa_cons (pv 1) (pa_cons (pv 2) pa_nil))))))) pss_nil)
      (pss_cons (ps_if (pt_cmpR op_eq (pe_ix (r := rIxT K) ix_tup (pv 0) pe_int (fun _ _ => rfl)) pe_str (nomark _)) (pss_one (ps_ret (pe_and (pe_call Gworth (hr.mono (by omega)) (by rfl) T.m_worth T.F_worth.kp T.b_worth .nil pass0 (pa_cons (pe_ix (r := rIxT K) ix_tup (pv 0) pe_int (fun _ _ => rfl)) (pa_cons (pv 1) (pa_cons (pv 2) pa_nil)))) (pe_one (pe_call Gworth (hr.mono (by omega)) (by rfl) T.m_worth T.F_worth.kp T.b_worth .nil pass0 (pa_cons (pe_ix (r := rIxT K) ix_tup (pv 0) pe_int (fun _ _ => rfl)) (pa_cons (pv 1) (pa_cons (pv 2) pa_nil)))))))) pss_nil)
      (pss_cons (ps_if (pt_cmpR op_eq (pe_ix (r := rIxT K) ix_tup (pv 0) pe_int (fun _ _ => rfl)) pe_str (nomark _)) (pss_one (ps_ret (pe_or (pe_call Gworth (hr.mono (by omega)) (by rfl) T.m_worth T.F_worth.kp T.b_worth .nil pass0 (pa_cons (pe_ix (r := rIxT K) ix_tup (pv 0) pe_int (fun _ _ => rfl)) (pa_cons (pv 1) (pa_cons (pv 2) pa_nil)))) (pe_one (pe_call Gworth (hr.mono (by omega)) (by rfl) T.m_worth T.F_worth.kp T.b_worth .nil pass0 (pa_cons (pe_ix (r := rIxT K) ix_tup (pv 0) pe_int (fun _ _ => rfl)) (pa_cons (pv 1) (pa_cons (pv 2) pa_nil)))))))) pss_nil)
      (pss_one (ps_ret (pe_cmpR op_eq (pe_ix (r := rIxT K) ix_tup (pv 0) pe_int (fun _ _ => rfl)) pe_str (nomark _))))))))), ?_⟩
  cases w with
  | on => 
    have e0 : H a = some (.tup [.str "on"]) := hw
    refine tag_test rfl e0 ?_; wtm_at "dF"
    refine tag_test rfl e0 ?_; wtm_at "dF"
    refine tag_test rfl e0 ?_; wtm_at "dF"
    refine tag_test rfl e0 ?_; wtm_at "dF"
    refine tag_test rfl e0 ?_; wtm_at "dF"
    refine tag_val rfl e0 ?_
    rw [show decide (V.str "on" = V.str "on") = true by decide +kernel]
    exact q
  | off => 
    have e0 : H a = some (.tup [.str "off"]) := hw
    refine tag_test rfl e0 ?_; wtm_at "dF"
    refine tag_test rfl e0 ?_; wtm_at "dF"
    refine tag_test rfl e0 ?_; wtm_at "dF"
    refine tag_test rfl e0 ?_; wtm_at "dF"
    refine tag_test rfl e0 ?_; wtm_at "dF"
    refine tag_val rfl e0 ?_
    rw [show decide (V.str "off" = V.str "on") = false by decide +kernel]
    exact q
  | relay k =>
    have e0 : H a = some (.tup [.str "relay", .int k]) := hw
    refine tag_test rfl e0 ?_; wtm_at "dT"
    exact ⟨_, rfl, _, rfl, a, _, 1, _, rfl, rfl, .of e0, atI_nat (j := 1) rfl, st, _, k, _, rfl, rfl, .of hst, at_bl hwd.1 hwd.2, q⟩
  | button k =>
    have e0 : H a = some (.tup [.str "button", .int k]) := hw
    refine tag_test rfl e0 ?_; wtm_at "dF"
    refine tag_test rfl e0 ?_; wtm_at "dT"
    exact ⟨_, rfl, _, rfl, a, _, 1, _, rfl, rfl, .of e0, atI_nat (j := 1) rfl, pr, _, k, _, rfl, rfl, .of hpr, at_bl hwd.1 hwd.2, q⟩
  | not x =>
    obtain ⟨b, e0, hx⟩ := hw
    have hd' : x.depth + 1 ≤ N + 1 := hd
    refine tag_test rfl e0 ?_; wtm_at "dF"
    refine tag_test rfl e0 ?_; wtm_at "dF"
    refine tag_test rfl e0 ?_; wtm_at "dT"
    exact ⟨_, rfl, a, _, 1, _, rfl, rfl, .of e0, atI_nat (j := 1) rfl, _, rfl, _, rfl, b, st, pr, x, ss, ps, rfl, hx, hst, hpr, hwd, by omega, _, rfl, q⟩
  | and x y =>
    obtain ⟨b, c, e0, hx, hy⟩ := hw
    have hd' : max x.depth y.depth + 1 ≤ N + 1 := hd
    refine tag_test rfl e0 ?_; wtm_at "dF"
    refine tag_test rfl e0 ?_; wtm_at "dF"
    refine tag_test rfl e0 ?_; wtm_at "dF"
    refine tag_test rfl e0 ?_; wtm_at "dT"
    refine ⟨_, rfl, a, _, 1, _, rfl, rfl, .of e0, atI_nat (j := 1) rfl, _, rfl, _, rfl, b, st, pr, x, ss, ps, rfl, hx, hst, hpr, hwd.1, by omega, _, rfl, ?_⟩
    have q' : Q (.bl (x.eval ss ps && y.eval ss ps)) H := q
    refine iB (fun z => ?_) (fun z => ?_)
    · rw [z] at q'
      exact ⟨_, rfl, a, _, 2, _, rfl, rfl, .of e0, atI_nat (j := 2) rfl, _, rfl, _, rfl, c, st, pr, y, ss, ps, rfl, hy, hst, hpr, hwd.2, by omega, q'⟩
    · rw [z] at q'
      exact q'
  | or x y =>
    obtain ⟨b, c, e0, hx, hy⟩ := hw
    have hd' : max x.depth y.depth + 1 ≤ N + 1 := hd
    refine tag_test rfl e0 ?_; wtm_at "dF"
    refine tag_test rfl e0 ?_; wtm_at "dF"
    refine tag_test rfl e0 ?_; wtm_at "dF"
    refine tag_test rfl e0 ?_; wtm_at "dF"
    refine tag_test rfl e0 ?_; wtm_at "dT"
    refine ⟨_, rfl, a, _, 1, _, rfl, rfl, .of e0, atI_nat (j := 1) rfl, _, rfl, _, rfl, b, st, pr, x, ss, ps, rfl, hx, hst, hpr, hwd.1, by omega, _, rfl, ?_⟩
    have q' : Q (.bl (x.eval ss ps || y.eval ss ps)) H := q
    refine iB (fun z => ?_) (fun z => ?_)
    · rw [z] at q'
      exact q'
    · rw [z] at q'
      exact ⟨_, rfl, a, _, 2, _, rfl, rfl, .of e0, atI_nat (j := 2) rfl, _, rfl, _, rfl, c, st, pr, y, ss, ps, rfl, hy, hst, hpr, hwd.2, by omega, q'⟩
theorem ok_worth (T : Txt K mg Z) : ∀ N : Nat, FnOk P w K mg base CX0 N Z.aworth Z.dworth ["word", "stand", "pressed"] (sp_worth N)
  | 0 => fn_none (by rintro vs H Q E ⟨_, _, _, w, _, _, _, _, _, _, _, h2, _⟩; have := w.depth_pos; omega)
  | N + 1 => st_worth T (ok_worth T N)

def sp_law_worth (N : Nat) : Sp := fun vs H Q _ => ∃ (a st pr : Addr) (w : W) (ss ps : List Bool), vs = [.ref a, .ref st, .ref pr] ∧ WA H w a ∧ H st = some (.tup (ss.map V.bl)) ∧ H pr = some (.tup (ps.map V.bl)) ∧
  w.wired ss.length ps.length ∧ w.depth ≤ N ∧ ∀ H', Same H H' → Q (.bl (w.eval ss ps)) H'
theorem st_law_worth (T : Txt K mg Z) {N : Nat} (G_law_worth : FnOk P w K mg base CX0 N Z.a_law_worth Z.d_law_worth ["word", "stand", "pressed"] (sp_law_worth N)) : FnOk P w K mg base CX0 (N + 1) Z.a_law_worth Z.d_law_worth ["word", "stand", "pressed"] (sp_law_worth (N + 1)) := by
  refine T.F__law_worth.ok sc_law_worth (fun vs H Q E h => by obtain ⟨_, _, _, _, _, _, rfl, _⟩ := h; rfl) (fun cdv A outer s H vs Q E hr h => ?_)
  obtain ⟨a, st, pr, w, ss, ps, rfl, hw, hst, hpr, hwd, hd, q⟩ := h
  refine ⟨_, (pss_cons (ps_if (PW.pt (pw_or (pt_cmpR op_eq (pe_ix (r := rIxT K) ix_tup (pv 0) pe_int (fun _ _ => rfl)) pe_str (nomark _)) (pw_or1 (pt_cmpR op_eq (pe_ix (r := rIxT K) ix_tup (pv 0) pe_int (fun _ _ => rfl)) pe_str (nomark _))))) (pss_one (ps_ret (pe_cmpR op_eq (pe_ix (r := rIxT K) ix_tup (pv 0) pe_int (fun _ _ => rfl)) pe_str (nomark _)))) pss_nil)
      (pss_cons (ps_if (pt_cmpR op_eq (pe_ix (r := rIxT K) ix_tup (pv 0) pe_int (fun _ _ => rfl)) pe_str (nomark _)) (pss_one (ps_ret (pe_ix (r := rIxT K) ix_tup (pv 1) (pe_ix (r := rIxT K) ix_tup (pv 0) pe_int (fun _ _ => rfl)) (fun _ _ => rfl)))) pss_nil)
      (pss_cons (ps_if (pt_cmpR op_eq (pe_ix (r := rIxT K) ix_tup (pv 0) pe_int (fun _ _ => rfl)) pe_str (nomark _)) (pss_one (ps_ret (pe_ix (r := rIxT K) ix_tup (pv 2) (pe_ix (r := rIxT K) ix_tup (pv 0) pe_int (fun _ _ => rfl)) (fun _ _ => rfl)))) pss_nil)
      (pss_cons (ps_setLc (i := 3) (own := [("part", 4)]) (g := gName 4) (tt := tYes) rfl sc_law_worth.nd rfl rfl (sw_true rfl rfl rfl (by decide +kernel)) (pi_tup (pe_slice (r := rSlT K) sl_tup (pv 0) (po_some pe_int) po_none)) (blkOk_by (own := [("part", 4)]) (N := ["word", "stand", "pressed", "worths", "part"]) (sc := defScope s_law_worth) (by decide +kernel)) (fun _ _ _ _ _ => pg_name (i := 4) sc_law_worth.nd rfl (Or.inl rfl)) (fun _ _ _ _ _ => pts_nil) (fun _ _ _ _ _ => (pe_call G_law_worth (hr.mono (by omega)) (by rfl) T.m__law_worth T.F__law_worth.kp T.b__law_worth .nil pass0 (pa_cons (pv 4) (pa_cons (pv 1) (pa_cons (pv 2) pa_nil))))))
      (pss_cons (ps_if (pt_cmpR op_eq (pe_ix (r := rIxT K) ix_tup (pv 0) pe_int (fun _ _ => rfl)) pe_str (nomark _)) (pss_one (ps_ret (pe_not (pe_ix (r := rIxL K) ix_list (pv 3) pe_int (fun _ _ => rfl))))) pss_nil)
      (pss_cons (ps_if (pt_cmpR op_eq (pe_ix (r := rIxT K) ix_tup (pv 0) pe_int (fun _ _ => rfl)) pe_str (nomark _)) (pss_one (ps_ret (pe_cmpR (r := rIn K true) op_notIn_seq pe_bl (pv 3) (by rfl)))) pss_nil)
      (pss_one (ps_ret (pe_cmpR (r := rIn K false) op_in_seq pe_bl (pv 3) (by rfl)))))))))), ?_⟩
  have leaf : w = .on ∨ w = .off ∨ (∃ k, w = .relay k) ∨ (∃ k, w = .button k) ∨ ((∀ k, w ≠ .relay k) ∧ (∀ k, w ≠ .button k) ∧ ∀ s : Str, s = "on" ∨ s = "off" ∨ s = "relay" ∨ s = "button" → decide (V.str w.tag = V.str s) = false) := by
    cases w with
    | on => exact .inl rfl
    | off => exact .inr (.inl rfl)
    | relay k => exact .inr (.inr (.inl ⟨k, rfl⟩))
    | button k => exact .inr (.inr (.inr (.inl ⟨k, rfl⟩)))
    | not x => exact .inr (.inr (.inr (.inr ⟨(fun _ z => W.noConfusion z), (fun _ z => W.noConfusion z), by rintro s (rfl | rfl | rfl | rfl) <;> exact decide_eq_false (by dsimp only [W.tag]; decide +kernel)⟩)))
    | and x y => exact .inr (.inr (.inr (.inr ⟨(fun _ z => W.noConfusion z), (fun _ z => W.noConfusion z), by rintro s (rfl | rfl | rfl | rfl) <;> exact decide_eq_false (by dsimp only [W.tag]; decide +kernel)⟩)))
    | or x y => exact .inr (.inr (.inr (.inr ⟨(fun _ z => W.noConfusion z), (fun _ z => W.noConfusion z), by rintro s (rfl | rfl | rfl | rfl) <;> exact decide_eq_false (by dsimp only [W.tag]; decide +kernel)⟩)))
  rcases leaf with rfl | rfl | ⟨k, rfl⟩ | ⟨k, rfl⟩ | ⟨n1, n2, nd⟩
  · have e0 : H a = some (.tup [.str "on"]) := hw
    refine tag_test rfl e0 ?_; wtm_at "dT"
    refine iT rfl ?_
    refine tag_val rfl e0 ?_
    rw [show decide (V.str "on" = V.str "on") = true by decide +kernel]
    exact q _ (Same.refl _)
  · have e0 : H a = some (.tup [.str "off"]) := hw
    refine tag_test rfl e0 ?_; wtm_at "dF"
    refine tag_test rfl e0 ?_; wtm_at "dT"
    refine tag_val rfl e0 ?_
    rw [show decide (V.str "off" = V.str "on") = false by decide +kernel]
    exact q _ (Same.refl _)
  · have e0 : H a = some (.tup [.str "relay", .int k]) := hw
    refine tag_test rfl e0 ?_; wtm_at "dF"
    refine tag_test rfl e0 ?_; wtm_at "dF"
    refine tag_test rfl e0 ?_; wtm_at "dT"
    exact ⟨_, rfl, _, rfl, a, _, 1, _, rfl, rfl, .of e0, atI_nat (j := 1) rfl, st, _, k, _, rfl, rfl, .of hst, at_bl hwd.1 hwd.2, q _ (Same.refl _)⟩
  · have e0 : H a = some (.tup [.str "button", .int k]) := hw
    refine tag_test rfl e0 ?_; wtm_at "dF"
    refine tag_test rfl e0 ?_; wtm_at "dF"
    refine tag_test rfl e0 ?_; wtm_at "dF"
    refine tag_test rfl e0 ?_; wtm_at "dT"
    exact ⟨_, rfl, _, rfl, a, _, 1, _, rfl, rfl, .of e0, atI_nat (j := 1) rfl, pr, _, k, _, rfl, rfl, .of hpr, at_bl hwd.1 hwd.2, q _ (Same.refl _)⟩
  obtain ⟨us, e0, hus⟩ := WA.parts hw n1 n2
  refine tag_test rfl e0 ?_; refine iF (nd _ (.inl rfl)) ?_
  refine tag_test rfl e0 ?_; refine iF (nd _ (.inr (.inl rfl))) ?_
  refine tag_test rfl e0 ?_; refine iF (nd _ (.inr (.inr (.inl rfl)))) ?_
  refine tag_test rfl e0 ?_; refine iF (nd _ (.inr (.inr (.inr rfl)))) ?_
  refine ⟨_, rfl, 1, rfl, a, _, rfl, .of e0, ?_⟩
  refine ⟨fun z => ?_, ?_⟩
  · have z1 := z.1
    rw [show HT.sIx (V.str w.tag :: us).length 0 (some 1) = min 1 (V.str w.tag :: us).length from HT.sIx_nat _ 0 1, List.length_cons] at z1
    omega
  rw [cut1]
  wtm_at "new p H1 s1 e1"
  have u1 := WAs.same s1 hus
  have hlen := hus.length
  refine ⟨p, rfl, ⟨_, .of e1⟩, fun D nD => lc_tup (K := K) (a := p) (xs := us) (fun i H' => Same H1 H' ∧ H' D = some (.lst ((w.parts.take i).map fun x => .bl (x.eval ss ps)))) ?_ ?_ ?_ ?_⟩
  · exact ⟨Same.new nD, upd_same⟩
  · rintro i H2 _ ⟨s2, _⟩
    exact .of (s2 _ _ e1)
  · rintro i v H2 hi ⟨s2, hD⟩
    obtain ⟨x, hx, b, rfl, hb⟩ := paired_get u1 hi
    have hp := parts_ok (List.mem_of_getElem? hx) hwd hd
    wtm_at "lc"
    refine ⟨_, rfl, _, rfl, _, rfl, b, st, pr, x, ss, ps, rfl, WA.same s2 hb, s2 _ _ (s1 _ _ hst), s2 _ _ (s1 _ _ hpr), hp.1, hp.2, fun H3 s3 => ?_⟩
    refine ⟨_, s3 _ _ hD, ?_, Same.lst (s2.trans s3) nD, ?_⟩
    · rw [List.length_map, List.length_take]
      have h2 : w.parts.length ≤ 2 := by cases w <;> simp [W.parts]
      exact small11 (by omega)
    · rw [upd_same, List.take_add_one, hx, List.map_append]
      rfl
  rintro H2 ⟨s2, hD⟩
  rw [← hlen, List.take_length] at hD
  have s12 := s1.trans s2
  have e2 := s12 _ _ e0
  cases w with
  | on => exact absurd (nd "on" (.inl rfl)) (by decide +kernel)
  | off => exact absurd (nd "off" (.inr (.inl rfl))) (by decide +kernel)
  | relay k => exact absurd rfl (n1 k)
  | button k => exact absurd rfl (n2 k)
  | not x =>
    refine tag_test rfl e2 ?_; wtm_at "dT"
    exact ⟨_, rfl, _, _, _, _, rfl, rfl, .of hD, atI_nat (j := 0) rfl, _, rfl, q _ s12⟩
  | and x y =>
    refine tag_test rfl e2 ?_; wtm_at "dF"
    refine tag_test rfl e2 ?_; wtm_at "dT"
    refine ⟨_, rfl, D, [x.eval ss ps, y.eval ss ps].map V.bl, rfl, .inl (.of hD), rfl, flat_bl _, ?_⟩
    have := q _ s12
    rw [inV_bl]
    revert this
    show Q (.bl (x.eval ss ps && y.eval ss ps)) H2 → Q (.bl (!([x.eval ss ps, y.eval ss ps].any fun x => x == false))) H2
    cases x.eval ss ps <;> cases y.eval ss ps <;> exact id
  | or x y =>
    refine tag_test rfl e2 ?_; wtm_at "dF"
    refine tag_test rfl e2 ?_; wtm_at "dF"
    refine ⟨_, rfl, D, [x.eval ss ps, y.eval ss ps].map V.bl, rfl, .inl (.of hD), rfl, flat_bl _, ?_⟩
    have := q _ s12
    rw [inV_bl]
    revert this
    show Q (.bl (x.eval ss ps || y.eval ss ps)) H2 → Q (.bl ([x.eval ss ps, y.eval ss ps].any fun x => x == true)) H2
    cases x.eval ss ps <;> cases y.eval ss ps <;> exact id
theorem ok_law_worth (T : Txt K mg Z) : ∀ N : Nat, FnOk P w K mg base CX0 N Z.a_law_worth Z.d_law_worth ["word", "stand", "pressed"] (sp_law_worth N)
  | 0 => fn_none (by rintro vs H Q E ⟨_, _, _, w, _, _, _, _, _, _, _, h2, _⟩; have := w.depth_pos; omega)
  | N + 1 => st_law_worth T (ok_law_worth T N)

def sp_switches : Sp := fun vs H Q _ => ∃ (n : Nat), vs = [.int n] ∧ n ≤ 6 ∧
  ∀ (H' : Hp) (p : Addr) (us : List V), Same H H' → H p = none → H' p = some (.lst us) → Tups H' (allBits n (2 ^ n)) us → Q (.ref p) H'
theorem ok_switches (T : Txt K mg Z) : FnOk P w K mg base CX0 1 Z.aswitches Z.dswitches ["many"] sp_switches := by
  refine T.F_switches.ok scswitches (fun vs H Q E h => by obtain ⟨_, rfl, _⟩ := h; rfl) (fun cdv A outer s H vs Q E hr h => ?_)
  obtain ⟨n, rfl, hn, q⟩ := h
  have h64 := pow_le64 hn
  refine ⟨_, (pss_cons (ps_set (i := 1) scswitches.nd rfl (Or.inl rfl) (pe_lst pa_nil))
      (pss_cons (ps_for PassesOwn.never rfl (pi_range1 rfl T.n_range (pa_cons (pe_op op_shl pe_int (pv 0)) pa_nil)) (pg_name (i := 2) scswitches.nd rfl (Or.inr rfl))
      (pss_one (ps_expr (pe_bm PySem.F.plainAttrs_list PySem.F.slot_list_append PySem.F.type_list_append mt_append (pv 1) (pa_cons (pe_callTy call_tuple_of (by rfl) T.n_tuple (by decide +kernel) (pa_cons (pe_lc (own := [("k", 3)]) (g := gName 3) (tt := tYes) rfl scswitches.nd (pi_range1 rfl T.n_range (pa_cons (pv 0) pa_nil)) (blkOk_by (own := [("k", 3)]) (N := ["many", "found", "number", "k"]) (sc := defScope sswitches) (by decide +kernel)) (fun _ _ _ _ _ => pg_name (i := 3) scswitches.nd rfl (Or.inl rfl)) (fun _ _ _ _ _ => pts_nil) (fun _ _ _ _ _ => (pe_cmpR op_eq (pe_op op_mod (pe_op op_shr (pv 2) (pv 3)) pe_int) pe_int (nomark _)))) pa_nil)) pa_nil)))))
      (pss_one (ps_ret (pv 1))))), ?_⟩
  wtm_at "szs"
  wtm_at "new F H1 s1 e1"
  refine ⟨_, rfl, _, _, rfl, rfl, ⟨by omega, by omega, by decide⟩, _, rfl, ?_⟩
  have e64 : (1 : Int) * 2 ^ ((n : Int).toNat) = ((2 ^ n : Nat) : Int) := by rw [Int.one_mul, Int.toNat_natCast, pow_cast]
  refine ⟨by rw [e64]; exact Int.le_trans (by decide) (Int.natCast_nonneg _), by rw [e64]; exact Int.lt_of_le_of_lt (Int.ofNat_le.mpr h64) (by decide), ?_⟩
  rw [shl_one]
  refine for_range (lo := 0) (n := 2 ^ n) (fun i σ H' => ∃ us x, σ = [some (.int n), some (.ref F), x, none] ∧ Same H H' ∧ H' F = some (.lst us) ∧ Tups H' (allBits n i) us) ?_ ?_ ?_
  · exact ⟨[], none, rfl, s1, e1, .nil⟩
  · rintro i σ H2 hi ⟨us, x, rfl, s2, hF, hT⟩
    have hlen := hT.length
    rw [allBits_len] at hlen
    refine ⟨_, rfl, .inl ⟨rfl, _, .of hF⟩, _, rfl, n, rfl, by omega, by omega, fun D nD => lc_range (lo := 0) (n := n) (fun j H' => Same H2 H' ∧ H' D = some (.lst ((bits (i : Int) j).map V.bl))) ?_ ?_ ?_⟩
    · exact ⟨Same.new nD, upd_same⟩
    · rintro j H3 hj ⟨s3, hD⟩
      wtm_at "lc"
      wtm_at "rd"
      refine ⟨_, hD, small11 (by rw [List.length_map, bits_len]; omega), Same.lst s3 nD, ?_⟩
      rw [upd_same, bits_succ, List.map_append, dec_vi, toNat0, Int.zero_add]
      rfl
    · rintro H3 ⟨s3, hD⟩
      refine ⟨D, _, rfl, .inl ⟨.of hD, ?_⟩⟩
      wtm_at "new p H4 s4 e4"
      have s24 := s3.trans s4
      have hF4 := s24 _ _ hF
      refine ⟨F, us, .ref p, rfl, rfl, hF4, small11 (by omega), us ++ [.ref p], _, rfl, Same.lst (s2.trans s24) nF, upd_same, ?_⟩
      rw [allBits_succ]
      have t : Tk H4 (upd H4 F (.lst (us ++ [.ref p]))) := Tk.lst hF4
      exact paired_snoc (Tups.tk ((Same.tk s24).trans t) hT) ⟨p, rfl, t _ _ e4⟩
  · rintro σ H2 ⟨us, x, rfl, s2, hF, hT⟩
    exact ⟨_, rfl, q _ _ _ s2 nF hF hT⟩

def sp_law_is_stand : Sp := fun vs H Q _ => ∃ (a : Addr) (bs : List Bool) (n : Nat), vs = [.ref a, .int n] ∧ H a = some (.tup (bs.map V.bl)) ∧ bs.length = n ∧ n ≤ 1000 ∧ ∀ H', Same H H' → Q (.bl true) H'
theorem all_rep (i : Nat) : (List.replicate i true).all id = true := by
  induction i with
  | zero => rfl
  | succ i ih => rw [List.replicate_succ, List.all_cons, ih]; rfl
theorem ok_law_is_stand (T : Txt K mg Z) : FnOk P w K mg base CX0 1 Z.a_law_is_stand Z.d_law_is_stand ["found", "size"] sp_law_is_stand := by
  refine T.F__law_is_stand.ok sc_law_is_stand (fun vs H Q E h => by obtain ⟨_, _, _, rfl, _⟩ := h; rfl) (fun cdv A outer s H vs Q E hr h => ?_)
  obtain ⟨a, bs, n, rfl, ha, hl, hn, q⟩ := h
  refine ⟨_, (pss_cons (ps_if (PW.pt (pw_or (pt_not (pt_val (pe_callB (r := rIsi K) call_isi (by rfl) T.n_isinstance (by decide +kernel) (pa_cons (pv 0) (pa_cons (pe_bltn (v := .ty "tuple") (u := .type "tuple") (by rfl) T.n_tuple (by decide +kernel) rfl) pa_nil))))) (pw_or1 (pt_cmpR op_ne (pe_callB (r := rLenSeq K) call_len_seq (by rfl) T.n_len PySem.boot_len (pa_cons (pv 0) pa_nil)) (pv 1) (nomark _))))) (pss_one (ps_ret pe_bl)) pss_nil)
      (pss_one (ps_ret (pe_callB (r := rAll K) (cr_all rfl) (by rfl) T.n_all (by decide +kernel) (pa_cons (pe_lc (own := [("one", 2)]) (g := gName 2) (tt := tYes) rfl sc_law_is_stand.nd (pi_tup (pv 0)) (blkOk_by (own := [("one", 2)]) (N := ["found", "size", "one"]) (sc := defScope s_law_is_stand) (by decide +kernel)) (fun _ _ _ _ _ => pg_name (i := 2) sc_law_is_stand.nd rfl (Or.inl rfl)) (fun _ _ _ _ _ => pts_nil) (fun _ _ _ _ _ => (pe_callB (r := rIsi K) call_isi (by rfl) T.n_isinstance (by decide +kernel) (pa_cons (pv 2) (pa_cons (pe_bltn (v := .ty "bool") (u := .type "bool") (by rfl) T.n_bool (by decide +kernel) rfl) pa_nil))))) pa_nil))))), ?_⟩
  refine ⟨_, rfl, .ref a, .ty "tuple", .type "tuple", .type "tuple", true, rfl, .ty _, .base (.tup ha), kit_ty (by decide +kernel), _, rfl, ?_⟩
  refine iF rfl ?_
  refine ⟨_, rfl, a, _, rfl, .inr (.of ha), _, rfl, rfl, _, rfl, ?_⟩
  refine iF ?_ ?_
  · rw [decide_eq_true (by rw [List.length_map, hl]), Bool.not_true]
  refine ⟨_, rfl, a, rfl, ⟨_, .of ha⟩, fun D nD => lc_tup (K := K) (a := a) (xs := bs.map V.bl) (fun i H' => Same H H' ∧ H' D = some (.lst ((List.replicate i true).map V.bl))) ?_ ?_ ?_ ?_⟩
  · exact ⟨Same.new nD, upd_same⟩
  · rintro i H2 _ ⟨s2, _⟩
    exact .of (s2 _ _ ha)
  · rintro i v H2 hi ⟨s2, hD⟩
    obtain ⟨b, rfl⟩ : ∃ b, v = V.bl b := by
      obtain ⟨b, _, e⟩ := List.mem_map.mp (List.mem_of_getElem? hi)
      exact ⟨b, e.symm⟩
    have hi2 : i < n := by
      have := (List.getElem?_eq_some_iff.mp hi).1
      rw [List.length_map, hl] at this; exact this
    wtm_at "lc"
    refine ⟨_, rfl, .bl b, .ty "bool", .type "bool", .type "bool", true, rfl, .ty _, .base (.bl _), kit_ty (by decide +kernel), _, hD, small11 (by rw [List.length_map, List.length_replicate]; omega), Same.lst s2 nD, ?_⟩
    rw [upd_same, List.replicate_succ', List.map_append]
    rfl
  · rintro H2 ⟨s2, hD⟩
    refine ⟨D, _, rfl, .of hD, ?_⟩
    rw [all_rep]
    exact q _ s2

def sp_can_move : Sp := fun vs H Q _ => ∃ (b pr st : Addr) (k n m : Nat) (us : List V) (ws : List W) (ps ss : List Bool), vs = [.ref b, .ref pr, .ref st, vn k] ∧ k < n ∧ BoardAt H b us ws n m ∧ H pr = some (.tup (ps.map V.bl)) ∧ H st = some (.tup (ss.map V.bl)) ∧ ss.length = n ∧ ps.length = m ∧ Q (.bl (canMove ws ps ss k)) H
theorem ok_can_move (T : Txt K mg Z) : FnOk P w K mg base CX0 11 Z.acan_move Z.dcan_move ["board", "pressed", "stand", "relay"] sp_can_move := by
  have Gworth := ok_worth (P := P) (w := w) (base := base) T 10
  refine T.F_can_move.ok sccan_move (fun vs H Q E h => by obtain ⟨_, _, _, _, _, _, _, _, _, _, rfl, _⟩ := h; rfl) (fun cdv A outer s H vs Q E hr h => ?_)
  obtain ⟨b, pr, st, k, n, m, us, ws, ps, ss, rfl, hk, B, hp, hs, hsl, hpl, q⟩ := h
  refine ⟨_, (pss_one (ps_ret (pe_cmpR op_ne (pe_call Gworth (hr.mono (by omega)) (by rfl) T.m_worth T.F_worth.kp T.b_worth .nil pass0 (pa_cons (pe_ix (r := rIxL K) ix_list (pv 0) (pv 3) (fun _ _ => rfl)) (pa_cons (pv 2) (pa_cons (pv 1) pa_nil)))) (pe_ix (r := rIxT K) ix_tup (pv 2) (pv 3) (fun _ _ => rfl)) (nomark _)))), ?_⟩
  obtain ⟨c, hc, hw, hf⟩ := B.at hk
  refine ⟨_, rfl, _, rfl, b, us, (k : Int), _, rfl, rfl, .of B.lst, at_of (j := k) rfl hc, _, rfl, _, rfl, c, st, pr, ws.getD k .off, ss, ps, rfl, hw, hs, hp, by rw [hsl, hpl]; exact hf.1, by have := hf.2; omega, ?_⟩
  refine ⟨_, rfl, _, rfl, st, _, (k : Int), _, rfl, rfl, .of hs, at_bl (by omega) (by omega), rfl, ?_⟩
  have e : (!decide (V.bl ((ws.getD k .off).eval ss ps) = V.bl (ss.getD ((k : Int).toNat) false))) = canMove ws ps ss k := by
    unfold canMove
    rw [Int.toNat_natCast]
    cases (ws.getD k W.off).eval ss ps <;> cases ss.getD k false <;> rfl
  show Q (.bl (!decide (V.bl ((ws.getD k .off).eval ss ps) = V.bl (ss.getD ((k : Int).toNat) false)))) H
  rw [e]
  exact q

def sp_movable : Sp := fun vs H Q _ => ∃ (b pr st : Addr) (n m : Nat) (us : List V) (ws : List W) (ps ss : List Bool), vs = [.ref b, .ref pr, .ref st] ∧ BoardAt H b us ws n m ∧ H pr = some (.tup (ps.map V.bl)) ∧ H st = some (.tup (ss.map V.bl)) ∧ ss.length = n ∧ ps.length = m ∧
  ∀ (H' : Hp) (p : Addr), Same H H' → H p = none → H' p = some (.lst ((movL ws ps ss).map vn)) → Q (.ref p) H'
theorem ok_movable (T : Txt K mg Z) : FnOk P w K mg base CX0 12 Z.amovable Z.dmovable ["board", "pressed", "stand"] sp_movable := by
  have Gcan_move := ok_can_move (P := P) (w := w) (base := base) T
  refine T.F_movable.ok scmovable (fun vs H Q E h => by obtain ⟨_, _, _, _, _, _, _, _, _, rfl, _⟩ := h; rfl) (fun cdv A outer s H vs Q E hr h => ?_)
  obtain ⟨b, pr, st, n, m, us, ws, ps, ss, rfl, B, hp, hs, hsl, hpl, q⟩ := h
  refine ⟨_, (pss_one (ps_ret (pe_lc (own := [("relay", 3)]) (g := gName 3) rfl scmovable.nd (pi_range1 rfl T.n_range (pa_cons (pe_callB (r := rLenSeq K) call_len_seq (by rfl) T.n_len PySem.boot_len (pa_cons (pv 0) pa_nil)) pa_nil)) (blkOk_by (own := [("relay", 3)]) (N := ["board", "pressed", "stand", "relay"]) (sc := defScope smovable) (by decide +kernel)) (fun _ _ _ _ _ => pg_name (i := 3) scmovable.nd rfl (Or.inl rfl)) (fun _ _ _ _ _ => (pts_one (pt_val (pe_call Gcan_move (hr.mono (by omega)) (by rfl) T.m_can_move T.F_can_move.kp T.b_can_move .nil pass0 (pa_cons (pv 0) (pa_cons (pv 1) (pa_cons (pv 2) (pa_cons (pv 3) pa_nil)))))))) (fun _ _ _ _ _ => (pv 3))))), ?_⟩
  have hu := B.ulen
  have h6 := B.n6
  refine ⟨_, rfl, b, us, rfl, .inl (.of B.lst), _, rfl, by omega, by omega, fun D nD => lc_range (lo := 0) (n := us.length) (fun i H' => Same H H' ∧ H' D = some (.lst (((List.range i).filter (canMove ws ps ss)).map vn))) ?_ ?_ ?_⟩
  · exact ⟨Same.new nD, upd_same⟩
  · rintro i H2 hi ⟨s2, hD⟩
    refine ⟨rfl, ?_⟩
    refine ⟨_, rfl, _, rfl, _, rfl, _, rfl, b, pr, st, i, n, m, us, ws, ps, ss, by rw [Int.zero_add]; rfl, by omega, B.same s2, s2 _ _ hp, s2 _ _ hs, hsl, hpl, _, rfl, ?_⟩
    refine iB (fun c => ?_) (fun c => ?_)
    · refine ⟨_, rfl, _, hD, small11 ?_, Same.lst s2 nD, ?_⟩
      · rw [List.length_map]
        have := List.length_filter_le (canMove ws ps ss) (List.range i)
        rw [List.length_range] at this
        omega
      · rw [upd_same, List.range_succ, filter_snoc, if_pos c, List.map_append, Int.zero_add]
        rfl
    · refine ⟨s2, ?_⟩
      rw [hD, List.range_succ, filter_snoc, if_neg (by rw [c]; decide)]
  · rintro H2 ⟨s2, hD⟩
    refine q _ _ s2 nD ?_
    rw [hD, hu, ← B.len]
    rfl

def isRest (ws : List W) (ps ss : List Bool) : Bool := decide (movL ws ps ss = [])
def restL (n : Nat) (ws : List W) (ps : List Bool) : List (List Bool) := (allBits n (2 ^ n)).filter (isRest ws ps)
theorem take_filter {α : Type} (f : α → Bool) {l : List α} {i : Nat} {x : α} (h : l[i]? = some x) : (l.take (i + 1)).filter f = if f x = true then (l.take i).filter f ++ [x] else (l.take i).filter f := by
  rw [List.take_add_one, h]
  exact filter_snoc f _ x
def sp_rests : Sp := fun vs H Q _ => ∃ (b pr : Addr) (n m : Nat) (us : List V) (ws : List W) (ps : List Bool), vs = [.ref b, .ref pr] ∧ BoardAt H b us ws n m ∧ H pr = some (.tup (ps.map V.bl)) ∧ ps.length = m ∧
  ∀ (H' : Hp) (p : Addr) (vs : List V), Same H H' → H p = none → H' p = some (.lst vs) → Tups H' (restL n ws ps) vs → Q (.ref p) H'
theorem ok_rests (T : Txt K mg Z) : FnOk P w K mg base CX0 13 Z.arests Z.drests ["board", "pressed"] sp_rests := by
  have Gmovable := ok_movable (P := P) (w := w) (base := base) T
  have Gswitches := ok_switches (P := P) (w := w) (base := base) T
  refine T.F_rests.ok scrests (fun vs H Q E h => by obtain ⟨_, _, _, _, _, _, _, rfl, _⟩ := h; rfl) (fun cdv A outer s H vs Q E hr h => ?_)
  obtain ⟨b, pr, n, m, us, ws, ps, rfl, B, hp, hpl, q⟩ := h
  refine ⟨_, (pss_one (ps_ret (pe_lc (own := [("stand", 2)]) (g := gName 2) rfl scrests.nd (pi_list (pe_call Gswitches (hr.mono (by omega)) (by rfl) T.m_switches T.F_switches.kp T.b_switches .nil pass0 (pa_cons (pe_callB (r := rLenSeq K) call_len_seq (by rfl) T.n_len PySem.boot_len (pa_cons (pv 0) pa_nil)) pa_nil))) (blkOk_by (own := [("stand", 2)]) (N := ["board", "pressed", "stand"]) (sc := defScope srests) (by decide +kernel)) (fun _ _ _ _ _ => pg_name (i := 2) scrests.nd rfl (Or.inl rfl)) (fun _ _ _ _ _ => (pts_one (pt_cmpR (r := rEqD K) (op_eqD hr.units) (pe_call Gmovable (hr.mono (by omega)) (by rfl) T.m_movable T.F_movable.kp T.b_movable .nil pass0 (pa_cons (pv 0) (pa_cons (pv 1) (pa_cons (pv 2) pa_nil)))) (pe_lst pa_nil) (nomark _)))) (fun _ _ _ _ _ => (pv 2))))), ?_⟩
  have hu := B.ulen
  have h6 := B.n6
  refine ⟨_, rfl, b, us, rfl, .inl (.of B.lst), n, by rw [hu]; rfl, h6, fun H1 p1 vs1 s1 n1 e1 T1 => ?_⟩
  have l1 := T1.length
  have h64 := pow_le64 h6
  rw [allBits_len] at l1
  refine ⟨p1, rfl, ⟨_, .of e1⟩, fun D nD => lc_list (K := K) (a := p1) (xs := vs1) (fun i H' => Same H1 H' ∧ ∃ ys, H' D = some (.lst ys) ∧ ys.length ≤ i ∧ Tups H' (((allBits n (2 ^ n)).take i).filter (isRest ws ps)) ys) ?_ ?_ ?_ ?_⟩
  · exact ⟨Same.new nD, [], upd_same, Nat.le_refl _, .nil⟩
  · rintro i H2 _ ⟨s2, _⟩
    exact .of (s2 _ _ e1)
  · rintro i v H2 hi ⟨s2, ys, hD, hyl, hT⟩
    obtain ⟨bs, hb, sa, rfl, hsa⟩ := paired_get T1 hi
    have hbl : bs.length = n := by rw [(allBits_get' hb).2, bits_len]
    have hib := (allBits_get' hb).1
    refine ⟨rfl, ?_⟩
    have s12 := s1.trans s2
    have st := s2 _ _ hsa
    refine ⟨_, rfl, _, rfl, _, rfl, b, pr, sa, n, m, us, ws, ps, bs, rfl, B.same s12, s12 _ _ hp, st, hbl, hpl, fun H3 p3 s3 n3 e3 => ?_⟩
    refine ⟨by wtm_at "sz", ?_⟩
    wtm_at "new L H4 s4 e4"
    refine ⟨_, _, dpI (s4 _ _ e3), dpI (ks := []) e4, (shI _).shaped (by decide), (shI _).shaped (by decide), _, rfl, ?_⟩
    have s34 := s3.trans s4
    have hD4 := s34 _ _ hD
    rw [eqv_il]
    refine iB (fun c => ?_) (fun c => ?_)
    · have t : Tk H4 (upd H4 D (.lst (ys ++ [.ref sa]))) := Tk.lst hD4
      refine ⟨_, rfl, ys, hD4, small11 (by omega), Same.lst (s2.trans s34) nD, ys ++ [.ref sa], upd_same, by rw [List.length_append, List.length_singleton]; omega, ?_⟩
      rw [take_filter _ hb, if_pos (show isRest ws ps bs = true from c)]
      exact paired_snoc (Tups.tk ((Same.tk s34).trans t) hT) ⟨sa, rfl, t _ _ (s34 _ _ st)⟩
    · refine ⟨s2.trans s34, ys, hD4, by omega, ?_⟩
      rw [take_filter _ hb, if_neg (by rw [show isRest ws ps bs = false from c]; decide)]
      exact Tups.same s34 hT
  · rintro H2 ⟨s2, ys, hD, hyl, hT⟩
    rw [← l1, show (allBits n (2 ^ n)).take (2 ^ n) = allBits n (2 ^ n) from List.take_of_length_le (by rw [allBits_len]; exact Nat.le_refl _)] at hT
    exact q _ _ ys (s1.trans s2) (s1.free nD) hD hT

def sp_law_movable : Sp := fun vs H Q _ => ∃ (b pr st : Addr) (n m : Nat) (us : List V) (ws : List W) (ps ss : List Bool), vs = [.ref b, .ref pr, .ref st] ∧ BoardAt H b us ws n m ∧ H pr = some (.tup (ps.map V.bl)) ∧ H st = some (.tup (ss.map V.bl)) ∧ ss.length = n ∧ ps.length = m ∧
  ∀ (H' : Hp) (p : Addr), Same H H' → H p = none → H' p = some (.lst ((movL ws ps ss).map vn)) → Q (.ref p) H'
theorem ok_law_movable (T : Txt K mg Z) : FnOk P w K mg base CX0 11 Z.a_law_movable Z.d_law_movable ["board", "pressed", "stand"] sp_law_movable := by
  have G_law_worth := ok_law_worth (P := P) (w := w) (base := base) T 10
  refine T.F__law_movable.ok sc_law_movable (fun vs H Q E h => by obtain ⟨_, _, _, _, _, _, _, _, _, rfl, _⟩ := h; rfl) (fun cdv A outer s H vs Q E hr h => ?_)
  obtain ⟨b, pr, st, n, m, us, ws, ps, ss, rfl, B, hp, hs, hsl, hpl, q⟩ := h
  refine ⟨_, (pss_one (ps_ret (pe_lc (own := [("k", 3)]) (g := gName 3) rfl sc_law_movable.nd (pi_range1 rfl T.n_range (pa_cons (pe_callB (r := rLenSeq K) call_len_seq (by rfl) T.n_len PySem.boot_len (pa_cons (pv 0) pa_nil)) pa_nil)) (blkOk_by (own := [("k", 3)]) (N := ["board", "pressed", "stand", "k"]) (sc := defScope s_law_movable) (by decide +kernel)) (fun _ _ _ _ _ => pg_name (i := 3) sc_law_movable.nd rfl (Or.inl rfl)) (fun _ _ _ _ _ => (pts_one (pt_cmpR op_ne (pe_call G_law_worth (hr.mono (by omega)) (by rfl) T.m__law_worth T.F__law_worth.kp T.b__law_worth .nil pass0 (pa_cons (pe_ix (r := rIxL K) ix_list (pv 0) (pv 3) (fun _ _ => rfl)) (pa_cons (pv 2) (pa_cons (pv 1) pa_nil)))) (pe_ix (r := rIxT K) ix_tup (pv 2) (pv 3) (fun _ _ => rfl)) (nomark _)))) (fun _ _ _ _ _ => (pv 3))))), ?_⟩
  have hu := B.ulen
  have h6 := B.n6
  refine ⟨_, rfl, b, us, rfl, .inl (.of B.lst), _, rfl, by omega, by omega, fun D nD => lc_range (lo := 0) (n := us.length) (fun i H' => Same H H' ∧ H' D = some (.lst (((List.range i).filter (canMove ws ps ss)).map vn))) ?_ ?_ ?_⟩
  · exact ⟨Same.new nD, upd_same⟩
  · rintro i H2 hi ⟨s2, hD⟩
    refine ⟨rfl, ?_⟩
    obtain ⟨c, hc, hw, hf⟩ := B.at (k := i) (by omega)
    refine ⟨_, rfl, _, rfl, b, us, 0 + (i : Int), _, rfl, rfl, .of (s2 _ _ B.lst), at_of (j := i) (Int.zero_add _) hc, _, rfl, _, rfl, c, st, pr, ws.getD i .off, ss, ps, rfl, WA.same s2 hw, s2 _ _ hs, s2 _ _ hp, by rw [hsl, hpl]; exact hf.1, by have := hf.2; omega, fun H3 s3 => ?_⟩
    have s23 := s2.trans s3
    refine ⟨_, rfl, _, rfl, st, _, 0 + (i : Int), _, rfl, rfl, .of (s23 _ _ hs), at_bl (by omega) (by omega), rfl, _, rfl, ?_⟩
    have e : (!decide (V.bl ((ws.getD i .off).eval ss ps) = V.bl (ss.getD ((0 + (i : Int)).toNat) false))) = canMove ws ps ss i := by
      unfold canMove
      rw [toNat0]
      cases (ws.getD i W.off).eval ss ps <;> cases ss.getD i false <;> rfl
    rw [e]
    refine iB (fun c => ?_) (fun c => ?_)
    · refine ⟨_, rfl, _, s3 _ _ hD, small11 ?_, Same.lst s23 nD, ?_⟩
      · rw [List.length_map]
        have := List.length_filter_le (canMove ws ps ss) (List.range i)
        rw [List.length_range] at this
        omega
      · rw [upd_same, List.range_succ, filter_snoc, if_pos c, List.map_append, Int.zero_add]
        rfl
    · refine ⟨s23, ?_⟩
      rw [s3 _ _ hD, List.range_succ, filter_snoc, if_neg (by rw [c]; decide)]
  · rintro H2 ⟨s2, hD⟩
    refine q _ _ s2 nD ?_
    rw [hD, hu, ← B.len]
    rfl

theorem RoomAt.board {H H' : Hp} {p b pr st : Addr} {n m : Nat} {ws : List W} {us : List V} {ps ss : List Bool} (R : RoomAt H H' p b pr st n m ws us ps ss) : BoardAt H' b us ws n m := ⟨R.lst, R.was, R.len, R.n6, R.fit.mono (by decide)⟩
def sp_law (K : PySem.W.Frag) : Sp := fun vs H Q _ => ∃ (a : Addr) (ns : List Int), vs = [.ref a] ∧ SqL K H a (ns.map V.int) ∧ ns.length ≤ 63 ∧ ∀ H', Q (.bl true) H'
theorem ok_law (T : Txt K mg Z) : FnOk P w K mg base CX0 14 Z.alaw Z.dlaw ["script"] (sp_law K) := by
  have G_law_room := ok_law_room (P := P) (w := w) (base := base) T
  have G_law_bits := ok_law_bits (P := P) (w := w) (base := base) T
  have G_law_movable := ok_law_movable (P := P) (w := w) (base := base) T
  have G_law_is_stand := ok_law_is_stand (P := P) (w := w) (base := base) T
  have Grests := ok_rests (P := P) (w := w) (base := base) T
  refine T.F_law.ok sclaw (fun vs H Q E h => by obtain ⟨_, _, rfl, _⟩ := h; rfl) (fun cdv A outer s H vs Q E hr h => ?_)
  obtain ⟨a, ns, rfl, hS, hlen, q⟩ := h
  refine ⟨_, (pss_cons (ps_set (i := 1) sclaw.nd rfl (Or.inl rfl) (pe_call G_law_room (hr.mono (by omega)) (by rfl) T.m__law_room T.F__law_room.kp T.b__law_room .nil pass0 (pa_cons (pv 0) pa_nil)))
      (pss_cons (ps_set (i := 2) sclaw.nd rfl (Or.inr rfl) (pe_callTy call_list_of (by rfl) T.n_list (by decide +kernel) (pa_cons (pe_ix (r := rIxT K) ix_tup (pv 1) pe_int (fun _ _ => rfl)) pa_nil)))
      (pss_cons (ps_set (i := 3) sclaw.nd rfl (Or.inl rfl) (pe_lst pa_nil))
      (pss_cons (ps_for PassesOwn.never rfl (pi_range1 rfl T.n_range (pa_cons (pe_op op_shl pe_int (pe_callB (r := rLenSeq K) call_len_seq (by rfl) T.n_len PySem.boot_len (pa_cons (pv 2) pa_nil))) pa_nil)) (pg_name (i := 4) sclaw.nd rfl (Or.inl rfl))
      (pss_cons (ps_set (i := 5) sclaw.nd rfl (Or.inl rfl) (pe_call G_law_bits (hr.mono (by omega)) (by rfl) T.m__law_bits T.F__law_bits.kp T.b__law_bits .nil pass0 (pa_cons (pv 4) (pa_cons (pe_callB (r := rLenSeq K) call_len_seq (by rfl) T.n_len PySem.boot_len (pa_cons (pv 2) pa_nil)) pa_nil))))
      (pss_one (ps_if (pt_cmpR (r := rEqD K) (op_eqD hr.units) (pe_call G_law_movable (hr.mono (by omega)) (by rfl) T.m__law_movable T.F__law_movable.kp T.b__law_movable .nil pass0 (pa_cons (pv 2) (pa_cons (pe_ix (r := rIxT K) ix_tup (pv 1) pe_int (fun _ _ => rfl)) (pa_cons (pv 5) pa_nil)))) (pe_lst pa_nil) (nomark _)) (pss_one (ps_expr (pe_bm PySem.F.plainAttrs_list PySem.F.slot_list_append PySem.F.type_list_append mt_append (pv 3) (pa_cons (pv 5) pa_nil)))) pss_nil))))
      (pss_cons (ps_set (i := 6) sclaw.nd rfl (Or.inl rfl) (pe_call Grests (hr.mono (by omega)) (by rfl) T.m_rests T.F_rests.kp T.b_rests .nil pass0 (pa_cons (pv 2) (pa_cons (pe_ix (r := rIxT K) ix_tup (pv 1) pe_int (fun _ _ => rfl)) pa_nil))))
      (pss_cons (ps_if (PW.pt (pw_or (pt_not (pt_val (pe_callB (r := rIsi K) call_isi (by rfl) T.n_isinstance (by decide +kernel) (pa_cons (pv 6) (pa_cons (pe_bltn (v := .ty "list") (u := .type "list") (by rfl) T.n_list (by decide +kernel) rfl) pa_nil))))) (pw_or (pt_cmpR (r := rNeD K) (op_neD hr.units) (pv 6) (pv 3) (nomark _)) (pw_or1 (pt_not (pt_val (pe_callB (r := rAll K) (cr_all rfl) (by rfl) T.n_all (by decide +kernel) (pa_cons (pe_lc (own := [("one", 7)]) (g := gName 7) (tt := tYes) rfl sclaw.nd (pi_list (pv 6)) (blkOk_by (own := [("one", 7)]) (N := ["script", "room", "board", "due", "number", "stand", "found", "one"]) (sc := defScope slaw) (by decide +kernel)) (fun _ _ _ _ _ => pg_name (i := 7) sclaw.nd rfl (Or.inl rfl)) (fun _ _ _ _ _ => pts_nil) (fun _ _ _ _ _ => (pe_call G_law_is_stand (hr.mono (by omega)) (by rfl) T.m__law_is_stand T.F__law_is_stand.kp T.b__law_is_stand .nil pass0 (pa_cons (pv 7) (pa_cons (pe_callB (r := rLenSeq K) call_len_seq (by rfl) T.n_len PySem.boot_len (pa_cons (pv 2) pa_nil)) pa_nil))))) pa_nil)))))))) (pss_one (ps_ret pe_bl)) pss_nil)
      (pss_cons (ps_expr (pe_bm PySem.F.plainAttrs_list PySem.F.slot_list_append PySem.F.type_list_append mt_append (pv 6) (pa_cons (pe_tup pa_nil) pa_nil)))
      (pss_one (ps_ret (pe_and (pe_cmpR (r := rEqD K) (op_eqD hr.units) (pe_call Grests (hr.mono (by omega)) (by rfl) T.m_rests T.F_rests.kp T.b_rests .nil pass0 (pa_cons (pv 2) (pa_cons (pe_ix (r := rIxT K) ix_tup (pv 1) pe_int (fun _ _ => rfl)) pa_nil))) (pv 3) (nomark _)) (pe_one (pe_cmpR (r := rEqD K) (op_eqD hr.units) (pv 2) (pe_ix (r := rIxT K) ix_tup (pv 1) pe_int (fun _ _ => rfl)) (nomark _))))))))))))), ?_⟩
  wtm_at "rd"
  refine ⟨a, ns, rfl, hS, fun H1 p b pr st n m ws us ps ss R => ?_⟩
  have B1 := R.board
  have hu := B1.ulen
  have h6 := B1.n6
  have h64 := pow_le64 h6
  refine ⟨_, rfl, p, _, 0, _, rfl, rfl, .of R.tup, atI_nat (j := 0) rfl, b, us, rfl, .inl (.of R.lst), ?_⟩
  wtm_at "new L H2 s2 e2"
  have B2 : BoardAt H2 L us ws n m := ⟨e2, WAs.same s2 B1.was, B1.len, B1.n6, B1.fit⟩
  have p2 := s2 _ _ R.tup
  have pr2 := s2 _ _ R.pr
  refine ⟨by wtm_at "sz", ?_⟩
  wtm_at "new F H3 s3 e3"
  have e64 : (1 : Int) * 2 ^ (((us.length : Nat) : Int).toNat) = ((2 ^ n : Nat) : Int) := by rw [Int.one_mul, Int.toNat_natCast, pow_cast, hu]
  refine ⟨_, rfl, L, us, rfl, .inl (.of (s3 _ _ e2)), _, _, rfl, rfl, ⟨by omega, by omega, by decide⟩, _, rfl, ?_⟩
  refine ⟨by rw [e64]; exact Int.le_trans (by decide) (Int.natCast_nonneg _), by rw [e64]; exact Int.lt_of_le_of_lt (Int.ofNat_le.mpr h64) (by decide), ?_⟩
  rw [show (1 * 2 ^ (((us.length : Nat) : Int).toNat) : Int).toNat = 2 ^ n by rw [e64, Int.toNat_natCast]]
  refine for_range (lo := 0) (n := 2 ^ n) (fun i σ H' => ∃ ys nv sv, σ = [some (.ref a), some (.ref p), some (.ref L), some (.ref F), nv, sv, none, none] ∧ Same H2 H' ∧ H' F = some (.lst ys) ∧ ys.length ≤ i ∧ Tups H' ((allBits n i).filter (isRest ws ps)) ys) ?_ ?_ ?_
  · exact ⟨[], none, none, rfl, s3, e3, Nat.le_refl _, .nil⟩
  · rintro i σ H4 hi ⟨ys, nv, sv, rfl, s4, hF, hyl, hT⟩
    refine ⟨_, rfl, _, rfl, L, us, rfl, .inl (.of (s4 _ _ e2)), 0 + (i : Int), n, by rw [hu]; rfl, by omega, fun H5 p5 s5 n5 e5 => ?_⟩
    have s25 := s4.trans s5
    have e5' : H5 p5 = some (.tup ((bits (i : Int) n).map V.bl)) := by rw [← Int.zero_add (i : Int)]; exact e5
    refine ⟨_, rfl, _, rfl, p, _, 1, _, rfl, rfl, .of (s25 _ _ p2), atI_nat (j := 1) rfl, _, rfl, L, pr, p5, n, m, us, ws, ps, _, rfl, B2.same s25, s25 _ _ pr2, e5', bits_len _ _, R.plen, fun H6 p6 s6 n6 e6 => ?_⟩
    refine ⟨by wtm_at "sz", ?_⟩
    wtm_at "new X H7 s7 e7"
    refine ⟨_, _, dpI (s7 _ _ e6), dpI (ks := []) e7, (shI _).shaped (by decide), (shI _).shaped (by decide), _, rfl, ?_⟩
    rw [eqv_il]
    have s57 := s6.trans s7
    have s47 := s5.trans s57
    have hF7 := s47 _ _ hF
    refine iB (fun c => ?_) (fun c => ?_)
    · have t : Tk H7 (upd H7 F (.lst (ys ++ [.ref p5]))) := Tk.lst hF7
      refine ⟨_, rfl, .inl ⟨rfl, _, .of hF7⟩, _, rfl, F, ys, _, rfl, rfl, hF7, small11 (by omega), ys ++ [.ref p5], _, _, rfl, Same.lst (s25.trans s57) nF, upd_same, by rw [List.length_append, List.length_singleton]; omega, ?_⟩
      rw [allBits_succ, filter_snoc, if_pos (show isRest ws ps (bits (i : Int) n) = true from c)]
      exact paired_snoc (Tups.tk ((Same.tk s47).trans t) hT) ⟨p5, rfl, t _ _ (s57 _ _ e5')⟩
    · refine ⟨ys, _, _, rfl, s25.trans s57, hF7, by omega, ?_⟩
      rw [allBits_succ, filter_snoc, if_neg (by rw [show isRest ws ps (bits (i : Int) n) = false from c]; decide)]
      exact Tups.same s47 hT
  rintro σ H4 ⟨ys, nv, sv, rfl, s4, hF, hyl, hT⟩
  have hT4 : Tups H4 (restL n ws ps) ys := hT
  refine ⟨_, rfl, _, rfl, p, _, 1, _, rfl, rfl, .of (s4 _ _ p2), atI_nat (j := 1) rfl, L, pr, n, m, us, ws, ps, rfl, B2.same s4, s4 _ _ pr2, R.plen, fun H5 g zs s5 ng e5 T5 => ?_⟩
  have s25 := s4.trans s5
  have hF5 := s5 _ _ hF
  refine ⟨_, rfl, .ref g, .ty "list", .type "list", .type "list", true, rfl, .ty _, .base (.lst e5), kit_ty (by decide +kernel), _, rfl, ?_⟩
  refine iF rfl ?_
  refine ⟨_, rfl, _, rfl, _, _, .lst (.of e5) (dpTs T5), .lst (.of hF5) (dpTs (Tups.same s5 hT4)), (shTs _).shaped (by decide), (shTs _).shaped (by decide), _, rfl, ?_⟩
  rw [(shTs _).refl]
  refine iF rfl ?_
  have hzl : zs.length ≤ 64 := by
    rw [← T5.length]
    have := List.length_filter_le (isRest ws ps) (allBits n (2 ^ n))
    rw [allBits_len] at this
    exact Nat.le_trans this h64
  refine ⟨_, rfl, g, rfl, ⟨_, .of e5⟩, fun D nD => lc_list (K := K) (a := g) (xs := zs) (fun i H' => Same H5 H' ∧ H' D = some (.lst ((List.replicate i true).map V.bl))) ?_ ?_ ?_ ?_⟩
  · exact ⟨Same.new nD, upd_same⟩
  · rintro i H6 _ ⟨s6, _⟩
    exact .of (s6 _ _ e5)
  · rintro i v H6 hi ⟨s6, hD⟩
    obtain ⟨bs, hb, sa, rfl, hsa⟩ := paired_get T5 hi
    have hbl : bs.length = n := by
      have hm := (List.mem_filter.mp (List.mem_of_getElem? hb)).1
      obtain ⟨k, _, rfl⟩ := List.mem_map.mp hm
      exact bits_len _ _
    have hi2 := (List.getElem?_eq_some_iff.mp hi).1
    wtm_at "lc"
    refine ⟨_, rfl, _, rfl, L, us, rfl, .inl (.of ((s25.trans s6) _ _ e2)), sa, bs, n, by rw [hu]; rfl, s6 _ _ hsa, hbl, by omega, fun H7 s7 => ?_⟩
    refine ⟨_, s7 _ _ hD, small11 (by rw [List.length_map, List.length_replicate]; omega), Same.lst (s6.trans s7) nD, ?_⟩
    rw [upd_same, List.replicate_succ', List.map_append]
    rfl
  rintro H6 ⟨s6, hD⟩
  refine ⟨D, _, rfl, .of hD, _, rfl, ?_⟩
  rw [all_rep]
  refine iF rfl ?_
  refine ⟨_, rfl, .inl ⟨rfl, _, .of (s6 _ _ e5)⟩, by wtm_at "sz", ?_⟩
  wtm_at "new U H7 s7 e7"
  have g7 := (s6.trans s7) _ _ e5
  refine ⟨g, zs, _, rfl, rfl, g7, small11 (by omega), ?_⟩
  have s48 : Same H4 (upd H7 g (.lst (zs ++ [.ref U]))) := Same.lst (s5.trans (s6.trans s7)) ng
  generalize upd H7 g (.lst (zs ++ [.ref U])) = H8 at *
  have s28 := s4.trans s48
  refine ⟨_, rfl, _, rfl, p, _, 1, _, rfl, rfl, .of (s28 _ _ p2), atI_nat (j := 1) rfl, L, pr, n, m, us, ws, ps, rfl, B2.same s28, s28 _ _ pr2, R.plen, fun H9 g9 zs9 s9 ng9 e9 T9 => ?_⟩
  have s49 := s48.trans s9
  have s29 := s28.trans s9
  refine ⟨_, rfl, _, _, .lst (.of e9) (dpTs T9), .lst (.of (s49 _ _ hF)) (dpTs (Tups.same s49 hT4)), (shTs _).shaped (by decide), (shTs _).shaped (by decide), ?_⟩
  rw [(shTs _).refl]
  refine ⟨_, rfl, iT rfl ?_⟩
  have B9 := B2.same s29
  have sh : Sh (.list (ws.map wd)) (10 + 1) := shWs B9.fit
  refine ⟨_, rfl, _, rfl, p, _, 0, _, rfl, rfl, .of (s29 _ _ p2), atI_nat (j := 0) rfl, _, _, .lst (.of B9.lst) (dpWs B9.was), .lst (.of ((s2.trans s29) _ _ R.lst)) (dpWs B9.was), sh.shaped (by decide), sh.shaped (by decide), ?_⟩
  rw [sh.refl]
  exact q _

end
theorem all_mk {l : PySem.W.OpenLaw} {w : World} {K : PySem.W.Frag} {h : Heap} {mg : Str → Option Value} {fa : Addr} (X : K.In h) (G : h.Ns mainGlobals mg) (hfa : mg "law" = some (.ref fa))
    {f0 f1 f2 f3 f4 f5 f6 f7 f8 f9 f10 f11 f12 f13 f14 f15 f16 f17 : Addr}
    {od0 an0 : Option Addr} {sl0 : Array (Option Value)} {oc0 kV0 dc0 pm0 cd0 ct0 : Value}
    (a0 : PySem.W.nsIn K mainGlobals "worth" = some (some (.ref f0))) (l0 : K.lookup f0 = some ⟨oc0, od0, .func (PySem.W.fnOf "worth" "worth" (defArgs sworth) (defBody sworth) (defScope sworth) .none kV0 dc0 pm0 an0 cd0 ct0), sl0⟩) (c0 : PySem.W.codeIn K cd0 "worth" = true) (k0 : PySem.W.keepIn K (.ref f0) = true)
    {od1 an1 : Option Addr} {sl1 : Array (Option Value)} {oc1 kV1 dc1 pm1 cd1 ct1 : Value}
    (a1 : PySem.W.nsIn K mainGlobals "switches" = some (some (.ref f1))) (l1 : K.lookup f1 = some ⟨oc1, od1, .func (PySem.W.fnOf "switches" "switches" (defArgs sswitches) (defBody sswitches) (defScope sswitches) .none kV1 dc1 pm1 an1 cd1 ct1), sl1⟩) (c1 : PySem.W.codeIn K cd1 "switches" = true) (k1 : PySem.W.keepIn K (.ref f1) = true)
    {od2 an2 : Option Addr} {sl2 : Array (Option Value)} {oc2 kV2 dc2 pm2 cd2 ct2 : Value}
    (a2 : PySem.W.nsIn K mainGlobals "can_move" = some (some (.ref f2))) (l2 : K.lookup f2 = some ⟨oc2, od2, .func (PySem.W.fnOf "can_move" "can_move" (defArgs scan_move) (defBody scan_move) (defScope scan_move) .none kV2 dc2 pm2 an2 cd2 ct2), sl2⟩) (c2 : PySem.W.codeIn K cd2 "can_move" = true) (k2 : PySem.W.keepIn K (.ref f2) = true)
    {od3 an3 : Option Addr} {sl3 : Array (Option Value)} {oc3 kV3 dc3 pm3 cd3 ct3 : Value}
    (a3 : PySem.W.nsIn K mainGlobals "movable" = some (some (.ref f3))) (l3 : K.lookup f3 = some ⟨oc3, od3, .func (PySem.W.fnOf "movable" "movable" (defArgs smovable) (defBody smovable) (defScope smovable) .none kV3 dc3 pm3 an3 cd3 ct3), sl3⟩) (c3 : PySem.W.codeIn K cd3 "movable" = true) (k3 : PySem.W.keepIn K (.ref f3) = true)
    {od4 an4 : Option Addr} {sl4 : Array (Option Value)} {oc4 kV4 dc4 pm4 cd4 ct4 : Value}
    (a4 : PySem.W.nsIn K mainGlobals "rests" = some (some (.ref f4))) (l4 : K.lookup f4 = some ⟨oc4, od4, .func (PySem.W.fnOf "rests" "rests" (defArgs srests) (defBody srests) (defScope srests) .none kV4 dc4 pm4 an4 cd4 ct4), sl4⟩) (c4 : PySem.W.codeIn K cd4 "rests" = true) (k4 : PySem.W.keepIn K (.ref f4) = true)
    {od5 an5 : Option Addr} {sl5 : Array (Option Value)} {oc5 kV5 dc5 pm5 cd5 ct5 : Value}
    (a5 : PySem.W.nsIn K mainGlobals "_law_cell_at" = some (some (.ref f5))) (l5 : K.lookup f5 = some ⟨oc5, od5, .func (PySem.W.fnOf "_law_cell_at" "_law_cell_at" (defArgs s_law_cell_at) (defBody s_law_cell_at) (defScope s_law_cell_at) .none kV5 dc5 pm5 an5 cd5 ct5), sl5⟩) (c5 : PySem.W.codeIn K cd5 "_law_cell_at" = true) (k5 : PySem.W.keepIn K (.ref f5) = true)
    {od6 an6 : Option Addr} {sl6 : Array (Option Value)} {oc6 kV6 dc6 pm6 cd6 ct6 : Value}
    (a6 : PySem.W.nsIn K mainGlobals "_law_pick" = some (some (.ref f6))) (l6 : K.lookup f6 = some ⟨oc6, od6, .func (PySem.W.fnOf "_law_pick" "_law_pick" (defArgs s_law_pick) (defBody s_law_pick) (defScope s_law_pick) .none kV6 dc6 pm6 an6 cd6 ct6), sl6⟩) (c6 : PySem.W.codeIn K cd6 "_law_pick" = true) (k6 : PySem.W.keepIn K (.ref f6) = true)
    {od7 an7 : Option Addr} {sl7 : Array (Option Value)} {oc7 kV7 dc7 pm7 cd7 ct7 : Value}
    (a7 : PySem.W.nsIn K mainGlobals "_law_mix" = some (some (.ref f7))) (l7 : K.lookup f7 = some ⟨oc7, od7, .func (PySem.W.fnOf "_law_mix" "_law_mix" (defArgs s_law_mix) (defBody s_law_mix) (defScope s_law_mix) .none kV7 dc7 pm7 an7 cd7 ct7), sl7⟩) (c7 : PySem.W.codeIn K cd7 "_law_mix" = true) (k7 : PySem.W.keepIn K (.ref f7) = true)
    {od8 an8 : Option Addr} {sl8 : Array (Option Value)} {oc8 kV8 dc8 pm8 cd8 ct8 : Value}
    (a8 : PySem.W.nsIn K mainGlobals "_law_leaf" = some (some (.ref f8))) (l8 : K.lookup f8 = some ⟨oc8, od8, .func (PySem.W.fnOf "_law_leaf" "_law_leaf" (defArgs s_law_leaf) (defBody s_law_leaf) (defScope s_law_leaf) .none kV8 dc8 pm8 an8 cd8 ct8), sl8⟩) (c8 : PySem.W.codeIn K cd8 "_law_leaf" = true) (k8 : PySem.W.keepIn K (.ref f8) = true)
    {od9 an9 : Option Addr} {sl9 : Array (Option Value)} {oc9 kV9 dc9 pm9 cd9 ct9 : Value}
    (a9 : PySem.W.nsIn K mainGlobals "_law_word" = some (some (.ref f9))) (l9 : K.lookup f9 = some ⟨oc9, od9, .func (PySem.W.fnOf "_law_word" "_law_word" (defArgs s_law_word) (defBody s_law_word) (defScope s_law_word) .none kV9 dc9 pm9 an9 cd9 ct9), sl9⟩) (c9 : PySem.W.codeIn K cd9 "_law_word" = true) (k9 : PySem.W.keepIn K (.ref f9) = true)
    {od10 an10 : Option Addr} {sl10 : Array (Option Value)} {oc10 kV10 dc10 pm10 cd10 ct10 : Value}
    (a10 : PySem.W.nsIn K mainGlobals "_law_board" = some (some (.ref f10))) (l10 : K.lookup f10 = some ⟨oc10, od10, .func (PySem.W.fnOf "_law_board" "_law_board" (defArgs s_law_board) (defBody s_law_board) (defScope s_law_board) .none kV10 dc10 pm10 an10 cd10 ct10), sl10⟩) (c10 : PySem.W.codeIn K cd10 "_law_board" = true) (k10 : PySem.W.keepIn K (.ref f10) = true)
    {od11 an11 : Option Addr} {sl11 : Array (Option Value)} {oc11 kV11 dc11 pm11 cd11 ct11 : Value}
    (a11 : PySem.W.nsIn K mainGlobals "_law_bits" = some (some (.ref f11))) (l11 : K.lookup f11 = some ⟨oc11, od11, .func (PySem.W.fnOf "_law_bits" "_law_bits" (defArgs s_law_bits) (defBody s_law_bits) (defScope s_law_bits) .none kV11 dc11 pm11 an11 cd11 ct11), sl11⟩) (c11 : PySem.W.codeIn K cd11 "_law_bits" = true) (k11 : PySem.W.keepIn K (.ref f11) = true)
    {od12 an12 : Option Addr} {sl12 : Array (Option Value)} {oc12 kV12 dc12 pm12 cd12 ct12 : Value}
    (a12 : PySem.W.nsIn K mainGlobals "_law_wrapped" = some (some (.ref f12))) (l12 : K.lookup f12 = some ⟨oc12, od12, .func (PySem.W.fnOf "_law_wrapped" "_law_wrapped" (defArgs s_law_wrapped) (defBody s_law_wrapped) (defScope s_law_wrapped) .none kV12 dc12 pm12 an12 cd12 ct12), sl12⟩) (c12 : PySem.W.codeIn K cd12 "_law_wrapped" = true) (k12 : PySem.W.keepIn K (.ref f12) = true)
    {od13 an13 : Option Addr} {sl13 : Array (Option Value)} {oc13 kV13 dc13 pm13 cd13 ct13 : Value}
    (a13 : PySem.W.nsIn K mainGlobals "_law_room" = some (some (.ref f13))) (l13 : K.lookup f13 = some ⟨oc13, od13, .func (PySem.W.fnOf "_law_room" "_law_room" (defArgs s_law_room) (defBody s_law_room) (defScope s_law_room) .none kV13 dc13 pm13 an13 cd13 ct13), sl13⟩) (c13 : PySem.W.codeIn K cd13 "_law_room" = true) (k13 : PySem.W.keepIn K (.ref f13) = true)
    {od14 an14 : Option Addr} {sl14 : Array (Option Value)} {oc14 kV14 dc14 pm14 cd14 ct14 : Value}
    (a14 : PySem.W.nsIn K mainGlobals "_law_worth" = some (some (.ref f14))) (l14 : K.lookup f14 = some ⟨oc14, od14, .func (PySem.W.fnOf "_law_worth" "_law_worth" (defArgs s_law_worth) (defBody s_law_worth) (defScope s_law_worth) .none kV14 dc14 pm14 an14 cd14 ct14), sl14⟩) (c14 : PySem.W.codeIn K cd14 "_law_worth" = true) (k14 : PySem.W.keepIn K (.ref f14) = true)
    {od15 an15 : Option Addr} {sl15 : Array (Option Value)} {oc15 kV15 dc15 pm15 cd15 ct15 : Value}
    (a15 : PySem.W.nsIn K mainGlobals "_law_movable" = some (some (.ref f15))) (l15 : K.lookup f15 = some ⟨oc15, od15, .func (PySem.W.fnOf "_law_movable" "_law_movable" (defArgs s_law_movable) (defBody s_law_movable) (defScope s_law_movable) .none kV15 dc15 pm15 an15 cd15 ct15), sl15⟩) (c15 : PySem.W.codeIn K cd15 "_law_movable" = true) (k15 : PySem.W.keepIn K (.ref f15) = true)
    {od16 an16 : Option Addr} {sl16 : Array (Option Value)} {oc16 kV16 dc16 pm16 cd16 ct16 : Value}
    (a16 : PySem.W.nsIn K mainGlobals "_law_is_stand" = some (some (.ref f16))) (l16 : K.lookup f16 = some ⟨oc16, od16, .func (PySem.W.fnOf "_law_is_stand" "_law_is_stand" (defArgs s_law_is_stand) (defBody s_law_is_stand) (defScope s_law_is_stand) .none kV16 dc16 pm16 an16 cd16 ct16), sl16⟩) (c16 : PySem.W.codeIn K cd16 "_law_is_stand" = true) (k16 : PySem.W.keepIn K (.ref f16) = true)
    {od17 an17 : Option Addr} {sl17 : Array (Option Value)} {oc17 kV17 dc17 pm17 cd17 ct17 : Value}
    (a17 : PySem.W.nsIn K mainGlobals "law" = some (some (.ref f17))) (l17 : K.lookup f17 = some ⟨oc17, od17, .func (PySem.W.fnOf "law" "law" (defArgs slaw) (defBody slaw) (defScope slaw) .none kV17 dc17 pm17 an17 cd17 ct17), sl17⟩) (c17 : PySem.W.codeIn K cd17 "law" = true) (k17 : PySem.W.keepIn K (.ref f17) = true)
    (z_range : PySem.W.nsIn K mainGlobals "range" = some none)
    (z_tuple : PySem.W.nsIn K mainGlobals "tuple" = some none)
    (z_len : PySem.W.nsIn K mainGlobals "len" = some none)
    (z_int : PySem.W.nsIn K mainGlobals "int" = some none)
    (z_all : PySem.W.nsIn K mainGlobals "all" = some none)
    (z_isinstance : PySem.W.nsIn K mainGlobals "isinstance" = some none)
    (z_bool : PySem.W.nsIn K mainGlobals "bool" = some none)
    (z_list : PySem.W.nsIn K mainGlobals "list" = some none)
    : ∃ fd : FuncData, (∀ (s : Shared) (v : Value), BindsTo s fd ⟨[v], []⟩ [("script", v)]) ∧ ∀ base : Heap, K.In base → base.Ns mainGlobals mg → FnOk l.prog w K mg base CX0 14 fa fd ["script"] (sp_law K) := by
  have e := hfa.symm.trans (PySem.W.mg_of X G a17)
  cases e
  have F0 := fun_mk (st := sworth) l0 c0 k0
  have F1 := fun_mk (st := sswitches) l1 c1 k1
  have F2 := fun_mk (st := scan_move) l2 c2 k2
  have F3 := fun_mk (st := smovable) l3 c3 k3
  have F4 := fun_mk (st := srests) l4 c4 k4
  have F5 := fun_mk (st := s_law_cell_at) l5 c5 k5
  have F6 := fun_mk (st := s_law_pick) l6 c6 k6
  have F7 := fun_mk (st := s_law_mix) l7 c7 k7
  have F8 := fun_mk (st := s_law_leaf) l8 c8 k8
  have F9 := fun_mk (st := s_law_word) l9 c9 k9
  have F10 := fun_mk (st := s_law_board) l10 c10 k10
  have F11 := fun_mk (st := s_law_bits) l11 c11 k11
  have F12 := fun_mk (st := s_law_wrapped) l12 c12 k12
  have F13 := fun_mk (st := s_law_room) l13 c13 k13
  have F14 := fun_mk (st := s_law_worth) l14 c14 k14
  have F15 := fun_mk (st := s_law_movable) l15 c15 k15
  have F16 := fun_mk (st := s_law_is_stand) l16 c16 k16
  have F17 := fun_mk (st := slaw) l17 c17 k17
  have T : Txt K mg { aworth := f0, aswitches := f1, acan_move := f2, amovable := f3, arests := f4, a_law_cell_at := f5, a_law_pick := f6, a_law_mix := f7, a_law_leaf := f8, a_law_word := f9, a_law_board := f10, a_law_bits := f11, a_law_wrapped := f12, a_law_room := f13, a_law_worth := f14, a_law_movable := f15, a_law_is_stand := f16, alaw := fa, dworth := (PySem.W.fnOf "worth" "worth" (defArgs sworth) (defBody sworth) (defScope sworth) .none kV0 dc0 pm0 an0 cd0 ct0), dswitches := (PySem.W.fnOf "switches" "switches" (defArgs sswitches) (defBody sswitches) (defScope sswitches) .none kV1 dc1 pm1 an1 cd1 ct1), dcan_move := (PySem.W.fnOf "can_move" "can_move" (defArgs scan_move) (defBody scan_move) (defScope scan_move) .none kV2 dc2 pm2 an2 cd2 ct2), dmovable := (PySem.W.fnOf "movable" "movable" (defArgs smovable) (defBody smovable) (defScope smovable) .none kV3 dc3 pm3 an3 cd3 ct3), drests := (PySem.W.fnOf "rests" "rests" (defArgs srests) (defBody srests) (defScope srests) .none kV4 dc4 pm4 an4 cd4 ct4), d_law_cell_at := (PySem.W.fnOf "_law_cell_at" "_law_cell_at" (defArgs s_law_cell_at) (defBody s_law_cell_at) (defScope s_law_cell_at) .none kV5 dc5 pm5 an5 cd5 ct5), d_law_pick := (PySem.W.fnOf "_law_pick" "_law_pick" (defArgs s_law_pick) (defBody s_law_pick) (defScope s_law_pick) .none kV6 dc6 pm6 an6 cd6 ct6), d_law_mix := (PySem.W.fnOf "_law_mix" "_law_mix" (defArgs s_law_mix) (defBody s_law_mix) (defScope s_law_mix) .none kV7 dc7 pm7 an7 cd7 ct7), d_law_leaf := (PySem.W.fnOf "_law_leaf" "_law_leaf" (defArgs s_law_leaf) (defBody s_law_leaf) (defScope s_law_leaf) .none kV8 dc8 pm8 an8 cd8 ct8), d_law_word := (PySem.W.fnOf "_law_word" "_law_word" (defArgs s_law_word) (defBody s_law_word) (defScope s_law_word) .none kV9 dc9 pm9 an9 cd9 ct9), d_law_board := (PySem.W.fnOf "_law_board" "_law_board" (defArgs s_law_board) (defBody s_law_board) (defScope s_law_board) .none kV10 dc10 pm10 an10 cd10 ct10), d_law_bits := (PySem.W.fnOf "_law_bits" "_law_bits" (defArgs s_law_bits) (defBody s_law_bits) (defScope s_law_bits) .none kV11 dc11 pm11 an11 cd11 ct11), d_law_wrapped := (PySem.W.fnOf "_law_wrapped" "_law_wrapped" (defArgs s_law_wrapped) (defBody s_law_wrapped) (defScope s_law_wrapped) .none kV12 dc12 pm12 an12 cd12 ct12), d_law_room := (PySem.W.fnOf "_law_room" "_law_room" (defArgs s_law_room) (defBody s_law_room) (defScope s_law_room) .none kV13 dc13 pm13 an13 cd13 ct13), d_law_worth := (PySem.W.fnOf "_law_worth" "_law_worth" (defArgs s_law_worth) (defBody s_law_worth) (defScope s_law_worth) .none kV14 dc14 pm14 an14 cd14 ct14), d_law_movable := (PySem.W.fnOf "_law_movable" "_law_movable" (defArgs s_law_movable) (defBody s_law_movable) (defScope s_law_movable) .none kV15 dc15 pm15 an15 cd15 ct15), d_law_is_stand := (PySem.W.fnOf "_law_is_stand" "_law_is_stand" (defArgs s_law_is_stand) (defBody s_law_is_stand) (defScope s_law_is_stand) .none kV16 dc16 pm16 an16 cd16 ct16), dlaw := (PySem.W.fnOf "law" "law" (defArgs slaw) (defBody slaw) (defScope slaw) .none kV17 dc17 pm17 an17 cd17 ct17) } := {
    F_worth := F0,
    m_worth := PySem.W.mg_of X G a0,
    b_worth := F0.binds (ps := ["word", "stand", "pressed"]) fun _ _ _ _ _ _ us hl => match us, hl with | [_, _, _], _ => rfl,
    F_switches := F1,
    m_switches := PySem.W.mg_of X G a1,
    b_switches := F1.binds (ps := ["many"]) fun _ _ _ _ _ _ us hl => match us, hl with | [_], _ => rfl,
    F_can_move := F2,
    m_can_move := PySem.W.mg_of X G a2,
    b_can_move := F2.binds (ps := ["board", "pressed", "stand", "relay"]) fun _ _ _ _ _ _ us hl => match us, hl with | [_, _, _, _], _ => rfl,
    F_movable := F3,
    m_movable := PySem.W.mg_of X G a3,
    b_movable := F3.binds (ps := ["board", "pressed", "stand"]) fun _ _ _ _ _ _ us hl => match us, hl with | [_, _, _], _ => rfl,
    F_rests := F4,
    m_rests := PySem.W.mg_of X G a4,
    b_rests := F4.binds (ps := ["board", "pressed"]) fun _ _ _ _ _ _ us hl => match us, hl with | [_, _], _ => rfl,
    F__law_cell_at := F5,
    m__law_cell_at := PySem.W.mg_of X G a5,
    b__law_cell_at := F5.binds (ps := ["script", "k"]) fun _ _ _ _ _ _ us hl => match us, hl with | [_, _], _ => rfl,
    F__law_pick := F6,
    m__law_pick := PySem.W.mg_of X G a6,
    b__law_pick := F6.binds (ps := ["script", "k"]) fun _ _ _ _ _ _ us hl => match us, hl with | [_, _], _ => rfl,
    F__law_mix := F7,
    m__law_mix := PySem.W.mg_of X G a7,
    b__law_mix := F7.binds (ps := ["cell", "k"]) fun _ _ _ _ _ _ us hl => match us, hl with | [_, _], _ => rfl,
    F__law_leaf := F8,
    m__law_leaf := PySem.W.mg_of X G a8,
    b__law_leaf := F8.binds (ps := ["mixed", "relays", "buttons"]) fun _ _ _ _ _ _ us hl => match us, hl with | [_, _, _], _ => rfl,
    F__law_word := F9,
    m__law_word := PySem.W.mg_of X G a9,
    b__law_word := F9.binds (ps := ["cell", "k", "deep", "relays", "buttons"]) fun _ _ _ _ _ _ us hl => match us, hl with | [_, _, _, _, _], _ => rfl,
    F__law_board := F10,
    m__law_board := PySem.W.mg_of X G a10,
    b__law_board := F10.binds (ps := ["script", "start", "relays", "buttons", "deep"]) fun _ _ _ _ _ _ us hl => match us, hl with | [_, _, _, _, _], _ => rfl,
    F__law_bits := F11,
    m__law_bits := PySem.W.mg_of X G a11,
    b__law_bits := F11.binds (ps := ["number", "size"]) fun _ _ _ _ _ _ us hl => match us, hl with | [_, _], _ => rfl,
    F__law_wrapped := F12,
    m__law_wrapped := PySem.W.mg_of X G a12,
    b__law_wrapped := F12.binds (ps := ["word", "mixed"]) fun _ _ _ _ _ _ us hl => match us, hl with | [_, _], _ => rfl,
    F__law_room := F13,
    m__law_room := PySem.W.mg_of X G a13,
    b__law_room := F13.binds (ps := ["script"]) fun _ _ _ _ _ _ us hl => match us, hl with | [_], _ => rfl,
    F__law_worth := F14,
    m__law_worth := PySem.W.mg_of X G a14,
    b__law_worth := F14.binds (ps := ["word", "stand", "pressed"]) fun _ _ _ _ _ _ us hl => match us, hl with | [_, _, _], _ => rfl,
    F__law_movable := F15,
    m__law_movable := PySem.W.mg_of X G a15,
    b__law_movable := F15.binds (ps := ["board", "pressed", "stand"]) fun _ _ _ _ _ _ us hl => match us, hl with | [_, _, _], _ => rfl,
    F__law_is_stand := F16,
    m__law_is_stand := PySem.W.mg_of X G a16,
    b__law_is_stand := F16.binds (ps := ["found", "size"]) fun _ _ _ _ _ _ us hl => match us, hl with | [_, _], _ => rfl,
    F_law := F17,
    m_law := PySem.W.mg_of X G a17,
    b_law := F17.binds (ps := ["script"]) fun _ _ _ _ _ _ us hl => match us, hl with | [_], _ => rfl,
    n_range := PySem.W.mg_none_of X G z_range,
    n_tuple := PySem.W.mg_none_of X G z_tuple,
    n_len := PySem.W.mg_none_of X G z_len,
    n_int := PySem.W.mg_none_of X G z_int,
    n_all := PySem.W.mg_none_of X G z_all,
    n_isinstance := PySem.W.mg_none_of X G z_isinstance,
    n_bool := PySem.W.mg_none_of X G z_bool,
    n_list := PySem.W.mg_none_of X G z_list }
  exact ⟨(PySem.W.fnOf "law" "law" (defArgs slaw) (defBody slaw) (defScope slaw) .none kV17 dc17 pm17 an17 cd17 ct17), fun s v => .of_eq rfl, fun base _ _ => ok_law T⟩
end Rl
open PySem PySem.W PyProof.Rows in
set_option maxRecDepth 100000 in
set_option maxHeartbeats 0 in
theorem PySem.Challenge.cw_relayroom_k05_rests_holds : PySem.Challenge.rw_relayroom_k05_rests.Holds := by
  w_on; o_law; k_head; (case hw => w_witness2)
  k_fill
  refine L2.walk_of (l := PySem.Challenge.rw_relayroom_k05_rests) (n := 63) (k := 14) (x := "script") (CX := fun w => L2.CX0) (sp := fun w => Rl.sp_law _) rfl (by decide) rfl ⟨rfl, by decide, by decide⟩ (fun w h Y => PySem.W.kIn_of Y) ?F (fun _ _ a ns hl _ hS => ⟨a, ns, rfl, hS, hl, fun _ => rfl⟩) (fun _ _ _ _ _ h => h)
  case F =>
    intro w mg fa h KX G hmg
    refine' Rl.all_mk KX G hmg ?a0 ?l0 ?c0 ?k0 ?a1 ?l1 ?c1 ?k1 ?a2 ?l2 ?c2 ?k2 ?a3 ?l3 ?c3 ?k3 ?a4 ?l4 ?c4 ?k4 ?a5 ?l5 ?c5 ?k5 ?a6 ?l6 ?c6 ?k6 ?a7 ?l7 ?c7 ?k7 ?a8 ?l8 ?c8 ?k8 ?a9 ?l9 ?c9 ?k9 ?a10 ?l10 ?c10 ?k10 ?a11 ?l11 ?c11 ?k11 ?a12 ?l12 ?c12 ?k12 ?a13 ?l13 ?c13 ?k13 ?a14 ?l14 ?c14 ?k14 ?a15 ?l15 ?c15 ?k15 ?a16 ?l16 ?c16 ?k16 ?a17 ?l17 ?c17 ?k17 ?z_range ?z_tuple ?z_len ?z_int ?z_all ?z_isinstance ?z_bool ?z_list
    (case a0 => k_is)
    (case l0 => k_is)
    (case c0 => k_is)
    (case k0 => k_is)
    (case a1 => k_is)
    (case l1 => k_is)
    (case c1 => k_is)
    (case k1 => k_is)
    (case a2 => k_is)
    (case l2 => k_is)
    (case c2 => k_is)
    (case k2 => k_is)
    (case a3 => k_is)
    (case l3 => k_is)
    (case c3 => k_is)
    (case k3 => k_is)
    (case a4 => k_is)
    (case l4 => k_is)
    (case c4 => k_is)
    (case k4 => k_is)
    (case a5 => k_is)
    (case l5 => k_is)
    (case c5 => k_is)
    (case k5 => k_is)
    (case a6 => k_is)
    (case l6 => k_is)
    (case c6 => k_is)
    (case k6 => k_is)
    (case a7 => k_is)
    (case l7 => k_is)
    (case c7 => k_is)
    (case k7 => k_is)
    (case a8 => k_is)
    (case l8 => k_is)
    (case c8 => k_is)
    (case k8 => k_is)
    (case a9 => k_is)
    (case l9 => k_is)
    (case c9 => k_is)
    (case k9 => k_is)
    (case a10 => k_is)
    (case l10 => k_is)
    (case c10 => k_is)
    (case k10 => k_is)
    (case a11 => k_is)
    (case l11 => k_is)
    (case c11 => k_is)
    (case k11 => k_is)
    (case a12 => k_is)
    (case l12 => k_is)
    (case c12 => k_is)
    (case k12 => k_is)
    (case a13 => k_is)
    (case l13 => k_is)
    (case c13 => k_is)
    (case k13 => k_is)
    (case a14 => k_is)
    (case l14 => k_is)
    (case c14 => k_is)
    (case k14 => k_is)
    (case a15 => k_is)
    (case l15 => k_is)
    (case c15 => k_is)
    (case k15 => k_is)
    (case a16 => k_is)
    (case l16 => k_is)
    (case c16 => k_is)
    (case k16 => k_is)
    (case a17 => k_is)
    (case l17 => k_is)
    (case c17 => k_is)
    (case k17 => k_is)
    (case z_range => k_is)
    (case z_tuple => k_is)
    (case z_len => k_is)
    (case z_int => k_is)
    (case z_all => k_is)
    (case z_isinstance => k_is)
    (case z_bool => k_is)
    (case z_list => k_is)
#print axioms PySem.Challenge.cw_relayroom_k05_rests_holds
