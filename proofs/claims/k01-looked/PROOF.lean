import PyProof.Rows.All
import Wide.All
import OpenK.AllK
import Wide.FinOn
import HandS.ForMost
import HandS.ForExc
import HandS.IsInst
import HandS.ExcIs
import HandS.Flow
import HandS.WideBits
import HandS.Codes
import HandS.TupAny
import HandS.SetBool
import HandS.Conv
import HandS.TupLen
import HandS.Walk
import HandS.Deep
import HandS.SortKw
import KE.KDictDisplayH
import KE.DataMinMax
import PySem.Challenge.RW_relayroom_k01_looked
set_option Elab.async false
set_option linter.all false
set_option maxRecDepth 100000
namespace Rl
open PySem L2
/-! ### words -/
inductive W where
  | on | off | relay (k : Int) | button (k : Int) | not (w : W) | and (a b : W) | or (a b : W)
  deriving DecidableEq
def W.depth : W → Nat
  | .not w => w.depth + 1
  | .and a b => max a.depth b.depth + 1
  | .or a b => max a.depth b.depth + 1
  | _ => 1
/-- all contacts are there: n relays, m buttons -/
def W.wired (n m : Nat) : W → Prop
  | .on => True
  | .off => True
  | .relay k => 0 ≤ k ∧ k < (n : Int)
  | .button k => 0 ≤ k ∧ k < (m : Int)
  | .not w => w.wired n m
  | .and a b => a.wired n m ∧ b.wired n m
  | .or a b => a.wired n m ∧ b.wired n m
theorem W.depth_pos : ∀ w : W, 1 ≤ w.depth
  | .on => Nat.le_refl _
  | .off => Nat.le_refl _
  | .relay _ => Nat.le_refl _
  | .button _ => Nat.le_refl _
  | .not _ => Nat.le_add_left _ _
  | .and _ _ => Nat.le_add_left _ _
  | .or _ _ => Nat.le_add_left _ _
def W.eval (st pr : List Bool) : W → Bool
  | .on => true
  | .off => false
  | .relay k => st.getD k.toNat false
  | .button k => pr.getD k.toNat false
  | .not w => !w.eval st pr
  | .and a b => a.eval st pr && b.eval st pr
  | .or a b => a.eval st pr || b.eval st pr
/-- a word stands at a -/
def WA (H : Hp) : W → Addr → Prop
  | .on, a => H a = some (.tup [.str "on"])
  | .off, a => H a = some (.tup [.str "off"])
  | .relay k, a => H a = some (.tup [.str "relay", .int k])
  | .button k, a => H a = some (.tup [.str "button", .int k])
  | .not w, a => ∃ b, H a = some (.tup [.str "not", .ref b]) ∧ WA H w b
  | .and x y, a => ∃ b c, H a = some (.tup [.str "and", .ref b, .ref c]) ∧ WA H x b ∧ WA H y c
  | .or x y, a => ∃ b c, H a = some (.tup [.str "or", .ref b, .ref c]) ∧ WA H x b ∧ WA H y c
/-- tuples stay -/
def Tk (H H' : Hp) : Prop := ∀ b xs, H b = some (.tup xs) → H' b = some (.tup xs)
theorem Tk.refl (H : Hp) : Tk H H := fun _ _ h => h
theorem Tk.trans {H H1 H2 : Hp} (a : Tk H H1) (b : Tk H1 H2) : Tk H H2 := fun c o h => b c o (a c o h)
theorem Same.tk {H H' : Hp} (s : Same H H') : Tk H H' := fun b xs h => s b _ h
theorem Tk.lst {H : Hp} {D : Addr} {xs ys : List V} (h : H D = some (.lst xs)) : Tk H (upd H D (.lst ys)) := fun b zs q => by
  rw [upd_ne (ne_of q h (by intro z; cases z))]; exact q
theorem Tk.new {H : Hp} {p : Addr} {o : HO} (h : H p = none) : Tk H (upd H p o) := fun b zs q => by
  rw [upd_ne (ne_of_none q h)]; exact q
theorem Same.new {H : Hp} {p : Addr} {o : HO} (h : H p = none) : Same H (upd H p o) := fun b u q => by rw [upd_ne (ne_of_none q h)]; exact q
theorem Same.get {H H' : Hp} {b : Addr} {o : HO} (s : Same H H') (h : H b = some o) : H' b = some o := s b o h
theorem Same.lst {H0 H : Hp} {D : Addr} {o : HO} (h : Same H0 H) (n : H0 D = none) : Same H0 (upd H D o) := fun b u q => by
  rw [upd_ne (ne_of_none q n)]; exact h b u q
theorem WA.tk : ∀ {w : W} {H H' : Hp} {a : Addr}, Tk H H' → WA H w a → WA H' w a
  | .on, _, _, _, t, h => t _ _ h
  | .off, _, _, _, t, h => t _ _ h
  | .relay _, _, _, _, t, h => t _ _ h
  | .button _, _, _, _, t, h => t _ _ h
  | .not _, _, _, _, t, h => let ⟨b, e, q⟩ := h; ⟨b, t _ _ e, WA.tk t q⟩
  | .and _ _, _, _, _, t, h => let ⟨b, c, e, q, r⟩ := h; ⟨b, c, t _ _ e, WA.tk t q, WA.tk t r⟩
  | .or _ _, _, _, _, t, h => let ⟨b, c, e, q, r⟩ := h; ⟨b, c, t _ _ e, WA.tk t q, WA.tk t r⟩
theorem WA.same {w : W} {H H' : Hp} {a : Addr} (s : Same H H') (h : WA H w a) : WA H' w a := WA.tk (Same.tk s) h
/-- a list's items are words -/
def WAs (H : Hp) (ws : List W) (vs : List V) : Prop := Paired (fun (w : W) (v : V) => ∃ a, v = .ref a ∧ WA H w a) ws vs
theorem paired_snoc {α β : Type} {F : α → β → Prop} : ∀ {l : List α} {r : List β} {a : α} {b : β}, Paired F l r → F a b → Paired F (l ++ [a]) (r ++ [b])
  | _, _, _, _, .nil, h => .cons h .nil
  | _, _, _, _, .cons r t, h => .cons r (paired_snoc t h)
theorem paired_get {α β : Type} {F : α → β → Prop} : ∀ {l : List α} {r : List β} {i : Nat} {b : β}, Paired F l r → r[i]? = some b → ∃ a, l[i]? = some a ∧ F a b
  | _, _, _, _, .nil, h => by simp at h
  | _, _, 0, _, .cons r t, h => by simp at h; subst h; exact ⟨_, rfl, r⟩
  | _, _, i + 1, b, .cons r t, h => by
    obtain ⟨a, e, q⟩ := paired_get (i := i) (b := b) t (by simpa using h)
    exact ⟨a, by simpa using e, q⟩
theorem paired_getl {α β : Type} {F : α → β → Prop} : ∀ {l : List α} {r : List β} {i : Nat} {a : α}, Paired F l r → l[i]? = some a → ∃ b, r[i]? = some b ∧ F a b
  | _, _, _, _, .nil, h => by simp at h
  | _, _, 0, _, .cons r t, h => by simp at h; subst h; exact ⟨_, rfl, r⟩
  | _, _, i + 1, a, .cons r t, h => by
    obtain ⟨b, e, q⟩ := paired_getl (i := i) (a := a) t (by simpa using h)
    exact ⟨b, by simpa using e, q⟩
theorem WAs.tk {H H' : Hp} {ws : List W} {vs : List V} (t : Tk H H') (h : WAs H ws vs) : WAs H' ws vs := Paired.mapP h fun _ _ ⟨a, e, q⟩ => ⟨a, e, WA.tk t q⟩
theorem WAs.same {H H' : Hp} {ws : List W} {vs : List V} (t : Same H H') (h : WAs H ws vs) : WAs H' ws vs := WAs.tk (Same.tk t) h
theorem WAs.length {H : Hp} {ws : List W} {vs : List V} (h : WAs H ws vs) : ws.length = vs.length := Paired.length h
theorem inV_bl (b : Bool) : ∀ bs : List Bool, inV (.bl b) (bs.map V.bl) = bs.any (fun x => x == b)
  | [] => rfl
  | x :: r => by
    show (eqV (.bl x) (.bl b) || inV (.bl b) (r.map V.bl)) = ((x == b) || r.any (fun x => x == b))
    rw [inV_bl b r]
    cases x <;> cases b <;> rfl
theorem flat_bl : ∀ bs : List Bool, (bs.map V.bl).all flatV = true
  | [] => rfl
  | _ :: r => flat_bl r
def W.parts : W → List W
  | .not w => [w]
  | .and a b => [a, b]
  | .or a b => [a, b]
  | _ => []
theorem cut1 (x : V) (xs : List V) : cutV (x :: xs) (some 1) none = xs := by
  unfold cutV
  rw [show HT.sIx (x :: xs).length 0 (some 1) = min 1 (x :: xs).length from HT.sIx_nat (x :: xs).length 0 1, HT.sIx_none]
  rw [show min 1 (x :: xs).length = 1 by rw [List.length_cons]; omega]
  show List.take ((x :: xs).length - 1) xs = xs
  rw [List.length_cons, Nat.add_sub_cancel]
  exact List.take_length
/-- a word's place, told by its tag and its parts -/
def W.tag : W → Str
  | .on => "on" | .off => "off" | .relay _ => "relay" | .button _ => "button" | .not _ => "not" | .and _ _ => "and" | .or _ _ => "or"
theorem WA.parts {H : Hp} {w : W} {a : Addr} (h : WA H w a) (n1 : ∀ k, w ≠ .relay k) (n2 : ∀ k, w ≠ .button k) : ∃ us, H a = some (.tup (.str w.tag :: us)) ∧ WAs H w.parts us := by
  cases w with
  | on => exact ⟨[], h, .nil⟩
  | off => exact ⟨[], h, .nil⟩
  | relay k => exact absurd rfl (n1 k)
  | button k => exact absurd rfl (n2 k)
  | not x => obtain ⟨b, e, q⟩ := h; exact ⟨_, e, .cons ⟨b, rfl, q⟩ .nil⟩
  | and x y => obtain ⟨b, c, e, q, r⟩ := h; exact ⟨_, e, .cons ⟨b, rfl, q⟩ (.cons ⟨c, rfl, r⟩ .nil)⟩
  | or x y => obtain ⟨b, c, e, q, r⟩ := h; exact ⟨_, e, .cons ⟨b, rfl, q⟩ (.cons ⟨c, rfl, r⟩ .nil)⟩
theorem parts_ok {w x : W} {n m N : Nat} (hx : x ∈ w.parts) (hw : w.wired n m) (hd : w.depth ≤ N + 1) : x.wired n m ∧ x.depth ≤ N := by
  cases w with
  | not y =>
    rcases List.mem_singleton.mp hx with rfl
    exact ⟨hw, Nat.le_of_succ_le_succ hd⟩
  | and y z =>
    have hd' : max y.depth z.depth + 1 ≤ N + 1 := hd
    rcases List.mem_cons.mp hx with rfl | hx
    · exact ⟨hw.1, by omega⟩
    · rcases List.mem_singleton.mp hx with rfl
      exact ⟨hw.2, by omega⟩
  | or y z =>
    have hd' : max y.depth z.depth + 1 ≤ N + 1 := hd
    rcases List.mem_cons.mp hx with rfl | hx
    · exact ⟨hw.1, by omega⟩
    · rcases List.mem_singleton.mp hx with rfl
      exact ⟨hw.2, by omega⟩
  | on => cases hx
  | off => cases hx
  | relay k => cases hx
  | button k => cases hx
/-! ### tests -/
theorem iF {c : Bool} {A B : Prop} (h : c = false) (q : B) : if c = true then A else B := by rw [h]; exact iteF q
theorem iT {c : Bool} {A B : Prop} (h : c = true) (q : A) : if c = true then A else B := by rw [h]; exact iteT q
theorem iB {c : Bool} {A B : Prop} (h1 : c = true → A) (h2 : c = false → B) : if c = true then A else B := by
  cases c with
  | true => exact iteT (h1 rfl)
  | false => exact iteF (h2 rfl)
abbrev rLenSeq (K : PySem.W.Frag) : List V → Hp → VK → Prop := fun xs H Q => ∃ p ys, xs = [.ref p] ∧ (SqL K H p ys ∨ SqT K H p ys) ∧ Q (.int ys.length) H
theorem tag_val {K : PySem.W.Frag} {σ : St} {H : Hp} {Q : VK} {i : Nat} {a : Addr} {t s : Str} {rest : List V} (h : σ[i]? = some (some (.ref a))) (e : H a = some (.tup (.str t :: rest))) (q : Q (.bl (decide (V.str t = V.str s))) H) :
    tOp rEq (tOp (rIxT K) (tVar i) (tC (.int 0))) (tC (.str s)) σ H Q := ⟨_, h, _, _, _, _, rfl, rfl, .of e, atI_nat (j := 0) rfl, rfl, q⟩
theorem tag_test {K : PySem.W.Frag} {σ : St} {H : Hp} {Q : Bool → Hp → Prop} {i : Nat} {a : Addr} {t s : Str} {rest : List V} (h : σ[i]? = some (some (.ref a))) (e : H a = some (.tup (.str t :: rest))) (q : Q (decide (V.str t = V.str s)) H) :
    tTest (tOp rEq (tOp (rIxT K) (tVar i) (tC (.int 0))) (tC (.str s))) σ H Q := tag_val h e ⟨_, rfl, q⟩
theorem at_bl {bs : List Bool} {k : Int} (h0 : 0 ≤ k) (h1 : k < (bs.length : Int)) : atI (bs.map V.bl) k = some (.bl (bs.getD k.toNat false)) := by
  have h : k.toNat < bs.length := by omega
  refine at_of (j := k.toNat) (by omega) ?_
  rw [List.getElem?_map, List.getElem?_eq_getElem h, List.getD_eq_getElem?_getD, List.getElem?_eq_getElem h]; rfl
theorem notF {b : Bool} (h : (!b) = false) : b = true := by cases b <;> first | rfl | cases h
theorem notT {b : Bool} (h : (!b) = true) : b = false := by cases b <;> first | rfl | cases h
theorem WA.pairs {H : Hp} {x : W} {a : Addr} (h : WA H x a) : (∃ y z, x = .and y z) ∨ (∃ y z, x = .or y z) ∨ (∃ t us, H a = some (.tup (.str t :: us)) ∧ decide (V.str t = V.str "and") = false ∧ decide (V.str t = V.str "or") = false) := by
  cases x with
  | and y z => exact .inl ⟨_, _, rfl⟩
  | or y z => exact .inr (.inl ⟨_, _, rfl⟩)
  | not y => obtain ⟨b, e, _⟩ := h; exact .inr (.inr ⟨_, _, e, decide_eq_false (by decide +kernel), decide_eq_false (by decide +kernel)⟩)
  | on => exact .inr (.inr ⟨_, _, h, decide_eq_false (by decide +kernel), decide_eq_false (by decide +kernel)⟩)
  | off => exact .inr (.inr ⟨_, _, h, decide_eq_false (by decide +kernel), decide_eq_false (by decide +kernel)⟩)
  | relay k => exact .inr (.inr ⟨_, _, h, decide_eq_false (by decide +kernel), decide_eq_false (by decide +kernel)⟩)
  | button k => exact .inr (.inr ⟨_, _, h, decide_eq_false (by decide +kernel), decide_eq_false (by decide +kernel)⟩)
theorem small10 {n : Nat} (h : n ≤ 10000) : n ≤ sizeLine := Nat.le_trans h (by decide)
theorem small11 {n : Nat} (h : n ≤ 10000) : n < sizeLine := Nat.lt_of_le_of_lt h (by decide)
/-! ### data of the law's own -/
def bits (z : Int) (n : Nat) : List Bool := (List.range n).map fun k => decide (z / 2 ^ k % 2 = 1)
theorem bits_succ (z : Int) (n : Nat) : bits z (n + 1) = bits z n ++ [decide (z / 2 ^ n % 2 = 1)] := by unfold bits; rw [List.range_succ, List.map_append]; rfl
theorem bits_len (z : Int) (n : Nat) : (bits z n).length = n := by unfold bits; rw [List.length_map, List.length_range]
theorem dec_vi (a b : Int) : decide (V.int a = V.int b) = decide (a = b) := decide_eq_decide.mpr ⟨fun e => V.int.inj e, fun e => by rw [e]⟩
theorem toNat0 (i : Nat) : ((0 : Int) + (i : Int)).toNat = i := by omega
def Fit (n m : Nat) (d : Int) (w : W) : Prop := w.wired n m ∧ (w.depth : Int) ≤ d
def Fits (n m : Nat) (d : Int) (ws : List W) : Prop := ∀ w ∈ ws, Fit n m d w
theorem Fits.snoc {n m : Nat} {d : Int} {ws : List W} {w : W} (h : Fits n m d ws) (f : Fit n m d w) : Fits n m d (ws ++ [w]) := fun x hx => by
  rcases List.mem_append.mp hx with q | q
  · exact h x q
  · rw [List.mem_singleton.mp q]; exact f
/-- a list of tuples of bools -/
def Tups (H : Hp) (bss : List (List Bool)) (us : List V) : Prop := Paired (fun (bs : List Bool) (v : V) => ∃ a, v = .ref a ∧ H a = some (.tup (bs.map V.bl))) bss us
theorem Tups.tk {H H' : Hp} {bss : List (List Bool)} {us : List V} (t : Tk H H') (h : Tups H bss us) : Tups H' bss us := Paired.mapP h fun _ _ ⟨a, e, q⟩ => ⟨a, e, t _ _ q⟩
theorem Tups.same {H H' : Hp} {bss : List (List Bool)} {us : List V} (t : Same H H') (h : Tups H bss us) : Tups H' bss us := Tups.tk (Same.tk t) h
theorem Tups.length {H : Hp} {bss : List (List Bool)} {us : List V} (h : Tups H bss us) : bss.length = us.length := Paired.length h
def allBits (n i : Nat) : List (List Bool) := (List.range i).map fun (k : Nat) => bits (k : Int) n
theorem allBits_succ (n i : Nat) : allBits n (i + 1) = allBits n i ++ [bits (i : Int) n] := by unfold allBits; rw [List.range_succ, List.map_append]; rfl
theorem allBits_len (n i : Nat) : (allBits n i).length = i := by unfold allBits; rw [List.length_map, List.length_range]
theorem allBits_get {n i k : Nat} (h : k < i) : (allBits n i)[k]? = some (bits (k : Int) n) := by
  unfold allBits
  rw [List.getElem?_map, List.getElem?_range h]; rfl
theorem allBits_get' {n i k : Nat} {bs : List Bool} (h : (allBits n i)[k]? = some bs) : k < i ∧ bs = bits (k : Int) n := by
  have hk : k < i := by
    have := (List.getElem?_eq_some_iff.mp h).1
    rw [allBits_len] at this; exact this
  rw [allBits_get hk] at h
  exact ⟨hk, (Option.some.inj h).symm⟩
theorem shl_one (n : Nat) : ((1 : Int) * 2 ^ ((n : Int).toNat)).toNat = 2 ^ n := by
  rw [Int.one_mul, Int.toNat_natCast]
  have : ((2 : Int) ^ n) = ((2 ^ n : Nat) : Int) := by rw [Int.natCast_pow]; rfl
  rw [this, Int.toNat_natCast]
theorem pow_le64 {n : Nat} (h : n ≤ 6) : 2 ^ n ≤ 64 := Nat.pow_le_pow_right (by decide) h
theorem pow_cast (n : Nat) : ((2 : Int) ^ n) = ((2 ^ n : Nat) : Int) := by rw [Int.natCast_pow]; rfl
section
variable {P : Program} {w : World} {K : PySem.W.Frag} {mg : Str → Option Value} {base : Heap}
theorem fn_none {k : Nat} {f : Addr} {fd : FuncData} {ps : List Str} {sp : Sp} (no : ∀ vs H Q E, ¬ sp vs H Q E) : FnOk P w K mg base CX0 k f fd ps sp :=
  ⟨fun vs H Q E h => absurd h (no vs H Q E), fun A outer s H args us vs Q E _ _ _ _ h => absurd h (no vs H Q E)⟩
end
/-! ### data for == -/
def Sh (d : PyData) (k : Nat) : Prop := d.canLay0 = true ∧ d.depth ≤ k
theorem Sh.shaped {d : PyData} {k : Nat} (h : Sh d k) (hk : k ≤ 64) : SeqAt.shaped d = true := by
  unfold SeqAt.shaped
  rw [h.1, decide_eq_true (Nat.le_trans h.2 hk)]; rfl
theorem Sh.refl {d : PyData} {k : Nat} (h : Sh d k) : PyData.eqv d d = true := SeqAt.eqv_refl d h.1
theorem Sh.bool (b : Bool) (k : Nat) : Sh (.bool b) k := ⟨by simp [PyData.canLay0], by simp [PyData.depth]⟩
theorem Sh.int (b : Int) (k : Nat) : Sh (.int b) k := ⟨by simp [PyData.canLay0], by simp [PyData.depth]⟩
theorem Sh.str (b : Str) (k : Nat) (h : PyData.strOk b = true := by decide +kernel) : Sh (.str b) k := ⟨by simp [PyData.canLay0, h], by simp [PyData.depth]⟩
theorem Sh.all {k : Nat} : ∀ {ds : List PyData}, (∀ d ∈ ds, Sh d k) → PyData.canLayAll0 ds = true ∧ PyData.depthAll ds ≤ k
  | [], _ => by simp [PyData.canLayAll0, PyData.depthAll]
  | d :: ds, h => by
    have h1 := h d (.head _)
    have h2 := Sh.all (ds := ds) fun e he => h e (.tail _ he)
    simp only [PyData.canLayAll0, PyData.depthAll, h1.1, h2.1, Bool.and_self, true_and]
    have a1 := h1.2
    have a2 := h2.2
    omega
theorem Sh.tup {k : Nat} {ds : List PyData} (h : ∀ d ∈ ds, Sh d k) : Sh (.tuple ds) (k + 1) := by
  have q := Sh.all h
  refine ⟨by simp [PyData.canLay0, q.1], ?_⟩
  have := q.2
  simp only [PyData.depth]; omega
theorem Sh.lst {k : Nat} {ds : List PyData} (h : ∀ d ∈ ds, Sh d k) : Sh (.list ds) (k + 1) := by
  have q := Sh.all h
  refine ⟨by simp [PyData.canLay0, q.1], ?_⟩
  have := q.2
  simp only [PyData.depth]; omega
theorem Sh.mono {d : PyData} {k j : Nat} (h : Sh d k) (hk : k ≤ j) : Sh d j := ⟨h.1, Nat.le_trans h.2 hk⟩
theorem dpAll_map {α : Type} {K : PySem.W.Frag} {H : Hp} {f : α → V} {g : α → PyData} : ∀ {l : List α}, (∀ x ∈ l, Dp K H (f x) (g x)) → DpAll K H (l.map f) (l.map g)
  | [], _ => .nil
  | x :: _, h => .cons (h x (.head _)) (dpAll_map fun y hy => h y (.tail _ hy))
def bd (bs : List Bool) : PyData := .tuple (bs.map PyData.bool)
theorem shB (bs : List Bool) : Sh (bd bs) 1 := Sh.tup fun d hd => by
  obtain ⟨b, _, rfl⟩ := List.mem_map.mp hd
  exact Sh.bool b 0
theorem dpB {K : PySem.W.Frag} {H : Hp} {a : Addr} {bs : List Bool} (h : H a = some (.tup (bs.map V.bl))) : Dp K H (.ref a) (bd bs) := .tup (.of h) (dpAll_map fun b _ => .bl b)
theorem eqv_bools : ∀ as bs : List Bool, PyData.eqvAll (as.map PyData.bool) (bs.map PyData.bool) = decide (as = bs)
  | [], [] => by simp [PyData.eqvAll]
  | [], _ :: _ => by simp [PyData.eqvAll]
  | _ :: _, [] => by simp [PyData.eqvAll]
  | a :: as, b :: bs => by
    simp only [List.map_cons, PyData.eqvAll, eqv_bools as bs, List.cons.injEq]
    cases a <;> cases b <;> simp [PyData.eqv]
theorem eqv_bd (as bs : List Bool) : PyData.eqv (bd as) (bd bs) = decide (as = bs) := by
  unfold bd
  simp only [PyData.eqv, eqv_bools]
/-- a word as data -/
def wd : W → PyData
  | .on => .tuple [.str "on"]
  | .off => .tuple [.str "off"]
  | .relay k => .tuple [.str "relay", .int k]
  | .button k => .tuple [.str "button", .int k]
  | .not x => .tuple [.str "not", wd x]
  | .and x y => .tuple [.str "and", wd x, wd y]
  | .or x y => .tuple [.str "or", wd x, wd y]
theorem dpW {K : PySem.W.Frag} {H : Hp} : ∀ {w : W} {a : Addr}, WA H w a → Dp K H (.ref a) (wd w)
  | .on, _, h => .tup (.of h) (.cons (.str _) .nil)
  | .off, _, h => .tup (.of h) (.cons (.str _) .nil)
  | .relay _, _, h => .tup (.of h) (.cons (.str _) (.cons (.int _) .nil))
  | .button _, _, h => .tup (.of h) (.cons (.str _) (.cons (.int _) .nil))
  | .not _, _, h => let ⟨_, e, q⟩ := h; .tup (.of e) (.cons (.str _) (.cons (dpW q) .nil))
  | .and _ _, _, h => let ⟨_, _, e, q, r⟩ := h; .tup (.of e) (.cons (.str _) (.cons (dpW q) (.cons (dpW r) .nil)))
  | .or _ _, _, h => let ⟨_, _, e, q, r⟩ := h; .tup (.of e) (.cons (.str _) (.cons (dpW q) (.cons (dpW r) .nil)))
theorem shW : ∀ w : W, Sh (wd w) w.depth
  | .on => Sh.tup (k := 0) fun d hd => by simp at hd; subst hd; exact Sh.str _ _
  | .off => Sh.tup (k := 0) fun d hd => by simp at hd; subst hd; exact Sh.str _ _
  | .relay _ => Sh.tup (k := 0) fun d hd => by simp at hd; rcases hd with rfl | rfl <;> first | exact Sh.str _ _ | exact Sh.int _ _
  | .button _ => Sh.tup (k := 0) fun d hd => by simp at hd; rcases hd with rfl | rfl <;> first | exact Sh.str _ _ | exact Sh.int _ _
  | .not x => Sh.tup (k := x.depth) fun d hd => by simp at hd; rcases hd with rfl | rfl <;> first | exact Sh.str _ _ | exact shW x
  | .and x y => Sh.tup (k := max x.depth y.depth) fun d hd => by
    simp at hd; rcases hd with rfl | rfl | rfl
    · exact Sh.str _ _
    · exact (shW x).mono (Nat.le_max_left _ _)
    · exact (shW y).mono (Nat.le_max_right _ _)
  | .or x y => Sh.tup (k := max x.depth y.depth) fun d hd => by
    simp at hd; rcases hd with rfl | rfl | rfl
    · exact Sh.str _ _
    · exact (shW x).mono (Nat.le_max_left _ _)
    · exact (shW y).mono (Nat.le_max_right _ _)
/-! ### numbers and bits -/
theorem bit_nat (j k : Nat) : decide ((j : Int) / 2 ^ k % 2 = 1) = Nat.testBit j k := by
  rw [Nat.testBit_eq_decide_div_mod_eq]
  refine decide_eq_decide.mpr ?_
  rw [pow_cast, ← Int.natCast_ediv]
  omega
theorem bits_nat (j n : Nat) : bits (j : Int) n = (List.range n).map (Nat.testBit j) := by
  unfold bits
  exact List.map_congr_left fun k _ => bit_nat j k
theorem bits_mod (j n : Nat) : bits (j : Int) n = bits ((j % 2 ^ n : Nat) : Int) n := by
  rw [bits_nat, bits_nat]
  refine List.map_congr_left fun k hk => ?_
  rw [Nat.testBit_mod_two_pow, decide_eq_true (List.mem_range.mp hk), Bool.true_and]
theorem shr_nat (j n : Nat) : (j : Int) / 2 ^ n = ((j / 2 ^ n : Nat) : Int) := by rw [pow_cast, Int.natCast_ediv]
/-! ### boards -/
def canMove (ws : List W) (ps ss : List Bool) (k : Nat) : Bool := (ws.getD k .off).eval ss ps != ss.getD k false
def movL (ws : List W) (ps ss : List Bool) : List Nat := (List.range ws.length).filter (canMove ws ps ss)
def vn (k : Nat) : V := .int (k : Int)
structure BoardAt (H : Hp) (b : Addr) (us : List V) (ws : List W) (n m : Nat) : Prop where
  lst : H b = some (.lst us)
  was : WAs H ws us
  len : ws.length = n
  n6 : n ≤ 6
  fit : Fits n m 10 ws
theorem BoardAt.same {H H' : Hp} {b : Addr} {us : List V} {ws : List W} {n m : Nat} (B : BoardAt H b us ws n m) (s : Same H H') : BoardAt H' b us ws n m := ⟨s _ _ B.lst, WAs.same s B.was, B.len, B.n6, B.fit⟩
theorem BoardAt.ulen {H : Hp} {b : Addr} {us : List V} {ws : List W} {n m : Nat} (B : BoardAt H b us ws n m) : us.length = n := by rw [← WAs.length B.was]; exact B.len
theorem BoardAt.at {H : Hp} {b : Addr} {us : List V} {ws : List W} {n m : Nat} (B : BoardAt H b us ws n m) {k : Nat} (h : k < n) : ∃ c, us[k]? = some (.ref c) ∧ WA H (ws.getD k .off) c ∧ Fit n m 10 (ws.getD k .off) := by
  have hk : k < ws.length := by rw [B.len]; exact h
  obtain ⟨v, hv, c, rfl, hc⟩ := paired_getl B.was (List.getElem?_eq_getElem hk)
  have e : ws.getD k .off = ws[k] := by rw [List.getD_eq_getElem?_getD, List.getElem?_eq_getElem hk]; rfl
  rw [e]
  exact ⟨c, hv, hc, B.fit _ (List.getElem_mem hk)⟩
theorem Fits.mono {n m : Nat} {d e : Int} {ws : List W} (h : Fits n m d ws) (hd : d ≤ e) : Fits n m e ws := fun w hw => ⟨(h w hw).1, Int.le_trans (h w hw).2 hd⟩
theorem filter_snoc {α : Type} (f : α → Bool) (l : List α) (x : α) : (l ++ [x]).filter f = if f x = true then l.filter f ++ [x] else l.filter f := by
  rw [List.filter_append]
  by_cases h : f x = true
  · rw [if_pos h]; simp [h]
  · rw [if_neg h]; simp [h]
theorem movL_le (ws : List W) (ps ss : List Bool) : (movL ws ps ss).length ≤ ws.length := by
  unfold movL
  have := List.length_filter_le (canMove ws ps ss) (List.range ws.length)
  rw [List.length_range] at this
  exact this
def il (ks : List Nat) : PyData := .list (ks.map fun (k : Nat) => PyData.int (k : Int))
theorem shI (ks : List Nat) : Sh (il ks) 1 := Sh.lst fun d hd => by
  obtain ⟨b, _, rfl⟩ := List.mem_map.mp hd
  exact Sh.int _ 0
theorem dpI {K : PySem.W.Frag} {H : Hp} {a : Addr} {ks : List Nat} (h : H a = some (.lst (ks.map vn))) : Dp K H (.ref a) (il ks) := .lst (.of h) (dpAll_map fun b _ => .int b)
theorem eqv_ints : ∀ as bs : List Nat, PyData.eqvAll (as.map fun (k : Nat) => PyData.int (k : Int)) (bs.map fun (k : Nat) => PyData.int (k : Int)) = decide (as = bs)
  | [], [] => by simp [PyData.eqvAll]
  | [], _ :: _ => by simp [PyData.eqvAll]
  | _ :: _, [] => by simp [PyData.eqvAll]
  | a :: as, b :: bs => by
    simp only [List.map_cons, PyData.eqvAll, eqv_ints as bs, List.cons.injEq]
    by_cases h : a = b
    · subst h; simp [PyData.eqv]
    · have : ¬ (a : Int) = (b : Int) := fun e => h (by omega)
      simp [PyData.eqv, h, this]
theorem eqv_il (as bs : List Nat) : PyData.eqv (il as) (il bs) = decide (as = bs) := by
  unfold il
  simp only [PyData.eqv, eqv_ints]
theorem dpTs {K : PySem.W.Frag} {H : Hp} : ∀ {bss : List (List Bool)} {us : List V}, Tups H bss us → DpAll K H us (bss.map bd)
  | _, _, .nil => .nil
  | _, _, .cons ⟨_, e, h⟩ t => .cons (e ▸ dpB h) (dpTs t)
theorem shTs (bss : List (List Bool)) : Sh (.list (bss.map bd)) 2 := Sh.lst fun d hd => by
  obtain ⟨b, _, rfl⟩ := List.mem_map.mp hd
  exact shB b
theorem dpWs {K : PySem.W.Frag} {H : Hp} : ∀ {ws : List W} {us : List V}, WAs H ws us → DpAll K H us (ws.map wd)
  | _, _, .nil => .nil
  | _, _, .cons ⟨_, e, h⟩ t => .cons (e ▸ dpW h) (dpWs t)
theorem shWs {n m : Nat} {ws : List W} {k : Nat} (h : Fits n m (k : Int) ws) : Sh (.list (ws.map wd)) (k + 1) := Sh.lst fun d hd => by
  obtain ⟨x, hx, rfl⟩ := List.mem_map.mp hd
  exact (shW x).mono (by have := (h x hx).2; omega)
/-! ### classes of the program -/
theorem kit_own {K : PySem.W.Frag} {D C : Addr} {b : Bool} (hC : PySem.W.isClsIn K C = true) (tC : PySem.W.typeIn K (.ref C) = some (.type "type")) (s : PySem.W.subIn K (.ref D) (.ref C) = some b) (self : PySem.W.subIn K (.ref D) (.ref D) = some true) :
    PySem.W.kitOne K (.ref D) (.ref C) = some b := by
  unfold PySem.W.kitOne PySem.W.kitCls
  by_cases h : D = C
  · subst h
    rw [self] at s
    rw [if_pos (beq_self_eq_true _)]
    exact s
  · have h1 : ¬ ((Value.ref D == Value.ref C) = true) := fun e => h (by have := of_decide_eq_true (p := _) e; cases beq_iff_eq.mp e; rfl)
    rw [if_neg h1]
    have e2 : ((PySem.W.clsIn K C).isSome && PySem.W.typeIn K (.ref C) == some (.type "type")) = true := by
      have hC' : (PySem.W.clsIn K C).isSome = true := hC
      rw [hC', tC]; rfl
    show (if ((PySem.W.clsIn K C).isSome && PySem.W.typeIn K (.ref C) == some (.type "type")) = true then PySem.W.subIn K (.ref D) (.ref C) else none) = some b
    rw [if_pos e2]
    exact s
theorem kit_val {K : PySem.W.Frag} {D : Addr} (s : PySem.W.subIn K (.ref D) (.type "ValueError") = some true) : PySem.W.kitOne K (.ref D) (.type "ValueError") = some true := by
  unfold PySem.W.kitOne PySem.W.kitCls
  have h1 : ¬ ((Value.ref D == Value.type "ValueError") = true) := fun e => by cases beq_iff_eq.mp e
  rw [if_neg h1]
  show (if PySem.W.kitMeta "ValueError" = true then PySem.W.subIn K (.ref D) (.type "ValueError") else none) = some true
  rw [if_pos (by decide +kernel)]
  exact s
theorem exm_own {K : PySem.W.Frag} {D C : Addr} (h1 : PySem.W.subIn K (.ref C) (.type "BaseException") = some true) (hC : PySem.W.isClsIn K C = true) (tC : PySem.W.typeIn K (.ref C) = some (.type "type")) (s : PySem.W.subIn K (.ref D) (.ref C) = some true) : PySem.W.exmOne K (.ref D) (.ref C) = some true := by
  have e1 : (PySem.W.subIn K (.ref C) (.type "BaseException") == some true) = true := by rw [h1]; rfl
  have e2 : ((PySem.W.clsIn K C).isSome && PySem.W.typeIn K (.ref C) == some (.type "type")) = true := by
    have hC' : (PySem.W.clsIn K C).isSome = true := hC
    rw [hC', tC]; rfl
  show (if (PySem.W.subIn K (.ref C) (.type "BaseException") == some true) = true then (if ((PySem.W.clsIn K C).isSome && PySem.W.typeIn K (.ref C) == some (.type "type")) = true then PySem.W.subIn K (.ref D) (.ref C) else none) else none) = some true
  rw [if_pos e1, if_pos e2]
  exact s
/-! ### a suite that marks what was caught -/
def rIsX (K : PySem.W.Frag) (a : Addr) (cls : Value) (d : Option Addr) : List V → Hp → VK → Prop := fun xs H Q => ∃ D, cls = .ref D ∧ d = none ∧ ExcC K D ∧ rIsE K D a xs H Q
theorem call_isX {X : Cx} {a : Addr} {oe : Obj} {pn : List (Addr × Obj)} {cls : Value} {d : Option Addr} (hz : Zc cls d oe) (hf : ∃ vs, oe.data = .fields vs) : CallR (X.suite a ((a, oe) :: pn)) (.builtin "isinstance") (rIsX X.K a cls d) := by
  intro pins s σ H xs us Q I r h
  obtain ⟨D, rfl, rfl, E, q⟩ := h
  exact call_isE E hz hf pins s σ H xs us Q I r q
def tMark (K : PySem.W.Frag) (a : Addr) (cls : Value) (d : Option Addr) (i : Nat) (v : V) : TE := tCB (rIsX K a cls d) (tCons (tVar i) (tCons (tC v) tNil))
def tSuite (K : PySem.W.Frag) (c1 c2 c3 c4 c5 c6 : Addr) (i j : Nat) (a : Addr) (cls : Value) (d : Option Addr) : TS :=
  tSeq (tAsg (tLst (tCons (tMark K a cls d i (.ref c1)) (tCons (tMark K a cls d i (.ref c2)) (tCons (tMark K a cls d i (.ref c3)) (tCons (tMark K a cls d i (.ref c4)) tNil))))) (gName j))
    (tAsg (tOp rCat (tVar j) (tLst (tCons (tMark K a cls d i (.ref c5)) (tCons (tMark K a cls d i (.ref c6)) (tCons (tMark K a cls d i (.ty "ValueError")) tNil))))) (gName j))
theorem mark_run {K : PySem.W.Frag} {a D : Addr} {i : Nat} {v : V} {cv : Value} {b : Bool} {σ : St} {H : Hp} {Q : VK} (E : ExcC K D) (hi : σ[i]? = some (some (.ref a))) (hv : ∀ u, RelV v u → u = cv) (k : PySem.W.kitOne K (.ref D) cv = some b) (q : Q (.bl b) H) :
    tMark K a (.ref D) none i v σ H Q := ⟨_, hi, D, rfl, rfl, E, v, cv, b, rfl, hv, k, q⟩
theorem suite_run {K : PySem.W.Frag} {c1 c2 c3 c4 c5 c6 : Addr} {i j : Nat} {a D : Addr} {b1 b2 b3 b4 b5 b6 : Bool} {σ : St} {H : Hp} {Dn : Ends} (E : ExcC K D)
    (k1 : PySem.W.kitOne K (.ref D) (.ref c1) = some b1) (k2 : PySem.W.kitOne K (.ref D) (.ref c2) = some b2) (k3 : PySem.W.kitOne K (.ref D) (.ref c3) = some b3) (k4 : PySem.W.kitOne K (.ref D) (.ref c4) = some b4)
    (k5 : PySem.W.kitOne K (.ref D) (.ref c5) = some b5) (k6 : PySem.W.kitOne K (.ref D) (.ref c6) = some b6) (kv : PySem.W.kitOne K (.ref D) (.type "ValueError") = some true) (hi : σ[i]? = some (some (.ref a))) (hj : j < σ.length) (hij : j ≠ i)
    (q : ∀ (H' : Hp) (p0 p : Addr), Same H H' → H' p = some (.lst ([b1, b2, b3, b4, b5, b6, true].map V.bl)) → Dn.nx ((σ.set j (some (.ref p0))).set j (some (.ref p))) H') : tSuite K c1 c2 c3 c4 c5 c6 i j a (.ref D) none Dn σ H := by
  refine mark_run E hi (fun u h => h) k1 (mark_run E hi (fun u h => h) k2 (mark_run E hi (fun u h => h) k3 (mark_run E hi (fun u h => h) k4 ⟨small10 (Nat.le_of_ble_eq_true rfl), fun p0 np0 => ?_⟩)))
  have s0 : Same H (upd H p0 (.lst [.bl b1, .bl b2, .bl b3, .bl b4])) := Same.new np0
  have e0 : (upd H p0 (.lst [.bl b1, .bl b2, .bl b3, .bl b4])) p0 = some (.lst [.bl b1, .bl b2, .bl b3, .bl b4]) := upd_same
  generalize upd H p0 (.lst [.bl b1, .bl b2, .bl b3, .bl b4]) = H1 at *
  have hi2 : (σ.set j (some (.ref p0)))[i]? = some (some (.ref a)) := by rw [List.getElem?_set_ne hij]; exact hi
  refine ⟨_, List.getElem?_set_self hj, ?_⟩
  refine mark_run E hi2 (fun u h => h) k5 (mark_run E hi2 (fun u h => h) k6 (mark_run E hi2 (fun u h => h) kv ⟨small10 (Nat.le_of_ble_eq_true rfl), fun p1 np1 => ?_⟩))
  have s1 : Same H1 (upd H1 p1 (.lst [.bl b5, .bl b6, .bl true])) := Same.new np1
  have e1 : (upd H1 p1 (.lst [.bl b5, .bl b6, .bl true])) p1 = some (.lst [.bl b5, .bl b6, .bl true]) := upd_same
  generalize upd H1 p1 (.lst [.bl b5, .bl b6, .bl true]) = H2 at *
  refine ⟨p0, p1, _, _, rfl, rfl, s1 _ _ e0, e1, small10 (Nat.le_of_ble_eq_true rfl), fun p2 np2 => ?_⟩
  exact q _ p0 p2 (s0.trans (s1.trans (Same.new np2))) upd_same
/-! ### walks -/
def flip (ss : List Bool) (k : Nat) : List Bool := ss.set k (!ss.getD k false)
theorem flip_len (ss : List Bool) (k : Nat) : (flip ss k).length = ss.length := List.length_set
inductive WR where
  | norelay | still | at (ss : List Bool)
def walkR (ws : List W) (ps : List Bool) : List Bool → List Int → WR
  | ss, [] => .at ss
  | ss, r :: rs => if 0 ≤ r ∧ r < (ws.length : Int) then (if canMove ws ps ss r.toNat = true then walkR ws ps (flip ss r.toNat) rs else .still) else .norelay
theorem walkR_snoc (ws : List W) (ps : List Bool) (r : Int) : ∀ (rs : List Int) (ss : List Bool), walkR ws ps ss (rs ++ [r]) = match walkR ws ps ss rs with
    | .at t => walkR ws ps t [r]
    | e => e
  | [], ss => rfl
  | x :: rs, ss => by
    show walkR ws ps ss (x :: (rs ++ [r])) = _
    simp only [walkR]
    by_cases h : 0 ≤ x ∧ x < (ws.length : Int)
    · rw [if_pos h, if_pos h]
      by_cases h2 : canMove ws ps ss x.toNat = true
      · rw [if_pos h2, if_pos h2]; exact walkR_snoc ws ps r rs _
      · rw [if_neg h2, if_neg h2]
    · rw [if_neg h, if_neg h]
theorem flip_get (ss : List Bool) (k i : Nat) (h : i < ss.length) : (flip ss k)[i]? = some (ss.getD i false != (decide (i = k))) := by
  unfold flip
  have e : ss.getD i false = ss[i] := by rw [List.getD_eq_getElem?_getD, List.getElem?_eq_getElem h]; rfl
  by_cases hk : i = k
  · subst hk
    rw [List.getElem?_set_self h, decide_eq_true rfl]
    cases ss.getD i false <;> rfl
  · rw [List.getElem?_set_ne (Ne.symm hk), decide_eq_false hk, List.getElem?_eq_getElem h, e]
    cases ss[i] <;> rfl
theorem mem_movL {ws : List W} {ps ss : List Bool} {k : Nat} : k ∈ movL ws ps ss ↔ k < ws.length ∧ canMove ws ps ss k = true := by
  unfold movL
  rw [List.mem_filter, List.mem_range]
theorem inV_vn (r : Int) : ∀ ks : List Nat, inV (.int r) (ks.map vn) = ks.any (fun k => decide ((k : Int) = r))
  | [] => rfl
  | x :: rest => by
    show (eqV (.int x) (.int r) || inV (.int r) (rest.map vn)) = (decide ((x : Int) = r) || rest.any (fun k => decide ((k : Int) = r)))
    rw [inV_vn r rest]
    have e : eqV (.int x) (.int r) = decide ((x : Int) = r) := by
      show ((x : Int) == r) = decide ((x : Int) = r)
      exact Bool.beq_eq_decide_eq ..
    rw [e]
theorem flat_vn : ∀ ks : List Nat, (ks.map vn).all flatV = true
  | [] => rfl
  | _ :: r => flat_vn r
end Rl

namespace Rl
open PySem L2
/-! ### how many stands there are -/
theorem nodup_len {α : Type} [DecidableEq α] : ∀ {l m : List α}, l.Nodup → (∀ x ∈ l, x ∈ m) → l.length ≤ m.length
  | [], m, _, _ => Nat.zero_le _
  | x :: l, m, hn, hs => by
    rw [List.nodup_cons] at hn
    have hx : x ∈ m := hs x List.mem_cons_self
    have h := nodup_len (l := l) (m := m.erase x) hn.2 fun y hy => by
      have : y ≠ x := fun e => hn.1 (e ▸ hy)
      exact (List.mem_erase_of_ne this).mpr (hs y (List.mem_cons_of_mem _ hy))
    rw [List.length_erase_of_mem hx] at h
    have := List.length_pos_of_mem hx
    rw [List.length_cons]; omega
def allOf : Nat → List (List Bool)
  | 0 => [[]]
  | n + 1 => (allOf n).map (true :: ·) ++ (allOf n).map (false :: ·)
theorem allOf_len : ∀ n, (allOf n).length = 2 ^ n
  | 0 => rfl
  | n + 1 => by
    show ((allOf n).map (true :: ·) ++ (allOf n).map (false :: ·)).length = _
    rw [List.length_append, List.length_map, List.length_map, allOf_len n, Nat.pow_succ]; omega
theorem mem_allOf : ∀ (bs : List Bool), bs ∈ allOf bs.length
  | [] => List.mem_singleton.mpr rfl
  | b :: bs => by
    show (b :: bs) ∈ (allOf bs.length).map (true :: ·) ++ (allOf bs.length).map (false :: ·)
    cases b
    · exact List.mem_append.mpr (.inr (List.mem_map.mpr ⟨bs, mem_allOf bs, rfl⟩))
    · exact List.mem_append.mpr (.inl (List.mem_map.mpr ⟨bs, mem_allOf bs, rfl⟩))
theorem stands_le {n : Nat} {ks : List (List Bool)} (h : ks.Nodup) (hl : ∀ k ∈ ks, k.length = n) (h6 : n ≤ 6) : ks.length ≤ 64 := by
  have h1 := nodup_len (m := allOf n) h fun k hk => by have := mem_allOf k; rw [hl k hk] at this; exact this
  rw [allOf_len] at h1
  exact Nat.le_trans h1 (pow_le64 h6)
theorem take_filt {α : Type} (f : α → Bool) {l : List α} {i : Nat} {x : α} (h : l[i]? = some x) : (l.take (i + 1)).filter f = if f x = true then (l.take i).filter f ++ [x] else (l.take i).filter f := by
  rw [List.take_add_one, h]
  exact filter_snoc f _ x
/-! ### walks -/
section
variable {ws : List W} {ps : List Bool}
def Road (ws : List W) (ps : List Bool) : List Bool → List Nat → List Bool → Prop
  | ss, [], tt => ss = tt
  | ss, r :: rs, tt => r ∈ movL ws ps ss ∧ Road ws ps (flip ss r) rs tt
theorem Road.append : ∀ {rs qs : List Nat} {ss tt uu : List Bool}, Road ws ps ss rs tt → Road ws ps tt qs uu → Road ws ps ss (rs ++ qs) uu
  | [], _, _, _, _, h, q => by cases (show _ = _ from h); exact q
  | _ :: _, _, _, _, _, ⟨h1, h2⟩, q => ⟨h1, Road.append h2 q⟩
theorem Road.snoc {rs : List Nat} {r : Nat} {ss tt : List Bool} (h : Road ws ps ss rs tt) (m : r ∈ movL ws ps tt) : Road ws ps ss (rs ++ [r]) (flip tt r) := h.append ⟨m, rfl⟩
theorem Road.len : ∀ {rs : List Nat} {ss tt : List Bool}, Road ws ps ss rs tt → tt.length = ss.length
  | [], _, _, h => by cases (show _ = _ from h); rfl
  | _ :: _, _, _, ⟨_, h⟩ => by rw [Road.len h, flip_len]
def Reach (ws : List W) (ps : List Bool) (ss tt : List Bool) : Prop := ∃ rs, Road ws ps ss rs tt
theorem Reach.refl (ss : List Bool) : Reach ws ps ss ss := ⟨[], rfl⟩
theorem Reach.step {ss tt : List Bool} {r : Nat} (h : Reach ws ps ss tt) (m : r ∈ movL ws ps tt) : Reach ws ps ss (flip tt r) := let ⟨rs, q⟩ := h; ⟨_, q.snoc m⟩
theorem Reach.trans {ss tt uu : List Bool} (h : Reach ws ps ss tt) (q : Reach ws ps tt uu) : Reach ws ps ss uu := let ⟨_, a⟩ := h; let ⟨_, b⟩ := q; ⟨_, a.append b⟩
theorem Reach.len {ss tt : List Bool} (h : Reach ws ps ss tt) : tt.length = ss.length := let ⟨_, q⟩ := h; q.len
def Closed (ws : List W) (ps : List Bool) (ks : List (List Bool)) : Prop := ∀ t ∈ ks, ∀ k ∈ movL ws ps t, flip t k ∈ ks
theorem Closed.road {ks : List (List Bool)} (c : Closed ws ps ks) : ∀ {rs : List Nat} {ss tt : List Bool}, ss ∈ ks → Road ws ps ss rs tt → tt ∈ ks
  | [], _, _, h, r => by cases (show _ = _ from r); exact h
  | _ :: _, _, _, h, ⟨m, r⟩ => c.road (c _ h _ m) r
theorem Closed.reach {ks : List (List Bool)} (c : Closed ws ps ks) {ss tt : List Bool} (h : ss ∈ ks) (r : Reach ws ps ss tt) : tt ∈ ks := let ⟨_, q⟩ := r; c.road h q
/-- just the stands that can be come to -/
structure Stands (ws : List W) (ps ss : List Bool) (ks : List (List Bool)) : Prop where
  nodup : ks.Nodup
  mem : ∀ t, t ∈ ks ↔ Reach ws ps ss t
theorem Stands.of {ss : List Bool} {ks : List (List Bool)} (n : ks.Nodup) (h : ss ∈ ks) (c : Closed ws ps ks) (r : ∀ t ∈ ks, Reach ws ps ss t) : Stands ws ps ss ks := ⟨n, fun t => ⟨r t, c.reach h⟩⟩
theorem Stands.closed {ss : List Bool} {ks : List (List Bool)} (S : Stands ws ps ss ks) : Closed ws ps ks := fun t ht k hk => (S.mem _).mpr (((S.mem t).mp ht).step hk)
theorem Stands.le {ss : List Bool} {ks : List (List Bool)} (S : Stands ws ps ss ks) (h : ss.length ≤ 6) : ks.length ≤ 64 := stands_le S.nodup (fun k hk => ((S.mem k).mp hk).len) h
theorem Stands.self {ss : List Bool} {ks : List (List Bool)} (S : Stands ws ps ss ks) : ss ∈ ks := (S.mem ss).mpr (.refl ss)
/-! ### papers -/
abbrev Pap := List (List Bool × Nat)
def look (P : Pap) (k : List Bool) : Option Nat := (P.find? fun x => decide (x.1 = k)).map (·.2)
theorem look_nil (k : List Bool) : look [] k = none := rfl
theorem look_cons (x : List Bool × Nat) (P : Pap) (k : List Bool) : look (x :: P) k = if x.1 = k then some x.2 else look P k := by
  unfold look
  rw [List.find?_cons]
  by_cases h : x.1 = k
  · rw [if_pos h, decide_eq_true h]; rfl
  · rw [if_neg h, decide_eq_false h]
theorem look_none : ∀ {P : Pap} {k : List Bool}, look P k = none ↔ k ∉ P.map (·.1)
  | [], k => ⟨fun _ h => (nomatch h), fun _ => rfl⟩
  | x :: P, k => by
    rw [look_cons, List.map_cons, List.mem_cons]
    by_cases h : x.1 = k
    · rw [if_pos h]; exact ⟨fun z => (nomatch z), fun z => absurd (.inl h.symm) z⟩
    · rw [if_neg h, look_none]
      exact ⟨fun z q => q.elim (fun e => h e.symm) z, fun z q => z (.inr q)⟩
theorem look_mem : ∀ {P : Pap} {k : List Bool} {v : Nat}, look P k = some v → (k, v) ∈ P
  | [], _, _, h => nomatch h
  | x :: P, k, v, h => by
    rw [look_cons] at h
    by_cases e : x.1 = k
    · rw [if_pos e] at h
      cases h; subst e; exact List.mem_cons_self
    · rw [if_neg e] at h
      exact List.mem_cons_of_mem _ (look_mem h)
theorem look_of : ∀ {P : Pap} {k : List Bool} {v : Nat}, (P.map (·.1)).Nodup → (k, v) ∈ P → look P k = some v
  | [], _, _, _, h => nomatch h
  | x :: P, k, v, n, h => by
    rw [List.map_cons, List.nodup_cons] at n
    rw [look_cons]
    rcases List.mem_cons.mp h with e | h
    · subst e; exact if_pos rfl
    · have : x.1 ≠ k := fun e => n.1 (List.mem_map.mpr ⟨_, h, e.symm⟩)
      rw [if_neg this]; exact look_of n.2 h
theorem look_some {P : Pap} {k : List Bool} : k ∈ P.map (·.1) ↔ ∃ v, look P k = some v := by
  cases h : look P k with
  | none => exact ⟨fun q => absurd q (look_none.mp h), fun ⟨v, e⟩ => (nomatch e)⟩
  | some v => exact ⟨fun _ => ⟨v, rfl⟩, fun _ => List.mem_map.mpr ⟨_, look_mem h, rfl⟩⟩
def papV (P : Pap) : List (List Bool × V) := P.map fun x => (x.1, vn x.2)
theorem papV_keys (P : Pap) : (papV P).map (·.1) = P.map (·.1) := by unfold papV; rw [List.map_map]; rfl
theorem papV_len (P : Pap) : (papV P).length = P.length := List.length_map _
theorem papV_snoc (P : Pap) (k : List Bool) (v : Nat) : papV P ++ [(k, vn v)] = papV (P ++ [(k, v)]) := by unfold papV; rw [List.map_append]; rfl
theorem valV_cons {κ : Type} [DecidableEq κ] (x : κ × V) (l : List (κ × V)) (k : κ) : valV (x :: l) k = if x.1 = k then some x.2 else valV l k := by
  by_cases h : x.1 = k
  · rw [if_pos h, valV_pos h]
  · rw [if_neg h, valV_neg h]
theorem valV_papV : ∀ (P : Pap) (k : List Bool), valV (papV P) k = (look P k).map vn
  | [], _ => rfl
  | x :: P, k => by
    show valV ((x.1, vn x.2) :: papV P) k = _
    rw [valV_cons, look_cons, valV_papV P k]
    by_cases h : x.1 = k
    · rw [if_pos h, if_pos h]; rfl
    · rw [if_neg h, if_neg h]
theorem valV_iff {κ : Type} [DecidableEq κ] : ∀ (l : List (κ × V)) (k : κ), (valV l k).isSome = true ↔ k ∈ l.map (·.1)
  | [], k => ⟨fun h => (nomatch h), fun h => (nomatch h)⟩
  | x :: l, k => by
    rw [valV_cons, List.map_cons, List.mem_cons]
    by_cases h : x.1 = k
    · rw [if_pos h]; exact ⟨fun _ => .inl h.symm, fun _ => rfl⟩
    · rw [if_neg h, valV_iff l k]
      exact ⟨.inr, fun q => q.elim (fun e => absurd e.symm h) id⟩
theorem val_in {κ : Type} [DecidableEq κ] {l : List (κ × V)} {k : κ} (h : (valV l k).isSome = true) : k ∈ l.map (·.1) := (valV_iff l k).mp h
theorem val_out {κ : Type} [DecidableEq κ] {l : List (κ × V)} {k : κ} (h : (valV l k).isSome = false) : k ∉ l.map (·.1) := fun q => by rw [(valV_iff l k).mpr q] at h; cases h
theorem in_val {κ : Type} [DecidableEq κ] {l : List (κ × V)} {k : κ} (h : k ∈ l.map (·.1)) : (valV l k).isSome = true := (valV_iff l k).mpr h
theorem out_val {κ : Type} [DecidableEq κ] {l : List (κ × V)} {k : κ} (h : k ∉ l.map (·.1)) : (valV l k).isSome = false := by
  cases e : (valV l k).isSome with
  | false => rfl
  | true => exact absurd (val_in e) h
theorem valV_of {κ : Type} [DecidableEq κ] : ∀ {l : List (κ × V)} {k : κ} {v : V}, (l.map (·.1)).Nodup → (k, v) ∈ l → valV l k = some v
  | [], _, _, _, h => nomatch h
  | x :: l, k, v, n, h => by
    rw [List.map_cons, List.nodup_cons] at n
    rw [valV_cons]
    rcases List.mem_cons.mp h with e | h
    · subst e; exact if_pos rfl
    · have : x.1 ≠ k := fun e => n.1 (List.mem_map.mpr ⟨_, h, e.symm⟩)
      rw [if_neg this]; exact valV_of n.2 h
theorem putK_fresh {κ : Type} [DecidableEq κ] {l : List (κ × V)} {k : κ} (v : V) (h : k ∉ l.map (·.1)) : putK l k v = l ++ [(k, v)] := by
  refine putK_new v ?_
  have := out_val h
  cases e : valV l k with
  | none => rfl
  | some x => rw [e] at this; cases this
/-- numbers that fall along each move, for stands from which every walk ends -/
structure Falls (ws : List W) (ps : List Bool) (P : Pap) : Prop where
  nodup : (P.map (·.1)).Nodup
  fall : ∀ t v, look P t = some v → ∀ k ∈ movL ws ps t, ∃ u, look P (flip t k) = some u ∧ u < v
  zero : ∀ t, look P t = some 0 ↔ (t ∈ P.map (·.1) ∧ movL ws ps t = [])
  low : ∀ t v, look P t = some v → v < P.length
/-- told to settle -/
structure Settles (ws : List W) (ps ss rest : List Bool) (P : Pap) : Prop where
  stands : Stands ws ps ss (P.map (·.1))
  falls : Falls ws ps P
  here : rest ∈ P.map (·.1)
  rest : ∀ t ∈ P.map (·.1), movL ws ps t = [] ↔ t = rest
structure Parts (ws : List W) (ps ss : List Bool) (r1 r2 : List Nat) (t1 t2 : List Bool) : Prop where
  road1 : Road ws ps ss r1 t1
  road2 : Road ws ps ss r2 t2
  rest1 : movL ws ps t1 = []
  rest2 : movL ws ps t2 = []
  ne : t1 ≠ t2
structure Rounds (ws : List W) (ps ss : List Bool) (r1 r2 : List Nat) (t : List Bool) : Prop where
  road : Road ws ps ss r1 t
  ring : Road ws ps t r2 t
  ne : r2 ≠ []
theorem Falls.road {P : Pap} (F : Falls ws ps P) : ∀ {rs : List Nat} {ss tt : List Bool} {v : Nat}, look P ss = some v → Road ws ps ss rs tt → ∃ u, look P tt = some u ∧ u + rs.length ≤ v
  | [], _, _, v, h, r => by cases (show _ = _ from r); exact ⟨v, h, Nat.le_refl _⟩
  | k :: rs, _, _, v, h, ⟨m, r⟩ => by
    obtain ⟨u, hu, lt⟩ := F.fall _ _ h _ m
    obtain ⟨x, hx, le⟩ := F.road hu r
    exact ⟨x, hx, by rw [List.length_cons]; omega⟩
theorem Settles.no_ring {ss rest t : List Bool} {P : Pap} {r1 r2 : List Nat} (S : Settles ws ps ss rest P) (R : Rounds ws ps ss r1 r2 t) : False := by
  obtain ⟨v, hv⟩ := look_some.mp ((S.stands.mem t).mpr ⟨_, R.road⟩)
  obtain ⟨u, hu, le⟩ := S.falls.road hv R.ring
  rw [hv] at hu
  cases hu
  have : 0 < r2.length := List.length_pos_iff.mpr R.ne
  omega
theorem Settles.no_parts {ss rest t1 t2 : List Bool} {P : Pap} {r1 r2 : List Nat} (S : Settles ws ps ss rest P) (R : Parts ws ps ss r1 r2 t1 t2) : False :=
  R.ne (((S.rest t1 ((S.stands.mem t1).mpr ⟨_, R.road1⟩)).mp R.rest1).trans ((S.rest t2 ((S.stands.mem t2).mpr ⟨_, R.road2⟩)).mp R.rest2).symm)
theorem Settles.rest_eq {ss rest rest2 : List Bool} {P P2 : Pap} (S : Settles ws ps ss rest P) (S2 : Settles ws ps ss rest2 P2) : rest = rest2 := by
  have h := (S.rest rest S.here).mpr rfl
  exact (S2.rest rest ((S2.stands.mem _).mpr ((S.stands.mem _).mp S.here))).mp h
theorem look_snoc : ∀ {P : Pap} {t : List Bool} {v : Nat} (k : List Bool), t ∉ P.map (·.1) → look (P ++ [(t, v)]) k = if t = k then some v else look P k
  | [], t, v, k, _ => look_cons _ _ _
  | x :: P, t, v, k, h => by
    rw [List.map_cons, List.mem_cons] at h
    show look (x :: (P ++ [(t, v)])) k = _
    rw [look_cons, look_cons]
    by_cases e : x.1 = k
    · have : t ≠ k := fun z => h (.inl (z.trans e.symm))
      rw [if_pos e, if_neg this, if_pos e]
    · rw [if_neg e, if_neg e, look_snoc k fun z => h (.inr z)]
def maxI (d : Int) : List Int → Int
  | [] => d
  | y :: ys => ys.foldl max y
def tops : List Nat → Nat
  | [] => 0
  | y :: ys => 1 + ys.foldl max y
theorem fold_ge : ∀ (ys : List Nat) (y : Nat), y ≤ ys.foldl max y ∧ ∀ x ∈ ys, x ≤ ys.foldl max y
  | [], y => ⟨Nat.le_refl _, fun _ h => (nomatch h)⟩
  | z :: ys, y => by
    obtain ⟨h1, h2⟩ := fold_ge ys (max y z)
    refine ⟨Nat.le_trans (Nat.le_max_left _ _) h1, fun x hx => ?_⟩
    rcases List.mem_cons.mp hx with rfl | hx
    · exact Nat.le_trans (Nat.le_max_right _ _) h1
    · exact h2 x hx
theorem fold_lt {B : Nat} : ∀ (ys : List Nat) (y : Nat), y < B → (∀ x ∈ ys, x < B) → ys.foldl max y < B
  | [], y, h, _ => h
  | z :: ys, y, h, k => fold_lt ys (max y z) (Nat.max_lt.mpr ⟨h, k z List.mem_cons_self⟩) fun x hx => k x (List.mem_cons_of_mem _ hx)
theorem tops_lt {l : List Nat} {x : Nat} (h : x ∈ l) : x < tops l := by
  cases l with
  | nil => cases h
  | cons y ys =>
    obtain ⟨h1, h2⟩ := fold_ge ys y
    show x < 1 + _
    rcases List.mem_cons.mp h with rfl | h
    · omega
    · have := h2 x h; omega
theorem tops_le {l : List Nat} {B : Nat} (h : ∀ x ∈ l, x < B) : tops l ≤ B := by
  cases l with
  | nil => exact Nat.zero_le _
  | cons y ys =>
    have := fold_lt ys y (h y List.mem_cons_self) fun x hx => h x (List.mem_cons_of_mem _ hx)
    show 1 + _ ≤ _
    omega
theorem tops_zero {l : List Nat} : tops l = 0 ↔ l = [] := by
  cases l with
  | nil => exact ⟨fun _ => rfl, fun _ => rfl⟩
  | cons y ys => exact ⟨fun h => absurd (show 1 + _ = 0 from h) (by omega), fun h => nomatch h⟩
theorem fold_cast : ∀ (ys : List Nat) (y : Nat), (ys.map fun (k : Nat) => (k : Int)).foldl max (y : Int) = ((ys.foldl max y : Nat) : Int)
  | [], y => rfl
  | z :: ys, y => by
    have := fold_cast ys (max y z)
    rw [List.map_cons, List.foldl_cons, List.foldl_cons, ← this]
    congr 1
    omega
theorem tops_int (l : List Nat) : (1 : Int) + maxI (-1) (l.map fun (k : Nat) => (k : Int)) = ((tops l : Nat) : Int) := by
  cases l with
  | nil => rfl
  | cons y ys =>
    show (1 : Int) + (ys.map fun (k : Nat) => (k : Int)).foldl max (y : Int) = ((1 + ys.foldl max y : Nat) : Int)
    rw [fold_cast]; omega
/-- the numbers behind t's moves -/
def behind (ws : List W) (ps : List Bool) (P : Pap) (t : List Bool) : List Nat := (movL ws ps t).map fun k => (look P (flip t k)).getD 0
theorem Falls.snoc {P : Pap} {t : List Bool} (F : Falls ws ps P) (ht : t ∉ P.map (·.1)) (h : ∀ k ∈ movL ws ps t, flip t k ∈ P.map (·.1)) : Falls ws ps (P ++ [(t, tops (behind ws ps P t))]) := by
  have keys : (P ++ [(t, tops (behind ws ps P t))]).map (·.1) = P.map (·.1) ++ [t] := by rw [List.map_append]; rfl
  have hb : ∀ k ∈ movL ws ps t, ∃ u, look P (flip t k) = some u ∧ u ∈ behind ws ps P t := fun k hk => by
    obtain ⟨u, hu⟩ := look_some.mp (h k hk)
    exact ⟨u, hu, List.mem_map.mpr ⟨k, hk, by rw [hu]; rfl⟩⟩
  have bl : ∀ x ∈ behind ws ps P t, x < P.length := fun x hx => by
    obtain ⟨k, hk, rfl⟩ := List.mem_map.mp hx
    obtain ⟨u, hu, _⟩ := hb k hk
    rw [hu]; exact F.low _ _ hu
  have other : ∀ u ∈ P.map (·.1), look (P ++ [(t, tops (behind ws ps P t))]) u = look P u := fun u hu => by
    have : t ≠ u := fun e => ht (e ▸ hu)
    rw [look_snoc u ht, if_neg this]
  have self : look (P ++ [(t, tops (behind ws ps P t))]) t = some (tops (behind ws ps P t)) := by rw [look_snoc t ht, if_pos rfl]
  refine ⟨?_, ?_, ?_, ?_⟩
  · rw [keys]
    refine List.nodup_append.mpr ⟨F.nodup, List.nodup_cons.mpr ⟨(fun h => nomatch h), List.nodup_nil⟩, fun a ha b hb e => ?_⟩
    rw [List.mem_singleton.mp hb] at e
    exact ht (e ▸ ha)
  · intro u v hu k hk
    by_cases e : t = u
    · subst e
      rw [self] at hu
      cases hu
      obtain ⟨x, hx, hm⟩ := hb k hk
      exact ⟨x, by rw [other _ (h k hk)]; exact hx, tops_lt hm⟩
    · rw [look_snoc u ht, if_neg e] at hu
      obtain ⟨x, hx, lt⟩ := F.fall u v hu k hk
      exact ⟨x, by rw [other _ (look_some.mpr ⟨x, hx⟩)]; exact hx, lt⟩
  · intro u
    rw [keys, List.mem_append, List.mem_singleton, look_snoc u ht]
    by_cases e : t = u
    · subst e
      rw [if_pos rfl]
      constructor
      · intro z
        have z : tops (behind ws ps P t) = 0 := Option.some.inj z
        refine ⟨.inr rfl, ?_⟩
        have := tops_zero.mp z
        exact List.map_eq_nil_iff.mp this
      · rintro ⟨_, z⟩
        have : behind ws ps P t = [] := by unfold behind; rw [z]; rfl
        rw [this]; rfl
    · rw [if_neg e, F.zero u]
      exact ⟨fun ⟨a, b⟩ => ⟨.inl a, b⟩, fun ⟨a, b⟩ => ⟨a.resolve_right fun z => e z.symm, b⟩⟩
  · intro u v hu
    rw [List.length_append, List.length_singleton]
    by_cases e : t = u
    · rw [look_snoc u ht, if_pos e] at hu
      cases hu
      have := tops_le bl; omega
    · rw [look_snoc u ht, if_neg e] at hu
      have := F.low u v hu; omega
theorem Falls.ends {P : Pap} (F : Falls ws ps P) : ∀ (v : Nat) (t : List Bool), look P t = some v → ∃ u ∈ P.map (·.1), movL ws ps u = [] := by
  intro v
  induction v using Nat.strongRecOn with
  | _ v ih =>
    intro t ht
    cases h : movL ws ps t with
    | nil => exact ⟨t, look_some.mpr ⟨v, ht⟩, h⟩
    | cons k ks =>
      obtain ⟨u, hu, lt⟩ := F.fall t v ht k (by rw [h]; exact List.mem_cons_self)
      exact ih u lt _ hu
end
end Rl

namespace Rl
open PySem PySem.Spec L2
/-! ### dicts whose keys are tuples of truth values -/
abbrev BK (P : Program) (w : World) : HeapKind P w (List Bool) := tupleKind (PpSet.boolK P w)
def bEnt (x : List Bool × Addr × Value) : DictEntry := ⟨reduceHash (Builtin.Tuple.tupleHashOf (x.1.map PpSet.hB)), .ref x.2.1, x.2.2⟩
theorem bEnt_eq (P : Program) (w : World) : bEnt = entryOfKey (BK P w) := rfl
def bFits (a : Addr) (bs : List Addr) (kvs : List (List Bool × V)) (h : Heap) : Prop :=
  kvs.length ≤ sizeLine ∧ (a == sysModules) = false ∧ ∃ xs : List (List Bool × Addr × Value), KV kvs (pairsH xs) ∧ xs.map (fun x => x.2.1) = bs ∧
    ∃ o ens ep, h.get? a = some o ∧ o.ExactDict ∧ o.data = .dict ens ep ∧ ens.toList = xs.map bEnt ∧ (xs.map (·.1)).Nodup
/-- the dict at a, its keys at bs -/
def bD (a : Addr) (bs : List Addr) (kvs : List (List Bool × V)) : HO := .ext (bFits a bs kvs)
theorem bD_ok {P : Program} {w : World} {H : Hp} {h : Heap} {a : Addr} {bs : List Addr} {kvs : List (List Bool × V)} (q : bFits a bs kvs h) : ObjOk P w H h a (bD a bs kvs) := by
  refine ⟨q, ?_, ?_⟩
  · obtain ⟨_, _, _, _, _, o, _, _, e, _⟩ := q; exact ⟨o, e⟩
  · rintro h1 h2 ⟨z, y, xs, r, l, o, ens, ep, e, c⟩ k
    exact ⟨z, y, xs, r, l, o, ens, ep, k o e, c⟩
/-- the keys' tuples -/
def KAt (H : Hp) (bs : List Addr) (ks : List (List Bool)) : Prop := Paired (fun b (k : List Bool) => H b = some (.tup (k.map V.bl))) bs ks
theorem KAt.tk {H H' : Hp} {bs : List Addr} {ks : List (List Bool)} (h : KAt H bs ks) (t : Tk H H') : KAt H' bs ks := Paired.mapP h fun _ _ e => t _ _ e
def DBat (H : Hp) (a : Addr) (kvs : List (List Bool × V)) : Prop := ∃ bs, H a = some (bD a bs kvs) ∧ KAt H bs (kvs.map (·.1)) ∧ (kvs.map (·.1)).Nodup
theorem DBat.same {H H' : Hp} {a : Addr} {kvs : List (List Bool × V)} (h : DBat H a kvs) (s : Same H H') : DBat H' a kvs := by
  obtain ⟨bs, e, k, n⟩ := h
  exact ⟨bs, s _ _ e, k.tk (Same.tk s), n⟩
theorem DBat.at {H H' : Hp} {a : Addr} {kvs : List (List Bool × V)} (h : DBat H a kvs) (e : H' a = H a) (t : Tk H H') : DBat H' a kvs := by
  obtain ⟨bs, e1, k, n⟩ := h
  exact ⟨bs, e.trans e1, k.tk t, n⟩
theorem DBat.nodup {H : Hp} {a : Addr} {kvs : List (List Bool × V)} (h : DBat H a kvs) : (kvs.map (·.1)).Nodup := let ⟨_, _, _, n⟩ := h; n
theorem bItems {P : Program} {w : World} : ∀ {k : List Bool} {us : List Value}, Vals (k.map V.bl) us → ItemsAre (PpSet.boolK P w) k us
  | [], _, r => by rw [List.map_nil] at r; cases r; exact .nil
  | b :: k, _, r => by
    rw [List.map_cons] at r
    cases r with
    | @cons _ u _ _ h t =>
      cases (show u = Value.bool b from h)
      exact .cons (PpSet.boolK_is P w b) (bItems t)
theorem bKey {P : Program} {w : World} {H : Hp} {h : Heap} {a : Addr} {k : List Bool} (ok : HOk P w H h) (e : H a = some (.tup (k.map V.bl))) : (BK P w).is h k a := by
  obtain ⟨_, its, r, ob, e1, e2, n, e3⟩ := (show ObjOk P w H h a (.tup (k.map V.bl)) from ok a _ e)
  exact ⟨ob, its.toArray, n, e1, e2, e3, by simpa using bItems r⟩
theorem kat_iff {H : Hp} : ∀ {xs : List (List Bool × Addr × Value)}, KAt H (xs.map fun x => x.2.1) (xs.map (·.1)) ↔ ∀ x ∈ xs, H x.2.1 = some (.tup (x.1.map V.bl))
  | [] => ⟨(fun _ _ h => nomatch h), (fun _ => .nil)⟩
  | x :: xs => by
    rw [List.map_cons, List.map_cons]
    constructor
    · intro h
      cases h with
      | cons r t =>
        intro y hy
        rcases List.mem_cons.mp hy with rfl | hy
        · exact r
        · exact (kat_iff.mp t) y hy
    · intro h
      exact .cons (h x List.mem_cons_self) (kat_iff.mpr fun y hy => h y (List.mem_cons_of_mem _ hy))
theorem pairs_keys (xs : List (List Bool × Addr × Value)) : (pairsH xs).map (·.1) = xs.map (·.1) := by
  unfold pairsH; rw [List.map_map]; rfl
theorem bOf {P : Program} {w : World} {H : Hp} {h : Heap} {a : Addr} {bs : List Addr} {kvs : List (List Bool × V)} (ok : HOk P w H h) (q : bFits a bs kvs h) (k : KAt H bs (kvs.map (·.1))) :
    kvs.length ≤ sizeLine ∧ (a == sysModules) = false ∧ ∃ xs : List (List Bool × Addr × Value), KV kvs (pairsH xs) ∧ xs.map (fun x => x.2.1) = bs ∧ h.DictOfH (BK P w) a xs := by
  obtain ⟨z, y, xs, r, l, o, ens, ep, e, c, d, f, n⟩ := q
  refine ⟨z, y, xs, r, l, o, ens, ep, e, c, d, f, fun x hx => ?_, n⟩
  rw [← l, KV.keys r, pairs_keys] at k
  exact bKey ok (kat_iff.mp k x hx)
theorem DBat.of {P : Program} {w : World} {H : Hp} {h : Heap} {a : Addr} {kvs : List (List Bool × V)} (ok : HOk P w H h) (d : DBat H a kvs) :
    ∃ bs, H a = some (bD a bs kvs) ∧ KAt H bs (kvs.map (·.1)) ∧ kvs.length ≤ sizeLine ∧ (a == sysModules) = false ∧ ∃ xs : List (List Bool × Addr × Value), KV kvs (pairsH xs) ∧ xs.map (fun x => x.2.1) = bs ∧ h.DictOfH (BK P w) a xs := by
  obtain ⟨bs, e, k, _⟩ := d
  have q : ObjOk P w H h a (bD a bs kvs) := ok a _ e
  exact ⟨bs, e, k, bOf ok q.1 k⟩
theorem dictH_bFits {P : Program} {w : World} {h : Heap} {a : Addr} {kvs : List (List Bool × V)} {xs : List (List Bool × Addr × Value)} (z : kvs.length ≤ sizeLine) (y : (a == sysModules) = false) (r : KV kvs (pairsH xs)) (d : h.DictOfH (BK P w) a xs) :
    bFits a (xs.map fun x => x.2.1) kvs h := by
  obtain ⟨o, ens, ep, e, c, dd, f, _, n⟩ := d
  exact ⟨z, y, xs, r, rfl, o, ens, ep, e, c, dd, f, n⟩
theorem nodup_of {P : Program} {w : World} {h : Heap} {a : Addr} {kvs : List (List Bool × V)} {xs : List (List Bool × Addr × Value)} (r : KV kvs (pairsH xs)) (d : h.DictOfH (BK P w) a xs) : (kvs.map (·.1)).Nodup := by
  obtain ⟨o, ens, ep, e, c, dd, f, _, n⟩ := d
  rw [KV.keys r, pairs_keys]; exact n
theorem bVal {kvs : List (List Bool × V)} {xs : List (List Bool × Addr × Value)} (r : KV kvs (pairsH xs)) (k : List Bool) : RelO (valV kvs k) ((atKey xs k).map (·.2)) := by
  rw [← valueAt_pairsH]
  exact KV.val r k
theorem kat_put {H : Hp} {xs : List (List Bool × Addr × Value)} {k : List Bool} {b : Addr} {v : Value} (h : ∀ x ∈ xs, H x.2.1 = some (.tup (x.1.map V.bl))) (e : H b = some (.tup (k.map V.bl))) : ∀ x ∈ storedH xs k b v, H x.2.1 = some (.tup (x.1.map V.bl)) := by
  intro x hx
  unfold storedH at hx
  split at hx
  · obtain ⟨y, hy, rfl⟩ := List.mem_map.mp hx
    unfold putAt
    split
    · exact h y hy
    · exact h y hy
  · rcases List.mem_append.mp hx with q | q
    · exact h x q
    · rw [List.mem_singleton.mp q]; exact e
/-- all but a stay -/
def But (a : Addr) (H H' : Hp) : Prop := ∀ c, c ≠ a → H' c = H c
theorem But.upd {a : Addr} {H : Hp} {o : HO} : But a H (upd H a o) := fun c hc => upd_ne hc
theorem But.tk {a : Addr} {H H' : Hp} {kvs : List (List Bool × V)} (b : But a H H') (d : DBat H a kvs) : Tk H H' := fun c xs e => by
  obtain ⟨bs, q, _⟩ := d
  rw [b c (ne_of e q (by intro z; cases z))]; exact e
theorem But.get {a c : Addr} {H H' : Hp} (b : But a H H') (h : c ≠ a) : H' c = H c := b c h
theorem Same.but {H0 H H' : Hp} {a : Addr} (s : Same H0 H) (n : H0 a = none) (b : But a H H') : Same H0 H' := fun c o e => by
  rw [b c (ne_of_none e n)]; exact s c o e
section
variable {X : Cx} {pins : List (Addr × Obj)} {σ : St} {H : Hp} {s : Shared} {a b : Addr} {v : V} {r : Value} {A : Around} {E : Value → Shared → Prop} {kvs : List (List Bool × V)} {k : List Bool}
theorem b_getItem {Q : Value → Shared → Prop} (hu : A.units + 1 < cLine) (I : Inv X pins σ H s) (d : DBat H a kvs) (eb : H b = some (.tup (k.map V.bl))) (hv : valV kvs k = some v) (h : ∀ w' s', Inv X pins σ H s' → RelV v w' → Q w' s') :
    wpAny (model X.prog X.w) A (getItem (.ref a) (.ref b)) Q E s := by
  obtain ⟨bs, e, ka, z, y, xs, rel, _, dd⟩ := d.of I.hok
  have q := bVal rel k
  rw [hv] at q
  obtain ⟨u, hu2, ru⟩ := RelO.some_of q
  obtain ⟨p, hp, rfl⟩ := Option.map_eq_some_iff.mp hu2
  exact wpAny_getItem_heap (tupleKind_room_in1 hu) (bKey I.hok eb) dd hp (h _ _ (I.tok _) ru)
theorem b_in {Q : Value → Shared → Prop} (hu : A.units + 1 < cLine) (I : Inv X pins σ H s) (d : DBat H a kvs) (eb : H b = some (.tup (k.map V.bl))) (h : ∀ s', Inv X pins σ H s' → Q (.bool (valV kvs k).isSome) s') :
    wpAny (model X.prog X.w) A (compareOp .In (.ref b) (.ref a)) Q E s := by
  obtain ⟨bs, e, ka, z, y, xs, rel, _, dd⟩ := d.of I.hok
  have q := (bVal rel k).isSome_eq
  rw [Option.isSome_map] at q
  refine wpAny_in_heap (tupleKind_room_in1 hu) (bKey I.hok eb) y dd ?_
  rw [← q]; exact h _ (I.tok _)
theorem b_notIn {Q : Value → Shared → Prop} (hu : A.units + 1 < cLine) (I : Inv X pins σ H s) (d : DBat H a kvs) (eb : H b = some (.tup (k.map V.bl))) (h : ∀ s', Inv X pins σ H s' → Q (.bool (!(valV kvs k).isSome)) s') :
    wpAny (model X.prog X.w) A (compareOp .NotIn (.ref b) (.ref a)) Q E s := by
  obtain ⟨bs, e, ka, z, y, xs, rel, _, dd⟩ := d.of I.hok
  have q := (bVal rel k).isSome_eq
  rw [Option.isSome_map] at q
  refine PyProof.Rows.wpAny_notIn_heap (tupleKind_room_in1 hu) (bKey I.hok eb) y dd ?_
  rw [← q]; exact h _ (I.tok _)
/-- the dict at a is written -/
theorem b_write {h' : Heap} {t' : Nat} {kvs2 : List (List Bool × V)} {xs2 : List (List Bool × Addr × Value)} (I : Inv X pins σ H s) (d : DBat H a kvs) (hs : Heap.SameBut a s.heap h') (z : kvs2.length ≤ sizeLine) (rel : KV kvs2 (pairsH xs2)) (dd : h'.DictOfH (BK X.prog X.w) a xs2)
    (hk : ∀ x ∈ xs2, H x.2.1 = some (.tup (x.1.map V.bl))) : ∃ H', Inv X pins σ H' { s with heap := h', toks := t' } ∧ DBat H' a kvs2 ∧ But a H H' := by
  obtain ⟨bs, e, ka, z0, y, xs, rel0, _, dd0⟩ := d.of I.hok
  have e2 : ∃ q, h'.get? a = some q := let ⟨q, _, _, hq, _⟩ := dd; ⟨q, hq⟩
  have t : Tk H (upd H a (bD a (xs2.map fun x => x.2.1) kvs2)) := fun c ys q => by rw [upd_ne (ne_of q e (by intro z; cases z))]; exact q
  refine ⟨upd H a (bD a (xs2.map fun x => x.2.1) kvs2), I.write (x := a) (e := a) (by rw [e]; exact True.intro) (.inl rfl) (fun c q hc u => (hs.2 c hc).trans u) e2 (bD_ok (dictH_bFits z y rel dd)), ⟨_, upd_same, ?_, nodup_of rel dd⟩, But.upd⟩
  have w : KAt H (xs2.map fun x => x.2.1) (kvs2.map (·.1)) := by
    rw [KV.keys rel, pairs_keys]; exact kat_iff.mpr hk
  exact w.tk t
theorem b_setItem {Q : Unit → Shared → Prop} (hu : A.units + 1 < cLine) (I : Inv X pins σ H s) (d : DBat H a kvs) (eb : H b = some (.tup (k.map V.bl))) (hl : kvs.length < sizeLine) (rv : RelV v r)
    (h : ∀ H' s', Inv X pins σ H' s' → DBat H' a (putK kvs k v) → But a H H' → Q () s') : wpAny (model X.prog X.w) A (setItem (.ref a) (.ref b) r) Q E s := by
  obtain ⟨bs, e, ka, z, y, xs, rel, hbs, dd⟩ := d.of I.hok
  have hz : xs.length ≤ sizeLine := by
    have : kvs.length = xs.length := by rw [KV.length rel]; unfold pairsH; rw [List.length_map]
    omega
  refine wpAny_setItem_heap (hsz := hz) (tupleKind_room_in1 hu) (bKey I.hok eb) dd fun h' dd' hs => ?_
  have hl2 : (putK kvs k v).length ≤ sizeLine := by have := length_putK kvs k v; omega
  rw [← hbs, KV.keys rel, pairs_keys] at ka
  obtain ⟨H', I', d', b'⟩ := b_write (t' := s.toks + (BK X.prog X.w).draws k) I d hs hl2 (xs2 := storedH xs k b r) (by rw [pairsH_storedH]; exact KV.put rel k rv) dd' (kat_put (kat_iff.mp ka) eb)
  exact h H' _ I' d' b'
end
/-! ### readings and rules -/
def tBGet (td ty : TE) : TE := fun σ H Q => td σ H fun x H1 => ty σ H1 fun y H2 => ∃ a b kvs k v, x = .ref a ∧ y = .ref b ∧ DBat H2 a kvs ∧ H2 b = some (.tup (k.map V.bl)) ∧ valV kvs k = some v ∧ Q v H2
def tBIn (ty td : TE) : TE := fun σ H Q => ty σ H fun y H1 => td σ H1 fun x H2 => ∃ a b kvs k, x = .ref a ∧ y = .ref b ∧ DBat H2 a kvs ∧ H2 b = some (.tup (k.map V.bl)) ∧ Q (.bl (valV kvs k).isSome) H2
def tBNotIn (ty td : TE) : TE := fun σ H Q => ty σ H fun y H1 => td σ H1 fun x H2 => ∃ a b kvs k, x = .ref a ∧ y = .ref b ∧ DBat H2 a kvs ∧ H2 b = some (.tup (k.map V.bl)) ∧ Q (.bl (!(valV kvs k).isSome)) H2
def sBPut (td ty tv : TE) : TS := fun D σ H => tv σ H fun v H1 => td σ H1 fun x H2 => ty σ H2 fun y H3 => ∃ a b kvs k, x = .ref a ∧ y = .ref b ∧ DBat H3 a kvs ∧ H3 b = some (.tup (k.map V.bl)) ∧ kvs.length < sizeLine ∧
  ∀ H4, DBat H4 a (putK kvs k v) → But a H3 H4 → D.nx σ H4
def tBNew : TE := fun _ H Q => ∀ p H', H p = none → Same H H' → But p H H' → DBat H' p [] → Q (.ref p) H'
section
variable {X : Cx} {o i e value : Expr} {pos pos' tpos : Pos} {td ty tv : TE}
theorem DBat.typeIs {pins : List (Addr × Obj)} {σ : St} {H : Hp} {s : Shared} {a : Addr} {kvs : List (List Bool × V)} (I : Inv X pins σ H s) (d : DBat H a kvs) : s.TypeIs (.ref a) "dict" := by
  obtain ⟨_, _, _, _, _, xs, _, _, dd⟩ := d.of I.hok
  exact dd.typeIs
theorem DBat.noDict {pins : List (Addr × Obj)} {σ : St} {H : Hp} {s : Shared} {a : Addr} {kvs : List (List Bool × V)} (I : Inv X pins σ H s) (d : DBat H a kvs) : ∀ b, Value.ref a = .ref b → ∃ ob, s.heap.get? b = some ob ∧ ob.dict = none := fun b q => by
  cases q
  obtain ⟨_, _, _, _, _, xs, _, _, ob, _, _, e1, e2, _⟩ := d.of I.hok
  exact ⟨ob, e1, e2.2.1⟩
theorem pe_bget (hu : X.A.units + 1 < cLine) (ho : PE X o td) (hi : PE X i ty) (hs : NoSl i) : PE X (.Subscript o i pos) (tBGet td ty) := by
  refine ⟨fun pins s σ H Q I h => subD_of PySem.F.slot_dict_getitem.lookup hs (thn (ho.run pins s σ H _ I h) fun u s1 ⟨x, H1, I1, rx, q1⟩ => thn (hi.run pins s1 σ H1 _ I1 q1) ?_)⟩
  rintro iv s2 ⟨y, H2, I2, ry, a, b, kvs, k, v, rfl, rfl, d, eb, hv, q2⟩
  obtain rfl : u = Value.ref a := rx
  obtain rfl : iv = Value.ref b := ry
  exact ⟨d.typeIs I2, b_getItem hu I2 d eb hv fun w' s3 I3 rw' => ⟨v, H2, I3, rw', q2⟩⟩
theorem pc_bin (hu : X.A.units + 1 < cLine) (hi : PE X i ty) (ho : PE X o td) : PC X .In i o (tBIn ty td) := by
  refine ⟨fun pins s σ H Q I h => thn (hi.run pins s σ H _ I h) fun iv s1 ⟨y, H1, I1, ry, q1⟩ => thn (ho.run pins s1 σ H1 _ I1 q1) ?_⟩
  rintro u s2 ⟨x, H2, I2, rx, a, b, kvs, k, rfl, rfl, d, eb, q2⟩
  obtain rfl : u = Value.ref a := rx
  obtain rfl : iv = Value.ref b := ry
  exact b_in hu I2 d eb fun s3 I3 => ⟨.bl (valV kvs k).isSome, H2, I3, rfl, q2⟩
theorem pc_bnotin (hu : X.A.units + 1 < cLine) (hi : PE X i ty) (ho : PE X o td) : PC X .NotIn i o (tBNotIn ty td) := by
  refine ⟨fun pins s σ H Q I h => thn (hi.run pins s σ H _ I h) fun iv s1 ⟨y, H1, I1, ry, q1⟩ => thn (ho.run pins s1 σ H1 _ I1 q1) ?_⟩
  rintro u s2 ⟨x, H2, I2, rx, a, b, kvs, k, rfl, rfl, d, eb, q2⟩
  obtain rfl : u = Value.ref a := rx
  obtain rfl : iv = Value.ref b := ry
  exact b_notIn hu I2 d eb fun s3 I3 => ⟨.bl (!(valV kvs k).isSome), H2, I3, rfl, q2⟩
theorem ps_bput (hu : X.A.units + 1 < cLine) (ho : PE X o td) (hi : PE X i ty) (hv : PE X value tv) (hs : swapsWith value (some (.Subscript o i pos')) pos.line X.env = pure false) : PS X (.Assign [.Subscript o i pos'] value pos) (sBPut td ty tv) := by
  refine ⟨fun pins s σ H D I h => wpAny_Assign_Subscript (thn (hv.run pins s σ H _ I h) fun r s1 ⟨v, H1, I1, rv, q1⟩ => thn (ho.run pins s1 σ H1 _ I1 q1) fun u s2 ⟨x, H2, I2, rx, q2⟩ => thn (hi.run pins s2 σ H2 _ I2 q2) ?_) hs⟩
  rintro iv s3 ⟨y, H3, I3, ry, a, b, kvs, k, rfl, rfl, d, eb, hl, q3⟩
  obtain rfl : u = Value.ref a := rx
  obtain rfl : iv = Value.ref b := ry
  exact b_setItem hu I3 d eb hl rv fun H4 s4 I4 d4 b4 => ⟨σ, H4, I4, q3 H4 d4 b4⟩
theorem b_fresh {P : Program} {w : World} (h : Heap) (hb : sysModules < h.objs.size) : bFits h.objs.size [] [] (h.push { cls := .type "dict", data := .dict #[] }) :=
  dictH_bFits (P := P) (w := w) (xs := []) (Nat.zero_le _) (beq_eq_false_iff_ne.mpr (Ne.symm (Nat.ne_of_lt hb))) .nil (Heap.DictOfH.new h)
theorem b_new {pins : List (Addr × Obj)} {σ : St} {H : Hp} {s : Shared} (t : Nat) (I : Inv X pins σ H s) : Inv X pins σ (upd H s.heap.objs.size (bD s.heap.objs.size [] [])) { s with heap := s.heap.push { cls := .type "dict", data := .dict #[] }, toks := t } :=
  I.laid (fun _ _ q => Heap.get?_push_of_some _ q) (Nat.le_refl _) (bD_ok (b_fresh (P := X.prog) (w := X.w) s.heap I.big))
theorem dbat_new {H : Hp} {p : Addr} : DBat (upd H p (bD p [] [])) p [] := ⟨[], upd_same, .nil, List.nodup_nil⟩
theorem pe_bnew : PE X (.Dict [] [] pos) tBNew := ⟨fun pins s σ H Q I h => by
  have hn : H s.heap.objs.size = none := I.hok.fresh (Nat.le_refl _)
  exact wpAny_Dict_empty ⟨.ref s.heap.objs.size, _, b_new s.toks I, rfl, h _ _ hn (Same.new hn) But.upd dbat_new⟩⟩
/-- {k: v} -/
def tBOne (tk tv : TE) : TE := fun σ H Q => ∀ p H0, H p = none → Same H H0 → But p H H0 → DBat H0 p [] → tk σ H0 fun x H1 => tv σ H1 fun v H2 => DBat H2 p [] ∧ ∃ b k, x = .ref b ∧ H2 b = some (.tup (k.map V.bl)) ∧
  ∀ H3, DBat H3 p [(k, v)] → But p H2 H3 → Q (.ref p) H3
theorem pe_bone {k v : Expr} {tk tv : TE} (hu : X.A.units + 1 < cLine) (hk : PE X k tk) (hv : PE X v tv) : PE X (.Dict [some k] [v] pos) (tBOne tk tv) := by
  refine ⟨fun pins s σ H Q I h => ?_⟩
  have hn : H s.heap.objs.size = none := I.hok.fresh (Nat.le_refl _)
  have I0 := b_new s.toks I
  have h0 := h _ _ hn (Same.new hn) But.upd dbat_new
  have np : pairTrees [some k] [v] X.env pos ≠ [] := by
    intro z
    have e := congrArg List.length z
    rw [pairTrees_length [some k] [v] X.env pos rfl rfl] at e
    exact absurd (show 1 = 0 from e) (by decide)
  have nl : (pairTrees [some k] [v] X.env pos).length = 1 := pairTrees_length [some k] [v] X.env pos rfl rfl
  rw [arm_eval_Dict, zip_pairTrees [some k] [v] X.env pos rfl rfl, dictDisplay_pairs (pairTrees [some k] [v] X.env pos) np (by rw [nl]; exact Nat.le_of_ble_eq_true rfl)]
  refine wpAny_bind (wpAny_standAt (wpAny_bind (wpAny_subDictH (knd := BK X.prog X.w) (show X.A.units < cLine from by omega) (by rw [nl]; exact Nat.le_of_ble_eq_true rfl) ?_)))
  refine pairTrees_cons_walk (thn (hk.run pins _ σ _ _ I0 h0) fun u s1 ⟨x, H1, I1, rx, q1⟩ => thn (hv.run pins s1 σ H1 _ I1 q1) fun w2 s2 ⟨y, H2, I2, ry, d2, b, kk, ex, eb, q2⟩ => pairTrees_nil_walk ?_)
  subst ex
  obtain rfl : u = Value.ref b := rx
  obtain ⟨bs, e, ka, z, yy, xs, rel, hbs, dd⟩ := d2.of I2.hok
  have hx : xs = [] := by
    have := KV.length rel
    unfold pairsH at this
    rw [List.length_map] at this
    exact List.eq_nil_of_length_eq_zero this.symm
  subst hx
  refine ⟨[(kk, b, w2)], ⟨rfl, rfl, bKey I2.hok eb, True.intro⟩, dd, fun h' t dd2 hs => ?_⟩
  obtain ⟨H3, I3, d3, b3⟩ := b_write (t' := t) I2 d2 hs (kvs2 := [(kk, y)]) (xs2 := [(kk, b, w2)]) (small10 (Nat.le_of_ble_eq_true rfl)) (.cons ⟨rfl, ry⟩ .nil) dd2 (fun x hx => by rw [List.mem_singleton.mp hx]; exact eb)
  exact wpAny_pure ⟨.ref s.heap.objs.size, H3, I3, rfl, q2 H3 d3 b3⟩
end
/-! ### calls and methods -/
section
variable {X : Cx}
def rBLen : List V → Hp → VK → Prop := fun xs H Q => ∃ a kvs, xs = [.ref a] ∧ DBat H a kvs ∧ Q (.int ((kvs.length : Nat) : Int)) H
theorem call_blen : CallR X (.builtin "len") rBLen := by
  rintro pins s σ H xs us Q I r ⟨a, kvs, rfl, d, q⟩
  obtain ⟨u, rfl, rx⟩ := vals1 r
  obtain rfl : u = .ref a := rx
  obtain ⟨bs, e, ka, z, y, ys, rel, _, dd⟩ := d.of I.hok
  have hl : kvs.length = ys.length := by rw [KV.length rel]; unfold pairsH; rw [List.length_map]
  refine call_len_dictH y dd (by rw [← hl]; rw [sizeLine_eq] at z; omega) ?_
  rw [← hl]
  exact ⟨.int ((kvs.length : Nat) : Int), H, I.tok _, ⟨_, rfl⟩, q⟩
/-- list(d) -/
def rBList : List V → Hp → VK → Prop := fun xs H Q => ∃ a kvs, xs = [.ref a] ∧ DBat H a kvs ∧ ∀ p H' us, H p = none → Same H H' → H' p = some (.lst us) → Tups H' (kvs.map (·.1)) us → Q (.ref p) H'
theorem kat_tups {H : Hp} : ∀ {bs : List Addr} {ks : List (List Bool)}, KAt H bs ks → Tups H ks (bs.map V.ref)
  | _, _, .nil => .nil
  | _, _, .cons r t => .cons ⟨_, rfl, r⟩ (kat_tups t)
theorem call_blist (hc : X.calm = true) : CallR X (.type "list") rBList := by
  rintro pins s σ H vs us Q I r ⟨a, kvs, rfl, d, q⟩
  obtain ⟨u, rfl, rx⟩ := r.one
  cases rx
  obtain ⟨bs, e, ka, z, y, xs, rel, hbs, dd⟩ := d.of I.hok
  obtain ⟨o, ens, ep, ho, hx, hd, hen, _, hn⟩ := dd
  have l1 : ens.size = xs.length := size_of_entries hen
  have l2 : kvs.length = xs.length := by rw [KV.length rel]; unfold pairsH; rw [List.length_map]
  refine PySem.W.kdl_call (kdl_raw y hx hd) (I.ok.hd hc) ho (by omega) fun h' tk acc c kp e1 it => ?_
  have ea : acc.toList = bs.map Value.ref := by
    rw [← hbs, List.map_map]
    apply List.ext_getElem?
    intro j
    rw [List.getElem?_map]
    cases hj : acc.toList[j]? with
    | none =>
      have g := List.getElem?_eq_none_iff.mp hj
      rw [Array.length_toList, it.1] at g
      rw [List.getElem?_eq_none (by omega)]; rfl
    | some v =>
      obtain ⟨en, he, rfl⟩ := it.2 j v (by rw [← Array.getElem?_toList]; exact hj)
      rw [entry_at hen j] at he
      obtain ⟨x, hx1, rfl⟩ := Option.map_eq_some_iff.mp he
      rw [hx1]; rfl
  have hl : (bs.map V.ref).length ≤ sizeLine := by rw [← hbs, List.length_map, List.length_map]; omega
  have hnew : H s.heap.objs.size = none := I.hok.fresh (Nat.le_refl _)
  refine ⟨.ref s.heap.objs.size, upd H s.heap.objs.size (.lst (bs.map V.ref)), I.laid kp (Nat.le_refl _) ⟨hl, acc.toList, c, by rw [ea]; exact vals_refs bs, by rw [Array.toArray_toList]; exact e1⟩, rfl, ?_⟩
  exact q _ _ _ hnew (Same.new hnew) upd_same (Tups.same (Same.new hnew) (kat_tups ka))
/-- isinstance(d, dict) -/
def rBIsi : List V → Hp → VK → Prop := fun xs H Q => ∃ a kvs, xs = [.ref a, .ty "dict"] ∧ DBat H a kvs ∧ Q (.bl true) H
theorem call_bisi : CallR X (.builtin "isinstance") rBIsi := by
  rintro pins s σ H xs us Q I r ⟨a, kvs, rfl, d, q⟩
  obtain ⟨u, w', rfl, rx, ry⟩ := vals2 r
  obtain rfl : u = .ref a := rx
  obtain rfl : w' = .type "dict" := ry
  obtain ⟨bs, e, ka, z, y, xs, rel, hbs, o, ens, ep, ho, hx, _⟩ := d.of I.hok
  exact PySem.W.kia_one PySem.W.kitx_dict I.kIn ⟨o, ho, hx.1⟩ (kit_ty (a := "dict") (b := "dict") (r := true) (by decide +kernel)) (fun z => nomatch z) fun tk => ⟨.bl true, H, I.tok tk, rfl, q⟩
end
/-! ### max with a default -/
def rMaxD (K : PySem.W.Frag) : List V → List V → Hp → VK → Prop := fun vs zs H Q => ∃ (a : Addr) (ns : List Int) (d : Int), vs = [.ref a] ∧ zs = [.int d] ∧ SqL K H a (ns.map V.int) ∧ Q (.int (maxI d ns)) H
theorem reads_ints {h : Heap} : ∀ {ns : List Int} {us : List Value}, Vals (ns.map V.int) us → ∃ as, ReadsAll h us (ns.map PyData.int) as
  | [], _, r => by rw [List.map_nil] at r; cases r; exact ⟨_, .nil⟩
  | n :: ns, _, r => by
    rw [List.map_cons] at r
    cases r with
    | cons h1 t =>
      obtain ⟨tk, rfl⟩ := h1
      obtain ⟨as, q⟩ := reads_ints (h := h) t
      exact ⟨_, .cons (.int n tk) q⟩
theorem depth_ints : ∀ ns : List Int, PyData.depthAll (ns.map PyData.int) = 0
  | [] => rfl
  | n :: ns => by
    rw [List.map_cons]
    show max (PyData.depth (.int n)) (PyData.depthAll (ns.map PyData.int)) = 0
    rw [depth_ints ns]; rfl
theorem call_maxD {X : Cx} (hc : X.calm = true) (hu : X.A.units + 1 < cLine) : CallRK X (.builtin "max") ["default"] (rMaxD X.K) := by
  rintro pins s σ H vs zs us ws Q I r rz ⟨a, ns, d, rfl, rfl, hs, q⟩
  obtain ⟨u, rfl, rx⟩ := vals1 r
  obtain rfl : u = .ref a := rx
  obtain ⟨u2, rfl, rd⟩ := vals1 rz
  obtain ⟨its, rv, hl, hz⟩ := I.list hs
  obtain ⟨as, hr⟩ := reads_ints (h := s.heap) rv
  have al : PySem.W.AlikeAll (ns.map PyData.int) := by
    refine ⟨fun x hx y hy => ?_, fun x hx => ?_⟩
    · obtain ⟨i, _, rfl⟩ := List.mem_map.mp hx
      obtain ⟨j, _, rfl⟩ := List.mem_map.mp hy
      rfl
    · obtain ⟨i, _, rfl⟩ := List.mem_map.mp hx
      intro z; cases z
  refine PySem.W.max_list_default (xs := ns.map PyData.int) (as := as) (I.ok.hd hc) hl.isList (by simpa using hr) al (by rw [depth_ints]; omega) (fun hn h' tk k => ?_) (fun y ys i v h' tk bs hn hi rd2 k => ?_)
  · cases ns with
    | nil => exact ⟨.int d, H, I.kept k, rd, q⟩
    | cons n ns => exact nomatch hn
  · cases ns with
    | nil => exact nomatch hn
    | cons n ns =>
      rw [List.map_cons] at hn
      cases hn
      rw [PySem.W.maxD_ints] at rd2
      cases rd2 with
      | int _ t => exact ⟨.int (ns.foldl max n), H, I.kept k, ⟨t, rfl⟩, q⟩
/-! ### a walk over the keys -/
section
variable {X : Cx} {pins : List (Addr × Obj)} {σ : St} {H : Hp} {s : Shared} {d : Addr} {o : Obj} {bs : List Addr} {kvs : List (List Bool × V)}
theorem frzB (I : Inv X pins σ H s) (h : H d = some (.frz o (bD d bs kvs))) :
    (d == sysModules) = false ∧ s.heap.get? d = some o ∧ o.ExactDict ∧ ∃ (es : Array DictEntry) (ep : Nat), o.data = .dict es ep ∧ es.size = bs.length ∧ ∀ (i : Nat) (b : Addr), bs[i]? = some b → ∃ en : DictEntry, es[i]? = some en ∧ en.key = .ref b := by
  obtain ⟨hd, q⟩ := I.hok d _ h
  obtain ⟨_, y, xs, r, l, o2, ens, ep, e, c, dd, f, _⟩ := q.1
  rw [hd] at e
  cases e
  refine ⟨y, hd, c, ens, ep, dd, ?_, fun i b hb => ?_⟩
  · rw [← l, List.length_map]; exact size_of_entries (knd := BK X.prog X.w) f
  · rw [← l, List.getElem?_map] at hb
    obtain ⟨x, hx, rfl⟩ := Option.map_eq_some_iff.mp hb
    have g := entry_at (knd := BK X.prog X.w) f i
    rw [hx] at g
    exact ⟨_, g, rfl⟩
end
/-- the keys of the locked dict at d -/
def ItB (d : Addr) (o : Obj) (bs : List Addr) (kvs : List (List Bool × V)) : It :=
  ⟨fun i H => H d = some (.frz o (bD d bs kvs)) ∧ i < bs.length, fun i H x H' => H' = H ∧ ∃ b, bs[i]? = some b ∧ x = .ref b, fun i H => H d = some (.frz o (bD d bs kvs)) ∧ bs.length ≤ i⟩
theorem turn_B {P : Program} {w : World} {K : PySem.W.Frag} {tg : Expr} {d : Addr} {o : Obj} {es : Array DictEntry} {ep : Nat} {bs : List Addr} {kvs : List (List Bool × V)} (it : Addr) (hod : o.data = .dict es ep) :
    Turn P w K tg (ItB d o bs kvs) [it] it (fun i h => h.IsKeyIter it d i bs.length ep) where
  mem := List.mem_singleton.mpr rfl
  obj := fun i h st b hb => by
    cases List.mem_singleton.mp hb
    obtain ⟨oi, e1, _, e3⟩ := st
    exact ⟨oi, e1, fun v z => by rw [e3] at z; cases z⟩
  keep := fun i h h2 st k => st.at fun oi e => k it (List.mem_singleton.mpr rfl) oi e
  item := by
    rintro X rfl rfl rfl hc i pins s σ H E I hf st ⟨hd, hi⟩
    obtain ⟨f0, f1, f2, f3, f4, f5⟩ := hf it (List.mem_singleton.mpr rfl)
    obtain ⟨y, hgd, hx, es2, ep2, hdt, hsz, ent⟩ := frzB I hd
    cases (dict_ep hod hdt).1
    cases (dict_ep hod hdt).2
    have hb : bs[i]? = some bs[i] := List.getElem?_eq_getElem hi
    obtain ⟨en, hen, hk⟩ := ent i _ hb
    refine next_key_item st hgd hdt hsz hen fun h2 st2 sb => ?_
    have I2 : Inv X pins σ H { s with heap := h2 } := I.turned (t' := s.toks) (fun b ob hb e => (sb.2 b hb).trans e) f0 f1 f3 f4 f5
    obtain ⟨oi, e1, c1, d1⟩ := id st2
    exact ⟨en.key, rfl, go_of (s := { s with heap := h2 }) e1 c1 d1 (by decide) ⟨.ref bs[i], H, I2, hk, ⟨rfl, _, hb, rfl⟩, st2, fun b hb => (hf b hb).1⟩⟩
  done := by
    rintro X rfl rfl rfl hc i pins s σ H E I hf st ⟨hd, hi⟩
    obtain ⟨f0, f1, f2, f3, f4, f5⟩ := hf it (List.mem_singleton.mpr rfl)
    obtain ⟨y, hgd, hx, es2, ep2, hdt, hsz, ent⟩ := frzB I hd
    cases (dict_ep hod hdt).1
    cases (dict_ep hod hdt).2
    exact next_key_end (I.ok.hd hc) st hgd hdt hsz hi fun h2 eb => ⟨rfl, I.turned (t' := s.toks) (fun b ob hb e => eb b ob hb e) f0 f1 f3 f4 f5⟩
  self := fun A i s Q E st h => by
    have ty := st.typeIs (s := s)
    refine wpAny_pyIter_slot ty F.slot_dict_keyiterator_iter ?_
    refine wpAny_call_entry F.slot_dict_keyiterator_iter ty F.entry_dict_keyiterator_iter ?_ (F.args_dict_keyiterator_iter_1 _)
    exact wpAny_pure ⟨.ref it, rfl, "dict_keyiterator", _, ty, F.slot_dict_keyiterator_next.lookup, h⟩
def iBKeys (td : TE) : TI := fun σ H R => td σ H fun x H1 => ∃ d o bs kvs, x = .ref d ∧ H1 d = some (.frz o (bD d bs kvs)) ∧ R (ItB d o bs kvs) H1
theorem pi_bkeys {X : Cx} {tg e : Expr} {td : TE} (he : PE X e td) : PI X tg e (iBKeys td) := by
  refine ⟨fun pins s σ H R I h => thn (he.run pins s σ H _ I h) ?_⟩
  rintro u s1 ⟨x, H1, I1, rx, d, o, bs, kvs, rfl, hd, q⟩
  obtain rfl : u = Value.ref d := rx
  obtain ⟨y, hgd, hx, es, ep, hdt, hsz, ent⟩ := frzB I1 hd
  refine iter_keys y hgd hx hdt (pi_one (tk := s1.toks) I1 _ (turn_B _ hdt) ⟨_, Heap.get?_push_size _ rfl, rfl, ?_⟩ q)
  rw [hsz]; rfl
theorem walk_B {d : Addr} {o : Obj} {bs : List Addr} {kvs : List (List Bool × V)} : Walk (ItB d o bs kvs) bs.length (fun H => H d = some (.frz o (bD d bs kvs))) (YAt (bs.map V.ref)) :=
  ⟨fun i H hi h => ⟨h, hi⟩, fun H h => ⟨h, Nat.le_refl _⟩, fun i H x H' hi h ⟨e, b, hb, hx⟩ => ⟨e, by rw [List.getElem?_map, hb, hx]; rfl⟩⟩
/-! ### x.clear(), a list or a dict -/
def tClear (to : TE) : TE := fun σ H Q => to σ H fun x H1 => (∃ l xs, x = .ref l ∧ H1 l = some (.lst xs) ∧ Q .non (upd H1 l (.lst []))) ∨ (∃ a kvs, x = .ref a ∧ DBat H1 a kvs ∧ ∀ H2, DBat H2 a [] → But a H1 H2 → Q .non H2)
theorem pe_clear {X : Cx} {o : Expr} {to : TE} {apos cpos : Pos} (ho : PE X o to) (hbase : attributeBase o "clear" X.env (eval o X.env) = eval o X.env := by rfl) (hline : (apos.endLine == cpos.line) = true := by rfl) :
    PE X (.Call (.Attribute o "clear" apos) [] [] cpos) (tClear to) := by
  refine ⟨fun pins s σ H Q I h => wpAny_Call_method0_late hbase hline (thn (ho.run pins s σ H _ I h) ?_)⟩
  rintro v s1 ⟨x, H1, I1, r1, ⟨l, xs, rfl, hl, q⟩ | ⟨a, kvs, rfl, d, q⟩⟩
  · have ty : tyV X.K "list" (.ref l) H1 := .inl ⟨rfl, _, SqL.of hl⟩
    obtain ⟨h1, h2⟩ := tyV_is I1 r1 ty
    exact ⟨"list", "list.clear", PySem.F.plainAttrs_list, PySem.F.slot_list_clear, PySem.F.type_list_clear, h1, h2, Calls.callWith_builtin rfl (PySem.evalArgs_none (mt_clear pins s1 σ H1 _ [] v [] Q I1 r1 .nil ⟨l, xs, rfl, rfl, hl, q⟩))⟩
  · obtain rfl : v = .ref a := r1
    refine ⟨"dict", "dict.clear", PySem.F.plainAttrs_dict, PySem.F.slot_dict_clear, PySem.F.type_dict_clear, d.typeIs I1, d.noDict I1, Calls.callWith_builtin rfl (PySem.evalArgs_none ?_)⟩
    obtain ⟨bs, e, ka, z, y, xs, rel, hbs, dd⟩ := d.of I1.hok
    have hl : kvs.length = xs.length := by rw [KV.length rel]; unfold pairsH; rw [List.length_map]
    refine clear_keyed (knd := BK X.prog X.w) ⟨xs, dd, rfl⟩ (fun h2 ⟨ys, d2, e2⟩ hs => ?_) (by unfold pairsH; rw [List.length_map, ← hl]; exact z)
    have hy : ys = [] := by
      unfold pairsH at e2
      exact List.map_eq_nil_iff.mp e2
    subst hy
    obtain ⟨H2, I2, d3, b3⟩ := b_write (t' := s1.toks) I1 d hs (kvs2 := []) (xs2 := []) (Nat.zero_le _) .nil d2 (fun x hx => nomatch hx)
    exact ⟨.non, H2, I2, rfl, q H2 d3 b3⟩
theorem units65 {k : Nat} {A : Around} (hr : Room k A) : A.units + 65 < cLine := by have := hr.un; omega
end Rl

namespace Rl
open PySem L2
/-! ### looking through a board -/
def W.okAt (n m : Int) : W → Bool
  | .relay k => decide (0 ≤ k) && decide (k < n)
  | .button k => decide (0 ≤ k) && decide (k < m)
  | .not w => w.okAt n m
  | .and a b => a.okAt n m && b.okAt n m
  | .or a b => a.okAt n m && b.okAt n m
  | _ => true
theorem depth_parts (x : W) : (1 : Int) + maxI 0 (x.parts.map fun y => (y.depth : Int)) = (x.depth : Int) := by
  cases x with
  | not y => show (1 : Int) + (y.depth : Int) = ((y.depth + 1 : Nat) : Int); omega
  | and y z => show (1 : Int) + max (y.depth : Int) (z.depth : Int) = ((max y.depth z.depth + 1 : Nat) : Int); omega
  | or y z => show (1 : Int) + max (y.depth : Int) (z.depth : Int) = ((max y.depth z.depth + 1 : Nat) : Int); omega
  | on => rfl
  | off => rfl
  | relay k => rfl
  | button k => rfl
theorem okAt_parts (x : W) (n m : Int) (n1 : ∀ k, x ≠ .relay k) (n2 : ∀ k, x ≠ .button k) : (x.parts.map fun y => y.okAt n m).all id = x.okAt n m := by
  cases x with
  | not y => show (y.okAt n m && true) = _; rw [Bool.and_true]; rfl
  | and y z => show (y.okAt n m && (z.okAt n m && true)) = _; rw [Bool.and_true]; rfl
  | or y z => show (y.okAt n m && (z.okAt n m && true)) = _; rw [Bool.and_true]; rfl
  | on => rfl
  | off => rfl
  | relay k => exact absurd rfl (n1 k)
  | button k => exact absurd rfl (n2 k)
theorem parts_depth {x y : W} {N : Nat} (h : y ∈ x.parts) (hd : x.depth ≤ N + 1) : y.depth ≤ N := by
  cases x with
  | not z =>
    rcases List.mem_singleton.mp h with rfl
    exact Nat.le_of_succ_le_succ hd
  | and z w =>
    have hd' : max z.depth w.depth + 1 ≤ N + 1 := hd
    rcases List.mem_cons.mp h with rfl | h
    · omega
    · rcases List.mem_singleton.mp h with rfl
      omega
  | or z w =>
    have hd' : max z.depth w.depth + 1 ≤ N + 1 := hd
    rcases List.mem_cons.mp h with rfl | h
    · omega
    · rcases List.mem_singleton.mp h with rfl
      omega
  | on => cases h
  | off => cases h
  | relay k => cases h
  | button k => cases h
def deepOk (ws : List W) : Bool := ws.all fun w => decide (w.depth ≤ 8)
def allOk (ws : List W) (m : Int) : Bool := ws.all fun w => w.okAt (ws.length : Int) m
def roomOk (ws : List W) (m : Int) : Bool := (decide ((1 : Int) ≤ ws.length) && decide ((ws.length : Int) ≤ 6)) && (decide (0 ≤ m) && decide (m ≤ 4))
def lookR (ws : List W) (m : Int) : Int := if roomOk ws m = true then (if deepOk ws = true then (if allOk ws m = true then -1 else 2) else 1) else 0
theorem lookR_room {ws : List W} {m : Int} (h : roomOk ws m = false) : lookR ws m = 0 := by unfold lookR; rw [h]; rfl
theorem lookR_deep {ws : List W} {m : Int} (h : roomOk ws m = true) (h2 : deepOk ws = false) : lookR ws m = 1 := by unfold lookR; rw [h, h2]; rfl
theorem lookR_all {ws : List W} {m : Int} (h : roomOk ws m = true) (h2 : deepOk ws = true) (h3 : allOk ws m = false) : lookR ws m = 2 := by unfold lookR; rw [h, h2, h3]; rfl
theorem lookR_ok {ws : List W} {m : Int} (h : roomOk ws m = true) (h2 : deepOk ws = true) (h3 : allOk ws m = true) : lookR ws m = -1 := by unfold lookR; rw [h, h2, h3]; rfl
theorem all_take_step {α : Type} (f : α → Bool) {l : List α} {i : Nat} {x : α} (h : l[i]? = some x) : (l.take (i + 1)).all f = ((l.take i).all f && f x) := by
  rw [List.take_add_one, h, List.all_append]
  show ((l.take i).all f && (f x && true)) = _
  rw [Bool.and_true]
theorem all_bad {α : Type} (f : α → Bool) {l : List α} {i : Nat} {x : α} (h : l[i]? = some x) (hx : f x = false) : l.all f = false :=
  List.all_eq_false.mpr ⟨x, List.mem_of_getElem? h, by rw [hx]; decide⟩
theorem cutL_lo (xs : List V) (k : Nat) (h : k ≤ xs.length) : cutV xs none (some (k : Int)) = xs.take k := by
  unfold cutV
  rw [HT.sIx_none, HT.sIx_nat, Nat.min_eq_left h]
  rfl
theorem cutL_hi (xs : List V) (k : Nat) : cutV xs (some (k : Int)) none = xs.drop k := by
  unfold cutV
  rw [HT.sIx_none, HT.sIx_nat]
  by_cases h : k ≤ xs.length
  · rw [Nat.min_eq_left h, List.take_of_length_le (by rw [List.length_drop]; exact Nat.le_refl _)]
  · rw [Nat.min_eq_right (by omega), Nat.sub_self, List.take_zero, List.drop_eq_nil_of_le (by omega)]
theorem paired_app {α β : Type} {F : α → β → Prop} : ∀ {l l2 : List α} {r r2 : List β}, Paired F l r → Paired F l2 r2 → Paired F (l ++ l2) (r ++ r2)
  | _, _, _, _, .nil, h => h
  | _, _, _, _, .cons r t, h => .cons r (paired_app t h)
theorem paired_tk {α β : Type} {F : α → β → Prop} : ∀ {l : List α} {r : List β} (n : Nat), Paired F l r → Paired F (l.take n) (r.take n)
  | _, _, 0, _ => by rw [List.take_zero, List.take_zero]; exact .nil
  | _, _, _ + 1, .nil => .nil
  | _, _, n + 1, .cons r t => .cons r (paired_tk n t)
theorem paired_dr {α β : Type} {F : α → β → Prop} : ∀ {l : List α} {r : List β} (n : Nat), Paired F l r → Paired F (l.drop n) (r.drop n)
  | _, _, 0, h => h
  | _, _, _ + 1, .nil => .nil
  | _, _, n + 1, .cons _ t => paired_dr n t
theorem eqv_none (ds : List PyData) : PyData.eqv (.list ds) (.list []) = decide (ds = []) := by
  cases ds with
  | nil => simp [PyData.eqv, PyData.eqvAll]
  | cons d ds => simp [PyData.eqv, PyData.eqvAll]
theorem shWL {ws : List W} {d : Nat} (h : ∀ x ∈ ws, x.depth ≤ d) : Sh (.list (ws.map wd)) (d + 1) := Sh.lst fun e he => by
  obtain ⟨x, hx, rfl⟩ := List.mem_map.mp he
  exact (shW x).mono (h x hx)
end Rl

local macro_rules
  | `(tactic| wtm_at $s:str) => do
    match s.getString.splitOn " " with
    | ["new", p, h, ss, e] =>
      let n := Lean.mkIdent (Lean.Name.mkSimple ("n" ++ p))
      let p := Lean.mkIdent (Lean.Name.mkSimple p)
      let h := Lean.mkIdent (Lean.Name.mkSimple h)
      let ss := Lean.mkIdent (Lean.Name.mkSimple ss)
      let e := Lean.mkIdent (Lean.Name.mkSimple e)
      `(tactic| (intro $p $n; generalize eNew : L2.upd _ $p _ = $h; have $ss : L2.Same _ $h := eNew ▸ Rl.Same.new $n; have $e : $h $p = some _ := eNew ▸ L2.upd_same; clear eNew))
    | ["hp"] => `(tactic| first | assumption | exact L2.SqL.of (by wtm_at "hp") | exact L2.SqT.of (by wtm_at "hp") | (refine Rl.Same.get (by assumption) ?_; wtm_at "hp") | (refine L2.Same.seq (by assumption) ?_; wtm_at "hp") | (refine Rl.WA.same (by assumption) ?_; wtm_at "hp") | (refine Rl.WAs.same (by assumption) ?_; wtm_at "hp"))
    | ["cond"] => `(tactic| first | omega | decide | exact Rl.small10 (Nat.le_of_ble_eq_true rfl) | exact ⟨by decide, by decide⟩ | exact ⟨by omega, by omega⟩ | exact .inr ⟨by decide, by decide⟩ | exact .inl ⟨by decide, by decide⟩ | exact .inl ⟨by omega, by omega⟩ | exact .inr ⟨by omega, by omega⟩)
    | ["r1"] => `(tactic| first | refine ⟨_, rfl, ?_⟩ | refine ⟨_, _, rfl, rfl, ?_⟩ | refine ⟨rfl, ?_⟩ | refine ⟨show (_ : Prop) from (by wtm_at "cond"), ?_⟩)
    | ["rd"] => `(tactic| ((repeat wtm_at "r1"); (try dsimp -proj -eta -iota only)))
    | ["dF"] => `(tactic| refine Rl.iF (decide_eq_false (by first | decide +kernel | (dsimp only [Rl.W.tag]; decide +kernel))) ?_)
    | ["dT"] => `(tactic| refine Rl.iT (decide_eq_true (by first | decide +kernel | rfl | (dsimp only [Rl.W.tag]; decide +kernel))) ?_)
    | ["lc"] => `(tactic| (refine ⟨rfl, ?_⟩; dsimp -proj -eta -iota only [L2.tYes]; refine Rl.iT rfl ?_))
    | ["ds"] => `(tactic| dsimp -proj -eta -iota only)
    | ["szs"] => `(tactic| try refine ⟨by exact Rl.small10 (Nat.le_of_ble_eq_true rfl), ?_⟩)
    | ["sz"] => `(tactic| exact Rl.small10 (Nat.le_of_ble_eq_true rfl))
    | _ => Lean.Macro.throwUnsupported

namespace Rl
open PySem L2
def topS (i : Nat) : Stmt := PySem.Challenge.pw_relayroom_k01_looked.main.body.getD i (.Pass ⟨0, 0, 0, 0⟩)
abbrev sparts : Stmt := topS 12
abbrev sdepth : Stmt := topS 13
abbrev sis_wired : Stmt := topS 14
abbrev slooked : Stmt := topS 15
abbrev s_law_cell_at : Stmt := topS 17
abbrev s_law_pick : Stmt := topS 18
abbrev s_law_whole : Stmt := topS 19
abbrev s_law_mix : Stmt := topS 20
abbrev s_law_leaf : Stmt := topS 21
abbrev s_law_word : Stmt := topS 22
abbrev s_law_board : Stmt := topS 23
abbrev s_law_bits : Stmt := topS 24
abbrev s_law_wrapped : Stmt := topS 25
abbrev s_law_room : Stmt := topS 26
abbrev s_law_refused : Stmt := topS 27
abbrev s_law_told : Stmt := topS 28
abbrev s_law_depth : Stmt := topS 29
abbrev s_law_wired : Stmt := topS 30
abbrev s_law_spoilt : Stmt := topS 31
abbrev s_law_due : Stmt := topS 32
abbrev slaw : Stmt := topS 33
theorem scparts : FnScope ["word"] ["word"] (defScope sparts) := ⟨rfl, rfl, rfl, by decide +kernel, rfl, by decide +kernel, by decide +kernel⟩
theorem scdepth : FnScope ["word", "part"] ["word"] (defScope sdepth) := ⟨rfl, rfl, rfl, by decide +kernel, rfl, by decide +kernel, by decide +kernel⟩
theorem scis_wired : FnScope ["word", "relays", "buttons", "part"] ["word", "relays", "buttons"] (defScope sis_wired) := ⟨rfl, rfl, rfl, by decide +kernel, rfl, by decide +kernel, by decide +kernel⟩
theorem sclooked : FnScope ["board", "buttons", "word"] ["board", "buttons"] (defScope slooked) := ⟨rfl, rfl, rfl, by decide +kernel, rfl, by decide +kernel, by decide +kernel⟩
theorem sc_law_cell_at : FnScope ["script", "k"] ["script", "k"] (defScope s_law_cell_at) := ⟨rfl, rfl, rfl, by decide +kernel, rfl, by decide +kernel, by decide +kernel⟩
theorem sc_law_pick : FnScope ["script", "k"] ["script", "k"] (defScope s_law_pick) := ⟨rfl, rfl, rfl, by decide +kernel, rfl, by decide +kernel, by decide +kernel⟩
theorem sc_law_whole : FnScope ["x"] ["x"] (defScope s_law_whole) := ⟨rfl, rfl, rfl, by decide +kernel, rfl, by decide +kernel, by decide +kernel⟩
theorem sc_law_mix : FnScope ["cell", "k", "mixed"] ["cell", "k"] (defScope s_law_mix) := ⟨rfl, rfl, rfl, by decide +kernel, rfl, by decide +kernel, by decide +kernel⟩
theorem sc_law_leaf : FnScope ["mixed", "relays", "buttons", "spot"] ["mixed", "relays", "buttons"] (defScope s_law_leaf) := ⟨rfl, rfl, rfl, by decide +kernel, rfl, by decide +kernel, by decide +kernel⟩
theorem sc_law_word : FnScope ["cell", "k", "deep", "relays", "buttons", "mixed", "kind", "first"] ["cell", "k", "deep", "relays", "buttons"] (defScope s_law_word) := ⟨rfl, rfl, rfl, by decide +kernel, rfl, by decide +kernel, by decide +kernel⟩
theorem sc_law_board : FnScope ["script", "start", "relays", "buttons", "deep", "k"] ["script", "start", "relays", "buttons", "deep"] (defScope s_law_board) := ⟨rfl, rfl, rfl, by decide +kernel, rfl, by decide +kernel, by decide +kernel⟩
theorem sc_law_bits : FnScope ["number", "size", "k"] ["number", "size"] (defScope s_law_bits) := ⟨rfl, rfl, rfl, by decide +kernel, rfl, by decide +kernel, by decide +kernel⟩
theorem sc_law_wrapped : FnScope ["word", "mixed", "k"] ["word", "mixed"] (defScope s_law_wrapped) := ⟨rfl, rfl, rfl, by decide +kernel, rfl, by decide +kernel, by decide +kernel⟩
theorem sc_law_room : FnScope ["script", "cell", "relays", "buttons", "board", "pressed", "k"] ["script"] (defScope s_law_room) := ⟨rfl, rfl, rfl, by decide +kernel, rfl, by decide +kernel, by decide +kernel⟩
theorem sc_law_refused : FnScope ["marks", "which", "k"] ["marks", "which"] (defScope s_law_refused) := ⟨rfl, rfl, rfl, by decide +kernel, rfl, by decide +kernel, by decide +kernel⟩
theorem sc_law_told : FnScope ["board", "buttons", "found", "marks", "e"] ["board", "buttons"] (defScope s_law_told) := ⟨rfl, rfl, rfl, by decide +kernel, rfl, by decide +kernel, by decide +kernel⟩
theorem sc_law_depth : FnScope ["word", "part"] ["word"] (defScope s_law_depth) := ⟨rfl, rfl, rfl, by decide +kernel, rfl, by decide +kernel, by decide +kernel⟩
theorem sc_law_wired : FnScope ["word", "relays", "buttons", "part"] ["word", "relays", "buttons"] (defScope s_law_wired) := ⟨rfl, rfl, rfl, by decide +kernel, rfl, by decide +kernel, by decide +kernel⟩
theorem sc_law_spoilt : FnScope ["board", "buttons", "cell", "way", "at", "word", "k", "near", "far", "contact", "side"] ["board", "buttons", "cell"] (defScope s_law_spoilt) := ⟨rfl, rfl, rfl, by decide +kernel, rfl, by decide +kernel, by decide +kernel⟩
theorem sc_law_due : FnScope ["board", "buttons", "word"] ["board", "buttons"] (defScope s_law_due) := ⟨rfl, rfl, rfl, by decide +kernel, rfl, by decide +kernel, by decide +kernel⟩
theorem sclaw : FnScope ["script", "room", "board", "buttons", "k", "handed", "told", "due"] ["script"] (defScope slaw) := ⟨rfl, rfl, rfl, by decide +kernel, rfl, by decide +kernel, by decide +kernel⟩
structure Ad where
  (aparts adepth ais_wired alooked a_law_cell_at a_law_pick a_law_whole a_law_mix a_law_leaf a_law_word a_law_board a_law_bits a_law_wrapped a_law_room a_law_refused a_law_told a_law_depth a_law_wired a_law_spoilt a_law_due alaw : Addr)
  (dparts ddepth dis_wired dlooked d_law_cell_at d_law_pick d_law_whole d_law_mix d_law_leaf d_law_word d_law_board d_law_bits d_law_wrapped d_law_room d_law_refused d_law_told d_law_depth d_law_wired d_law_spoilt d_law_due dlaw : FuncData)
  (CRoomError CTooMany CDeep CNoContact CNoRelay CStill CNoNote : Addr)
structure Txt (K : PySem.W.Frag) (mg : Str → Option Value) (A : Ad) : Prop where
  F_parts : Fun K "parts" "parts" sparts A.aparts A.dparts
  m_parts : mg "parts" = some (.ref A.aparts)
  b_parts : Binds K A.dparts ["word"] []
  F_depth : Fun K "depth" "depth" sdepth A.adepth A.ddepth
  m_depth : mg "depth" = some (.ref A.adepth)
  b_depth : Binds K A.ddepth ["word"] []
  F_is_wired : Fun K "is_wired" "is_wired" sis_wired A.ais_wired A.dis_wired
  m_is_wired : mg "is_wired" = some (.ref A.ais_wired)
  b_is_wired : Binds K A.dis_wired ["word", "relays", "buttons"] []
  F_looked : Fun K "looked" "looked" slooked A.alooked A.dlooked
  m_looked : mg "looked" = some (.ref A.alooked)
  b_looked : Binds K A.dlooked ["board", "buttons"] []
  F__law_cell_at : Fun K "_law_cell_at" "_law_cell_at" s_law_cell_at A.a_law_cell_at A.d_law_cell_at
  m__law_cell_at : mg "_law_cell_at" = some (.ref A.a_law_cell_at)
  b__law_cell_at : Binds K A.d_law_cell_at ["script", "k"] []
  F__law_pick : Fun K "_law_pick" "_law_pick" s_law_pick A.a_law_pick A.d_law_pick
  m__law_pick : mg "_law_pick" = some (.ref A.a_law_pick)
  b__law_pick : Binds K A.d_law_pick ["script", "k"] []
  F__law_whole : Fun K "_law_whole" "_law_whole" s_law_whole A.a_law_whole A.d_law_whole
  m__law_whole : mg "_law_whole" = some (.ref A.a_law_whole)
  b__law_whole : Binds K A.d_law_whole ["x"] []
  F__law_mix : Fun K "_law_mix" "_law_mix" s_law_mix A.a_law_mix A.d_law_mix
  m__law_mix : mg "_law_mix" = some (.ref A.a_law_mix)
  b__law_mix : Binds K A.d_law_mix ["cell", "k"] []
  F__law_leaf : Fun K "_law_leaf" "_law_leaf" s_law_leaf A.a_law_leaf A.d_law_leaf
  m__law_leaf : mg "_law_leaf" = some (.ref A.a_law_leaf)
  b__law_leaf : Binds K A.d_law_leaf ["mixed", "relays", "buttons"] []
  F__law_word : Fun K "_law_word" "_law_word" s_law_word A.a_law_word A.d_law_word
  m__law_word : mg "_law_word" = some (.ref A.a_law_word)
  b__law_word : Binds K A.d_law_word ["cell", "k", "deep", "relays", "buttons"] []
  F__law_board : Fun K "_law_board" "_law_board" s_law_board A.a_law_board A.d_law_board
  m__law_board : mg "_law_board" = some (.ref A.a_law_board)
  b__law_board : Binds K A.d_law_board ["script", "start", "relays", "buttons", "deep"] []
  F__law_bits : Fun K "_law_bits" "_law_bits" s_law_bits A.a_law_bits A.d_law_bits
  m__law_bits : mg "_law_bits" = some (.ref A.a_law_bits)
  b__law_bits : Binds K A.d_law_bits ["number", "size"] []
  F__law_wrapped : Fun K "_law_wrapped" "_law_wrapped" s_law_wrapped A.a_law_wrapped A.d_law_wrapped
  m__law_wrapped : mg "_law_wrapped" = some (.ref A.a_law_wrapped)
  b__law_wrapped : Binds K A.d_law_wrapped ["word", "mixed"] []
  F__law_room : Fun K "_law_room" "_law_room" s_law_room A.a_law_room A.d_law_room
  m__law_room : mg "_law_room" = some (.ref A.a_law_room)
  b__law_room : Binds K A.d_law_room ["script"] []
  F__law_refused : Fun K "_law_refused" "_law_refused" s_law_refused A.a_law_refused A.d_law_refused
  m__law_refused : mg "_law_refused" = some (.ref A.a_law_refused)
  b__law_refused : Binds K A.d_law_refused ["marks", "which"] []
  F__law_told : Fun K "_law_told" "_law_told" s_law_told A.a_law_told A.d_law_told
  m__law_told : mg "_law_told" = some (.ref A.a_law_told)
  b__law_told : Binds K A.d_law_told ["board", "buttons"] []
  F__law_depth : Fun K "_law_depth" "_law_depth" s_law_depth A.a_law_depth A.d_law_depth
  m__law_depth : mg "_law_depth" = some (.ref A.a_law_depth)
  b__law_depth : Binds K A.d_law_depth ["word"] []
  F__law_wired : Fun K "_law_wired" "_law_wired" s_law_wired A.a_law_wired A.d_law_wired
  m__law_wired : mg "_law_wired" = some (.ref A.a_law_wired)
  b__law_wired : Binds K A.d_law_wired ["word", "relays", "buttons"] []
  F__law_spoilt : Fun K "_law_spoilt" "_law_spoilt" s_law_spoilt A.a_law_spoilt A.d_law_spoilt
  m__law_spoilt : mg "_law_spoilt" = some (.ref A.a_law_spoilt)
  b__law_spoilt : Binds K A.d_law_spoilt ["board", "buttons", "cell"] []
  F__law_due : Fun K "_law_due" "_law_due" s_law_due A.a_law_due A.d_law_due
  m__law_due : mg "_law_due" = some (.ref A.a_law_due)
  b__law_due : Binds K A.d_law_due ["board", "buttons"] []
  F_law : Fun K "law" "law" slaw A.alaw A.dlaw
  m_law : mg "law" = some (.ref A.alaw)
  b_law : Binds K A.dlaw ["script"] []
  n_max : mg "max" = none
  n_all : mg "all" = none
  n_len : mg "len" = none
  n_isinstance : mg "isinstance" = none
  n_int : mg "int" = none
  n_bool : mg "bool" = none
  n_range : mg "range" = none
  n_tuple : mg "tuple" = none
  n_ValueError : mg "ValueError" = none
  n_min : mg "min" = none
  n_list : mg "list" = none
  g_MOST_RELAYS : ∃ t, mg "MOST_RELAYS" = some (.int 6 t)
  g_MOST_BUTTONS : ∃ t, mg "MOST_BUTTONS" = some (.int 4 t)
  g_DEEPEST : ∃ t, mg "DEEPEST" = some (.int 8 t)
  c_RoomError : mg "RoomError" = some (.ref A.CRoomError)
  c_TooMany : mg "TooMany" = some (.ref A.CTooMany)
  c_Deep : mg "Deep" = some (.ref A.CDeep)
  c_NoContact : mg "NoContact" = some (.ref A.CNoContact)
  c_NoRelay : mg "NoRelay" = some (.ref A.CNoRelay)
  c_Still : mg "Still" = some (.ref A.CStill)
  c_NoNote : mg "NoNote" = some (.ref A.CNoNote)
  x_TooMany : PySem.W.excIn K A.CTooMany [.type "ValueError", .type "Exception", .type "BaseException", .type "object"] "ValueError.__new__" = true
  k_TooMany : PySem.W.keepIn K (.ref A.CTooMany) = true
  sb_TooMany : PySem.W.subIn K (.ref A.CTooMany) (.type "BaseException") = some true
  ty_TooMany : PySem.W.typeIn K (.ref A.CTooMany) = some (.type "type")
  e_TooMany : PySem.W.exmOne K (.ref A.CTooMany) (.ref A.CRoomError) = some true
  v_TooMany : PySem.W.kitOne K (.ref A.CTooMany) (.type "ValueError") = some true
  i_TooMany_TooMany : PySem.W.kitOne K (.ref A.CTooMany) (.ref A.CTooMany) = some true
  i_TooMany_Deep : PySem.W.kitOne K (.ref A.CTooMany) (.ref A.CDeep) = some false
  i_TooMany_NoContact : PySem.W.kitOne K (.ref A.CTooMany) (.ref A.CNoContact) = some false
  i_TooMany_NoRelay : PySem.W.kitOne K (.ref A.CTooMany) (.ref A.CNoRelay) = some false
  i_TooMany_Still : PySem.W.kitOne K (.ref A.CTooMany) (.ref A.CStill) = some false
  i_TooMany_NoNote : PySem.W.kitOne K (.ref A.CTooMany) (.ref A.CNoNote) = some false
  E_TooMany : ExcC K A.CTooMany
  x_Deep : PySem.W.excIn K A.CDeep [.type "ValueError", .type "Exception", .type "BaseException", .type "object"] "ValueError.__new__" = true
  k_Deep : PySem.W.keepIn K (.ref A.CDeep) = true
  sb_Deep : PySem.W.subIn K (.ref A.CDeep) (.type "BaseException") = some true
  ty_Deep : PySem.W.typeIn K (.ref A.CDeep) = some (.type "type")
  e_Deep : PySem.W.exmOne K (.ref A.CDeep) (.ref A.CRoomError) = some true
  v_Deep : PySem.W.kitOne K (.ref A.CDeep) (.type "ValueError") = some true
  i_Deep_TooMany : PySem.W.kitOne K (.ref A.CDeep) (.ref A.CTooMany) = some false
  i_Deep_Deep : PySem.W.kitOne K (.ref A.CDeep) (.ref A.CDeep) = some true
  i_Deep_NoContact : PySem.W.kitOne K (.ref A.CDeep) (.ref A.CNoContact) = some false
  i_Deep_NoRelay : PySem.W.kitOne K (.ref A.CDeep) (.ref A.CNoRelay) = some false
  i_Deep_Still : PySem.W.kitOne K (.ref A.CDeep) (.ref A.CStill) = some false
  i_Deep_NoNote : PySem.W.kitOne K (.ref A.CDeep) (.ref A.CNoNote) = some false
  E_Deep : ExcC K A.CDeep
  x_NoContact : PySem.W.excIn K A.CNoContact [.type "ValueError", .type "Exception", .type "BaseException", .type "object"] "ValueError.__new__" = true
  k_NoContact : PySem.W.keepIn K (.ref A.CNoContact) = true
  sb_NoContact : PySem.W.subIn K (.ref A.CNoContact) (.type "BaseException") = some true
  ty_NoContact : PySem.W.typeIn K (.ref A.CNoContact) = some (.type "type")
  e_NoContact : PySem.W.exmOne K (.ref A.CNoContact) (.ref A.CRoomError) = some true
  v_NoContact : PySem.W.kitOne K (.ref A.CNoContact) (.type "ValueError") = some true
  i_NoContact_TooMany : PySem.W.kitOne K (.ref A.CNoContact) (.ref A.CTooMany) = some false
  i_NoContact_Deep : PySem.W.kitOne K (.ref A.CNoContact) (.ref A.CDeep) = some false
  i_NoContact_NoContact : PySem.W.kitOne K (.ref A.CNoContact) (.ref A.CNoContact) = some true
  i_NoContact_NoRelay : PySem.W.kitOne K (.ref A.CNoContact) (.ref A.CNoRelay) = some false
  i_NoContact_Still : PySem.W.kitOne K (.ref A.CNoContact) (.ref A.CStill) = some false
  i_NoContact_NoNote : PySem.W.kitOne K (.ref A.CNoContact) (.ref A.CNoNote) = some false
  E_NoContact : ExcC K A.CNoContact
section
variable {P : Program} {w : World} {K : PySem.W.Frag} {mg : Str → Option Value} {base : Heap} {Z : Ad}
def sp_law_cell_at (K : PySem.W.Frag) : Sp := fun vs H Q _ => ∃ (a : Addr) (ns : List Int) (k : Int), vs = [.ref a, .int k] ∧ SqL K H a (ns.map V.int) ∧ 0 ≤ k ∧ ∀ n : Int, Q (.int n) H
theorem ok_law_cell_at (T : Txt K mg Z) : FnOk P w K mg base CX0 1 Z.a_law_cell_at Z.d_law_cell_at ["script", "k"] (sp_law_cell_at K) := by
  refine T.F__law_cell_at.ok sc_law_cell_at (fun vs H Q E h => by obtain ⟨_, _, _, rfl, _⟩ := h; rfl) (fun cdv A outer s H vs Q E hr h => ?_)
  obtain ⟨a, ns, k, rfl, hS, h0, q⟩ := h
  refine ⟨_, (pss_cons (ps_if (pt_cmpR op_lt (pv 1) (pe_callB (r := rLenSeq K) call_len_seq (by rfl) T.n_len PySem.boot_len (pa_cons (pv 0) pa_nil)) (nomark _)) (pss_one (ps_ret (pe_ix (r := rIxL K) ix_list (pv 0) (pv 1) (fun _ _ => rfl)))) pss_nil)
      (pss_one (ps_ret pe_int))), ?_⟩
  refine ⟨_, rfl, _, rfl, a, _, rfl, .inl hS, ?_⟩
  wtm_at "rd"
  refine iB (fun c => ?_) (fun c => ?_)
  · have c' := of_decide_eq_true c
    rw [List.length_map] at c'
    obtain ⟨j, rfl⟩ : ∃ j : Nat, k = (j : Int) := ⟨k.toNat, by omega⟩
    have hj : j < ns.length := by omega
    refine ⟨_, rfl, _, rfl, a, _, _, .int ns[j], rfl, rfl, hS, atI_nat (by rw [List.getElem?_map, List.getElem?_eq_getElem hj]; rfl), ?_⟩
    exact q _
  · exact q _

def sp_law_pick (K : PySem.W.Frag) : Sp := sp_law_cell_at K
theorem ok_law_pick (T : Txt K mg Z) : FnOk P w K mg base CX0 2 Z.a_law_pick Z.d_law_pick ["script", "k"] (sp_law_pick K) := by
  have G_law_cell_at := ok_law_cell_at (P := P) (w := w) (base := base) T
  refine T.F__law_pick.ok sc_law_pick (fun vs H Q E h => by obtain ⟨_, _, _, rfl, _⟩ := h; rfl) (fun cdv A outer s H vs Q E hr h => ?_)
  obtain ⟨a, ns, k, rfl, hS, h0, q⟩ := h
  refine ⟨_, (pss_cons (ps_if (pt_cmpR op_lt (pv 1) (pe_callB (r := rLenSeq K) call_len_seq (by rfl) T.n_len PySem.boot_len (pa_cons (pv 0) pa_nil)) (nomark _)) (pss_one (ps_ret (pe_ix (r := rIxL K) ix_list (pv 0) (pv 1) (fun _ _ => rfl)))) pss_nil)
      (pss_one (ps_ret (pe_op op_fdiv (pe_op op_mod (pe_op op_mul (pe_op op_add (pe_op op_add (pe_call G_law_cell_at (hr.mono (by omega)) (by rfl) T.m__law_cell_at T.F__law_cell_at.kp T.b__law_cell_at .nil pass0 (pa_cons (pv 0) (pa_cons pe_int pa_nil))) (pe_op op_mul pe_int (pv 1))) pe_int) pe_int) pe_int) pe_int)))), ?_⟩
  refine ⟨_, rfl, _, rfl, a, _, rfl, .inl hS, ?_⟩
  wtm_at "rd"
  refine iB (fun c => ?_) (fun c => ?_)
  · have c' := of_decide_eq_true c
    rw [List.length_map] at c'
    obtain ⟨j, rfl⟩ : ∃ j : Nat, k = (j : Int) := ⟨k.toNat, by omega⟩
    have hj : j < ns.length := by omega
    refine ⟨_, rfl, _, rfl, a, _, _, .int ns[j], rfl, rfl, hS, atI_nat (by rw [List.getElem?_map, List.getElem?_eq_getElem hj]; rfl), ?_⟩
    exact q _
  · refine ⟨_, rfl, a, ns, 0, rfl, hS, by omega, fun n => ?_⟩
    wtm_at "rd"
    exact q _

def sp_law_mix : Sp := fun vs H Q _ => ∃ (c k : Int), vs = [.int c, .int k] ∧ ∀ n : Int, 0 ≤ n → n < 2147483587 → Q (.int n) H
theorem ok_law_mix (T : Txt K mg Z) : FnOk P w K mg base CX0 1 Z.a_law_mix Z.d_law_mix ["cell", "k"] sp_law_mix := by
  refine T.F__law_mix.ok sc_law_mix (fun vs H Q E h => by obtain ⟨_, _, rfl, _⟩ := h; rfl) (fun cdv A outer s H vs Q E hr h => ?_)
  obtain ⟨c, k, rfl, q⟩ := h
  refine ⟨_, (pss_cons (ps_set (i := 2) sc_law_mix.nd rfl (Or.inl rfl) (pe_op op_mod (pe_op op_add (pe_op op_add (pe_op op_mul (pv 0) pe_int) (pe_op op_mul pe_int (pv 1))) pe_int) pe_int))
      (pss_cons (ps_set (i := 2) sc_law_mix.nd rfl (Or.inl rfl) (pe_op op_mod (pe_op op_add (pe_op op_add (pe_op op_mul (pv 2) (pv 2)) (pe_op op_mul pe_int (pv 2))) (pv 1)) pe_int))
      (pss_one (ps_ret (pe_op op_mod (pe_op op_add (pe_op op_add (pe_op op_mul (pv 2) (pv 2)) (pe_op op_mul pe_int (pv 2))) (pe_op op_mul pe_int (pv 1))) pe_int))))), ?_⟩
  wtm_at "rd"
  have b1 : 0 ≤ (c * 69621 + 7001 * k + 3) % 2147483629 ∧ (c * 69621 + 7001 * k + 3) % 2147483629 < 2147483629 := ⟨Int.emod_nonneg _ (by decide), Int.emod_lt_of_pos _ (by decide)⟩
  generalize (c * 69621 + 7001 * k + 3) % 2147483629 = m1 at *
  wtm_at "rd"
  have b2 : 0 ≤ (m1 * m1 + 39373 * m1 + k) % 2147483647 ∧ (m1 * m1 + 39373 * m1 + k) % 2147483647 < 2147483647 := ⟨Int.emod_nonneg _ (by decide), Int.emod_lt_of_pos _ (by decide)⟩
  generalize (m1 * m1 + 39373 * m1 + k) % 2147483647 = m2 at *
  wtm_at "rd"
  exact q _ (Int.emod_nonneg _ (by decide)) (Int.emod_lt_of_pos _ (by decide))

def sp_law_leaf : Sp := fun vs H Q _ => ∃ (c : Int) (n m : Nat), vs = [.int c, .int n, .int m] ∧ ∀ (H' : Hp) (a : Addr) (w : W), Same H H' → WA H' w a → Fit n m 1 w → Q (.ref a) H'
theorem ok_law_leaf (T : Txt K mg Z) : FnOk P w K mg base CX0 1 Z.a_law_leaf Z.d_law_leaf ["mixed", "relays", "buttons"] sp_law_leaf := by
  refine T.F__law_leaf.ok sc_law_leaf (fun vs H Q E h => by obtain ⟨_, _, _, rfl, _⟩ := h; rfl) (fun cdv A outer s H vs Q E hr h => ?_)
  obtain ⟨c, n, m, rfl, q⟩ := h
  refine ⟨_, (pss_cons (ps_set (i := 3) sc_law_leaf.nd rfl (Or.inl rfl) (pe_op op_mod (pv 0) (pe_op op_add (pe_op op_add (pv 1) (pv 2)) pe_int)))
      (pss_cons (ps_if (pt_cmpR op_lt (pv 3) (pv 1) (nomark _)) (pss_one (ps_ret (pe_tup (pa_cons pe_str (pa_cons (pv 3) pa_nil))))) pss_nil)
      (pss_cons (ps_if (pt_cmpR op_lt (pv 3) (pe_op op_add (pv 1) (pv 2)) (nomark _)) (pss_one (ps_ret (pe_tup (pa_cons pe_str (pa_cons (pe_op op_sub (pv 3) (pv 1)) pa_nil))))) pss_nil)
      (pss_one (ps_ret (pe_ix (r := rIxL K) ix_list (pe_lst (pa_cons (pe_tup (pa_cons pe_str pa_nil)) (pa_cons (pe_tup (pa_cons pe_str pa_nil)) pa_nil))) (pe_op op_mod (pe_op op_fdiv (pv 0) pe_int) pe_int) (fun _ _ => rfl))))))), ?_⟩
  wtm_at "rd"
  have b1 : 0 ≤ c % ((n : Int) + m + 1) ∧ c % ((n : Int) + m + 1) < (n : Int) + m + 1 := ⟨Int.emod_nonneg _ (by omega), Int.emod_lt_of_pos _ (by omega)⟩
  generalize c % ((n : Int) + m + 1) = z at *
  refine iB (fun c1 => ?_) (fun c1 => ?_)
  · have c1' := of_decide_eq_true c1
    wtm_at "rd"
    wtm_at "szs"
    wtm_at "new p H1 s1 e1"
    exact q _ _ (.relay z) s1 e1 ⟨⟨by omega, by omega⟩, Int.le_refl 1⟩
  · have c1' := of_decide_eq_false c1
    wtm_at "rd"
    refine iB (fun c2 => ?_) (fun c2 => ?_)
    · have c2' := of_decide_eq_true c2
      wtm_at "rd"
      wtm_at "szs"
      wtm_at "new p H1 s1 e1"
      exact q _ _ (.button (z - n)) s1 e1 ⟨⟨by omega, by omega⟩, Int.le_refl 1⟩
    · wtm_at "szs"
      wtm_at "new p1 H1 s1 e1"
      wtm_at "szs"
      wtm_at "new p2 H2 s2 e2"
      wtm_at "szs"
      wtm_at "new p3 H3 s3 e3"
      wtm_at "rd"
      rcases (by omega : c / 64 % 2 = 0 ∨ c / 64 % 2 = 1) with e | e
      · exact ⟨_, _, _, _, rfl, rfl, .of e3, at_of (j := 0) e rfl, q _ _ .on (s1.trans (s2.trans s3)) (by wtm_at "hp") ⟨trivial, Int.le_refl 1⟩⟩
      · exact ⟨_, _, _, _, rfl, rfl, .of e3, at_of (j := 1) e rfl, q _ _ .off (s1.trans (s2.trans s3)) (by wtm_at "hp") ⟨trivial, Int.le_refl 1⟩⟩

def sp_law_word (N : Nat) : Sp := fun vs H Q _ => ∃ (c k d : Int) (n m : Nat), vs = [.int c, .int k, .int d, .int n, .int m] ∧ 1 ≤ d ∧ d ≤ N ∧ ∀ (H' : Hp) (a : Addr) (w : W), Same H H' → WA H' w a → Fit n m d w → Q (.ref a) H'
theorem st_law_word (T : Txt K mg Z) {N : Nat} (G_law_word : FnOk P w K mg base CX0 (N + 1) Z.a_law_word Z.d_law_word ["cell", "k", "deep", "relays", "buttons"] (sp_law_word N)) : FnOk P w K mg base CX0 (N + 2) Z.a_law_word Z.d_law_word ["cell", "k", "deep", "relays", "buttons"] (sp_law_word (N + 1)) := by
  have G_law_mix := ok_law_mix (P := P) (w := w) (base := base) T
  have G_law_leaf := ok_law_leaf (P := P) (w := w) (base := base) T
  refine T.F__law_word.ok sc_law_word (fun vs H Q E h => by obtain ⟨_, _, _, _, _, rfl, _⟩ := h; rfl) (fun cdv A outer s H vs Q E hr h => ?_)
  obtain ⟨c, k, d, n, m, rfl, hd1, hd2, q⟩ := h
  refine ⟨_, (pss_cons (ps_set (i := 5) sc_law_word.nd rfl (Or.inl rfl) (pe_op op_fdiv (pe_call G_law_mix (hr.mono (by omega)) (by rfl) T.m__law_mix T.F__law_mix.kp T.b__law_mix .nil pass0 (pa_cons (pv 0) (pa_cons (pv 1) pa_nil))) pe_int))
      (pss_cons (ps_set (i := 6) sc_law_word.nd rfl (Or.inl rfl) (pe_op op_mod (pv 5) pe_int))
      (pss_cons (ps_if (PW.pt (pw_or (pt_cmpR op_lt (pv 2) pe_int (nomark _)) (pw_or1 (pt_cmpR op_lt (pv 6) pe_int (nomark _))))) (pss_one (ps_ret (pe_call G_law_leaf (hr.mono (by omega)) (by rfl) T.m__law_leaf T.F__law_leaf.kp T.b__law_leaf .nil pass0 (pa_cons (pe_op op_fdiv (pv 5) pe_int) (pa_cons (pv 3) (pa_cons (pv 4) pa_nil)))))) pss_nil)
      (pss_cons (ps_set (i := 7) sc_law_word.nd rfl (Or.inl rfl) (pe_call G_law_word (hr.mono (by omega)) (by rfl) T.m__law_word T.F__law_word.kp T.b__law_word .nil pass0 (pa_cons (pv 0) (pa_cons (pe_op op_add (pe_op op_mul pe_int (pv 1)) pe_int) (pa_cons (pe_op op_sub (pv 2) pe_int) (pa_cons (pv 3) (pa_cons (pv 4) pa_nil)))))))
      (pss_cons (ps_if (pt_cmpR op_lt (pv 6) pe_int (nomark _)) (pss_one (ps_ret (pe_tup (pa_cons pe_str (pa_cons (pv 7) pa_nil))))) pss_nil)
      (pss_one (ps_ret (pe_tup (pa_cons (pe_ix (r := rIxL K) ix_list (pe_lst (pa_cons pe_str (pa_cons pe_str pa_nil))) (pe_op op_mod (pv 6) pe_int) (fun _ _ => rfl)) (pa_cons (pv 7) (pa_cons (pe_call G_law_word (hr.mono (by omega)) (by rfl) T.m__law_word T.F__law_word.kp T.b__law_word .nil pass0 (pa_cons (pv 0) (pa_cons (pe_op op_add (pe_op op_mul pe_int (pv 1)) pe_int) (pa_cons (pe_op op_sub (pv 2) pe_int) (pa_cons (pv 3) (pa_cons (pv 4) pa_nil)))))) pa_nil))))))))))), ?_⟩
  wtm_at "rd"
  refine ⟨c, k, rfl, fun x hx0 hx1 => ?_⟩
  wtm_at "rd"
  have leaf : ∀ (σ : St) (D : Ends), D.rt = Q → σ[5]? = some (some (.int (x / 7))) → σ[3]? = some (some (.int n)) → σ[4]? = some (some (.int m)) → tRet (tCall sp_law_leaf [] E0 (tCons (tOp (rI CDiv fun i j => .int (i / j)) (tVar 5) (tC (.int 10))) (tCons (tVar 3) (tCons (tVar 4) tNil)))) D σ H := by
    intro σ D hD h5 h3 h4
    refine ⟨_, h5, _, _, rfl, rfl, ⟨by decide, by decide⟩, _, h3, _, h4, _, n, m, rfl, fun H' a w s1 e1 f1 => ?_⟩
    rw [hD]
    exact q _ _ _ s1 e1 ⟨f1.1, Int.le_trans f1.2 hd1⟩
  refine iB (fun c1 => ?_) (fun c1 => ?_)
  · exact iT rfl (leaf _ _ rfl rfl rfl rfl)
  have c1' := of_decide_eq_false c1
  wtm_at "rd"
  have hk : 0 ≤ x / 7 % 10 ∧ x / 7 % 10 < 10 := by omega
  generalize x / 7 % 10 = kd at *
  refine iB (fun c2 => ?_) (fun c2 => ?_)
  · exact leaf _ _ rfl rfl rfl rfl
  have c2' := of_decide_eq_false c2
  wtm_at "rd"
  refine ⟨c, 2 * k + 1, d - 1, n, m, rfl, by omega, by omega, fun H1 a1 w1 s1 e1 f1 => ?_⟩
  wtm_at "rd"
  refine iB (fun c3 => ?_) (fun c3 => ?_)
  · wtm_at "rd"
    wtm_at "szs"
    wtm_at "new p H2 s2 e2"
    refine q _ _ (.not w1) (s1.trans s2) ⟨_, e2, WA.same s2 e1⟩ ⟨f1.1, ?_⟩
    have := f1.2
    show ((w1.depth + 1 : Nat) : Int) ≤ d
    omega
  · wtm_at "szs"
    wtm_at "new p H2 s2 e2"
    wtm_at "rd"
    have fin : ∀ (H3 : Hp) (a2 : Addr) (w2 : W), Same H2 H3 → WA H3 w2 a2 → Fit n m (d - 1) w2 → ∀ p, H3 p = none →
        Q (.ref p) (upd H3 p (.tup [.str "and", .ref a1, .ref a2])) ∧ Q (.ref p) (upd H3 p (.tup [.str "or", .ref a1, .ref a2])) := by
      intro H3 a2 w2 s3 e3 f2 p np
      have s4 : ∀ o, Same H3 (upd H3 p o) := fun o => Same.new np
      have dp : ((max w1.depth w2.depth + 1 : Nat) : Int) ≤ d := by
        have := f1.2
        have := f2.2
        omega
      exact ⟨q _ _ (.and w1 w2) (s1.trans (s2.trans (s3.trans (s4 _)))) ⟨_, _, upd_same, WA.same (s2.trans (s3.trans (s4 _))) e1, WA.same (s4 _) e3⟩ ⟨⟨f1.1, f2.1⟩, dp⟩,
        q _ _ (.or w1 w2) (s1.trans (s2.trans (s3.trans (s4 _)))) ⟨_, _, upd_same, WA.same (s2.trans (s3.trans (s4 _))) e1, WA.same (s4 _) e3⟩ ⟨⟨f1.1, f2.1⟩, dp⟩⟩
    rcases (by omega : kd % 2 = 0 ∨ kd % 2 = 1) with e | e
    · refine ⟨_, _, _, _, rfl, rfl, .of e2, at_of (j := 0) e rfl, ?_⟩
      wtm_at "rd"
      refine ⟨c, 2 * k + 2, d - 1, n, m, rfl, by omega, by omega, fun H3 a2 w2 s3 e3 f2 => ?_⟩
      exact ⟨by wtm_at "sz", fun p np => (fin H3 a2 w2 s3 e3 f2 p np).1⟩
    · refine ⟨_, _, _, _, rfl, rfl, .of e2, at_of (j := 1) e rfl, ?_⟩
      wtm_at "rd"
      refine ⟨c, 2 * k + 2, d - 1, n, m, rfl, by omega, by omega, fun H3 a2 w2 s3 e3 f2 => ?_⟩
      exact ⟨by wtm_at "sz", fun p np => (fin H3 a2 w2 s3 e3 f2 p np).2⟩
theorem ok_law_word (T : Txt K mg Z) : ∀ N : Nat, FnOk P w K mg base CX0 (N + 1) Z.a_law_word Z.d_law_word ["cell", "k", "deep", "relays", "buttons"] (sp_law_word N)
  | 0 => fn_none (by rintro vs H Q E ⟨c, k, d, n, m, _, h1, h2, _⟩; omega)
  | N + 1 => st_law_word T (ok_law_word T N)

def sp_law_board (K : PySem.W.Frag) : Sp := fun vs H Q _ => ∃ (a : Addr) (ns : List Int) (st d : Int) (n m : Nat), vs = [.ref a, .int st, .int n, .int m, .int d] ∧ SqL K H a (ns.map V.int) ∧ 0 ≤ st ∧ 1 ≤ d ∧ d ≤ 8 ∧ n ≤ 10 ∧
  ∀ (H' : Hp) (p : Addr) (ws : List W) (us : List V), Same H H' → H p = none → H' p = some (.lst us) → WAs H' ws us → ws.length = n → Fits n m d ws → Q (.ref p) H'
theorem ok_law_board (T : Txt K mg Z) : FnOk P w K mg base CX0 10 Z.a_law_board Z.d_law_board ["script", "start", "relays", "buttons", "deep"] (sp_law_board K) := by
  have G_law_pick := ok_law_pick (P := P) (w := w) (base := base) T
  have G_law_word := ok_law_word (P := P) (w := w) (base := base) T 8
  refine T.F__law_board.ok sc_law_board (fun vs H Q E h => by obtain ⟨_, _, _, _, _, _, rfl, _⟩ := h; rfl) (fun cdv A outer s H vs Q E hr h => ?_)
  obtain ⟨a, ns, st, d, n, m, rfl, hS, h0, hd1, hd2, hn, q⟩ := h
  refine ⟨_, (pss_one (ps_ret (pe_lc (own := [("k", 5)]) (g := gName 5) (tt := tYes) rfl sc_law_board.nd (pi_range1 rfl T.n_range (pa_cons (pv 2) pa_nil)) (blkOk_by (own := [("k", 5)]) (N := ["script", "start", "relays", "buttons", "deep", "k"]) (sc := defScope s_law_board) (by decide +kernel)) (fun _ _ _ _ _ => pg_name (i := 5) sc_law_board.nd rfl (Or.inl rfl)) (fun _ _ _ _ _ => pts_nil) (fun _ _ _ _ _ => (pe_call G_law_word (hr.mono (by omega)) (by rfl) T.m__law_word T.F__law_word.kp T.b__law_word .nil pass0 (pa_cons (pe_call G_law_pick (hr.mono (by omega)) (by rfl) T.m__law_pick T.F__law_pick.kp T.b__law_pick .nil pass0 (pa_cons (pv 0) (pa_cons (pe_op op_add (pv 1) (pv 5)) pa_nil))) (pa_cons (pv 5) (pa_cons (pv 4) (pa_cons (pv 2) (pa_cons (pv 3) pa_nil)))))))))), ?_⟩
  refine ⟨_, rfl, n, rfl, by omega, by omega, fun D nD => lc_range (lo := 0) (n := n) (fun i H' => ∃ ws us, Same H H' ∧ H' D = some (.lst us) ∧ WAs H' ws us ∧ ws.length = i ∧ Fits n m d ws) ?_ ?_ ?_⟩
  · exact ⟨[], [], Same.new nD, upd_same, .nil, rfl, fun _ h => nomatch h⟩
  · rintro i H1 hi ⟨ws, us, s1, hD, hw, hl, hf⟩
    wtm_at "lc"
    wtm_at "rd"
    refine ⟨a, ns, st + (0 + (i : Int)), rfl, s1.seq hS, by omega, fun c => ?_⟩
    wtm_at "rd"
    refine ⟨c, 0 + (i : Int), d, n, m, rfl, hd1, hd2, fun H2 b w1 s2 e2 f2 => ?_⟩
    have hlen := hw.length
    have t2 : Tk H2 (upd H2 D (.lst (us ++ [.ref b]))) := Tk.lst (s2 _ _ hD)
    exact ⟨us, s2 _ _ hD, small11 (by omega), ws ++ [w1], us ++ [.ref b], Same.lst (s1.trans s2) nD, upd_same, paired_snoc (WAs.tk ((Same.tk s2).trans t2) hw) ⟨b, rfl, WA.tk t2 e2⟩, by simp [hl], hf.snoc f2⟩
  · rintro H1 ⟨ws, us, s1, hD, hw, hl, hf⟩
    exact q _ _ _ _ s1 nD hD hw hl hf

def sp_law_bits : Sp := fun vs H Q _ => ∃ (z : Int) (n : Nat), vs = [.int z, .int n] ∧ n ≤ 1000 ∧
  ∀ (H' : Hp) (p : Addr), Same H H' → H p = none → H' p = some (.tup ((bits z n).map V.bl)) → Q (.ref p) H'
theorem ok_law_bits (T : Txt K mg Z) : FnOk P w K mg base CX0 1 Z.a_law_bits Z.d_law_bits ["number", "size"] sp_law_bits := by
  refine T.F__law_bits.ok sc_law_bits (fun vs H Q E h => by obtain ⟨_, _, rfl, _⟩ := h; rfl) (fun cdv A outer s H vs Q E hr h => ?_)
  obtain ⟨z, n, rfl, hn, q⟩ := h
  refine ⟨_, (pss_one (ps_ret (pe_callTy call_tuple_of (by rfl) T.n_tuple (by decide +kernel) (pa_cons (pe_lc (own := [("k", 2)]) (g := gName 2) (tt := tYes) rfl sc_law_bits.nd (pi_range1 rfl T.n_range (pa_cons (pv 1) pa_nil)) (blkOk_by (own := [("k", 2)]) (N := ["number", "size", "k"]) (sc := defScope s_law_bits) (by decide +kernel)) (fun _ _ _ _ _ => pg_name (i := 2) sc_law_bits.nd rfl (Or.inl rfl)) (fun _ _ _ _ _ => pts_nil) (fun _ _ _ _ _ => (pe_cmpR op_eq (pe_op op_mod (pe_op op_shr (pv 0) (pv 2)) pe_int) pe_int (nomark _)))) pa_nil)))), ?_⟩
  refine ⟨_, rfl, n, rfl, by omega, by omega, fun D nD => lc_range (lo := 0) (n := n) (fun i H' => Same H H' ∧ H' D = some (.lst ((bits z i).map V.bl))) ?_ ?_ ?_⟩
  · exact ⟨Same.new nD, upd_same⟩
  · rintro i H1 hi ⟨s1, hD⟩
    wtm_at "lc"
    wtm_at "rd"
    refine ⟨_, hD, small11 (by rw [List.length_map, bits_len]; omega), Same.lst s1 nD, ?_⟩
    rw [upd_same, bits_succ, List.map_append, dec_vi, toNat0]
    rfl
  · rintro H1 ⟨s1, hD⟩
    refine ⟨D, _, rfl, .inl ⟨.of hD, ?_⟩⟩
    wtm_at "new p H2 s2 e2"
    exact q _ _ (s1.trans s2) (s1.free np) e2

def sp_law_wrapped : Sp := fun vs H Q _ => ∃ (a : Addr) (c : Int) (w : W), vs = [.ref a, .int c] ∧ WA H w a ∧
  ∀ (H' : Hp) (b : Addr) (w' : W), Same H H' → WA H' w' b → (∀ n m d, Fit n m d w → Fit n m (d + 3) w') → Q (.ref b) H'
theorem ok_law_wrapped (T : Txt K mg Z) : FnOk P w K mg base CX0 1 Z.a_law_wrapped Z.d_law_wrapped ["word", "mixed"] sp_law_wrapped := by
  refine T.F__law_wrapped.ok sc_law_wrapped (fun vs H Q E h => by obtain ⟨_, _, _, rfl, _⟩ := h; rfl) (fun cdv A outer s H vs Q E hr h => ?_)
  obtain ⟨a, c, w0, rfl, hw, q⟩ := h
  refine ⟨_, (pss_cons (ps_for PassesOwn.never rfl (pi_range1 rfl T.n_range (pa_cons (pe_op op_mul (pe_op op_mod (pv 1) pe_int) (pe_callTy call_int1 (by rfl) T.n_int (by decide +kernel) (pa_cons (pe_cmpR op_eq (pe_op op_mod (pe_op op_fdiv (pv 1) pe_int) pe_int) pe_int (nomark _)) pa_nil))) pa_nil)) (pg_name (i := 2) sc_law_wrapped.nd rfl (Or.inl rfl))
      (pss_one (ps_set (i := 0) sc_law_wrapped.nd rfl (Or.inl rfl) (pe_tup (pa_cons pe_str (pa_cons (pv 0) pa_nil))))))
      (pss_one (ps_ret (pv 0)))), ?_⟩
  wtm_at "rd"
  refine .inr ⟨_, rfl, ?_⟩
  wtm_at "rd"
  have hj : ∀ b : Bool, 0 ≤ c % 4 * (if b = true then 1 else 0) ∧ c % 4 * (if b = true then 1 else 0) ≤ 3 := fun b => by cases b <;> simp <;> omega
  have hj := hj (decide (V.int (c / 4 % 4) = V.int 1))
  generalize c % 4 * (if decide (V.int (c / 4 % 4) = V.int 1) = true then (1 : Int) else 0) = j at *
  refine ⟨by omega, by omega, for_range (lo := 0) (n := j.toNat) (fun i σ H' => ∃ b w1 k, σ = [some (.ref b), some (.int c), k] ∧ Same H H' ∧ WA H' w1 b ∧ (∀ n m d, Fit n m d w0 → Fit n m (d + i) w1)) ?_ ?_ ?_⟩
  · exact ⟨a, w0, none, rfl, Same.refl _, hw, fun n m d f => ⟨f.1, by have := f.2; omega⟩⟩
  · rintro i σ H1 hi ⟨b, w1, k, rfl, s1, hb, f⟩
    wtm_at "rd"
    wtm_at "szs"
    wtm_at "new p H2 s2 e2"
    refine ⟨p, .not w1, _, rfl, s1.trans s2, ⟨_, e2, WA.same s2 hb⟩, fun n m d g => ⟨(f n m d g).1, ?_⟩⟩
    have := (f n m d g).2
    show ((w1.depth + 1 : Nat) : Int) ≤ d + ((i + 1 : Nat) : Int)
    omega
  · rintro σ H1 ⟨b, w1, k, rfl, s1, hb, f⟩
    refine ⟨_, rfl, q _ _ w1 s1 hb fun n m d g => ⟨(f n m d g).1, ?_⟩⟩
    have := (f n m d g).2
    omega

/-- a room at p: board, pressed, stand; made behind H -/
structure RoomAt (H H' : Hp) (p b pr st : Addr) (n m : Nat) (ws : List W) (us : List V) (ps ss : List Bool) : Prop where
  same : Same H H'
  tup : H' p = some (.tup [.ref b, .ref pr, .ref st])
  nb : H b = none
  lst : H' b = some (.lst us)
  was : WAs H' ws us
  pr : H' pr = some (.tup (ps.map V.bl))
  st : H' st = some (.tup (ss.map V.bl))
  n1 : 1 ≤ n
  n6 : n ≤ 6
  m4 : m ≤ 4
  len : ws.length = n
  plen : ps.length = m
  slen : ss.length = n
  fit : Fits n m 8 ws
def sp_law_room (K : PySem.W.Frag) : Sp := fun vs H Q _ => ∃ (a : Addr) (ns : List Int), vs = [.ref a] ∧ SqL K H a (ns.map V.int) ∧
  ∀ (H' : Hp) (p b pr st : Addr) (n m : Nat) (ws : List W) (us : List V) (ps ss : List Bool), RoomAt H H' p b pr st n m ws us ps ss → Q (.ref p) H'
theorem ok_law_room (T : Txt K mg Z) : FnOk P w K mg base CX0 11 Z.a_law_room Z.d_law_room ["script"] (sp_law_room K) := by
  have G_law_cell_at := ok_law_cell_at (P := P) (w := w) (base := base) T
  have G_law_board := ok_law_board (P := P) (w := w) (base := base) T
  have G_law_mix := ok_law_mix (P := P) (w := w) (base := base) T
  have G_law_wrapped := ok_law_wrapped (P := P) (w := w) (base := base) T
  have G_law_bits := ok_law_bits (P := P) (w := w) (base := base) T
  refine T.F__law_room.ok sc_law_room (fun vs H Q E h => by obtain ⟨_, _, rfl, _⟩ := h; rfl) (fun cdv A outer s H vs Q E hr h => ?_)
  obtain ⟨a, ns, rfl, hS, q⟩ := h
  refine ⟨_, (pss_cons (ps_set (i := 1) sc_law_room.nd rfl (Or.inr rfl) (pe_call G_law_cell_at (hr.mono (by omega)) (by rfl) T.m__law_cell_at T.F__law_cell_at.kp T.b__law_cell_at .nil pass0 (pa_cons (pv 0) (pa_cons pe_int pa_nil))))
      (pss_cons (ps_set (i := 2) sc_law_room.nd rfl (Or.inl rfl) (pe_op op_add pe_int (pe_op op_mod (pv 1) pe_int)))
      (C8.pss_cut (ps_if (pt_cmpR op_eq (pe_op op_mod (pe_op op_fdiv (pv 1) pe_int) pe_int) pe_int (nomark _)) (pss_one (ps_set (i := 2) sc_law_room.nd rfl (Or.inl rfl) pe_int)) pss_nil)
      (pss_cons (ps_set (i := 3) sc_law_room.nd rfl (Or.inl rfl) (pe_op op_mod (pe_op op_fdiv (pv 1) pe_int) pe_int))
      (pss_cons (ps_set (i := 4) sc_law_room.nd rfl (Or.inr rfl) (pe_call G_law_board (hr.mono (by omega)) (by rfl) T.m__law_board T.F__law_board.kp T.b__law_board .nil pass0 (pa_cons (pv 0) (pa_cons pe_int (pa_cons (pv 2) (pa_cons (pv 3) (pa_cons (pe_op op_add pe_int (pe_op op_mod (pe_op op_fdiv (pv 1) pe_int) pe_int)) pa_nil)))))))
      (pss_cons (ps_set (i := 4) sc_law_room.nd rfl (Or.inr rfl) (pe_lc (own := [("k", 6)]) (g := gName 6) (tt := tYes) rfl sc_law_room.nd (pi_range1 rfl T.n_range (pa_cons (pv 2) pa_nil)) (blkOk_by (own := [("k", 6)]) (N := ["script", "cell", "relays", "buttons", "board", "pressed", "k"]) (sc := defScope s_law_room) (by decide +kernel)) (fun _ _ _ _ _ => pg_name (i := 6) sc_law_room.nd rfl (Or.inl rfl)) (fun _ _ _ _ _ => pts_nil) (fun _ _ _ _ _ => (pe_call G_law_wrapped (hr.mono (by omega)) (by rfl) T.m__law_wrapped T.F__law_wrapped.kp T.b__law_wrapped .nil pass0 (pa_cons (pe_ix (r := rIxL K) ix_list (pv 4) (pv 6) (fun _ _ => rfl)) (pa_cons (pe_op op_fdiv (pe_call G_law_mix (hr.mono (by omega)) (by rfl) T.m__law_mix T.F__law_mix.kp T.b__law_mix .nil pass0 (pa_cons (pv 1) (pa_cons (pe_op op_add pe_int (pv 6)) pa_nil))) pe_int) pa_nil))))))
      (pss_cons (ps_set (i := 5) sc_law_room.nd rfl (Or.inl rfl) (pe_call G_law_bits (hr.mono (by omega)) (by rfl) T.m__law_bits T.F__law_bits.kp T.b__law_bits .nil pass0 (pa_cons (pe_call G_law_cell_at (hr.mono (by omega)) (by rfl) T.m__law_cell_at T.F__law_cell_at.kp T.b__law_cell_at .nil pass0 (pa_cons (pv 0) (pa_cons pe_int pa_nil))) (pa_cons (pv 3) pa_nil))))
      (pss_one (ps_ret (pe_tup (pa_cons (pv 4) (pa_cons (pv 5) (pa_cons (pe_call G_law_bits (hr.mono (by omega)) (by rfl) T.m__law_bits T.F__law_bits.kp T.b__law_bits .nil pass0 (pa_cons (pe_call G_law_cell_at (hr.mono (by omega)) (by rfl) T.m__law_cell_at T.F__law_cell_at.kp T.b__law_cell_at .nil pass0 (pa_cons (pv 0) (pa_cons pe_int pa_nil))) (pa_cons (pv 2) pa_nil))) pa_nil))))))))))))), ?_⟩
  wtm_at "rd"
  refine ⟨a, ns, 0, rfl, hS, by omega, fun c => ?_⟩
  wtm_at "rd"
  have hm : ∃ m : Nat, c / 45 % 5 = (m : Int) ∧ m ≤ 4 := ⟨(c / 45 % 5).toNat, by omega, by omega⟩
  obtain ⟨m, em, hm4⟩ := hm
  refine ⟨fun σ' H' => ∃ n : Nat, 1 ≤ n ∧ n ≤ 6 ∧ H' = H ∧ σ' = [some (.ref a), some (.int c), some (.int n), none, none, none, none], ?_, ?_⟩
  · wtm_at "rd"
    refine iB (fun c1 => ?_) (fun c1 => ?_)
    · exact ⟨6, by omega, by omega, rfl, rfl⟩
    · refine ⟨(1 + c % 5).toNat, by omega, by omega, rfl, ?_⟩
      show [some (.ref a), some (.int c), some (V.int (1 + c % 5)), none, none, none, none] = _
      rw [show (((1 + c % 5).toNat : Nat) : Int) = 1 + c % 5 by omega]
  rintro σ' H' ⟨n, hn1, hn6, rfl, rfl⟩
  wtm_at "rd"
  rw [em]
  refine ⟨a, ns, 4, 2 + c / 225 % 4, n, m, rfl, hS, by omega, by omega, by omega, by omega, fun H1 p1 ws us s1 n1 e1 w1 l1 f1 => ?_⟩
  refine ⟨_, rfl, n, rfl, by omega, by omega, fun D nD => lc_range (lo := 0) (n := n) (fun i H2 => ∃ ws2 us2, Same H1 H2 ∧ H2 D = some (.lst us2) ∧ WAs H2 ws2 us2 ∧ ws2.length = i ∧ Fits n m 8 ws2) ?_ ?_ ?_⟩
  · exact ⟨[], [], Same.new nD, upd_same, .nil, rfl, fun _ h => nomatch h⟩
  · rintro i H2 hi ⟨ws2, us2, s2, hD, hw, hl, hf⟩
    wtm_at "lc"
    wtm_at "rd"
    have hiw : i < ws.length := by omega
    obtain ⟨v, hv, b, rfl, hb⟩ := paired_getl w1 (List.getElem?_eq_getElem hiw)
    refine ⟨_, _, _, _, rfl, rfl, .of (s2 _ _ e1), at_of (j := i) (by omega) hv, ?_⟩
    wtm_at "rd"
    refine ⟨c, _, rfl, fun x hx0 hx1 => ?_⟩
    wtm_at "rd"
    refine ⟨b, _, ws[i], rfl, WA.same s2 hb, fun H3 b' w' s3 e3 g3 => ?_⟩
    have hlen := hw.length
    have t3 : Tk H3 (upd H3 D (.lst (us2 ++ [.ref b']))) := Tk.lst (s3 _ _ hD)
    have f8 : Fit n m 8 w' := by
      have f := g3 n m _ (f1 ws[i] (List.getElem_mem hiw))
      exact ⟨f.1, by have := f.2; omega⟩
    exact ⟨us2, s3 _ _ hD, small11 (by omega), ws2 ++ [w'], us2 ++ [.ref b'], Same.lst (s2.trans s3) nD, upd_same, paired_snoc (WAs.tk ((Same.tk s3).trans t3) hw) ⟨b', rfl, WA.tk t3 e3⟩, by simp [hl], hf.snoc f8⟩
  rintro H2 ⟨ws2, us2, s2, hD, hw, hl, hf⟩
  wtm_at "rd"
  refine ⟨a, ns, 1, rfl, (s1.trans s2).seq hS, by omega, fun c1 => ?_⟩
  wtm_at "rd"
  refine ⟨c1, m, rfl, by omega, fun H3 p3 s3 n3 e3 => ?_⟩
  wtm_at "rd"
  refine ⟨a, ns, 2, rfl, (s1.trans (s2.trans s3)).seq hS, by omega, fun c2 => ?_⟩
  wtm_at "rd"
  refine ⟨c2, n, rfl, by omega, fun H4 p4 s4 n4 e4 => ?_⟩
  wtm_at "szs"
  wtm_at "new p H5 s5 e5"
  have s45 := s4.trans s5
  exact q _ _ _ _ _ n m ws2 us2 _ _ ⟨s1.trans (s2.trans (s3.trans s45)), e5, s1.free nD, (s3.trans s45) _ _ hD, WAs.same (s3.trans s45) hw, s45 _ _ e3, s5 _ _ e4, hn1, hn6, hm4, hl, bits_len _ _, bits_len _ _, hf⟩

def sp_parts : Sp := fun vs H Q _ => ∃ (a : Addr) (x : W), vs = [.ref a] ∧ WA H x a ∧ ∀ (H' : Hp) (p : Addr) (us : List V), Same H H' → H' p = some (.tup us) → WAs H' x.parts us → Q (.ref p) H'
theorem ok_parts (T : Txt K mg Z) : FnOk P w K mg base CX0 1 Z.aparts Z.dparts ["word"] sp_parts := by
  refine T.F_parts.ok scparts (fun vs H Q E h => by obtain ⟨_, _, rfl, _⟩ := h; rfl) (fun cdv A outer s H vs Q E hr h => ?_)
  obtain ⟨a, x, rfl, hx, q⟩ := h
  refine ⟨_, (pss_cons (ps_if (pt_cmpR (r := rIn K false) op_in_seq (pe_ix (r := rIxT K) ix_tup (pv 0) pe_int (fun _ _ => rfl)) (pe_tup (pa_cons pe_str (pa_cons pe_str (pa_cons pe_str pa_nil)))) (by rfl)) (pss_one (ps_ret (pe_slice (r := rSlT K) sl_tup (pv 0) (po_some pe_int) po_none))) pss_nil)
      (pss_one (ps_ret (pe_tup pa_nil)))), ?_⟩
  have tag : ∃ (t : Str) (us : List V), H a = some (.tup (.str t :: us)) ∧ ((inV (.str t) [.str "not", .str "and", .str "or"] = true ∧ WAs H x.parts us) ∨ (inV (.str t) [.str "not", .str "and", .str "or"] = false ∧ x.parts = [])) := by
    cases x with
    | on => exact ⟨_, _, hx, .inr ⟨by decide +kernel, rfl⟩⟩
    | off => exact ⟨_, _, hx, .inr ⟨by decide +kernel, rfl⟩⟩
    | relay k => exact ⟨_, _, hx, .inr ⟨by decide +kernel, rfl⟩⟩
    | button k => exact ⟨_, _, hx, .inr ⟨by decide +kernel, rfl⟩⟩
    | not y => obtain ⟨b, e, hy⟩ := hx; exact ⟨_, _, e, .inl ⟨by decide +kernel, .cons ⟨b, rfl, hy⟩ .nil⟩⟩
    | and y z => obtain ⟨b, c, e, hy, hz⟩ := hx; exact ⟨_, _, e, .inl ⟨by decide +kernel, .cons ⟨b, rfl, hy⟩ (.cons ⟨c, rfl, hz⟩ .nil)⟩⟩
    | or y z => obtain ⟨b, c, e, hy, hz⟩ := hx; exact ⟨_, _, e, .inl ⟨by decide +kernel, .cons ⟨b, rfl, hy⟩ (.cons ⟨c, rfl, hz⟩ .nil)⟩⟩
  obtain ⟨t, us, e0, h⟩ := tag
  refine ⟨_, rfl, a, _, 0, _, rfl, rfl, .of e0, atI_nat (j := 0) rfl, Nat.le_of_ble_eq_true (n := 3) rfl, ?_⟩
  wtm_at "new c H1 s1 e1"
  refine ⟨c, _, rfl, .inr (.of e1), rfl, rfl, _, rfl, ?_⟩
  have e01 := s1 _ _ e0
  rcases h with ⟨h1, h2⟩ | ⟨h1, h2⟩
  · refine iT h1 ?_
    refine ⟨_, rfl, 1, rfl, a, _, rfl, .of e01, fun z => ?_, ?_⟩
    · have z1 := z.1
      rw [show HT.sIx (V.str t :: us).length 0 (some 1) = min 1 (V.str t :: us).length from HT.sIx_nat _ 0 1, List.length_cons] at z1
      omega
    rw [cut1]
    wtm_at "new p H2 s2 e2"
    exact q _ _ us (s1.trans s2) e2 (WAs.same (s1.trans s2) h2)
  · refine iF h1 ?_
    refine ⟨Nat.zero_le _, ?_⟩
    wtm_at "new p H2 s2 e2"
    exact q _ _ [] (s1.trans s2) e2 (by rw [h2]; exact .nil)

def sp_depth (N : Nat) : Sp := fun vs H Q _ => ∃ (a : Addr) (x : W), vs = [.ref a] ∧ WA H x a ∧ x.depth ≤ N ∧ ∀ H', Same H H' → Q (.int (x.depth : Int)) H'
theorem st_depth (T : Txt K mg Z) {N : Nat} (Gdepth : FnOk P w K mg base CX0 (N + 1) Z.adepth Z.ddepth ["word"] (sp_depth N)) : FnOk P w K mg base CX0 (N + 2) Z.adepth Z.ddepth ["word"] (sp_depth (N + 1)) := by
  have Gparts := ok_parts (P := P) (w := w) (base := base) T
  refine T.F_depth.ok scdepth (fun vs H Q E h => by obtain ⟨_, _, rfl, _⟩ := h; rfl) (fun cdv A outer s H vs Q E hr h => ?_)
  obtain ⟨a, x, rfl, hx, hd, q⟩ := h
  refine ⟨_, (pss_one (ps_ret (pe_op op_add pe_int (pe_callBK (r := rMaxD K) (call_maxD rfl (hu_of hr)) (by rfl) T.n_max (by decide +kernel) (pa_cons (pe_lc (own := [("part", 1)]) (g := gName 1) (tt := tYes) rfl scdepth.nd (pi_tup (pe_call Gparts (hr.mono (by omega)) (by rfl) T.m_parts T.F_parts.kp T.b_parts .nil pass0 (pa_cons (pv 0) pa_nil))) (blkOk_by (own := [("part", 1)]) (N := ["word", "part"]) (sc := defScope sdepth) (by decide +kernel)) (fun _ _ _ _ _ => pg_name (i := 1) scdepth.nd rfl (Or.inl rfl)) (fun _ _ _ _ _ => pts_nil) (fun _ _ _ _ _ => (pe_call Gdepth (hr.mono (by omega)) (by rfl) T.m_depth T.F_depth.kp T.b_depth .nil pass0 (pa_cons (pv 1) pa_nil)))) pa_nil) (pk_cons pe_int pk_nil))))), ?_⟩
  refine ⟨_, rfl, a, x, rfl, hx, fun H1 p us s1 e1 hW => ?_⟩
  have hl := hW.length
  have h2 : x.parts.length ≤ 2 := by cases x <;> simp [W.parts]
  refine ⟨p, rfl, ⟨_, .of e1⟩, fun D nD => lc_tup (K := K) (a := p) (xs := us) (fun i H' => Same H1 H' ∧ H' D = some (.lst (((x.parts.take i).map fun y => (y.depth : Int)).map V.int))) ?_ ?_ ?_ ?_⟩
  · exact ⟨Same.new nD, upd_same⟩
  · rintro i H' _ ⟨s2, _⟩
    exact .of (s2 _ _ e1)
  · rintro i v H2 hi ⟨s2, hD⟩
    obtain ⟨y, hy, b, rfl, hb⟩ := paired_get hW hi
    wtm_at "lc"
    refine ⟨_, rfl, b, y, rfl, WA.same s2 hb, parts_depth (List.mem_of_getElem? hy) hd, fun H3 s3 => ?_⟩
    refine ⟨_, s3 _ _ hD, small11 ?_, Same.lst (s2.trans s3) nD, ?_⟩
    · rw [List.length_map, List.length_map, List.length_take]; omega
    · rw [upd_same, List.take_add_one, hy, List.map_append, List.map_append]; rfl
  rintro H2 ⟨s2, hD⟩
  rw [← hl, List.take_length] at hD
  refine ⟨D, _, 0, rfl, rfl, .of hD, _, _, rfl, rfl, ?_⟩
  have := q _ (s1.trans s2)
  rw [← depth_parts] at this
  exact this
theorem ok_depth (T : Txt K mg Z) : ∀ N : Nat, FnOk P w K mg base CX0 (N + 1) Z.adepth Z.ddepth ["word"] (sp_depth N)
  | 0 => fn_none (by rintro vs H Q E ⟨_, x, _, _, h, _⟩; have := x.depth_pos; omega)
  | N + 1 => st_depth T (ok_depth T N)

theorem wired_leaf {K : PySem.W.Frag} {H : Hp} {a : Addr} {x : W} (hx : WA H x a) : (∃ k, x = .relay k) ∨ (∃ k, x = .button k) ∨ ((∀ k, x ≠ .relay k) ∧ (∀ k, x ≠ .button k) ∧ ∃ us, H a = some (.tup (.str x.tag :: us)) ∧ WAs H x.parts us ∧ decide (V.str x.tag = V.str "relay") = false ∧ decide (V.str x.tag = V.str "button") = false) := by
  cases x with
  | relay k => exact .inl ⟨k, rfl⟩
  | button k => exact .inr (.inl ⟨k, rfl⟩)
  | on => exact .inr (.inr ⟨(fun _ z => W.noConfusion z), (fun _ z => W.noConfusion z), _, hx, .nil, decide_eq_false (by dsimp only [W.tag]; decide +kernel), decide_eq_false (by dsimp only [W.tag]; decide +kernel)⟩)
  | off => exact .inr (.inr ⟨(fun _ z => W.noConfusion z), (fun _ z => W.noConfusion z), _, hx, .nil, decide_eq_false (by dsimp only [W.tag]; decide +kernel), decide_eq_false (by dsimp only [W.tag]; decide +kernel)⟩)
  | not y => obtain ⟨b, e, hy⟩ := hx; exact .inr (.inr ⟨(fun _ z => W.noConfusion z), (fun _ z => W.noConfusion z), _, e, .cons ⟨b, rfl, hy⟩ .nil, decide_eq_false (by dsimp only [W.tag]; decide +kernel), decide_eq_false (by dsimp only [W.tag]; decide +kernel)⟩)
  | and y z => obtain ⟨b, c, e, hy, hz⟩ := hx; exact .inr (.inr ⟨(fun _ z => W.noConfusion z), (fun _ z => W.noConfusion z), _, e, .cons ⟨b, rfl, hy⟩ (.cons ⟨c, rfl, hz⟩ .nil), decide_eq_false (by dsimp only [W.tag]; decide +kernel), decide_eq_false (by dsimp only [W.tag]; decide +kernel)⟩)
  | or y z => obtain ⟨b, c, e, hy, hz⟩ := hx; exact .inr (.inr ⟨(fun _ z => W.noConfusion z), (fun _ z => W.noConfusion z), _, e, .cons ⟨b, rfl, hy⟩ (.cons ⟨c, rfl, hz⟩ .nil), decide_eq_false (by dsimp only [W.tag]; decide +kernel), decide_eq_false (by dsimp only [W.tag]; decide +kernel)⟩)
def sp_is_wired (N : Nat) : Sp := fun vs H Q _ => ∃ (a : Addr) (n m : Int) (x : W), vs = [.ref a, .int n, .int m] ∧ WA H x a ∧ x.depth ≤ N ∧ ∀ H', Same H H' → Q (.bl (x.okAt n m)) H'
theorem st_is_wired (T : Txt K mg Z) {N : Nat} (Gis_wired : FnOk P w K mg base CX0 (N + 1) Z.ais_wired Z.dis_wired ["word", "relays", "buttons"] (sp_is_wired N)) : FnOk P w K mg base CX0 (N + 2) Z.ais_wired Z.dis_wired ["word", "relays", "buttons"] (sp_is_wired (N + 1)) := by
  have Gparts := ok_parts (P := P) (w := w) (base := base) T
  refine T.F_is_wired.ok scis_wired (fun vs H Q E h => by obtain ⟨_, _, _, _, rfl, _⟩ := h; rfl) (fun cdv A outer s H vs Q E hr h => ?_)
  obtain ⟨a, n, m, x, rfl, hx, hd, q⟩ := h
  refine ⟨_, (pss_cons (ps_if (pt_cmpR op_eq (pe_ix (r := rIxT K) ix_tup (pv 0) pe_int (fun _ _ => rfl)) pe_str (nomark _)) (pss_one (ps_ret (pe_chain op_le op_lt pe_int (pe_ix (r := rIxT K) ix_tup (pv 0) pe_int (fun _ _ => rfl)) (pv 1)))) pss_nil)
      (pss_cons (ps_if (pt_cmpR op_eq (pe_ix (r := rIxT K) ix_tup (pv 0) pe_int (fun _ _ => rfl)) pe_str (nomark _)) (pss_one (ps_ret (pe_chain op_le op_lt pe_int (pe_ix (r := rIxT K) ix_tup (pv 0) pe_int (fun _ _ => rfl)) (pv 2)))) pss_nil)
      (pss_one (ps_ret (pe_callB (r := rAll K) (cr_all rfl) (by rfl) T.n_all (by decide +kernel) (pa_cons (pe_lc (own := [("part", 3)]) (g := gName 3) (tt := tYes) rfl scis_wired.nd (pi_tup (pe_call Gparts (hr.mono (by omega)) (by rfl) T.m_parts T.F_parts.kp T.b_parts .nil pass0 (pa_cons (pv 0) pa_nil))) (blkOk_by (own := [("part", 3)]) (N := ["word", "relays", "buttons", "part"]) (sc := defScope sis_wired) (by decide +kernel)) (fun _ _ _ _ _ => pg_name (i := 3) scis_wired.nd rfl (Or.inl rfl)) (fun _ _ _ _ _ => pts_nil) (fun _ _ _ _ _ => (pe_call Gis_wired (hr.mono (by omega)) (by rfl) T.m_is_wired T.F_is_wired.kp T.b_is_wired .nil pass0 (pa_cons (pv 3) (pa_cons (pv 1) (pa_cons (pv 2) pa_nil)))))) pa_nil)))))), ?_⟩
  rcases wired_leaf (K := K) hx with ⟨k, rfl⟩ | ⟨k, rfl⟩ | ⟨n1, n2, us0, e0, _, d1, d2⟩
  · have e0 : H a = some (.tup [.str "relay", .int k]) := hx
    refine tag_test rfl e0 ?_; wtm_at "dT"
    refine ⟨_, rfl, a, _, 1, _, rfl, rfl, .of e0, atI_nat (j := 1) rfl, _, _, rfl, rfl, _, rfl, ?_⟩
    have := q _ (Same.refl _)
    refine iB (fun z => ?_) (fun z => ?_)
    · refine ⟨_, rfl, _, _, rfl, rfl, ?_⟩
      have e : W.okAt n m (.relay k) = decide (k < n) := by show (decide (0 ≤ k) && decide (k < n)) = _; rw [z]; rfl
      rw [e] at this; exact this
    · have e : W.okAt n m (.relay k) = false := by show (decide (0 ≤ k) && decide (k < n)) = _; rw [z]; rfl
      rw [e] at this; exact this
  · have e0 : H a = some (.tup [.str "button", .int k]) := hx
    refine tag_test rfl e0 ?_; wtm_at "dF"
    refine tag_test rfl e0 ?_; wtm_at "dT"
    refine ⟨_, rfl, a, _, 1, _, rfl, rfl, .of e0, atI_nat (j := 1) rfl, _, _, rfl, rfl, _, rfl, ?_⟩
    have := q _ (Same.refl _)
    refine iB (fun z => ?_) (fun z => ?_)
    · refine ⟨_, rfl, _, _, rfl, rfl, ?_⟩
      have e : W.okAt n m (.button k) = decide (k < m) := by show (decide (0 ≤ k) && decide (k < m)) = _; rw [z]; rfl
      rw [e] at this; exact this
    · have e : W.okAt n m (.button k) = false := by show (decide (0 ≤ k) && decide (k < m)) = _; rw [z]; rfl
      rw [e] at this; exact this
  refine tag_test rfl e0 ?_; refine iF d1 ?_
  refine tag_test rfl e0 ?_; refine iF d2 ?_
  refine ⟨_, rfl, a, x, rfl, hx, fun H1 p us s1 e1 hW => ?_⟩
  have hl := hW.length
  have h2 : x.parts.length ≤ 2 := by cases x <;> simp [W.parts]
  refine ⟨p, rfl, ⟨_, .of e1⟩, fun D nD => lc_tup (K := K) (a := p) (xs := us) (fun i H' => Same H1 H' ∧ H' D = some (.lst (((x.parts.take i).map fun y => y.okAt n m).map V.bl))) ?_ ?_ ?_ ?_⟩
  · exact ⟨Same.new nD, upd_same⟩
  · rintro i H' _ ⟨s2, _⟩
    exact .of (s2 _ _ e1)
  · rintro i v H2 hi ⟨s2, hD⟩
    obtain ⟨y, hy, b, rfl, hb⟩ := paired_get hW hi
    wtm_at "lc"
    refine ⟨_, rfl, _, rfl, _, rfl, b, n, m, y, rfl, WA.same s2 hb, parts_depth (List.mem_of_getElem? hy) hd, fun H3 s3 => ?_⟩
    refine ⟨_, s3 _ _ hD, small11 ?_, Same.lst (s2.trans s3) nD, ?_⟩
    · rw [List.length_map, List.length_map, List.length_take]; omega
    · rw [upd_same, List.take_add_one, hy, List.map_append, List.map_append]; rfl
  rintro H2 ⟨s2, hD⟩
  rw [← hl, List.take_length] at hD
  refine ⟨D, _, rfl, .of hD, ?_⟩
  have := q _ (s1.trans s2)
  rw [okAt_parts x n m n1 n2]
  exact this
theorem ok_is_wired (T : Txt K mg Z) : ∀ N : Nat, FnOk P w K mg base CX0 (N + 1) Z.ais_wired Z.dis_wired ["word", "relays", "buttons"] (sp_is_wired N)
  | 0 => fn_none (by rintro vs H Q E ⟨_, _, _, x, _, _, h, _⟩; have := x.depth_pos; omega)
  | N + 1 => st_is_wired T (ok_is_wired T N)

def lookPost (Z : Ad) (ws : List W) (m : Int) (H : Hp) (Q : VK) (E : XK) : Prop :=
  (lookR ws m = -1 → ∀ H', Same H H' → Q (.int (ws.length : Int)) H') ∧ (lookR ws m = 0 → ∀ H', Same H H' → E (.ref Z.CTooMany) none H') ∧
  (lookR ws m = 1 → ∀ H', Same H H' → E (.ref Z.CDeep) none H') ∧ (lookR ws m = 2 → ∀ H', Same H H' → E (.ref Z.CNoContact) none H')
def sp_looked (Z : Ad) : Sp := fun vs H Q E => ∃ (b : Addr) (m : Int) (us : List V) (ws : List W), vs = [.ref b, .int m] ∧ H b = some (.lst us) ∧ WAs H ws us ∧ (∀ x ∈ ws, x.depth ≤ 20) ∧ lookPost Z ws m H Q E
theorem ok_looked (T : Txt K mg Z) : FnOk P w K mg base (L2.CX P w) 22 Z.alooked Z.dlooked ["board", "buttons"] (sp_looked Z) := by
  have Gdepth := ok_depth (P := P) (w := w) (base := base) T 20
  have Gis_wired := ok_is_wired (P := P) (w := w) (base := base) T 20
  refine T.F_looked.okX sclooked (fun vs H Q E h => by obtain ⟨_, _, _, _, rfl, _⟩ := h; rfl) (fun cdv A outer s H vs Q E hr h => ?_)
  obtain ⟨b, m, us, ws, rfl, hb, hW, hdp, q1, q2, q3, q4⟩ := h
  obtain ⟨_, gc_MOST_RELAYS⟩ := T.g_MOST_RELAYS
  obtain ⟨_, gc_MOST_BUTTONS⟩ := T.g_MOST_BUTTONS
  obtain ⟨_, gc_DEEPEST⟩ := T.g_DEEPEST
  refine ⟨_, (C8.pss_cut (ps_if (PW.pt (pw_or (pt_not (pt_chain op_le op_le pe_int (pe_callB (r := rLenSeq K) call_len_seq (by rfl) T.n_len PySem.boot_len (pa_cons (pv 0) pa_nil)) (pe_glob rfl gc_MOST_RELAYS (show RelV (.int 6) _ from ⟨_, rfl⟩)))) (pw_or1 (pt_not (pt_chain op_le op_le pe_int (pv 1) (pe_glob rfl gc_MOST_BUTTONS (show RelV (.int 4) _ from ⟨_, rfl⟩))))))) (pss_one (ps_raise rfl (takes_of rfl rfl rfl rfl) (pmk_own PySem.F.excBase_ValueError T.x_TooMany T.c_TooMany T.k_TooMany (raises_own T.sb_TooMany T.ty_TooMany) rfl))) pss_nil)
      (pss_cons (ps_for (passes_of rfl) rfl (pi_list (pv 0)) (pg_name (i := 2) sclooked.nd rfl (Or.inl rfl))
      (pss_one (ps_if (pt_cmpR op_gt (pe_call Gdepth (hr.mono (by omega)) (by rfl) T.m_depth T.F_depth.kp T.b_depth .nil pass0 (pa_cons (pv 2) pa_nil)) (pe_glob rfl gc_DEEPEST (show RelV (.int 8) _ from ⟨_, rfl⟩)) (nomark _)) (pss_one (ps_raise rfl (takes_of rfl rfl rfl rfl) (pmk_own PySem.F.excBase_ValueError T.x_Deep T.c_Deep T.k_Deep (raises_own T.sb_Deep T.ty_Deep) rfl))) pss_nil)))
      (pss_cons (ps_for (passes_of rfl) rfl (pi_list (pv 0)) (pg_name (i := 2) sclooked.nd rfl (Or.inl rfl))
      (pss_one (ps_if (pt_not (pt_val (pe_call Gis_wired (hr.mono (by omega)) (by rfl) T.m_is_wired T.F_is_wired.kp T.b_is_wired .nil pass0 (pa_cons (pv 2) (pa_cons (pe_callB (r := rLenSeq K) call_len_seq (by rfl) T.n_len PySem.boot_len (pa_cons (pv 0) pa_nil)) (pa_cons (pv 1) pa_nil)))))) (pss_one (ps_raise rfl (takes_of rfl rfl rfl rfl) (pmk_own PySem.F.excBase_ValueError T.x_NoContact T.c_NoContact T.k_NoContact (raises_own T.sb_NoContact T.ty_NoContact) rfl))) pss_nil)))
      (pss_one (ps_ret (pe_callB (r := rLenSeq K) call_len_seq (by rfl) T.n_len PySem.boot_len (pa_cons (pv 0) pa_nil))))))), ?_⟩
  have hl := hW.length
  have bad : roomOk ws m = false → ∀ H', Same H H' → E (.ref Z.CTooMany) none H' := fun h => q2 (lookR_room h)
  refine ⟨fun σ' H' => H' = H ∧ roomOk ws m = true ∧ σ' = [some (.ref b), some (.int m), none], ?_, ?_⟩
  · have rm : ∀ (a b c d : Bool), decide ((1 : Int) ≤ us.length) = a → decide ((us.length : Int) ≤ 6) = b → decide (0 ≤ m) = c → decide (m ≤ 4) = d → roomOk ws m = ((a && b) && (c && d)) := by
      rintro _ _ _ _ rfl rfl rfl rfl
      unfold roomOk
      rw [hl]
    have no : ∀ {A B : Bool}, roomOk ws m = (A && B) → (A = false ∨ B = false) → roomOk ws m = false := fun e h => by
      rw [e]; rcases h with h | h <;> rw [h] <;> first | rfl | exact Bool.and_false _
    refine ⟨_, rfl, b, us, rfl, .inl (.of hb), _, _, rfl, rfl, _, rfl, ?_⟩
    refine iB (fun z1 => ?_) (fun z1 => ?_)
    · refine ⟨_, _, rfl, rfl, _, rfl, ?_⟩
      refine iB (fun z2 => ?_) (fun z2 => ?_)
      · exact bad (no (rm _ _ _ _ z1 (notT z2) rfl rfl) (.inl rfl)) _ (Same.refl _)
      · refine ⟨_, rfl, _, _, rfl, rfl, _, rfl, ?_⟩
        refine iB (fun z3 => ?_) (fun z3 => ?_)
        · refine ⟨_, _, rfl, rfl, _, rfl, ?_⟩
          refine iB (fun z4 => ?_) (fun z4 => ?_)
          · exact bad (no (rm _ _ _ _ z1 (notF z2) z3 (notT z4)) (.inr rfl)) _ (Same.refl _)
          · exact ⟨rfl, rm _ _ _ _ z1 (notF z2) z3 (notF z4), rfl⟩
        · refine ⟨_, rfl, ?_⟩
          refine iT rfl ?_
          exact bad (no (rm _ _ _ _ z1 (notF z2) z3 rfl) (.inr rfl)) _ (Same.refl _)
    · refine ⟨_, rfl, ?_⟩
      refine iT rfl ?_
      exact bad (no (rm _ _ _ _ z1 rfl rfl rfl) (.inl rfl)) _ (Same.refl _)
  rintro σ' H' ⟨rfl, hroom, rfl⟩
  refine ⟨_, rfl, b, rfl, ⟨_, .of hb⟩, for_list (K := K) (a := b) (xs := us) (fun i σ H2 => Same H' H2 ∧ (∃ x, σ = [some (.ref b), some (.int m), x]) ∧ ((ws.take i).all fun w => decide (w.depth ≤ 8)) = true) ?_ ?_ ?_ ?_⟩
  · exact ⟨Same.refl _, ⟨none, rfl⟩, rfl⟩
  · rintro i σ H2 _ ⟨s2, _⟩
    exact .of (s2 _ _ hb)
  · rintro i v σ H2 hi ⟨s2, ⟨x, rfl⟩, hok⟩
    obtain ⟨y, hy, c, rfl, hc⟩ := paired_get hW hi
    refine ⟨_, rfl, c, y, rfl, WA.same s2 hc, hdp y (List.mem_of_getElem? hy), fun H3 s3 => ?_⟩
    refine ⟨_, _, rfl, rfl, _, rfl, ?_⟩
    refine iB (fun z => ?_) (fun z => ?_)
    · have z := of_decide_eq_true z
      exact q3 (lookR_deep hroom (all_bad _ hy (decide_eq_false (by omega)))) _ (s2.trans s3)
    · have z := of_decide_eq_false z
      refine ⟨s2.trans s3, ⟨_, rfl⟩, ?_⟩
      rw [all_take_step _ hy, hok, decide_eq_true (show y.depth ≤ 8 by omega)]; rfl
  rintro σ H2 ⟨s2, ⟨x, rfl⟩, hok⟩
  rw [← hl, List.take_length] at hok
  refine ⟨_, rfl, b, rfl, ⟨_, .of (s2 _ _ hb)⟩, for_list (K := K) (a := b) (xs := us) (fun i σ H3 => Same H' H3 ∧ (∃ x, σ = [some (.ref b), some (.int m), x]) ∧ ((ws.take i).all fun w => w.okAt (ws.length : Int) m) = true) ?_ ?_ ?_ ?_⟩
  · exact ⟨s2, ⟨x, rfl⟩, rfl⟩
  · rintro i σ H3 _ ⟨s3, _⟩
    exact .of (s3 _ _ hb)
  · rintro i v σ H3 hi ⟨s3, ⟨x, rfl⟩, hok2⟩
    obtain ⟨y, hy, c, rfl, hc⟩ := paired_get hW hi
    refine ⟨_, rfl, _, rfl, b, us, rfl, .inl (.of (s3 _ _ hb)), _, rfl, c, (ws.length : Int), m, y, by rw [hl]; rfl, WA.same s3 hc, hdp y (List.mem_of_getElem? hy), fun H4 s4 => ?_⟩
    refine ⟨_, rfl, ?_⟩
    refine iB (fun z => ?_) (fun z => ?_)
    · exact q4 (lookR_all hroom hok (all_bad _ hy (notT z))) _ (s3.trans s4)
    · refine ⟨s3.trans s4, ⟨_, rfl⟩, ?_⟩
      rw [all_take_step _ hy, hok2, notF z]; rfl
  rintro σ H3 ⟨s3, ⟨x, rfl⟩, hok2⟩
  rw [← hl, List.take_length] at hok2
  have := q1 (lookR_ok hroom hok hok2) _ s3
  rw [hl] at this
  exact ⟨_, rfl, b, us, rfl, .inl (.of (s3 _ _ hb)), this⟩

def sp_law_whole : Sp := fun vs H Q _ => ∃ (i : Int), vs = [.int i] ∧ Q (.bl true) H
theorem ok_law_whole (T : Txt K mg Z) : FnOk P w K mg base CX0 1 Z.a_law_whole Z.d_law_whole ["x"] sp_law_whole := by
  refine T.F__law_whole.ok sc_law_whole (fun vs H Q E h => by obtain ⟨_, rfl, _⟩ := h; rfl) (fun cdv A outer s H vs Q E hr h => ?_)
  obtain ⟨i, rfl, q⟩ := h
  refine ⟨_, (pss_one (ps_ret (pe_and (pe_callB (r := rIsi K) call_isi (by rfl) T.n_isinstance (by decide +kernel) (pa_cons (pv 0) (pa_cons (pe_bltn (v := .ty "int") (u := .type "int") (by rfl) T.n_int (by decide +kernel) rfl) pa_nil))) (pe_one (pe_not (pe_callB (r := rIsi K) call_isi (by rfl) T.n_isinstance (by decide +kernel) (pa_cons (pv 0) (pa_cons (pe_bltn (v := .ty "bool") (u := .type "bool") (by rfl) T.n_bool (by decide +kernel) rfl) pa_nil)))))))), ?_⟩
  refine ⟨_, rfl, .int i, .ty "int", .type "int", .type "int", true, rfl, .ty _, .base (.int _), kit_ty (by decide +kernel), _, rfl, iT rfl ?_⟩
  exact ⟨_, rfl, .int i, .ty "bool", .type "int", .type "bool", false, rfl, .ty _, .base (.int _), kit_ty (by decide +kernel), _, rfl, q⟩

def marksL (d : Int) : List Bool := ((List.range 6).map fun (k : Nat) => decide ((k : Int) = d)) ++ [true]
theorem shBl (bs : List Bool) : Sh (.list (bs.map PyData.bool)) 1 := Sh.lst fun d hd => by
  obtain ⟨b, _, rfl⟩ := List.mem_map.mp hd
  exact Sh.bool b 0
def sp_law_refused : Sp := fun vs H Q _ => ∃ (a : Addr) (d : Int), vs = [.ref a, .int d] ∧ H a = some (.lst ((marksL d).map V.bl)) ∧ ∀ H', Same H H' → Q (.bl true) H'
theorem ok_law_refused (T : Txt K mg Z) : FnOk P w K mg base CX0 1 Z.a_law_refused Z.d_law_refused ["marks", "which"] sp_law_refused := by
  refine T.F__law_refused.ok sc_law_refused (fun vs H Q E h => by obtain ⟨_, _, rfl, _⟩ := h; rfl) (fun cdv A outer s H vs Q E hr h => ?_)
  obtain ⟨a, d, rfl, ha, q⟩ := h
  refine ⟨_, (pss_one (ps_ret (pe_cmpR (r := rEqD K) (op_eqD hr.units) (pv 0) (pe_op op_cat (pe_lc (own := [("k", 2)]) (g := gName 2) (tt := tYes) rfl sc_law_refused.nd (pi_range1 rfl T.n_range (pa_cons pe_int pa_nil)) (blkOk_by (own := [("k", 2)]) (N := ["marks", "which", "k"]) (sc := defScope s_law_refused) (by decide +kernel)) (fun _ _ _ _ _ => pg_name (i := 2) sc_law_refused.nd rfl (Or.inl rfl)) (fun _ _ _ _ _ => pts_nil) (fun _ _ _ _ _ => (pe_cmpR op_eq (pv 2) (pv 1) (nomark _)))) (pe_lst (pa_cons pe_bl pa_nil))) (nomark _)))), ?_⟩
  refine ⟨_, rfl, 6, rfl, by omega, by omega, fun D nD => lc_range (lo := 0) (n := 6) (fun i H' => Same H H' ∧ H' D = some (.lst (((List.range i).map fun (k : Nat) => decide ((k : Int) = d)).map V.bl))) ?_ ?_ ?_⟩
  · exact ⟨Same.new nD, upd_same⟩
  · rintro i H2 hi ⟨s2, hD⟩
    wtm_at "lc"
    refine ⟨_, rfl, _, rfl, rfl, _, hD, small11 (by rw [List.length_map, List.length_map, List.length_range]; omega), Same.lst s2 nD, ?_⟩
    rw [upd_same, List.range_succ, List.map_append, List.map_append, dec_vi, Int.zero_add]
    rfl
  · rintro H2 ⟨s2, hD⟩
    refine ⟨by wtm_at "sz", ?_⟩
    wtm_at "new p H3 s3 e3"
    refine ⟨D, p, _, _, rfl, rfl, s3 _ _ hD, e3, small10 (by rw [List.length_map, List.length_map, List.length_range]; decide), ?_⟩
    wtm_at "new r H4 s4 e4"
    have s24 := s2.trans (s3.trans s4)
    have e4' : H4 r = some (.lst ((marksL d).map V.bl)) := by
      rw [e4]; unfold marksL; rw [List.map_append]; rfl
    refine ⟨_, _, .lst (.of (s24 _ _ ha)) (dpAll_map fun b _ => .bl b), .lst (.of e4') (dpAll_map fun b _ => .bl b), (shBl _).shaped (by decide), (shBl _).shaped (by decide), ?_⟩
    rw [(shBl _).refl]
    exact q _ s24

theorem marks_0 : marksL 0 = [true, false, false, false, false, false, true] := by decide
theorem marks_1 : marksL 1 = [false, true, false, false, false, false, true] := by decide
theorem marks_2 : marksL 2 = [false, false, true, false, false, false, true] := by decide
def sp_law_told : Sp := fun vs H Q _ => ∃ (b : Addr) (m : Int) (us : List V) (ws : List W), vs = [.ref b, .int m] ∧ H b = some (.lst us) ∧ WAs H ws us ∧ (∀ x ∈ ws, x.depth ≤ 20) ∧
  (lookR ws m = -1 → ∀ (H' : Hp) (p k : Addr), Same H H' → H' p = some (.tup [.int (ws.length : Int), .ref k]) → H' k = some (.lst []) → Q (.ref p) H') ∧
  (∀ d, lookR ws m = d → 0 ≤ d → ∀ (H' : Hp) (p k : Addr) (v : V), Same H H' → H' p = some (.tup [v, .ref k]) → H' k = some (.lst ((marksL d).map V.bl)) → Q (.ref p) H')
theorem ok_law_told (T : Txt K mg Z) : FnOk P w K mg base CX0 23 Z.a_law_told Z.d_law_told ["board", "buttons"] sp_law_told := by
  have Glooked := ok_looked (P := P) (w := w) (base := base) T
  refine T.F__law_told.ok sc_law_told (fun vs H Q E h => by obtain ⟨_, _, _, _, rfl, _⟩ := h; rfl) (fun cdv A outer s H vs Q E hr h => ?_)
  obtain ⟨b, m, us, ws, rfl, hb, hW, hdp, q1, q2⟩ := h
  refine ⟨_, (pss_cons (ps_set (i := 2) sc_law_told.nd rfl (Or.inl rfl) pe_non)
      (pss_cons (ps_set (i := 3) sc_law_told.nd rfl (Or.inl rfl) (pe_lst pa_nil))
      (pss_cons (ps_try_as (i := 4) (tb := (fun W => tAsg (tCallS (sp_looked Z) (WE W) (tCons (tVar 0) (tCons (tVar 1) tNil))) (gName 2))) (ts := (fun a cls d => tSuite K Z.CTooMany Z.CDeep Z.CNoContact Z.CNoRelay Z.CStill Z.CNoNote 4 3 a cls d)) (Wout := fun _ _ _ _ => False) rfl rfl sc_law_told.nd rfl rfl ⟨rfl, by decide, .inl T.c_RoomError⟩ takes0 (fun W pn xe tk _ => (pss_one (ps_set (i := 2) sc_law_told.nd rfl (Or.inl rfl) (pe_callS Glooked (hr.mono (by omega)) rfl T.m_looked T.F_looked.kp T.b_looked (fun σ => passAt tk σ) (pa_cons (pv 0) (pa_cons (pv 1) pa_nil)))))) (fun a oe cls d pn hz hf => (pss_cons (ps_set (i := 3) sc_law_told.nd rfl (Or.inl rfl) (pe_lst (pa_cons (pe_callB (r := rIsX K a cls d) (call_isX hz hf) (by rfl) T.n_isinstance (by decide +kernel) (pa_cons (pv 4) (pa_cons (pe_glob rfl T.c_TooMany rfl) pa_nil))) (pa_cons (pe_callB (r := rIsX K a cls d) (call_isX hz hf) (by rfl) T.n_isinstance (by decide +kernel) (pa_cons (pv 4) (pa_cons (pe_glob rfl T.c_Deep rfl) pa_nil))) (pa_cons (pe_callB (r := rIsX K a cls d) (call_isX hz hf) (by rfl) T.n_isinstance (by decide +kernel) (pa_cons (pv 4) (pa_cons (pe_glob rfl T.c_NoContact rfl) pa_nil))) (pa_cons (pe_callB (r := rIsX K a cls d) (call_isX hz hf) (by rfl) T.n_isinstance (by decide +kernel) (pa_cons (pv 4) (pa_cons (pe_glob rfl T.c_NoRelay rfl) pa_nil))) pa_nil))))))
      (pss_one (ps_set (i := 3) sc_law_told.nd rfl (Or.inl rfl) (pe_op op_cat (pv 3) (pe_lst (pa_cons (pe_callB (r := rIsX K a cls d) (call_isX hz hf) (by rfl) T.n_isinstance (by decide +kernel) (pa_cons (pv 4) (pa_cons (pe_glob rfl T.c_Still rfl) pa_nil))) (pa_cons (pe_callB (r := rIsX K a cls d) (call_isX hz hf) (by rfl) T.n_isinstance (by decide +kernel) (pa_cons (pv 4) (pa_cons (pe_glob rfl T.c_NoNote rfl) pa_nil))) (pa_cons (pe_callB (r := rIsX K a cls d) (call_isX hz hf) (by rfl) T.n_isinstance (by decide +kernel) (pa_cons (pv 4) (pa_cons (pe_bltn (v := .ty "ValueError") (u := .type "ValueError") (by rfl) T.n_ValueError (by decide +kernel) rfl) pa_nil))) pa_nil))))))))))
      (pss_one (ps_ret (pe_tup (pa_cons (pv 2) (pa_cons (pv 3) pa_nil)))))))), ?_⟩
  refine ⟨Nat.zero_le _, ?_⟩
  wtm_at "new k H1 s1 e1"
  refine ⟨_, rfl, _, rfl, b, m, us, ws, rfl, s1 _ _ hb, WAs.same s1 hW, hdp, fun hr1 H2 s2 => ?_, fun hr1 H2 s2 => ?_, fun hr1 H2 s2 => ?_, fun hr1 H2 s2 => ?_⟩
  · refine ⟨_, rfl, _, rfl, by wtm_at "sz", ?_⟩
    wtm_at "new p H3 s3 e3"
    exact q1 hr1 _ _ _ (s1.trans (s2.trans s3)) e3 ((s2.trans s3) _ _ e1)
  · refine ⟨true, T.e_TooMany, fun _ a na => ?_, fun z => Bool.noConfusion z⟩
    refine suite_run T.E_TooMany T.i_TooMany_TooMany T.i_TooMany_Deep T.i_TooMany_NoContact T.i_TooMany_NoRelay T.i_TooMany_Still T.i_TooMany_NoNote T.v_TooMany rfl (Nat.le_of_ble_eq_true (n := 4) rfl) (by decide) fun H3 p0 p s3 e3 => ?_
    refine ⟨_, rfl, _, rfl, by wtm_at "sz", ?_⟩
    wtm_at "new r H4 s4 e4"
    exact q2 _ hr1 (by decide) _ _ _ _ (s1.trans (s2.trans (s3.trans s4))) e4 (by rw [marks_0]; exact s4 _ _ e3)
  · refine ⟨true, T.e_Deep, fun _ a na => ?_, fun z => Bool.noConfusion z⟩
    refine suite_run T.E_Deep T.i_Deep_TooMany T.i_Deep_Deep T.i_Deep_NoContact T.i_Deep_NoRelay T.i_Deep_Still T.i_Deep_NoNote T.v_Deep rfl (Nat.le_of_ble_eq_true (n := 4) rfl) (by decide) fun H3 p0 p s3 e3 => ?_
    refine ⟨_, rfl, _, rfl, by wtm_at "sz", ?_⟩
    wtm_at "new r H4 s4 e4"
    exact q2 _ hr1 (by decide) _ _ _ _ (s1.trans (s2.trans (s3.trans s4))) e4 (by rw [marks_1]; exact s4 _ _ e3)
  · refine ⟨true, T.e_NoContact, fun _ a na => ?_, fun z => Bool.noConfusion z⟩
    refine suite_run T.E_NoContact T.i_NoContact_TooMany T.i_NoContact_Deep T.i_NoContact_NoContact T.i_NoContact_NoRelay T.i_NoContact_Still T.i_NoContact_NoNote T.v_NoContact rfl (Nat.le_of_ble_eq_true (n := 4) rfl) (by decide) fun H3 p0 p s3 e3 => ?_
    refine ⟨_, rfl, _, rfl, by wtm_at "sz", ?_⟩
    wtm_at "new r H4 s4 e4"
    exact q2 _ hr1 (by decide) _ _ _ _ (s1.trans (s2.trans (s3.trans s4))) e4 (by rw [marks_2]; exact s4 _ _ e3)

/-- the things behind a word's tag: its parts, or one number -/
theorem WA.rest {H : Hp} {x : W} {a : Addr} (h : WA H x a) : ∃ (t : Str) (us : List V), H a = some (.tup (.str t :: us)) ∧ us.length ≤ 2 ∧ (WAs H x.parts us ∨ ∃ k, us = [.int k] ∧ x.parts = []) := by
  cases x with
  | relay k => exact ⟨_, _, h, Nat.le_succ 1, .inr ⟨k, rfl, rfl⟩⟩
  | button k => exact ⟨_, _, h, Nat.le_succ 1, .inr ⟨k, rfl, rfl⟩⟩
  | on => exact ⟨_, _, h, Nat.zero_le _, .inl .nil⟩
  | off => exact ⟨_, _, h, Nat.zero_le _, .inl .nil⟩
  | not y => obtain ⟨b, e, hy⟩ := h; exact ⟨_, _, e, Nat.le_succ 1, .inl (.cons ⟨b, rfl, hy⟩ .nil)⟩
  | and y z => obtain ⟨b, c, e, hy, hz⟩ := h; exact ⟨_, _, e, Nat.le_refl 2, .inl (.cons ⟨b, rfl, hy⟩ (.cons ⟨c, rfl, hz⟩ .nil))⟩
  | or y z => obtain ⟨b, c, e, hy, hz⟩ := h; exact ⟨_, _, e, Nat.le_refl 2, .inl (.cons ⟨b, rfl, hy⟩ (.cons ⟨c, rfl, hz⟩ .nil))⟩
theorem WA.tup {H : Hp} {x : W} {a : Addr} (h : WA H x a) : ∃ us, H a = some (.tup us) := by obtain ⟨_, _, e, _⟩ := h.rest; exact ⟨_, e⟩
def sp_law_depth (N : Nat) : Sp := fun vs H Q _ => ∃ (a : Addr) (x : W), vs = [.ref a] ∧ WA H x a ∧ x.depth ≤ N ∧ ∀ H', Same H H' → Q (.int (x.depth : Int)) H'
theorem st_law_depth (T : Txt K mg Z) {N : Nat} (G_law_depth : FnOk P w K mg base CX0 N Z.a_law_depth Z.d_law_depth ["word"] (sp_law_depth N)) : FnOk P w K mg base CX0 (N + 1) Z.a_law_depth Z.d_law_depth ["word"] (sp_law_depth (N + 1)) := by
  refine T.F__law_depth.ok sc_law_depth (fun vs H Q E h => by obtain ⟨_, _, rfl, _⟩ := h; rfl) (fun cdv A outer s H vs Q E hr h => ?_)
  obtain ⟨a, x, rfl, hx, hd, q⟩ := h
  refine ⟨_, (pss_one (ps_ret (pe_op op_add pe_int (pe_callBK (r := rMaxD K) (call_maxD rfl (hu_of hr)) (by rfl) T.n_max (by decide +kernel) (pa_cons (pe_lc (own := [("part", 1)]) (g := gName 1) rfl sc_law_depth.nd (pi_tup (pe_slice (r := rSlT K) sl_tup (pv 0) (po_some pe_int) po_none)) (blkOk_by (own := [("part", 1)]) (N := ["word", "part"]) (sc := defScope s_law_depth) (by decide +kernel)) (fun _ _ _ _ _ => pg_name (i := 1) sc_law_depth.nd rfl (Or.inl rfl)) (fun _ _ _ _ _ => (pts_one (pt_val (pe_callB (r := rIsi K) call_isi (by rfl) T.n_isinstance (by decide +kernel) (pa_cons (pv 1) (pa_cons (pe_bltn (v := .ty "tuple") (u := .type "tuple") (by rfl) T.n_tuple (by decide +kernel) rfl) pa_nil)))))) (fun _ _ _ _ _ => (pe_call G_law_depth (hr.mono (by omega)) (by rfl) T.m__law_depth T.F__law_depth.kp T.b__law_depth .nil pass0 (pa_cons (pv 1) pa_nil)))) pa_nil) (pk_cons pe_int pk_nil))))), ?_⟩
  obtain ⟨t, us, e0, hu2, hus⟩ := hx.rest
  refine ⟨_, rfl, 1, rfl, a, _, rfl, .of e0, fun z => ?_, ?_⟩
  · have z1 := z.1
    rw [show HT.sIx (V.str t :: us).length 0 (some 1) = min 1 (V.str t :: us).length from HT.sIx_nat _ 0 1, List.length_cons] at z1
    omega
  rw [cut1]
  wtm_at "new p H1 s1 e1"
  refine ⟨p, rfl, ⟨_, .of e1⟩, fun D nD => lc_tup (K := K) (a := p) (xs := us) (fun i H' => Same H1 H' ∧ H' D = some (.lst (((x.parts.take i).map fun y => (y.depth : Int)).map V.int))) ?_ ?_ ?_ ?_⟩
  · exact ⟨Same.new nD, upd_same⟩
  · rintro i H' _ ⟨s2, _⟩
    exact .of (s2 _ _ e1)
  · rintro i v H2 hi ⟨s2, hD⟩
    refine ⟨rfl, ?_⟩
    rcases hus with hW | ⟨k, rfl, hp⟩
    · obtain ⟨y, hy, b, rfl, hb⟩ := paired_get hW hi
      have hb2 := WA.same (s1.trans s2) hb
      obtain ⟨ub, eb⟩ := hb2.tup
      refine ⟨_, rfl, .ref b, .ty "tuple", .type "tuple", .type "tuple", true, rfl, .ty _, .base (.tup eb), kit_ty (by decide +kernel), _, rfl, ?_⟩
      refine iT rfl ?_
      refine ⟨_, rfl, b, y, rfl, hb2, parts_depth (List.mem_of_getElem? hy) hd, fun H3 s3 => ?_⟩
      have h2 : x.parts.length ≤ 2 := by cases x <;> simp [W.parts]
      refine ⟨_, s3 _ _ hD, small11 ?_, Same.lst (s2.trans s3) nD, ?_⟩
      · rw [List.length_map, List.length_map, List.length_take]; omega
      · rw [upd_same, List.take_add_one, hy, List.map_append, List.map_append]; rfl
    · cases i with
      | succ i => simp at hi
      | zero =>
        cases hi
        refine ⟨_, rfl, .int k, .ty "tuple", .type "int", .type "tuple", false, rfl, .ty _, .base (.int _), kit_ty (by decide +kernel), _, rfl, ?_⟩
        refine iF rfl ?_
        refine ⟨s2, ?_⟩
        rw [hD, hp]; rfl
  rintro H2 ⟨s2, hD⟩
  have hall : x.parts.take us.length = x.parts := by
    rcases hus with hW | ⟨k, rfl, hp⟩
    · rw [← WAs.length hW, List.take_length]
    · rw [hp]; rfl
  rw [hall] at hD
  refine ⟨D, _, 0, rfl, rfl, .of hD, _, _, rfl, rfl, ?_⟩
  have := q _ (s1.trans s2)
  rw [← depth_parts] at this
  exact this
theorem ok_law_depth (T : Txt K mg Z) : ∀ N : Nat, FnOk P w K mg base CX0 N Z.a_law_depth Z.d_law_depth ["word"] (sp_law_depth N)
  | 0 => fn_none (by rintro vs H Q E ⟨_, x, _, _, h, _⟩; have := x.depth_pos; omega)
  | N + 1 => st_law_depth T (ok_law_depth T N)

def sp_law_wired (N : Nat) : Sp := fun vs H Q _ => ∃ (a : Addr) (n m : Int) (x : W), vs = [.ref a, .int n, .int m] ∧ WA H x a ∧ x.depth ≤ N ∧ ∀ H', Same H H' → Q (.bl (x.okAt n m)) H'
theorem st_law_wired (T : Txt K mg Z) {N : Nat} (G_law_wired : FnOk P w K mg base CX0 N Z.a_law_wired Z.d_law_wired ["word", "relays", "buttons"] (sp_law_wired N)) : FnOk P w K mg base CX0 (N + 1) Z.a_law_wired Z.d_law_wired ["word", "relays", "buttons"] (sp_law_wired (N + 1)) := by
  refine T.F__law_wired.ok sc_law_wired (fun vs H Q E h => by obtain ⟨_, _, _, _, rfl, _⟩ := h; rfl) (fun cdv A outer s H vs Q E hr h => ?_)
  obtain ⟨a, n, m, x, rfl, hx, hd, q⟩ := h
  refine ⟨_, (pss_cons (ps_if (PW.pt (pw_or (pt_cmpR op_eq (pe_ix (r := rIxT K) ix_tup (pv 0) pe_int (fun _ _ => rfl)) pe_str (nomark _)) (pw_or1 (pt_cmpR op_eq (pe_ix (r := rIxT K) ix_tup (pv 0) pe_int (fun _ _ => rfl)) pe_str (nomark _))))) (pss_one (ps_ret (pe_chain op_le op_lt pe_int (pe_ix (r := rIxT K) ix_tup (pv 0) pe_int (fun _ _ => rfl)) (pe_ix (r := rIxL K) ix_list (pe_lst (pa_cons (pv 1) (pa_cons (pv 2) pa_nil))) (pe_callTy call_int1 (by rfl) T.n_int (by decide +kernel) (pa_cons (pe_cmpR op_eq (pe_ix (r := rIxT K) ix_tup (pv 0) pe_int (fun _ _ => rfl)) pe_str (nomark _)) pa_nil)) (fun _ _ => rfl))))) pss_nil)
      (pss_one (ps_ret (pe_callB (r := rAll K) (cr_all rfl) (by rfl) T.n_all (by decide +kernel) (pa_cons (pe_lc (own := [("part", 3)]) (g := gName 3) (tt := tYes) rfl sc_law_wired.nd (pi_tup (pe_slice (r := rSlT K) sl_tup (pv 0) (po_some pe_int) po_none)) (blkOk_by (own := [("part", 3)]) (N := ["word", "relays", "buttons", "part"]) (sc := defScope s_law_wired) (by decide +kernel)) (fun _ _ _ _ _ => pg_name (i := 3) sc_law_wired.nd rfl (Or.inl rfl)) (fun _ _ _ _ _ => pts_nil) (fun _ _ _ _ _ => (pe_call G_law_wired (hr.mono (by omega)) (by rfl) T.m__law_wired T.F__law_wired.kp T.b__law_wired .nil pass0 (pa_cons (pv 3) (pa_cons (pv 1) (pa_cons (pv 2) pa_nil)))))) pa_nil))))), ?_⟩
  rcases wired_leaf (K := K) hx with ⟨k, rfl⟩ | ⟨k, rfl⟩ | ⟨n1, n2, us, e0, hW, d1, d2⟩
  · have e0 : H a = some (.tup [.str "relay", .int k]) := hx
    refine tag_test rfl e0 ?_; wtm_at "dT"
    refine iT rfl ?_
    refine ⟨_, rfl, a, _, 1, _, rfl, rfl, .of e0, atI_nat (j := 1) rfl, _, _, rfl, rfl, _, rfl, ?_⟩
    have := q _ (Same.refl _)
    refine iB (fun z => ?_) (fun z => ?_)
    · refine ⟨_, rfl, _, rfl, Nat.le_of_ble_eq_true (n := 2) rfl, ?_⟩
      wtm_at "new c H1 s1 e1"
      refine tag_val rfl (s1 _ _ e0) ?_
      refine .inr ⟨_, rfl, ?_⟩
      refine ⟨c, _, _, .int n, rfl, rfl, .of e1, at_of (j := 0) (by decide +kernel) rfl, _, _, rfl, rfl, ?_⟩
      have := q _ s1
      have e : W.okAt n m (.relay k) = decide (k < n) := by show (decide (0 ≤ k) && decide (k < n)) = _; rw [z]; rfl
      rw [e] at this; exact this
    · have e : W.okAt n m (.relay k) = false := by show (decide (0 ≤ k) && decide (k < n)) = _; rw [z]; rfl
      rw [e] at this; exact this
  · have e0 : H a = some (.tup [.str "button", .int k]) := hx
    refine tag_test rfl e0 ?_; wtm_at "dF"
    refine tag_test rfl e0 ?_; wtm_at "dT"
    refine ⟨_, rfl, a, _, 1, _, rfl, rfl, .of e0, atI_nat (j := 1) rfl, _, _, rfl, rfl, _, rfl, ?_⟩
    have := q _ (Same.refl _)
    refine iB (fun z => ?_) (fun z => ?_)
    · refine ⟨_, rfl, _, rfl, Nat.le_of_ble_eq_true (n := 2) rfl, ?_⟩
      wtm_at "new c H1 s1 e1"
      refine tag_val rfl (s1 _ _ e0) ?_
      refine .inr ⟨_, rfl, ?_⟩
      refine ⟨c, _, _, .int m, rfl, rfl, .of e1, at_of (j := 1) (by decide +kernel) rfl, _, _, rfl, rfl, ?_⟩
      have := q _ s1
      have e : W.okAt n m (.button k) = decide (k < m) := by show (decide (0 ≤ k) && decide (k < m)) = _; rw [z]; rfl
      rw [e] at this; exact this
    · have e : W.okAt n m (.button k) = false := by show (decide (0 ≤ k) && decide (k < m)) = _; rw [z]; rfl
      rw [e] at this; exact this
  refine tag_test rfl e0 ?_; refine iF d1 ?_
  refine tag_test rfl e0 ?_; refine iF d2 ?_
  refine ⟨_, rfl, 1, rfl, a, _, rfl, .of e0, fun z => ?_, ?_⟩
  · have z1 := z.1
    rw [show HT.sIx (V.str x.tag :: us).length 0 (some 1) = min 1 (V.str x.tag :: us).length from HT.sIx_nat _ 0 1, List.length_cons] at z1
    omega
  rw [cut1]
  wtm_at "new p H1 s1 e1"
  have hl := hW.length
  have h2 : x.parts.length ≤ 2 := by cases x <;> simp [W.parts]
  have hW1 := WAs.same s1 hW
  refine ⟨p, rfl, ⟨_, .of e1⟩, fun D nD => lc_tup (K := K) (a := p) (xs := us) (fun i H' => Same H1 H' ∧ H' D = some (.lst (((x.parts.take i).map fun y => y.okAt n m).map V.bl))) ?_ ?_ ?_ ?_⟩
  · exact ⟨Same.new nD, upd_same⟩
  · rintro i H' _ ⟨s2, _⟩
    exact .of (s2 _ _ e1)
  · rintro i v H2 hi ⟨s2, hD⟩
    obtain ⟨y, hy, b, rfl, hb⟩ := paired_get hW1 hi
    wtm_at "lc"
    refine ⟨_, rfl, _, rfl, _, rfl, b, n, m, y, rfl, WA.same s2 hb, parts_depth (List.mem_of_getElem? hy) hd, fun H3 s3 => ?_⟩
    refine ⟨_, s3 _ _ hD, small11 ?_, Same.lst (s2.trans s3) nD, ?_⟩
    · rw [List.length_map, List.length_map, List.length_take]; omega
    · rw [upd_same, List.take_add_one, hy, List.map_append, List.map_append]; rfl
  rintro H2 ⟨s2, hD⟩
  rw [← hl, List.take_length] at hD
  refine ⟨D, _, rfl, .of hD, ?_⟩
  have := q _ (s1.trans s2)
  rw [okAt_parts x n m n1 n2]
  exact this
theorem ok_law_wired (T : Txt K mg Z) : ∀ N : Nat, FnOk P w K mg base CX0 N Z.a_law_wired Z.d_law_wired ["word", "relays", "buttons"] (sp_law_wired N)
  | 0 => fn_none (by rintro vs H Q E ⟨_, _, _, x, _, _, h, _⟩; have := x.depth_pos; omega)
  | N + 1 => st_law_wired T (ok_law_wired T N)

def sp_law_spoilt : Sp := fun vs H Q _ => ∃ (b : Addr) (m c : Int) (us : List V) (ws : List W) (d : Nat), vs = [.ref b, .int m, .int c] ∧ 0 ≤ c ∧ H b = some (.lst us) ∧ WAs H ws us ∧ (∀ x ∈ ws, x.depth ≤ d) ∧ d ≤ 20 ∧ ws.length ≤ 100 ∧
  ∀ (H' : Hp) (p b' : Addr) (m' : Int) (us' : List V) (ws' : List W), Same H H' → H' p = some (.tup [.ref b', .int m']) → H' b' = some (.lst us') → WAs H' ws' us' → (∀ x ∈ ws', x.depth ≤ d + 6) → ws'.length ≤ ws.length + 6 → Q (.ref p) H'
theorem ok_law_spoilt (T : Txt K mg Z) : FnOk P w K mg base CX0 1 Z.a_law_spoilt Z.d_law_spoilt ["board", "buttons", "cell"] sp_law_spoilt := by
  refine T.F__law_spoilt.ok sc_law_spoilt (fun vs H Q E h => by obtain ⟨_, _, _, _, _, _, rfl, _⟩ := h; rfl) (fun cdv A outer s H vs Q E hr h => ?_)
  obtain ⟨b, m, c, us, ws, d, rfl, hc0, hb, hW, hd, hd20, hlen, q⟩ := h
  refine ⟨_, (pss_cons (ps_set (i := 3) sc_law_spoilt.nd rfl (Or.inl rfl) (pe_op op_mod (pv 2) pe_int))
      (pss_cons (ps_set (i := 4) sc_law_spoilt.nd rfl (Or.inl rfl) (pe_op op_mod (pe_op op_fdiv (pv 2) pe_int) (pe_callB (call_max2 rfl) (by rfl) T.n_max (by decide +kernel) (pa_cons pe_int (pa_cons (pe_callB (r := rLenSeq K) call_len_seq (by rfl) T.n_len PySem.boot_len (pa_cons (pv 0) pa_nil)) pa_nil)))))
      (pss_cons (ps_if (pt_cmpR op_eq (pv 3) pe_int (nomark _)) (pss_one (ps_ret (pe_tup (pa_cons (pe_ix (r := rIxL K) ix_list (pe_lst (pa_cons (pe_lst pa_nil) (pa_cons (pe_op op_cat (pv 0) (pe_lc (own := [("k", 6)]) (g := gName 6) (tt := tYes) rfl sc_law_spoilt.nd (pi_range1 rfl T.n_range (pa_cons pe_int pa_nil)) (blkOk_by (own := [("k", 6)]) (N := ["board", "buttons", "cell", "way", "at", "word", "k", "near", "far", "contact", "side"]) (sc := defScope s_law_spoilt) (by decide +kernel)) (fun _ _ _ _ _ => pg_name (i := 6) sc_law_spoilt.nd rfl (Or.inl rfl)) (fun _ _ _ _ _ => pts_nil) (fun _ _ _ _ _ => (pe_tup (pa_cons pe_str pa_nil))))) pa_nil))) (pe_op op_mod (pe_op op_fdiv (pv 2) pe_int) pe_int) (fun _ _ => rfl)) (pa_cons (pv 1) pa_nil))))) pss_nil)
      (pss_cons (ps_if (pt_cmpR op_eq (pv 3) pe_int (nomark _)) (pss_one (ps_ret (pe_tup (pa_cons (pv 0) (pa_cons (pe_ix (r := rIxL K) ix_list (pe_lst (pa_cons (pe_un un_neg pe_int) (pa_cons pe_int (pa_cons (pe_op op_sub (pe_un un_neg pe_int) (pe_op op_mod (pe_op op_fdiv (pv 2) pe_int) pe_int)) (pa_cons (pe_op op_add pe_int (pe_op op_mod (pe_op op_fdiv (pv 2) pe_int) pe_int)) pa_nil))))) (pe_op op_mod (pe_op op_fdiv (pv 2) pe_int) pe_int) (fun _ _ => rfl)) pa_nil))))) pss_nil)
      (pss_cons (ps_if (pt_cmpR (r := rEqD K) (op_eqD hr.units) (pv 0) (pe_lst pa_nil) (nomark _)) (pss_one (ps_ret (pe_tup (pa_cons (pv 0) (pa_cons (pv 1) pa_nil))))) pss_nil)
      (pss_cons (ps_set (i := 5) sc_law_spoilt.nd rfl (Or.inl rfl) (pe_ix (r := rIxL K) ix_list (pv 0) (pv 4) (fun _ _ => rfl)))
      (C8.pss_cut (ps_if (pt_cmpR op_eq (pv 3) pe_int (nomark _)) (pss_one (ps_for PassesOwn.never rfl (pi_range1 rfl T.n_range (pa_cons (pe_op op_add pe_int (pe_op op_mod (pe_op op_fdiv (pv 2) pe_int) pe_int)) pa_nil)) (pg_name (i := 6) sc_law_spoilt.nd rfl (Or.inl rfl))
      (pss_one (ps_set (i := 5) sc_law_spoilt.nd rfl (Or.inl rfl) (pe_tup (pa_cons pe_str (pa_cons (pv 5) pa_nil))))))) pss_nil)
      (C8.pss_cut (ps_if (pt_cmpR op_gt (pv 3) pe_int (nomark _)) (pss_cons (ps_set (i := 7) sc_law_spoilt.nd rfl (Or.inl rfl) (pe_ix (r := rIxL K) ix_list (pe_lst (pa_cons (pe_callB (r := rLenSeq K) call_len_seq (by rfl) T.n_len PySem.boot_len (pa_cons (pv 0) pa_nil)) (pa_cons (pe_callB (call_max2 rfl) (by rfl) T.n_max (by decide +kernel) (pa_cons pe_int (pa_cons (pe_callB (call_min2 rfl) (by rfl) T.n_min (by decide +kernel) (pa_cons pe_int (pa_cons (pv 1) pa_nil))) pa_nil))) pa_nil))) (pe_op op_mod (pv 3) pe_int) (fun _ _ => rfl)))
      (pss_cons (ps_set (i := 8) sc_law_spoilt.nd rfl (Or.inl rfl) (pe_ix (r := rIxL K) ix_list (pe_lst (pa_cons (pe_un un_neg pe_int) (pa_cons (pv 7) (pa_cons (pe_op op_sub (pe_un un_neg pe_int) (pe_op op_mod (pe_op op_fdiv (pv 2) pe_int) pe_int)) (pa_cons (pe_op op_add (pv 7) (pe_op op_mod (pe_op op_fdiv (pv 2) pe_int) pe_int)) pa_nil))))) (pe_op op_mod (pe_op op_fdiv (pv 2) pe_int) pe_int) (fun _ _ => rfl)))
      (pss_cons (ps_set (i := 9) sc_law_spoilt.nd rfl (Or.inl rfl) (pe_tup (pa_cons (pe_ix (r := rIxL K) ix_list (pe_lst (pa_cons pe_str (pa_cons pe_str pa_nil))) (pe_op op_mod (pv 3) pe_int) (fun _ _ => rfl)) (pa_cons (pv 8) pa_nil))))
      (pss_cons (ps_set (i := 10) sc_law_spoilt.nd rfl (Or.inl rfl) (pe_op op_mod (pe_op op_fdiv (pv 2) pe_int) pe_int))
      (pss_one (ps_if (pt_cmpR op_lt (pv 10) pe_int (nomark _)) (pss_one (ps_set (i := 5) sc_law_spoilt.nd rfl (Or.inl rfl) (pe_tup (pa_cons (pe_ix (r := rIxL K) ix_list (pe_lst (pa_cons pe_str (pa_cons pe_str pa_nil))) (pv 10) (fun _ _ => rfl)) (pa_cons (pv 5) (pa_cons (pv 9) pa_nil)))))) (pss_one (ps_if (pt_cmpR op_lt (pv 10) pe_int (nomark _)) (pss_one (ps_set (i := 5) sc_law_spoilt.nd rfl (Or.inl rfl) (pe_tup (pa_cons (pe_ix (r := rIxL K) ix_list (pe_lst (pa_cons pe_str (pa_cons pe_str pa_nil))) (pe_op op_sub (pv 10) pe_int) (fun _ _ => rfl)) (pa_cons (pv 9) (pa_cons (pv 5) pa_nil)))))) (pss_one (ps_set (i := 5) sc_law_spoilt.nd rfl (Or.inl rfl) (pv 9))))))))))) pss_nil)
      (pss_one (ps_ret (pe_tup (pa_cons (pe_op op_cat (pe_op op_cat (pe_slice (r := rSlL K) sl_list (pv 0) po_none (po_some (pv 4))) (pe_lst (pa_cons (pv 5) pa_nil))) (pe_slice (r := rSlL K) sl_list (pv 0) (po_some (pe_op op_add (pv 4) pe_int)) po_none)) (pa_cons (pv 1) pa_nil))))))))))))), ?_⟩
  have hl := hW.length
  refine ⟨_, rfl, _, _, rfl, rfl, by show (0 : Int) < 5; decide, ?_⟩
  have hM : (0 : Int) < (if ((us.length : Nat) : Int) > 1 then ((us.length : Nat) : Int) else 1) := by split <;> omega
  refine ⟨_, rfl, _, _, rfl, rfl, ⟨by decide, by decide⟩, _, rfl, b, us, rfl, .inl (.of hb), _, _, rfl, _, _, rfl, rfl, hM, ?_⟩
  obtain ⟨w5, ew, hw0, hw5⟩ : ∃ w5 : Int, c % 5 = w5 ∧ 0 ≤ w5 ∧ w5 < 5 := ⟨_, rfl, by omega, by omega⟩
  have hM2 : us ≠ [] → (if ((us.length : Nat) : Int) > 1 then ((us.length : Nat) : Int) else 1) = (us.length : Int) := fun hne => by
    have : 0 < us.length := List.length_pos_iff.mpr hne
    split <;> omega
  obtain ⟨k, ek, hk⟩ : ∃ k : Nat, c / 5 % (if ((us.length : Nat) : Int) > 1 then ((us.length : Nat) : Int) else 1) = (k : Int) ∧ (us ≠ [] → k < us.length) := by
    generalize (if ((us.length : Nat) : Int) > 1 then ((us.length : Nat) : Int) else 1) = M at *
    have h1 := Int.emod_nonneg (c / 5) (show M ≠ 0 by omega)
    have h2 := Int.emod_lt_of_pos (c / 5) hM
    generalize c / 5 % M = y at *
    refine ⟨y.toNat, by omega, fun hne => ?_⟩
    have := hM2 hne
    omega
  wtm_at "ds"
  rw [ew, ek]
  refine ⟨_, rfl, rfl, _, rfl, ?_⟩
  refine iB (fun z => ?_) (fun z => ?_)
  · refine ⟨Nat.zero_le _, ?_⟩
    wtm_at "new e0 H1 s1 e1"
    refine ⟨_, rfl, 6, rfl, by omega, by omega, fun D nD => lc_range (lo := 0) (n := 6) (fun i H' => Same H1 H' ∧ ∃ ys, H' D = some (.lst ys) ∧ WAs H' (List.replicate i .on) ys) ?_ ?_ ?_⟩
    · exact ⟨Same.new nD, [], upd_same, .nil⟩
    · rintro i H2 hi ⟨s2, ys, hD, hY⟩
      have hyl := hY.length
      rw [List.length_replicate] at hyl
      wtm_at "lc"
      refine ⟨by wtm_at "sz", ?_⟩
      wtm_at "new p H3 s3 e3"
      have t4 : Tk H3 (upd H3 D (.lst (ys ++ [.ref p]))) := Tk.lst (s3 _ _ hD)
      refine ⟨ys, s3 _ _ hD, small11 (by omega), Same.lst (s2.trans s3) nD, _, upd_same, ?_⟩
      rw [List.replicate_succ']
      exact paired_snoc (WAs.tk ((Same.tk s3).trans t4) hY) ⟨p, rfl, t4 _ _ e3⟩
    rintro H2 ⟨s2, ys, hD, hY⟩
    have hyl := hY.length
    rw [List.length_replicate] at hyl
    have s12 := s1.trans s2
    refine ⟨b, D, us, ys, rfl, rfl, s12 _ _ hb, hD, small10 (by omega), ?_⟩
    wtm_at "new f0 H3 s3 e3"
    refine ⟨Nat.le_of_ble_eq_true (n := 2) rfl, ?_⟩
    wtm_at "new g0 H4 s4 e4"
    have s34 := s3.trans s4
    have s14 := s12.trans s34
    have hnew : WAs H4 (ws ++ List.replicate 6 .on) (us ++ ys) := paired_app (WAs.same s14 hW) (WAs.same s34 hY)
    refine ⟨_, rfl, _, _, rfl, rfl, ⟨by decide, by decide⟩, _, _, rfl, rfl, by show (0 : Int) < 2; decide, ?_⟩
    rcases (by omega : c / 40 % 2 = 0 ∨ c / 40 % 2 = 1) with e | e
    · refine ⟨g0, _, _, .ref e0, rfl, rfl, .of e4, at_of (j := 0) e rfl, _, rfl, Nat.le_of_ble_eq_true (n := 2) rfl, ?_⟩
      wtm_at "new r0 H5 s5 e5"
      exact q _ _ _ _ [] [] (s14.trans s5) e5 ((s2.trans (s34.trans s5)) _ _ e1) .nil (fun x hx => nomatch hx) (Nat.zero_le _)
    · refine ⟨g0, _, _, .ref f0, rfl, rfl, .of e4, at_of (j := 1) e rfl, _, rfl, Nat.le_of_ble_eq_true (n := 2) rfl, ?_⟩
      wtm_at "new r0 H5 s5 e5"
      refine q _ _ _ _ _ _ (s14.trans s5) e5 ((s4.trans s5) _ _ e3) (WAs.same s5 hnew) (fun x hx => ?_) (by rw [List.length_append, List.length_replicate]; exact Nat.le_refl _)
      rcases List.mem_append.mp hx with h | h
      · have := hd x h; omega
      · rw [(List.mem_replicate.mp h).2]; show 1 ≤ d + 6; omega
  refine ⟨_, rfl, rfl, _, rfl, ?_⟩
  refine iB (fun z1 => ?_) (fun z1 => ?_)
  · refine ⟨_, rfl, _, rfl, _, rfl, _, rfl, _, _, rfl, rfl, ⟨by decide, by decide⟩, _, _, rfl, rfl, by show (0 : Int) < 900; decide, _, _, rfl, rfl, _, rfl, _, _, rfl, rfl, ⟨by decide, by decide⟩, _, _, rfl, rfl, by show (0 : Int) < 900; decide, _, _, rfl, rfl, Nat.le_of_ble_eq_true (n := 4) rfl, ?_⟩
    wtm_at "new g0 H1 s1 e1"
    refine ⟨_, rfl, _, _, rfl, rfl, ⟨by decide, by decide⟩, _, _, rfl, rfl, by show (0 : Int) < 4; decide, ?_⟩
    have fin : ∀ v : Int, ∀ (p : Addr), H1 p = none → Q (.ref p) (upd H1 p (.tup [.ref b, .int v])) := fun v p np => by
      have s2 : Same H1 (upd H1 p (.tup [.ref b, .int v])) := Same.new np
      exact q _ _ _ _ us ws (s1.trans s2) upd_same ((s1.trans s2) _ _ hb) (WAs.same (s1.trans s2) hW) (fun x hx => by have := hd x hx; omega) (Nat.le_add_right _ _)
    rcases (by omega : c / 10 % 4 = 0 ∨ c / 10 % 4 = 1 ∨ c / 10 % 4 = 2 ∨ c / 10 % 4 = 3) with e | e | e | e
    · exact ⟨g0, _, _, _, rfl, rfl, .of e1, at_of (j := 0) e rfl, Nat.le_of_ble_eq_true (n := 2) rfl, fin _⟩
    · exact ⟨g0, _, _, _, rfl, rfl, .of e1, at_of (j := 1) e rfl, Nat.le_of_ble_eq_true (n := 2) rfl, fin _⟩
    · exact ⟨g0, _, _, _, rfl, rfl, .of e1, at_of (j := 2) e rfl, Nat.le_of_ble_eq_true (n := 2) rfl, fin _⟩
    · exact ⟨g0, _, _, _, rfl, rfl, .of e1, at_of (j := 3) e rfl, Nat.le_of_ble_eq_true (n := 2) rfl, fin _⟩
  refine ⟨_, rfl, Nat.zero_le _, ?_⟩
  wtm_at "new X H1 s1 e1"
  refine ⟨_, _, .lst (.of (s1 _ _ hb)) (dpWs (WAs.same s1 hW)), .lst (.of e1) .nil, (shWL hd).shaped (by omega), (shTs []).shaped (by decide), _, rfl, ?_⟩
  rw [eqv_none]
  refine iB (fun z2 => ?_) (fun z2 => ?_)
  · refine ⟨_, rfl, _, rfl, Nat.le_of_ble_eq_true (n := 2) rfl, ?_⟩
    wtm_at "new r0 H2 s2 e2"
    exact q _ _ _ _ us ws (s1.trans s2) e2 ((s1.trans s2) _ _ hb) (WAs.same (s1.trans s2) hW) (fun x hx => by have := hd x hx; omega) (Nat.le_add_right _ _)
  have hne : us ≠ [] := fun e => by
    have z2 := of_decide_eq_false z2
    have : ws = [] := List.eq_nil_of_length_eq_zero (by rw [hl, e]; rfl)
    exact z2 (by rw [this]; rfl)
  have hk := hk hne
  have hkw : k < ws.length := by omega
  obtain ⟨v, hv, wa, rfl, hwa⟩ := paired_getl hW (List.getElem?_eq_getElem hkw)
  have hdx := hd ws[k] (List.getElem_mem hkw)
  refine ⟨_, rfl, _, rfl, b, us, (k : Int), _, rfl, rfl, .of (s1 _ _ hb), at_of (j := k) rfl hv, ?_⟩
  have hwa1 := WA.same s1 hwa
  generalize ws[k] = x0 at *
  refine ⟨fun σ' H' => Same H1 H' ∧ ∃ x wa x6, σ' = [some (.ref b), some (.int m), some (.int c), some (.int w5), some (.int (k : Int)), some (.ref wa), x6, none, none, none, none] ∧ WA H' x wa ∧ x.depth ≤ d + 5, ?_, ?_⟩
  · refine ⟨_, rfl, rfl, _, rfl, ?_⟩
    refine iB (fun z3 => ?_) (fun z3 => ?_)
    · refine ⟨_, rfl, _, _, rfl, rfl, ⟨by decide, by decide⟩, _, _, rfl, rfl, by show (0 : Int) < 4; decide, _, _, rfl, rfl, _, rfl, by omega, by omega, for_range (lo := 0) (n := (2 + c / 40 % 4).toNat) (fun i σ H' => Same H1 H' ∧ ∃ x wa x6, σ = [some (.ref b), some (.int m), some (.int c), some (.int w5), some (.int (k : Int)), some (.ref wa), x6, none, none, none, none] ∧ WA H' x wa ∧ x.depth ≤ d + i) ?_ ?_ ?_⟩
      · exact ⟨Same.refl _, x0, wa, none, rfl, hwa1, hdx⟩
      · rintro i σ H2 hi ⟨s2, x, wa, x6, rfl, hx, hxd⟩
        refine ⟨_, rfl, Nat.le_of_ble_eq_true (n := 2) rfl, ?_⟩
        wtm_at "new p H3 s3 e3"
        exact ⟨s2.trans s3, .not x, p, _, rfl, ⟨wa, e3, WA.same s3 hx⟩, by show x.depth + 1 ≤ _; omega⟩
      · rintro σ H2 ⟨s2, x, wa, x6, rfl, hx, hxd⟩
        exact ⟨s2, x, wa, x6, rfl, hx, by omega⟩
    · exact ⟨Same.refl _, x0, wa, none, rfl, hwa1, by omega⟩
  rintro σ' H2 ⟨s2, x, wa2, x6, rfl, hx, hxd⟩
  refine ⟨fun σ' H' => Same H2 H' ∧ ∃ x wa x6 x7 x8 x9 x10, σ' = [some (.ref b), some (.int m), some (.int c), some (.int w5), some (.int (k : Int)), some (.ref wa), x6, x7, x8, x9, x10] ∧ WA H' x wa ∧ x.depth ≤ d + 6, ?_, ?_⟩
  · refine ⟨_, rfl, _, _, rfl, rfl, _, rfl, ?_⟩
    refine iB (fun z3 => ?_) (fun z3 => ?_)
    · have s12 := s1.trans s2
      refine ⟨_, rfl, b, us, rfl, .inl (.of (s12 _ _ hb)), _, rfl, _, _, rfl, _, _, rfl, Nat.le_of_ble_eq_true (n := 2) rfl, ?_⟩
      wtm_at "new g1 H3 s3 e3"
      refine ⟨_, rfl, _, _, rfl, rfl, by show (0 : Int) < 2; decide, ?_⟩
      have near : ∃ nr : Int, rIxL K (.ref g1) (.int (w5 % 2)) H3 fun x H' => x = .int nr ∧ H' = H3 := by
        rcases (by omega : w5 % 2 = 0 ∨ w5 % 2 = 1) with e | e
        · exact ⟨_, g1, _, _, _, rfl, rfl, .of e3, at_of (j := 0) e rfl, rfl, rfl⟩
        · exact ⟨_, g1, _, _, _, rfl, rfl, .of e3, at_of (j := 1) e rfl, rfl, rfl⟩
      obtain ⟨nr, p1, xs1, i1, v1, a1, a2, a3, a4, a5, a6⟩ := near
      cases a5
      refine ⟨p1, xs1, i1, _, a1, a2, a3, a4, ?_⟩
      refine ⟨_, rfl, _, rfl, _, rfl, _, rfl, _, _, rfl, rfl, ⟨by decide, by decide⟩, _, _, rfl, rfl, by show (0 : Int) < 900; decide, _, _, rfl, rfl, _, rfl, _, rfl, _, _, rfl, rfl, ⟨by decide, by decide⟩, _, _, rfl, rfl, by show (0 : Int) < 900; decide, _, _, rfl, rfl, Nat.le_of_ble_eq_true (n := 4) rfl, ?_⟩
      wtm_at "new g2 H4 s4 e4"
      refine ⟨_, rfl, _, _, rfl, rfl, ⟨by decide, by decide⟩, _, _, rfl, rfl, by show (0 : Int) < 4; decide, ?_⟩
      have far : ∃ fr : Int, rIxL K (.ref g2) (.int (c / 40 % 4)) H4 fun x H' => x = .int fr ∧ H' = H4 := by
        rcases (by omega : c / 40 % 4 = 0 ∨ c / 40 % 4 = 1 ∨ c / 40 % 4 = 2 ∨ c / 40 % 4 = 3) with e | e | e | e
        · exact ⟨_, g2, _, _, _, rfl, rfl, .of e4, at_of (j := 0) e rfl, rfl, rfl⟩
        · exact ⟨_, g2, _, _, _, rfl, rfl, .of e4, at_of (j := 1) e rfl, rfl, rfl⟩
        · exact ⟨_, g2, _, _, _, rfl, rfl, .of e4, at_of (j := 2) e rfl, rfl, rfl⟩
        · exact ⟨_, g2, _, _, _, rfl, rfl, .of e4, at_of (j := 3) e rfl, rfl, rfl⟩
      obtain ⟨fr, p2, xs2, i2, v2, b1, b2, b3, b4, b5, b6⟩ := far
      cases b5
      refine ⟨p2, xs2, i2, _, b1, b2, b3, b4, ?_⟩
      refine ⟨Nat.le_of_ble_eq_true (n := 2) rfl, ?_⟩
      wtm_at "new g3 H5 s5 e5"
      refine ⟨_, rfl, _, _, rfl, rfl, by show (0 : Int) < 2; decide, ?_⟩
      have cont : ∃ tg : Str, (tg = "relay" ∨ tg = "button") ∧ rIxL K (.ref g3) (.int (w5 % 2)) H5 fun x H' => x = .str tg ∧ H' = H5 := by
        rcases (by omega : w5 % 2 = 0 ∨ w5 % 2 = 1) with e | e
        · exact ⟨_, .inl rfl, g3, _, _, _, rfl, rfl, .of e5, at_of (j := 0) e rfl, rfl, rfl⟩
        · exact ⟨_, .inr rfl, g3, _, _, _, rfl, rfl, .of e5, at_of (j := 1) e rfl, rfl, rfl⟩
      obtain ⟨tg, htg, p3, xs3, i3, v3, c1, c2, c3, c4, c5, c6⟩ := cont
      cases c5
      refine ⟨p3, xs3, i3, _, c1, c2, c3, c4, ?_⟩
      refine ⟨_, rfl, Nat.le_of_ble_eq_true (n := 2) rfl, ?_⟩
      wtm_at "new cn H6 s6 e6"
      have hcn : ∃ xc : W, WA H6 xc cn ∧ xc.depth = 1 := by
        rcases htg with rfl | rfl
        · exact ⟨.relay fr, e6, rfl⟩
        · exact ⟨.button fr, e6, rfl⟩
      obtain ⟨xc, hxc, hcd⟩ := hcn
      have s36 := s3.trans (s4.trans (s5.trans s6))
      have hx6 := WA.same s36 hx
      refine ⟨_, rfl, _, _, rfl, rfl, ⟨by decide, by decide⟩, _, _, rfl, rfl, by show (0 : Int) < 5; decide, ?_⟩
      obtain ⟨sd, es, hs0, hs5⟩ : ∃ sd : Int, c / 20 % 5 = sd ∧ 0 ≤ sd ∧ sd < 5 := ⟨_, rfl, by omega, by omega⟩
      wtm_at "ds"
      rw [es]
      refine ⟨_, rfl, _, _, rfl, rfl, _, rfl, ?_⟩
      refine iB (fun z4 => ?_) (fun z4 => ?_)
      · have z4 := of_decide_eq_true z4
        refine ⟨Nat.le_of_ble_eq_true (n := 2) rfl, ?_⟩
        wtm_at "new g4 H7 s7 e7"
        have name : ∃ tg : Str, (tg = "and" ∨ tg = "or") ∧ rIxL K (.ref g4) (.int sd) H7 fun x H' => x = .str tg ∧ H' = H7 := by
          rcases (by omega : sd = 0 ∨ sd = 1) with e | e
          · exact ⟨_, .inl rfl, g4, _, _, _, rfl, rfl, .of e7, at_of (j := 0) e rfl, rfl, rfl⟩
          · exact ⟨_, .inr rfl, g4, _, _, _, rfl, rfl, .of e7, at_of (j := 1) e rfl, rfl, rfl⟩
        obtain ⟨tg4, htg4, p4, xs4, i4, v4, d1, d2, d3, d4, d5, d6⟩ := name
        cases d5
        refine ⟨_, rfl, p4, xs4, i4, _, d1, d2, d3, d4, _, rfl, _, rfl, Nat.le_of_ble_eq_true (n := 3) rfl, ?_⟩
        wtm_at "new nw H8 s8 e8"
        have s78 := s7.trans s8
        rcases htg4 with rfl | rfl
        · exact ⟨s36.trans s78, .and x xc, nw, _, _, _, _, _, rfl, ⟨_, _, e8, WA.same s78 hx6, WA.same s78 hxc⟩, by show max x.depth xc.depth + 1 ≤ _; omega⟩
        · exact ⟨s36.trans s78, .or x xc, nw, _, _, _, _, _, rfl, ⟨_, _, e8, WA.same s78 hx6, WA.same s78 hxc⟩, by show max x.depth xc.depth + 1 ≤ _; omega⟩
      · have z4 := of_decide_eq_false z4
        refine ⟨_, rfl, _, _, rfl, rfl, _, rfl, ?_⟩
        refine iB (fun z5 => ?_) (fun z5 => ?_)
        · have z5 := of_decide_eq_true z5
          refine ⟨Nat.le_of_ble_eq_true (n := 2) rfl, ?_⟩
          wtm_at "new g4 H7 s7 e7"
          have name : ∃ tg : Str, (tg = "and" ∨ tg = "or") ∧ rIxL K (.ref g4) (.int (sd - 2)) H7 fun x H' => x = .str tg ∧ H' = H7 := by
            rcases (by omega : sd - 2 = 0 ∨ sd - 2 = 1) with e | e
            · exact ⟨_, .inl rfl, g4, _, _, _, rfl, rfl, .of e7, at_of (j := 0) e rfl, rfl, rfl⟩
            · exact ⟨_, .inr rfl, g4, _, _, _, rfl, rfl, .of e7, at_of (j := 1) e rfl, rfl, rfl⟩
          obtain ⟨tg4, htg4, p4, xs4, i4, v4, d1, d2, d3, d4, d5, d6⟩ := name
          cases d5
          refine ⟨_, rfl, _, _, rfl, rfl, p4, xs4, i4, _, d1, d2, d3, d4, _, rfl, _, rfl, Nat.le_of_ble_eq_true (n := 3) rfl, ?_⟩
          wtm_at "new nw H8 s8 e8"
          have s78 := s7.trans s8
          rcases htg4 with rfl | rfl
          · exact ⟨s36.trans s78, .and xc x, nw, _, _, _, _, _, rfl, ⟨_, _, e8, WA.same s78 hxc, WA.same s78 hx6⟩, by show max xc.depth x.depth + 1 ≤ _; omega⟩
          · exact ⟨s36.trans s78, .or xc x, nw, _, _, _, _, _, rfl, ⟨_, _, e8, WA.same s78 hxc, WA.same s78 hx6⟩, by show max xc.depth x.depth + 1 ≤ _; omega⟩
        · exact ⟨_, rfl, s36, xc, cn, _, _, _, _, _, rfl, hxc, by omega⟩
    · exact ⟨Same.refl _, x, wa2, _, _, _, _, _, rfl, hx, by omega⟩
  rintro σ' H3 ⟨s3, x', wa3, y6, y7, y8, y9, y10, rfl, hx', hxd'⟩
  have s13 := s1.trans (s2.trans s3)
  refine ⟨_, rfl, _, rfl, _, rfl, b, us, rfl, .of (s13 _ _ hb), ?_⟩
  wtm_at "new t1 H4 s4 e4"
  rw [cutL_lo _ _ (by omega)] at e4
  refine ⟨_, rfl, Nat.le_of_ble_eq_true (n := 1) rfl, ?_⟩
  wtm_at "new t2 H5 s5 e5"
  refine ⟨t1, t2, _, _, rfl, rfl, s5 _ _ e4, e5, small10 (by rw [List.length_take]; show _ + 1 ≤ _; omega), ?_⟩
  wtm_at "new t3 H6 s6 e6"
  have s36 := s4.trans (s5.trans s6)
  refine ⟨_, rfl, _, rfl, _, _, rfl, rfl, _, rfl, b, us, rfl, .of ((s13.trans s36) _ _ hb), ?_⟩
  wtm_at "new t4 H7 s7 e7"
  rw [show ((k : Int) + 1) = ((k + 1 : Nat) : Int) from rfl, cutL_hi] at e7
  refine ⟨t3, t4, _, _, rfl, rfl, s7 _ _ e6, e7, small10 (by rw [List.length_append, List.length_take, List.length_drop]; show _ + 1 + _ ≤ _; omega), ?_⟩
  wtm_at "new t5 H8 s8 e8"
  refine ⟨_, rfl, Nat.le_of_ble_eq_true (n := 2) rfl, ?_⟩
  wtm_at "new t6 H9 s9 e9"
  have s39 := s36.trans (s7.trans (s8.trans s9))
  have s19 := s13.trans s39
  have hWn : WAs H9 (ws.take k ++ [x'] ++ ws.drop (k + 1)) (us.take k ++ [.ref wa3] ++ us.drop (k + 1)) :=
    paired_app (paired_app (paired_tk k (WAs.same s19 hW)) (.cons ⟨wa3, rfl, WA.same s39 hx'⟩ .nil)) (paired_dr (k + 1) (WAs.same s19 hW))
  refine q _ _ _ _ _ _ s19 e9 (s9 _ _ e8) hWn (fun y hy => ?_) ?_
  · rcases List.mem_append.mp hy with h | h
    · rcases List.mem_append.mp h with h | h
      · have := hd y (List.mem_of_mem_take h); omega
      · rw [List.mem_singleton.mp h]; exact hxd'
    · have := hd y (List.mem_of_mem_drop h); omega
  · rw [List.length_append, List.length_append, List.length_take, List.length_drop, List.length_singleton]; omega

def sp_law_due : Sp := fun vs H Q _ => ∃ (b : Addr) (m : Int) (us : List V) (ws : List W), vs = [.ref b, .int m] ∧ H b = some (.lst us) ∧ WAs H ws us ∧ (∀ x ∈ ws, x.depth ≤ 20) ∧ ws.length ≤ 1000 ∧ ∀ H', Same H H' → Q (.int (lookR ws m)) H'
theorem ok_law_due (T : Txt K mg Z) : FnOk P w K mg base CX0 21 Z.a_law_due Z.d_law_due ["board", "buttons"] sp_law_due := by
  have G_law_depth := ok_law_depth (P := P) (w := w) (base := base) T 20
  have G_law_wired := ok_law_wired (P := P) (w := w) (base := base) T 20
  refine T.F__law_due.ok sc_law_due (fun vs H Q E h => by obtain ⟨_, _, _, _, rfl, _⟩ := h; rfl) (fun cdv A outer s H vs Q E hr h => ?_)
  obtain ⟨b, m, us, ws, rfl, hb, hW, hdp, hlen, q⟩ := h
  refine ⟨_, (C8.pss_cut (ps_if (PW.pt (pw_or (pt_not (pt_chain op_le op_le pe_int (pe_callB (r := rLenSeq K) call_len_seq (by rfl) T.n_len PySem.boot_len (pa_cons (pv 0) pa_nil)) pe_int)) (pw_or1 (pt_not (pt_chain op_le op_le pe_int (pv 1) pe_int))))) (pss_one (ps_ret pe_int)) pss_nil)
      (pss_cons (ps_if (pt_cmpR op_gt (pe_callB (r := rMax K) (cr_max rfl) (by rfl) T.n_max (by decide +kernel) (pa_cons (pe_lc (own := [("word", 2)]) (g := gName 2) (tt := tYes) rfl sc_law_due.nd (pi_list (pv 0)) (blkOk_by (own := [("word", 2)]) (N := ["board", "buttons", "word"]) (sc := defScope s_law_due) (by decide +kernel)) (fun _ _ _ _ _ => pg_name (i := 2) sc_law_due.nd rfl (Or.inl rfl)) (fun _ _ _ _ _ => pts_nil) (fun _ _ _ _ _ => (pe_call G_law_depth (hr.mono (by omega)) (by rfl) T.m__law_depth T.F__law_depth.kp T.b__law_depth .nil pass0 (pa_cons (pv 2) pa_nil)))) pa_nil)) pe_int (nomark _)) (pss_one (ps_ret pe_int)) pss_nil)
      (pss_cons (ps_if (pt_not (pt_val (pe_callB (r := rAll K) (cr_all rfl) (by rfl) T.n_all (by decide +kernel) (pa_cons (pe_lc (own := [("word", 2)]) (g := gName 2) (tt := tYes) rfl sc_law_due.nd (pi_list (pv 0)) (blkOk_by (own := [("word", 2)]) (N := ["board", "buttons", "word"]) (sc := defScope s_law_due) (by decide +kernel)) (fun _ _ _ _ _ => pg_name (i := 2) sc_law_due.nd rfl (Or.inl rfl)) (fun _ _ _ _ _ => pts_nil) (fun _ _ _ _ _ => (pe_call G_law_wired (hr.mono (by omega)) (by rfl) T.m__law_wired T.F__law_wired.kp T.b__law_wired .nil pass0 (pa_cons (pv 2) (pa_cons (pe_callB (r := rLenSeq K) call_len_seq (by rfl) T.n_len PySem.boot_len (pa_cons (pv 0) pa_nil)) (pa_cons (pv 1) pa_nil)))))) pa_nil)))) (pss_one (ps_ret pe_int)) pss_nil)
      (pss_one (ps_ret (pe_un un_neg pe_int)))))), ?_⟩
  have hl := hW.length
  have bad : roomOk ws m = false → Q (.int 0) H := fun h => by
    have := q _ (Same.refl _)
    rw [lookR_room h] at this; exact this
  refine ⟨fun σ' H' => H' = H ∧ roomOk ws m = true ∧ σ' = [some (.ref b), some (.int m), none], ?_, ?_⟩
  · have rm : ∀ (a b c d : Bool), decide ((1 : Int) ≤ us.length) = a → decide ((us.length : Int) ≤ 6) = b → decide (0 ≤ m) = c → decide (m ≤ 4) = d → roomOk ws m = ((a && b) && (c && d)) := by
      rintro _ _ _ _ rfl rfl rfl rfl
      unfold roomOk
      rw [hl]
    have no : ∀ {A B : Bool}, roomOk ws m = (A && B) → (A = false ∨ B = false) → roomOk ws m = false := fun e h => by
      rw [e]; rcases h with h | h <;> rw [h] <;> first | rfl | exact Bool.and_false _
    refine ⟨_, rfl, b, us, rfl, .inl (.of hb), _, _, rfl, rfl, _, rfl, ?_⟩
    refine iB (fun z1 => ?_) (fun z1 => ?_)
    · refine ⟨_, _, rfl, rfl, _, rfl, ?_⟩
      refine iB (fun z2 => ?_) (fun z2 => ?_)
      · exact bad (no (rm _ _ _ _ z1 (notT z2) rfl rfl) (.inl rfl))
      · refine ⟨_, rfl, _, _, rfl, rfl, _, rfl, ?_⟩
        refine iB (fun z3 => ?_) (fun z3 => ?_)
        · refine ⟨_, _, rfl, rfl, _, rfl, ?_⟩
          refine iB (fun z4 => ?_) (fun z4 => ?_)
          · exact bad (no (rm _ _ _ _ z1 (notF z2) z3 (notT z4)) (.inr rfl))
          · exact ⟨rfl, rm _ _ _ _ z1 (notF z2) z3 (notF z4), rfl⟩
        · refine ⟨_, rfl, ?_⟩
          refine iT rfl ?_
          exact bad (no (rm _ _ _ _ z1 (notF z2) z3 rfl) (.inr rfl))
    · refine ⟨_, rfl, ?_⟩
      refine iT rfl ?_
      exact bad (no (rm _ _ _ _ z1 rfl rfl rfl) (.inl rfl))
  rintro σ' H' ⟨rfl, hroom, rfl⟩
  have h1 : 1 ≤ ws.length := by
    have := hroom
    unfold roomOk at this
    have := of_decide_eq_true (Bool.and_eq_true_iff.mp (Bool.and_eq_true_iff.mp this).1).1
    omega
  refine ⟨_, rfl, b, rfl, ⟨_, .of hb⟩, fun D nD => lc_list (K := K) (a := b) (xs := us) (fun i H2 => Same H' H2 ∧ H2 D = some (.lst (((ws.take i).map fun y => (y.depth : Int)).map V.int))) ?_ ?_ ?_ ?_⟩
  · exact ⟨Same.new nD, upd_same⟩
  · rintro i H2 _ ⟨s2, _⟩
    exact .of (s2 _ _ hb)
  · rintro i v H2 hi ⟨s2, hD⟩
    obtain ⟨y, hy, c, rfl, hc⟩ := paired_get hW hi
    wtm_at "lc"
    refine ⟨_, rfl, c, y, rfl, WA.same s2 hc, hdp y (List.mem_of_getElem? hy), fun H3 s3 => ?_⟩
    refine ⟨_, s3 _ _ hD, small11 ?_, Same.lst (s2.trans s3) nD, ?_⟩
    · rw [List.length_map, List.length_map, List.length_take]; omega
    · rw [upd_same, List.take_add_one, hy, List.map_append, List.map_append]; rfl
  rintro H1 ⟨s1, hD⟩
  rw [← hl, List.take_length] at hD
  refine ⟨D, _, rfl, .of hD, by rw [List.length_map]; exact h1, fun mx hm1 hm2 => ?_⟩
  refine ⟨_, _, rfl, rfl, _, rfl, ?_⟩
  refine iB (fun z => ?_) (fun z => ?_)
  · have z := of_decide_eq_true z
    obtain ⟨y, hy, e⟩ := List.mem_map.mp hm1
    have hdeep : deepOk ws = false := List.all_eq_false.mpr ⟨y, hy, by
      have : ¬ y.depth ≤ 8 := by omega
      rw [decide_eq_false this]; decide⟩
    have := q _ s1
    rw [lookR_deep hroom hdeep] at this; exact this
  have z := of_decide_eq_false z
  have hdeep : deepOk ws = true := List.all_eq_true.mpr fun y hy => by
    have := hm2 _ (List.mem_map.mpr ⟨y, hy, rfl⟩)
    exact decide_eq_true (by omega)
  refine ⟨_, rfl, b, rfl, ⟨_, .of (s1 _ _ hb)⟩, fun D2 nD2 => lc_list (K := K) (a := b) (xs := us) (fun i H2 => Same H1 H2 ∧ H2 D2 = some (.lst (((ws.take i).map fun y => y.okAt (ws.length : Int) m).map V.bl))) ?_ ?_ ?_ ?_⟩
  · exact ⟨Same.new nD2, upd_same⟩
  · rintro i H2 _ ⟨s2, _⟩
    exact .of ((s1.trans s2) _ _ hb)
  · rintro i v H2 hi ⟨s2, hD2⟩
    obtain ⟨y, hy, c, rfl, hc⟩ := paired_get hW hi
    wtm_at "lc"
    refine ⟨_, rfl, _, rfl, b, us, rfl, .inl (.of ((s1.trans s2) _ _ hb)), _, rfl, c, (ws.length : Int), m, y, by rw [hl]; rfl, WA.same (s1.trans s2) hc, hdp y (List.mem_of_getElem? hy), fun H3 s3 => ?_⟩
    refine ⟨_, s3 _ _ hD2, small11 ?_, Same.lst (s2.trans s3) nD2, ?_⟩
    · rw [List.length_map, List.length_map, List.length_take]; omega
    · rw [upd_same, List.take_add_one, hy, List.map_append, List.map_append]; rfl
  rintro H2 ⟨s2, hD2⟩
  rw [← hl, List.take_length] at hD2
  have hmap : (ws.map fun y => y.okAt (ws.length : Int) m).all id = allOk ws m := by rw [List.all_map]; rfl
  refine ⟨D2, _, rfl, .of hD2, _, rfl, ?_⟩
  rw [hmap]
  have := q _ (s1.trans s2)
  refine iB (fun y => ?_) (fun y => ?_)
  · rw [lookR_all hroom hdeep (notT y)] at this; exact this
  · rw [lookR_ok hroom hdeep (notF y)] at this
    exact ⟨_, rfl, this⟩

def sp_law (K : PySem.W.Frag) : Sp := fun vs H Q _ => ∃ (a : Addr) (ns : List Int), vs = [.ref a] ∧ SqL K H a (ns.map V.int) ∧ ns.length ≤ 63 ∧ ∀ H', Q (.bl true) H'
theorem lookR_cases (ws : List W) (m : Int) : lookR ws m = -1 ∨ 0 ≤ lookR ws m := by
  unfold lookR
  split
  · split
    · split
      · exact .inl rfl
      · exact .inr (by decide)
    · exact .inr (by decide)
  · exact .inr (by decide)
theorem ok_law (T : Txt K mg Z) : FnOk P w K mg base CX0 24 Z.alaw Z.dlaw ["script"] (sp_law K) := by
  have G_law_room := ok_law_room (P := P) (w := w) (base := base) T
  have G_law_cell_at := ok_law_cell_at (P := P) (w := w) (base := base) T
  have G_law_mix := ok_law_mix (P := P) (w := w) (base := base) T
  have G_law_spoilt := ok_law_spoilt (P := P) (w := w) (base := base) T
  have G_law_told := ok_law_told (P := P) (w := w) (base := base) T
  have G_law_due := ok_law_due (P := P) (w := w) (base := base) T
  have G_law_refused := ok_law_refused (P := P) (w := w) (base := base) T
  have G_law_whole := ok_law_whole (P := P) (w := w) (base := base) T
  refine T.F_law.ok sclaw (fun vs H Q E h => by obtain ⟨_, _, rfl, _⟩ := h; rfl) (fun cdv A outer s H vs Q E hr h => ?_)
  obtain ⟨a, ns, rfl, hS, hlen, q⟩ := h
  refine ⟨_, (pss_cons (ps_set (i := 1) sclaw.nd rfl (Or.inl rfl) (pe_call G_law_room (hr.mono (by omega)) (by rfl) T.m__law_room T.F__law_room.kp T.b__law_room .nil pass0 (pa_cons (pv 0) pa_nil)))
      (pss_cons (ps_set (i := 2) sclaw.nd rfl (Or.inl rfl) (pe_ix (r := rIxT K) ix_tup (pv 1) pe_int (fun _ _ => rfl)))
      (pss_cons (ps_set (i := 3) sclaw.nd rfl (Or.inl rfl) (pe_callB (r := rLenSeq K) call_len_seq (by rfl) T.n_len PySem.boot_len (pa_cons (pe_ix (r := rIxT K) ix_tup (pv 1) pe_int (fun _ _ => rfl)) pa_nil)))
      (pss_cons (ps_for PassesOwn.never rfl (pi_range1 rfl T.n_range (pa_cons (pe_ix (r := rIxL K) ix_list (pe_lst (pa_cons pe_int (pa_cons pe_int (pa_cons pe_int (pa_cons pe_int pa_nil))))) (pe_op op_mod (pe_call G_law_cell_at (hr.mono (by omega)) (by rfl) T.m__law_cell_at T.F__law_cell_at.kp T.b__law_cell_at .nil pass0 (pa_cons (pv 0) (pa_cons pe_int pa_nil))) pe_int) (fun _ _ => rfl)) pa_nil)) (pg_name (i := 4) sclaw.nd rfl (Or.inl rfl))
      (pss_one (ps_asg (pe_call G_law_spoilt (hr.mono (by omega)) (by rfl) T.m__law_spoilt T.F__law_spoilt.kp T.b__law_spoilt .nil pass0 (pa_cons (pv 2) (pa_cons (pv 3) (pa_cons (pe_call G_law_mix (hr.mono (by omega)) (by rfl) T.m__law_mix T.F__law_mix.kp T.b__law_mix .nil pass0 (pa_cons (pe_call G_law_cell_at (hr.mono (by omega)) (by rfl) T.m__law_cell_at T.F__law_cell_at.kp T.b__law_cell_at .nil pass0 (pa_cons (pv 0) (pa_cons pe_int pa_nil))) (pa_cons (pe_op op_add pe_int (pv 4)) pa_nil))) pa_nil)))) (pg_tup rfl (pgs_cons (pg_name (i := 2) sclaw.nd rfl (Or.inl rfl)) (pgs_cons (pg_name (i := 3) sclaw.nd rfl (Or.inl rfl)) pgs_nil))))))
      (pss_cons (ps_set (i := 5) sclaw.nd rfl (Or.inl rfl) (pe_callTy call_list_of (by rfl) T.n_list (by decide +kernel) (pa_cons (pv 2) pa_nil)))
      (pss_cons (ps_set (i := 6) sclaw.nd rfl (Or.inl rfl) (pe_call G_law_told (hr.mono (by omega)) (by rfl) T.m__law_told T.F__law_told.kp T.b__law_told .nil pass0 (pa_cons (pv 5) (pa_cons (pv 3) pa_nil))))
      (pss_cons (ps_set (i := 7) sclaw.nd rfl (Or.inl rfl) (pe_call G_law_due (hr.mono (by omega)) (by rfl) T.m__law_due T.F__law_due.kp T.b__law_due .nil pass0 (pa_cons (pv 2) (pa_cons (pv 3) pa_nil))))
      (pss_cons (ps_if (pt_cmpR (r := rNeD K) (op_neD hr.units) (pv 5) (pv 2) (nomark _)) (pss_one (ps_ret pe_bl)) pss_nil)
      (pss_cons (ps_if (pt_cmpR op_ge (pv 7) pe_int (nomark _)) (pss_one (ps_ret (pe_call G_law_refused (hr.mono (by omega)) (by rfl) T.m__law_refused T.F__law_refused.kp T.b__law_refused .nil pass0 (pa_cons (pe_ix (r := rIxT K) ix_tup (pv 6) pe_int (fun _ _ => rfl)) (pa_cons (pv 7) pa_nil))))) pss_nil)
      (pss_one (ps_ret (pe_and (pe_cmpR (r := rEqD K) (op_eqD hr.units) (pe_ix (r := rIxT K) ix_tup (pv 6) pe_int (fun _ _ => rfl)) (pe_lst pa_nil) (nomark _)) (pe_and (pe_call G_law_whole (hr.mono (by omega)) (by rfl) T.m__law_whole T.F__law_whole.kp T.b__law_whole .nil pass0 (pa_cons (pe_ix (r := rIxT K) ix_tup (pv 6) pe_int (fun _ _ => rfl)) pa_nil)) (pe_one (pe_cmpR op_eq (pe_ix (r := rIxT K) ix_tup (pv 6) pe_int (fun _ _ => rfl)) (pe_callB (r := rLenSeq K) call_len_seq (by rfl) T.n_len PySem.boot_len (pa_cons (pv 2) pa_nil)) (nomark _)))))))))))))))), ?_⟩
  wtm_at "rd"
  refine ⟨a, ns, rfl, hS, fun H1 p b pr st n m ws us ps ss R => ?_⟩
  have p1 := R.tup
  refine ⟨_, rfl, p, _, 0, _, rfl, rfl, .of p1, atI_nat (j := 0) rfl, ?_⟩
  refine ⟨_, rfl, p, _, 1, _, rfl, rfl, .of p1, atI_nat (j := 1) rfl, pr, _, rfl, .inr (.of R.pr), ?_⟩
  refine ⟨Nat.le_of_ble_eq_true (n := 4) rfl, ?_⟩
  wtm_at "new g H2 s2 e2"
  refine ⟨_, rfl, a, ns, 3, rfl, (R.same.trans s2).seq hS, by omega, fun c3 => ?_⟩
  refine ⟨_, _, rfl, rfl, by show (0 : Int) < 4; decide, ?_⟩
  have rounds : ∃ k : Nat, k ≤ 2 ∧ rIxL K (.ref g) (.int (c3 % 4)) H2 fun x H' => x = .int (k : Int) ∧ H' = H2 := by
    rcases (by omega : c3 % 4 = 0 ∨ c3 % 4 = 1 ∨ c3 % 4 = 2 ∨ c3 % 4 = 3) with e | e | e | e
    · exact ⟨0, by decide, g, _, _, _, rfl, rfl, .of e2, at_of (j := 0) e rfl, rfl, rfl⟩
    · exact ⟨1, by decide, g, _, _, _, rfl, rfl, .of e2, at_of (j := 1) e rfl, rfl, rfl⟩
    · exact ⟨1, by decide, g, _, _, _, rfl, rfl, .of e2, at_of (j := 2) e rfl, rfl, rfl⟩
    · exact ⟨2, by decide, g, _, _, _, rfl, rfl, .of e2, at_of (j := 3) e rfl, rfl, rfl⟩
  obtain ⟨k, hk2, p0, xs0, i0, v0, a1, a2, a3, a4, a5, a6⟩ := rounds
  cases a5
  refine ⟨p0, xs0, i0, _, a1, a2, a3, a4, _, rfl, by omega, by omega, ?_⟩
  refine for_range (lo := 0) (n := (k : Int).toNat) (fun i σ H' => ∃ b m us ws x, σ = [some (.ref a), some (.ref p), some (.ref b), some (.int m), x, none, none, none] ∧ Same H2 H' ∧ H' b = some (.lst us) ∧ WAs H' ws us ∧ (∀ x ∈ ws, x.depth ≤ 8 + 6 * i) ∧ ws.length ≤ 6 + 6 * i) ?_ ?_ ?_
  · exact ⟨b, _, us, ws, none, rfl, Same.refl _, s2 _ _ R.lst, WAs.same s2 R.was, fun x hx => by have := (R.fit x hx).2; omega, by rw [R.len]; have := R.n6; omega⟩
  · rintro i σ H3 hi ⟨b, m, us, ws, x, rfl, s3, hb, hW, hd, hl⟩
    refine ⟨_, rfl, _, rfl, _, rfl, a, ns, 3, rfl, (R.same.trans (s2.trans s3)).seq hS, by omega, fun c3 => ?_⟩
    refine ⟨_, rfl, _, _, rfl, rfl, c3, _, rfl, fun y hy0 hy1 => ?_⟩
    refine ⟨b, m, y, us, ws, 8 + 6 * i, rfl, hy0, hb, hW, hd, by omega, by omega, fun H4 p4 b' m' us' ws' s4 e4 hb' hW' hd' hl' => ?_⟩
    refine ⟨p4, _, rfl, .of e4, rfl, _, _, rfl, _, _, rfl, rfl, ?_⟩
    exact ⟨b', m', us', ws', _, rfl, s3.trans s4, hb', hW', fun x hx => by have := hd' x hx; omega, by omega⟩
  rintro σ H3 ⟨b, m, us, ws, x, rfl, s3, hb, hW, hd, hl⟩
  have hd20 : ∀ x ∈ ws, x.depth ≤ 20 := fun x hx => by have := hd x hx; omega
  refine ⟨_, rfl, b, us, rfl, .inl (.of hb), ?_⟩
  wtm_at "new L H4 s4 e4"
  have hW4 := WAs.same s4 hW
  have sh : Sh (.list (ws.map wd)) (20 + 1) := shWL hd20
  refine ⟨_, rfl, _, rfl, L, m, us, ws, rfl, e4, hW4, hd20, fun h1 H5 tp tk s5 e5 ek => ?_, fun d h1 hd0 H5 tp tk v s5 e5 ek => ?_⟩
  · refine ⟨_, rfl, _, rfl, b, m, us, ws, rfl, (s4.trans s5) _ _ hb, WAs.same s5 hW4, hd20, by omega, fun H6 s6 => ?_⟩
    rw [h1]
    have s46 := s5.trans s6
    refine ⟨_, rfl, _, rfl, _, _, .lst (.of (s46 _ _ e4)) (dpWs (WAs.same s46 hW4)), .lst (.of ((s4.trans s46) _ _ hb)) (dpWs (WAs.same s46 hW4)), sh.shaped (by decide), sh.shaped (by decide), _, rfl, ?_⟩
    rw [sh.refl]
    refine iF rfl ?_
    refine ⟨_, rfl, _, _, rfl, rfl, _, rfl, ?_⟩
    refine iF (by decide) ?_
    refine ⟨_, rfl, tp, _, 1, _, rfl, rfl, .of (s6 _ _ e5), atI_nat (j := 1) rfl, Nat.zero_le _, ?_⟩
    wtm_at "new X H7 s7 e7"
    have s67 := s6.trans s7
    refine ⟨_, _, dpI (ks := []) (s67 _ _ ek), dpI (ks := []) e7, (shI _).shaped (by decide), (shI _).shaped (by decide), _, rfl, ?_⟩
    rw [(shI _).refl]
    refine iT rfl ?_
    refine ⟨_, rfl, tp, _, 0, _, rfl, rfl, .of (s67 _ _ e5), atI_nat (j := 0) rfl, _, rfl, _, rfl, ?_⟩
    refine iT rfl ?_
    have hul := hW.length
    refine ⟨_, rfl, tp, _, 0, _, rfl, rfl, .of (s67 _ _ e5), atI_nat (j := 0) rfl, _, rfl, b, us, rfl, .inl (.of ((s4.trans (s5.trans s67)) _ _ hb)), rfl, ?_⟩
    have := q H7
    show Q (V.bl (decide (V.int (ws.length : Int) = V.int ((us.length : Nat) : Int)))) H7
    rw [hul, decide_eq_true rfl]; exact this
  · refine ⟨_, rfl, _, rfl, b, m, us, ws, rfl, (s4.trans s5) _ _ hb, WAs.same s5 hW4, hd20, by omega, fun H6 s6 => ?_⟩
    rw [h1]
    have s46 := s5.trans s6
    refine ⟨_, rfl, _, rfl, _, _, .lst (.of (s46 _ _ e4)) (dpWs (WAs.same s46 hW4)), .lst (.of ((s4.trans s46) _ _ hb)) (dpWs (WAs.same s46 hW4)), sh.shaped (by decide), sh.shaped (by decide), _, rfl, ?_⟩
    rw [sh.refl]
    refine iF rfl ?_
    refine ⟨_, rfl, _, _, rfl, rfl, _, rfl, ?_⟩
    refine iT (decide_eq_true hd0) ?_
    exact ⟨_, rfl, tp, _, 1, _, rfl, rfl, .of (s6 _ _ e5), atI_nat (j := 1) rfl, _, rfl, tk, d, rfl, s6 _ _ ek, fun H7 s7 => q _⟩

end
theorem all_mk {l : PySem.W.OpenLaw} {w : World} {K : PySem.W.Frag} {h : Heap} {mg : Str → Option Value} {fa : Addr} (X : K.In h) (G : h.Ns mainGlobals mg) (hfa : mg "law" = some (.ref fa))
    {f0 f1 f2 f3 f4 f5 f6 f7 f8 f9 f10 f11 f12 f13 f14 f15 f16 f17 f18 f19 f20 : Addr}
    {CRoomError CTooMany CDeep CNoContact CNoRelay CStill CNoNote : Addr}
    {od0 an0 : Option Addr} {sl0 : Array (Option Value)} {oc0 kV0 dc0 pm0 cd0 ct0 : Value}
    (a0 : PySem.W.nsIn K mainGlobals "parts" = some (some (.ref f0))) (l0 : K.lookup f0 = some ⟨oc0, od0, .func (PySem.W.fnOf "parts" "parts" (defArgs sparts) (defBody sparts) (defScope sparts) .none kV0 dc0 pm0 an0 cd0 ct0), sl0⟩) (c0 : PySem.W.codeIn K cd0 "parts" = true) (k0 : PySem.W.keepIn K (.ref f0) = true)
    {od1 an1 : Option Addr} {sl1 : Array (Option Value)} {oc1 kV1 dc1 pm1 cd1 ct1 : Value}
    (a1 : PySem.W.nsIn K mainGlobals "depth" = some (some (.ref f1))) (l1 : K.lookup f1 = some ⟨oc1, od1, .func (PySem.W.fnOf "depth" "depth" (defArgs sdepth) (defBody sdepth) (defScope sdepth) .none kV1 dc1 pm1 an1 cd1 ct1), sl1⟩) (c1 : PySem.W.codeIn K cd1 "depth" = true) (k1 : PySem.W.keepIn K (.ref f1) = true)
    {od2 an2 : Option Addr} {sl2 : Array (Option Value)} {oc2 kV2 dc2 pm2 cd2 ct2 : Value}
    (a2 : PySem.W.nsIn K mainGlobals "is_wired" = some (some (.ref f2))) (l2 : K.lookup f2 = some ⟨oc2, od2, .func (PySem.W.fnOf "is_wired" "is_wired" (defArgs sis_wired) (defBody sis_wired) (defScope sis_wired) .none kV2 dc2 pm2 an2 cd2 ct2), sl2⟩) (c2 : PySem.W.codeIn K cd2 "is_wired" = true) (k2 : PySem.W.keepIn K (.ref f2) = true)
    {od3 an3 : Option Addr} {sl3 : Array (Option Value)} {oc3 kV3 dc3 pm3 cd3 ct3 : Value}
    (a3 : PySem.W.nsIn K mainGlobals "looked" = some (some (.ref f3))) (l3 : K.lookup f3 = some ⟨oc3, od3, .func (PySem.W.fnOf "looked" "looked" (defArgs slooked) (defBody slooked) (defScope slooked) .none kV3 dc3 pm3 an3 cd3 ct3), sl3⟩) (c3 : PySem.W.codeIn K cd3 "looked" = true) (k3 : PySem.W.keepIn K (.ref f3) = true)
    {od4 an4 : Option Addr} {sl4 : Array (Option Value)} {oc4 kV4 dc4 pm4 cd4 ct4 : Value}
    (a4 : PySem.W.nsIn K mainGlobals "_law_cell_at" = some (some (.ref f4))) (l4 : K.lookup f4 = some ⟨oc4, od4, .func (PySem.W.fnOf "_law_cell_at" "_law_cell_at" (defArgs s_law_cell_at) (defBody s_law_cell_at) (defScope s_law_cell_at) .none kV4 dc4 pm4 an4 cd4 ct4), sl4⟩) (c4 : PySem.W.codeIn K cd4 "_law_cell_at" = true) (k4 : PySem.W.keepIn K (.ref f4) = true)
    {od5 an5 : Option Addr} {sl5 : Array (Option Value)} {oc5 kV5 dc5 pm5 cd5 ct5 : Value}
    (a5 : PySem.W.nsIn K mainGlobals "_law_pick" = some (some (.ref f5))) (l5 : K.lookup f5 = some ⟨oc5, od5, .func (PySem.W.fnOf "_law_pick" "_law_pick" (defArgs s_law_pick) (defBody s_law_pick) (defScope s_law_pick) .none kV5 dc5 pm5 an5 cd5 ct5), sl5⟩) (c5 : PySem.W.codeIn K cd5 "_law_pick" = true) (k5 : PySem.W.keepIn K (.ref f5) = true)
    {od6 an6 : Option Addr} {sl6 : Array (Option Value)} {oc6 kV6 dc6 pm6 cd6 ct6 : Value}
    (a6 : PySem.W.nsIn K mainGlobals "_law_whole" = some (some (.ref f6))) (l6 : K.lookup f6 = some ⟨oc6, od6, .func (PySem.W.fnOf "_law_whole" "_law_whole" (defArgs s_law_whole) (defBody s_law_whole) (defScope s_law_whole) .none kV6 dc6 pm6 an6 cd6 ct6), sl6⟩) (c6 : PySem.W.codeIn K cd6 "_law_whole" = true) (k6 : PySem.W.keepIn K (.ref f6) = true)
    {od7 an7 : Option Addr} {sl7 : Array (Option Value)} {oc7 kV7 dc7 pm7 cd7 ct7 : Value}
    (a7 : PySem.W.nsIn K mainGlobals "_law_mix" = some (some (.ref f7))) (l7 : K.lookup f7 = some ⟨oc7, od7, .func (PySem.W.fnOf "_law_mix" "_law_mix" (defArgs s_law_mix) (defBody s_law_mix) (defScope s_law_mix) .none kV7 dc7 pm7 an7 cd7 ct7), sl7⟩) (c7 : PySem.W.codeIn K cd7 "_law_mix" = true) (k7 : PySem.W.keepIn K (.ref f7) = true)
    {od8 an8 : Option Addr} {sl8 : Array (Option Value)} {oc8 kV8 dc8 pm8 cd8 ct8 : Value}
    (a8 : PySem.W.nsIn K mainGlobals "_law_leaf" = some (some (.ref f8))) (l8 : K.lookup f8 = some ⟨oc8, od8, .func (PySem.W.fnOf "_law_leaf" "_law_leaf" (defArgs s_law_leaf) (defBody s_law_leaf) (defScope s_law_leaf) .none kV8 dc8 pm8 an8 cd8 ct8), sl8⟩) (c8 : PySem.W.codeIn K cd8 "_law_leaf" = true) (k8 : PySem.W.keepIn K (.ref f8) = true)
    {od9 an9 : Option Addr} {sl9 : Array (Option Value)} {oc9 kV9 dc9 pm9 cd9 ct9 : Value}
    (a9 : PySem.W.nsIn K mainGlobals "_law_word" = some (some (.ref f9))) (l9 : K.lookup f9 = some ⟨oc9, od9, .func (PySem.W.fnOf "_law_word" "_law_word" (defArgs s_law_word) (defBody s_law_word) (defScope s_law_word) .none kV9 dc9 pm9 an9 cd9 ct9), sl9⟩) (c9 : PySem.W.codeIn K cd9 "_law_word" = true) (k9 : PySem.W.keepIn K (.ref f9) = true)
    {od10 an10 : Option Addr} {sl10 : Array (Option Value)} {oc10 kV10 dc10 pm10 cd10 ct10 : Value}
    (a10 : PySem.W.nsIn K mainGlobals "_law_board" = some (some (.ref f10))) (l10 : K.lookup f10 = some ⟨oc10, od10, .func (PySem.W.fnOf "_law_board" "_law_board" (defArgs s_law_board) (defBody s_law_board) (defScope s_law_board) .none kV10 dc10 pm10 an10 cd10 ct10), sl10⟩) (c10 : PySem.W.codeIn K cd10 "_law_board" = true) (k10 : PySem.W.keepIn K (.ref f10) = true)
    {od11 an11 : Option Addr} {sl11 : Array (Option Value)} {oc11 kV11 dc11 pm11 cd11 ct11 : Value}
    (a11 : PySem.W.nsIn K mainGlobals "_law_bits" = some (some (.ref f11))) (l11 : K.lookup f11 = some ⟨oc11, od11, .func (PySem.W.fnOf "_law_bits" "_law_bits" (defArgs s_law_bits) (defBody s_law_bits) (defScope s_law_bits) .none kV11 dc11 pm11 an11 cd11 ct11), sl11⟩) (c11 : PySem.W.codeIn K cd11 "_law_bits" = true) (k11 : PySem.W.keepIn K (.ref f11) = true)
    {od12 an12 : Option Addr} {sl12 : Array (Option Value)} {oc12 kV12 dc12 pm12 cd12 ct12 : Value}
    (a12 : PySem.W.nsIn K mainGlobals "_law_wrapped" = some (some (.ref f12))) (l12 : K.lookup f12 = some ⟨oc12, od12, .func (PySem.W.fnOf "_law_wrapped" "_law_wrapped" (defArgs s_law_wrapped) (defBody s_law_wrapped) (defScope s_law_wrapped) .none kV12 dc12 pm12 an12 cd12 ct12), sl12⟩) (c12 : PySem.W.codeIn K cd12 "_law_wrapped" = true) (k12 : PySem.W.keepIn K (.ref f12) = true)
    {od13 an13 : Option Addr} {sl13 : Array (Option Value)} {oc13 kV13 dc13 pm13 cd13 ct13 : Value}
    (a13 : PySem.W.nsIn K mainGlobals "_law_room" = some (some (.ref f13))) (l13 : K.lookup f13 = some ⟨oc13, od13, .func (PySem.W.fnOf "_law_room" "_law_room" (defArgs s_law_room) (defBody s_law_room) (defScope s_law_room) .none kV13 dc13 pm13 an13 cd13 ct13), sl13⟩) (c13 : PySem.W.codeIn K cd13 "_law_room" = true) (k13 : PySem.W.keepIn K (.ref f13) = true)
    {od14 an14 : Option Addr} {sl14 : Array (Option Value)} {oc14 kV14 dc14 pm14 cd14 ct14 : Value}
    (a14 : PySem.W.nsIn K mainGlobals "_law_refused" = some (some (.ref f14))) (l14 : K.lookup f14 = some ⟨oc14, od14, .func (PySem.W.fnOf "_law_refused" "_law_refused" (defArgs s_law_refused) (defBody s_law_refused) (defScope s_law_refused) .none kV14 dc14 pm14 an14 cd14 ct14), sl14⟩) (c14 : PySem.W.codeIn K cd14 "_law_refused" = true) (k14 : PySem.W.keepIn K (.ref f14) = true)
    {od15 an15 : Option Addr} {sl15 : Array (Option Value)} {oc15 kV15 dc15 pm15 cd15 ct15 : Value}
    (a15 : PySem.W.nsIn K mainGlobals "_law_told" = some (some (.ref f15))) (l15 : K.lookup f15 = some ⟨oc15, od15, .func (PySem.W.fnOf "_law_told" "_law_told" (defArgs s_law_told) (defBody s_law_told) (defScope s_law_told) .none kV15 dc15 pm15 an15 cd15 ct15), sl15⟩) (c15 : PySem.W.codeIn K cd15 "_law_told" = true) (k15 : PySem.W.keepIn K (.ref f15) = true)
    {od16 an16 : Option Addr} {sl16 : Array (Option Value)} {oc16 kV16 dc16 pm16 cd16 ct16 : Value}
    (a16 : PySem.W.nsIn K mainGlobals "_law_depth" = some (some (.ref f16))) (l16 : K.lookup f16 = some ⟨oc16, od16, .func (PySem.W.fnOf "_law_depth" "_law_depth" (defArgs s_law_depth) (defBody s_law_depth) (defScope s_law_depth) .none kV16 dc16 pm16 an16 cd16 ct16), sl16⟩) (c16 : PySem.W.codeIn K cd16 "_law_depth" = true) (k16 : PySem.W.keepIn K (.ref f16) = true)
    {od17 an17 : Option Addr} {sl17 : Array (Option Value)} {oc17 kV17 dc17 pm17 cd17 ct17 : Value}
    (a17 : PySem.W.nsIn K mainGlobals "_law_wired" = some (some (.ref f17))) (l17 : K.lookup f17 = some ⟨oc17, od17, .func (PySem.W.fnOf "_law_wired" "_law_wired" (defArgs s_law_wired) (defBody s_law_wired) (defScope s_law_wired) .none kV17 dc17 pm17 an17 cd17 ct17), sl17⟩) (c17 : PySem.W.codeIn K cd17 "_law_wired" = true) (k17 : PySem.W.keepIn K (.ref f17) = true)
    {od18 an18 : Option Addr} {sl18 : Array (Option Value)} {oc18 kV18 dc18 pm18 cd18 ct18 : Value}
    (a18 : PySem.W.nsIn K mainGlobals "_law_spoilt" = some (some (.ref f18))) (l18 : K.lookup f18 = some ⟨oc18, od18, .func (PySem.W.fnOf "_law_spoilt" "_law_spoilt" (defArgs s_law_spoilt) (defBody s_law_spoilt) (defScope s_law_spoilt) .none kV18 dc18 pm18 an18 cd18 ct18), sl18⟩) (c18 : PySem.W.codeIn K cd18 "_law_spoilt" = true) (k18 : PySem.W.keepIn K (.ref f18) = true)
    {od19 an19 : Option Addr} {sl19 : Array (Option Value)} {oc19 kV19 dc19 pm19 cd19 ct19 : Value}
    (a19 : PySem.W.nsIn K mainGlobals "_law_due" = some (some (.ref f19))) (l19 : K.lookup f19 = some ⟨oc19, od19, .func (PySem.W.fnOf "_law_due" "_law_due" (defArgs s_law_due) (defBody s_law_due) (defScope s_law_due) .none kV19 dc19 pm19 an19 cd19 ct19), sl19⟩) (c19 : PySem.W.codeIn K cd19 "_law_due" = true) (k19 : PySem.W.keepIn K (.ref f19) = true)
    {od20 an20 : Option Addr} {sl20 : Array (Option Value)} {oc20 kV20 dc20 pm20 cd20 ct20 : Value}
    (a20 : PySem.W.nsIn K mainGlobals "law" = some (some (.ref f20))) (l20 : K.lookup f20 = some ⟨oc20, od20, .func (PySem.W.fnOf "law" "law" (defArgs slaw) (defBody slaw) (defScope slaw) .none kV20 dc20 pm20 an20 cd20 ct20), sl20⟩) (c20 : PySem.W.codeIn K cd20 "law" = true) (k20 : PySem.W.keepIn K (.ref f20) = true)
    (z_max : PySem.W.nsIn K mainGlobals "max" = some none)
    (z_all : PySem.W.nsIn K mainGlobals "all" = some none)
    (z_len : PySem.W.nsIn K mainGlobals "len" = some none)
    (z_isinstance : PySem.W.nsIn K mainGlobals "isinstance" = some none)
    (z_int : PySem.W.nsIn K mainGlobals "int" = some none)
    (z_bool : PySem.W.nsIn K mainGlobals "bool" = some none)
    (z_range : PySem.W.nsIn K mainGlobals "range" = some none)
    (z_tuple : PySem.W.nsIn K mainGlobals "tuple" = some none)
    (z_ValueError : PySem.W.nsIn K mainGlobals "ValueError" = some none)
    (z_min : PySem.W.nsIn K mainGlobals "min" = some none)
    (z_list : PySem.W.nsIn K mainGlobals "list" = some none)
    {t_MOST_RELAYS : Tok} (g_MOST_RELAYS : PySem.W.nsIn K mainGlobals "MOST_RELAYS" = some (some (.int 6 t_MOST_RELAYS)))
    {t_MOST_BUTTONS : Tok} (g_MOST_BUTTONS : PySem.W.nsIn K mainGlobals "MOST_BUTTONS" = some (some (.int 4 t_MOST_BUTTONS)))
    {t_DEEPEST : Tok} (g_DEEPEST : PySem.W.nsIn K mainGlobals "DEEPEST" = some (some (.int 8 t_DEEPEST)))
    (aC_RoomError : PySem.W.nsIn K mainGlobals "RoomError" = some (some (.ref CRoomError)))
    (aC_TooMany : PySem.W.nsIn K mainGlobals "TooMany" = some (some (.ref CTooMany)))
    (aC_Deep : PySem.W.nsIn K mainGlobals "Deep" = some (some (.ref CDeep)))
    (aC_NoContact : PySem.W.nsIn K mainGlobals "NoContact" = some (some (.ref CNoContact)))
    (aC_NoRelay : PySem.W.nsIn K mainGlobals "NoRelay" = some (some (.ref CNoRelay)))
    (aC_Still : PySem.W.nsIn K mainGlobals "Still" = some (some (.ref CStill)))
    (aC_NoNote : PySem.W.nsIn K mainGlobals "NoNote" = some (some (.ref CNoNote)))
    (cl_RoomError : PySem.W.isClsIn K CRoomError = true) (tt_RoomError : PySem.W.typeIn K (.ref CRoomError) = some (.type "type"))
    (cl_TooMany : PySem.W.isClsIn K CTooMany = true) (tt_TooMany : PySem.W.typeIn K (.ref CTooMany) = some (.type "type"))
    (cl_Deep : PySem.W.isClsIn K CDeep = true) (tt_Deep : PySem.W.typeIn K (.ref CDeep) = some (.type "type"))
    (cl_NoContact : PySem.W.isClsIn K CNoContact = true) (tt_NoContact : PySem.W.typeIn K (.ref CNoContact) = some (.type "type"))
    (cl_NoRelay : PySem.W.isClsIn K CNoRelay = true) (tt_NoRelay : PySem.W.typeIn K (.ref CNoRelay) = some (.type "type"))
    (cl_Still : PySem.W.isClsIn K CStill = true) (tt_Still : PySem.W.typeIn K (.ref CStill) = some (.type "type"))
    (cl_NoNote : PySem.W.isClsIn K CNoNote = true) (tt_NoNote : PySem.W.typeIn K (.ref CNoNote) = some (.type "type"))
    (sbR : PySem.W.subIn K (.ref CRoomError) (.type "BaseException") = some true)
    (x_TooMany : PySem.W.excIn K CTooMany [.type "ValueError", .type "Exception", .type "BaseException", .type "object"] "ValueError.__new__" = true)
    (k_TooMany : PySem.W.keepIn K (.ref CTooMany) = true)
    (sb_TooMany : PySem.W.subIn K (.ref CTooMany) (.type "BaseException") = some true)
    (sv_TooMany : PySem.W.subIn K (.ref CTooMany) (.type "ValueError") = some true)
    (sr_TooMany : PySem.W.subIn K (.ref CTooMany) (.ref CRoomError) = some true)
    (s_TooMany_TooMany : PySem.W.subIn K (.ref CTooMany) (.ref CTooMany) = some true)
    (s_TooMany_Deep : PySem.W.subIn K (.ref CTooMany) (.ref CDeep) = some false)
    (s_TooMany_NoContact : PySem.W.subIn K (.ref CTooMany) (.ref CNoContact) = some false)
    (s_TooMany_NoRelay : PySem.W.subIn K (.ref CTooMany) (.ref CNoRelay) = some false)
    (s_TooMany_Still : PySem.W.subIn K (.ref CTooMany) (.ref CStill) = some false)
    (s_TooMany_NoNote : PySem.W.subIn K (.ref CTooMany) (.ref CNoNote) = some false)
    (hg_TooMany : PySem.W.findIn K (.ref CTooMany) "__getattribute__" = some (some (.builtin "BaseException.__getattribute__")))
    (hk_TooMany : PySem.W.findIn K (.ref CTooMany) "__getattr__" = some none)
    (hd_TooMany : PySem.W.hasDictIn K CTooMany = true)
    (ha_TooMany : PySem.W.findIn K (.ref CTooMany) "__class__" = some (some (.builtin "object.__class__")))
    (hm_TooMany : PySem.W.mroIn K CTooMany (.type "object") = some true)
    (x_Deep : PySem.W.excIn K CDeep [.type "ValueError", .type "Exception", .type "BaseException", .type "object"] "ValueError.__new__" = true)
    (k_Deep : PySem.W.keepIn K (.ref CDeep) = true)
    (sb_Deep : PySem.W.subIn K (.ref CDeep) (.type "BaseException") = some true)
    (sv_Deep : PySem.W.subIn K (.ref CDeep) (.type "ValueError") = some true)
    (sr_Deep : PySem.W.subIn K (.ref CDeep) (.ref CRoomError) = some true)
    (s_Deep_TooMany : PySem.W.subIn K (.ref CDeep) (.ref CTooMany) = some false)
    (s_Deep_Deep : PySem.W.subIn K (.ref CDeep) (.ref CDeep) = some true)
    (s_Deep_NoContact : PySem.W.subIn K (.ref CDeep) (.ref CNoContact) = some false)
    (s_Deep_NoRelay : PySem.W.subIn K (.ref CDeep) (.ref CNoRelay) = some false)
    (s_Deep_Still : PySem.W.subIn K (.ref CDeep) (.ref CStill) = some false)
    (s_Deep_NoNote : PySem.W.subIn K (.ref CDeep) (.ref CNoNote) = some false)
    (hg_Deep : PySem.W.findIn K (.ref CDeep) "__getattribute__" = some (some (.builtin "BaseException.__getattribute__")))
    (hk_Deep : PySem.W.findIn K (.ref CDeep) "__getattr__" = some none)
    (hd_Deep : PySem.W.hasDictIn K CDeep = true)
    (ha_Deep : PySem.W.findIn K (.ref CDeep) "__class__" = some (some (.builtin "object.__class__")))
    (hm_Deep : PySem.W.mroIn K CDeep (.type "object") = some true)
    (x_NoContact : PySem.W.excIn K CNoContact [.type "ValueError", .type "Exception", .type "BaseException", .type "object"] "ValueError.__new__" = true)
    (k_NoContact : PySem.W.keepIn K (.ref CNoContact) = true)
    (sb_NoContact : PySem.W.subIn K (.ref CNoContact) (.type "BaseException") = some true)
    (sv_NoContact : PySem.W.subIn K (.ref CNoContact) (.type "ValueError") = some true)
    (sr_NoContact : PySem.W.subIn K (.ref CNoContact) (.ref CRoomError) = some true)
    (s_NoContact_TooMany : PySem.W.subIn K (.ref CNoContact) (.ref CTooMany) = some false)
    (s_NoContact_Deep : PySem.W.subIn K (.ref CNoContact) (.ref CDeep) = some false)
    (s_NoContact_NoContact : PySem.W.subIn K (.ref CNoContact) (.ref CNoContact) = some true)
    (s_NoContact_NoRelay : PySem.W.subIn K (.ref CNoContact) (.ref CNoRelay) = some false)
    (s_NoContact_Still : PySem.W.subIn K (.ref CNoContact) (.ref CStill) = some false)
    (s_NoContact_NoNote : PySem.W.subIn K (.ref CNoContact) (.ref CNoNote) = some false)
    (hg_NoContact : PySem.W.findIn K (.ref CNoContact) "__getattribute__" = some (some (.builtin "BaseException.__getattribute__")))
    (hk_NoContact : PySem.W.findIn K (.ref CNoContact) "__getattr__" = some none)
    (hd_NoContact : PySem.W.hasDictIn K CNoContact = true)
    (ha_NoContact : PySem.W.findIn K (.ref CNoContact) "__class__" = some (some (.builtin "object.__class__")))
    (hm_NoContact : PySem.W.mroIn K CNoContact (.type "object") = some true)
    (x_n : PySem.W.specialIn K (.builtin "object.__class__") "__get__" = some (some (.builtin "getset_descriptor.__get__")))
    (x_t : PySem.W.takesIn K (.builtin "object.__class__") = some true)
    : ∃ fd : FuncData, (∀ (s : Shared) (v : Value), BindsTo s fd ⟨[v], []⟩ [("script", v)]) ∧ ∀ base : Heap, K.In base → base.Ns mainGlobals mg → FnOk l.prog w K mg base CX0 24 fa fd ["script"] (sp_law K) := by
  have e := hfa.symm.trans (PySem.W.mg_of X G a20)
  cases e
  have F0 := fun_mk (st := sparts) l0 c0 k0
  have F1 := fun_mk (st := sdepth) l1 c1 k1
  have F2 := fun_mk (st := sis_wired) l2 c2 k2
  have F3 := fun_mk (st := slooked) l3 c3 k3
  have F4 := fun_mk (st := s_law_cell_at) l4 c4 k4
  have F5 := fun_mk (st := s_law_pick) l5 c5 k5
  have F6 := fun_mk (st := s_law_whole) l6 c6 k6
  have F7 := fun_mk (st := s_law_mix) l7 c7 k7
  have F8 := fun_mk (st := s_law_leaf) l8 c8 k8
  have F9 := fun_mk (st := s_law_word) l9 c9 k9
  have F10 := fun_mk (st := s_law_board) l10 c10 k10
  have F11 := fun_mk (st := s_law_bits) l11 c11 k11
  have F12 := fun_mk (st := s_law_wrapped) l12 c12 k12
  have F13 := fun_mk (st := s_law_room) l13 c13 k13
  have F14 := fun_mk (st := s_law_refused) l14 c14 k14
  have F15 := fun_mk (st := s_law_told) l15 c15 k15
  have F16 := fun_mk (st := s_law_depth) l16 c16 k16
  have F17 := fun_mk (st := s_law_wired) l17 c17 k17
  have F18 := fun_mk (st := s_law_spoilt) l18 c18 k18
  have F19 := fun_mk (st := s_law_due) l19 c19 k19
  have F20 := fun_mk (st := slaw) l20 c20 k20
  have T : Txt K mg { aparts := f0, adepth := f1, ais_wired := f2, alooked := f3, a_law_cell_at := f4, a_law_pick := f5, a_law_whole := f6, a_law_mix := f7, a_law_leaf := f8, a_law_word := f9, a_law_board := f10, a_law_bits := f11, a_law_wrapped := f12, a_law_room := f13, a_law_refused := f14, a_law_told := f15, a_law_depth := f16, a_law_wired := f17, a_law_spoilt := f18, a_law_due := f19, alaw := fa, dparts := (PySem.W.fnOf "parts" "parts" (defArgs sparts) (defBody sparts) (defScope sparts) .none kV0 dc0 pm0 an0 cd0 ct0), ddepth := (PySem.W.fnOf "depth" "depth" (defArgs sdepth) (defBody sdepth) (defScope sdepth) .none kV1 dc1 pm1 an1 cd1 ct1), dis_wired := (PySem.W.fnOf "is_wired" "is_wired" (defArgs sis_wired) (defBody sis_wired) (defScope sis_wired) .none kV2 dc2 pm2 an2 cd2 ct2), dlooked := (PySem.W.fnOf "looked" "looked" (defArgs slooked) (defBody slooked) (defScope slooked) .none kV3 dc3 pm3 an3 cd3 ct3), d_law_cell_at := (PySem.W.fnOf "_law_cell_at" "_law_cell_at" (defArgs s_law_cell_at) (defBody s_law_cell_at) (defScope s_law_cell_at) .none kV4 dc4 pm4 an4 cd4 ct4), d_law_pick := (PySem.W.fnOf "_law_pick" "_law_pick" (defArgs s_law_pick) (defBody s_law_pick) (defScope s_law_pick) .none kV5 dc5 pm5 an5 cd5 ct5), d_law_whole := (PySem.W.fnOf "_law_whole" "_law_whole" (defArgs s_law_whole) (defBody s_law_whole) (defScope s_law_whole) .none kV6 dc6 pm6 an6 cd6 ct6), d_law_mix := (PySem.W.fnOf "_law_mix" "_law_mix" (defArgs s_law_mix) (defBody s_law_mix) (defScope s_law_mix) .none kV7 dc7 pm7 an7 cd7 ct7), d_law_leaf := (PySem.W.fnOf "_law_leaf" "_law_leaf" (defArgs s_law_leaf) (defBody s_law_leaf) (defScope s_law_leaf) .none kV8 dc8 pm8 an8 cd8 ct8), d_law_word := (PySem.W.fnOf "_law_word" "_law_word" (defArgs s_law_word) (defBody s_law_word) (defScope s_law_word) .none kV9 dc9 pm9 an9 cd9 ct9), d_law_board := (PySem.W.fnOf "_law_board" "_law_board" (defArgs s_law_board) (defBody s_law_board) (defScope s_law_board) .none kV10 dc10 pm10 an10 cd10 ct10), d_law_bits := (PySem.W.fnOf "_law_bits" "_law_bits" (defArgs s_law_bits) (defBody s_law_bits) (defScope s_law_bits) .none kV11 dc11 pm11 an11 cd11 ct11), d_law_wrapped := (PySem.W.fnOf "_law_wrapped" "_law_wrapped" (defArgs s_law_wrapped) (defBody s_law_wrapped) (defScope s_law_wrapped) .none kV12 dc12 pm12 an12 cd12 ct12), d_law_room := (PySem.W.fnOf "_law_room" "_law_room" (defArgs s_law_room) (defBody s_law_room) (defScope s_law_room) .none kV13 dc13 pm13 an13 cd13 ct13), d_law_refused := (PySem.W.fnOf "_law_refused" "_law_refused" (defArgs s_law_refused) (defBody s_law_refused) (defScope s_law_refused) .none kV14 dc14 pm14 an14 cd14 ct14), d_law_told := (PySem.W.fnOf "_law_told" "_law_told" (defArgs s_law_told) (defBody s_law_told) (defScope s_law_told) .none kV15 dc15 pm15 an15 cd15 ct15), d_law_depth := (PySem.W.fnOf "_law_depth" "_law_depth" (defArgs s_law_depth) (defBody s_law_depth) (defScope s_law_depth) .none kV16 dc16 pm16 an16 cd16 ct16), d_law_wired := (PySem.W.fnOf "_law_wired" "_law_wired" (defArgs s_law_wired) (defBody s_law_wired) (defScope s_law_wired) .none kV17 dc17 pm17 an17 cd17 ct17), d_law_spoilt := (PySem.W.fnOf "_law_spoilt" "_law_spoilt" (defArgs s_law_spoilt) (defBody s_law_spoilt) (defScope s_law_spoilt) .none kV18 dc18 pm18 an18 cd18 ct18), d_law_due := (PySem.W.fnOf "_law_due" "_law_due" (defArgs s_law_due) (defBody s_law_due) (defScope s_law_due) .none kV19 dc19 pm19 an19 cd19 ct19), dlaw := (PySem.W.fnOf "law" "law" (defArgs slaw) (defBody slaw) (defScope slaw) .none kV20 dc20 pm20 an20 cd20 ct20), CRoomError := CRoomError, CTooMany := CTooMany, CDeep := CDeep, CNoContact := CNoContact, CNoRelay := CNoRelay, CStill := CStill, CNoNote := CNoNote } := {
    F_parts := F0,
    m_parts := PySem.W.mg_of X G a0,
    b_parts := F0.binds (ps := ["word"]) fun _ _ _ _ _ _ us hl => match us, hl with | [_], _ => rfl,
    F_depth := F1,
    m_depth := PySem.W.mg_of X G a1,
    b_depth := F1.binds (ps := ["word"]) fun _ _ _ _ _ _ us hl => match us, hl with | [_], _ => rfl,
    F_is_wired := F2,
    m_is_wired := PySem.W.mg_of X G a2,
    b_is_wired := F2.binds (ps := ["word", "relays", "buttons"]) fun _ _ _ _ _ _ us hl => match us, hl with | [_, _, _], _ => rfl,
    F_looked := F3,
    m_looked := PySem.W.mg_of X G a3,
    b_looked := F3.binds (ps := ["board", "buttons"]) fun _ _ _ _ _ _ us hl => match us, hl with | [_, _], _ => rfl,
    F__law_cell_at := F4,
    m__law_cell_at := PySem.W.mg_of X G a4,
    b__law_cell_at := F4.binds (ps := ["script", "k"]) fun _ _ _ _ _ _ us hl => match us, hl with | [_, _], _ => rfl,
    F__law_pick := F5,
    m__law_pick := PySem.W.mg_of X G a5,
    b__law_pick := F5.binds (ps := ["script", "k"]) fun _ _ _ _ _ _ us hl => match us, hl with | [_, _], _ => rfl,
    F__law_whole := F6,
    m__law_whole := PySem.W.mg_of X G a6,
    b__law_whole := F6.binds (ps := ["x"]) fun _ _ _ _ _ _ us hl => match us, hl with | [_], _ => rfl,
    F__law_mix := F7,
    m__law_mix := PySem.W.mg_of X G a7,
    b__law_mix := F7.binds (ps := ["cell", "k"]) fun _ _ _ _ _ _ us hl => match us, hl with | [_, _], _ => rfl,
    F__law_leaf := F8,
    m__law_leaf := PySem.W.mg_of X G a8,
    b__law_leaf := F8.binds (ps := ["mixed", "relays", "buttons"]) fun _ _ _ _ _ _ us hl => match us, hl with | [_, _, _], _ => rfl,
    F__law_word := F9,
    m__law_word := PySem.W.mg_of X G a9,
    b__law_word := F9.binds (ps := ["cell", "k", "deep", "relays", "buttons"]) fun _ _ _ _ _ _ us hl => match us, hl with | [_, _, _, _, _], _ => rfl,
    F__law_board := F10,
    m__law_board := PySem.W.mg_of X G a10,
    b__law_board := F10.binds (ps := ["script", "start", "relays", "buttons", "deep"]) fun _ _ _ _ _ _ us hl => match us, hl with | [_, _, _, _, _], _ => rfl,
    F__law_bits := F11,
    m__law_bits := PySem.W.mg_of X G a11,
    b__law_bits := F11.binds (ps := ["number", "size"]) fun _ _ _ _ _ _ us hl => match us, hl with | [_, _], _ => rfl,
    F__law_wrapped := F12,
    m__law_wrapped := PySem.W.mg_of X G a12,
    b__law_wrapped := F12.binds (ps := ["word", "mixed"]) fun _ _ _ _ _ _ us hl => match us, hl with | [_, _], _ => rfl,
    F__law_room := F13,
    m__law_room := PySem.W.mg_of X G a13,
    b__law_room := F13.binds (ps := ["script"]) fun _ _ _ _ _ _ us hl => match us, hl with | [_], _ => rfl,
    F__law_refused := F14,
    m__law_refused := PySem.W.mg_of X G a14,
    b__law_refused := F14.binds (ps := ["marks", "which"]) fun _ _ _ _ _ _ us hl => match us, hl with | [_, _], _ => rfl,
    F__law_told := F15,
    m__law_told := PySem.W.mg_of X G a15,
    b__law_told := F15.binds (ps := ["board", "buttons"]) fun _ _ _ _ _ _ us hl => match us, hl with | [_, _], _ => rfl,
    F__law_depth := F16,
    m__law_depth := PySem.W.mg_of X G a16,
    b__law_depth := F16.binds (ps := ["word"]) fun _ _ _ _ _ _ us hl => match us, hl with | [_], _ => rfl,
    F__law_wired := F17,
    m__law_wired := PySem.W.mg_of X G a17,
    b__law_wired := F17.binds (ps := ["word", "relays", "buttons"]) fun _ _ _ _ _ _ us hl => match us, hl with | [_, _, _], _ => rfl,
    F__law_spoilt := F18,
    m__law_spoilt := PySem.W.mg_of X G a18,
    b__law_spoilt := F18.binds (ps := ["board", "buttons", "cell"]) fun _ _ _ _ _ _ us hl => match us, hl with | [_, _, _], _ => rfl,
    F__law_due := F19,
    m__law_due := PySem.W.mg_of X G a19,
    b__law_due := F19.binds (ps := ["board", "buttons"]) fun _ _ _ _ _ _ us hl => match us, hl with | [_, _], _ => rfl,
    F_law := F20,
    m_law := PySem.W.mg_of X G a20,
    b_law := F20.binds (ps := ["script"]) fun _ _ _ _ _ _ us hl => match us, hl with | [_], _ => rfl,
    n_max := PySem.W.mg_none_of X G z_max,
    n_all := PySem.W.mg_none_of X G z_all,
    n_len := PySem.W.mg_none_of X G z_len,
    n_isinstance := PySem.W.mg_none_of X G z_isinstance,
    n_int := PySem.W.mg_none_of X G z_int,
    n_bool := PySem.W.mg_none_of X G z_bool,
    n_range := PySem.W.mg_none_of X G z_range,
    n_tuple := PySem.W.mg_none_of X G z_tuple,
    n_ValueError := PySem.W.mg_none_of X G z_ValueError,
    n_min := PySem.W.mg_none_of X G z_min,
    n_list := PySem.W.mg_none_of X G z_list,
    g_MOST_RELAYS := ⟨_, PySem.W.mg_of X G g_MOST_RELAYS⟩,
    g_MOST_BUTTONS := ⟨_, PySem.W.mg_of X G g_MOST_BUTTONS⟩,
    g_DEEPEST := ⟨_, PySem.W.mg_of X G g_DEEPEST⟩,
    c_RoomError := PySem.W.mg_of X G aC_RoomError,
    c_TooMany := PySem.W.mg_of X G aC_TooMany,
    x_TooMany := x_TooMany,
    k_TooMany := k_TooMany,
    sb_TooMany := sb_TooMany,
    ty_TooMany := tt_TooMany,
    e_TooMany := exm_own sbR cl_RoomError tt_RoomError sr_TooMany,
    v_TooMany := kit_val sv_TooMany,
    i_TooMany_TooMany := kit_own cl_TooMany tt_TooMany s_TooMany_TooMany s_TooMany_TooMany,
    i_TooMany_Deep := kit_own cl_Deep tt_Deep s_TooMany_Deep s_TooMany_TooMany,
    i_TooMany_NoContact := kit_own cl_NoContact tt_NoContact s_TooMany_NoContact s_TooMany_TooMany,
    i_TooMany_NoRelay := kit_own cl_NoRelay tt_NoRelay s_TooMany_NoRelay s_TooMany_TooMany,
    i_TooMany_Still := kit_own cl_Still tt_Still s_TooMany_Still s_TooMany_TooMany,
    i_TooMany_NoNote := kit_own cl_NoNote tt_NoNote s_TooMany_NoNote s_TooMany_TooMany,
    E_TooMany := ⟨hg_TooMany, hk_TooMany, sb_TooMany, hd_TooMany, ha_TooMany, x_n, x_t, hm_TooMany⟩,
    c_Deep := PySem.W.mg_of X G aC_Deep,
    x_Deep := x_Deep,
    k_Deep := k_Deep,
    sb_Deep := sb_Deep,
    ty_Deep := tt_Deep,
    e_Deep := exm_own sbR cl_RoomError tt_RoomError sr_Deep,
    v_Deep := kit_val sv_Deep,
    i_Deep_TooMany := kit_own cl_TooMany tt_TooMany s_Deep_TooMany s_Deep_Deep,
    i_Deep_Deep := kit_own cl_Deep tt_Deep s_Deep_Deep s_Deep_Deep,
    i_Deep_NoContact := kit_own cl_NoContact tt_NoContact s_Deep_NoContact s_Deep_Deep,
    i_Deep_NoRelay := kit_own cl_NoRelay tt_NoRelay s_Deep_NoRelay s_Deep_Deep,
    i_Deep_Still := kit_own cl_Still tt_Still s_Deep_Still s_Deep_Deep,
    i_Deep_NoNote := kit_own cl_NoNote tt_NoNote s_Deep_NoNote s_Deep_Deep,
    E_Deep := ⟨hg_Deep, hk_Deep, sb_Deep, hd_Deep, ha_Deep, x_n, x_t, hm_Deep⟩,
    c_NoContact := PySem.W.mg_of X G aC_NoContact,
    x_NoContact := x_NoContact,
    k_NoContact := k_NoContact,
    sb_NoContact := sb_NoContact,
    ty_NoContact := tt_NoContact,
    e_NoContact := exm_own sbR cl_RoomError tt_RoomError sr_NoContact,
    v_NoContact := kit_val sv_NoContact,
    i_NoContact_TooMany := kit_own cl_TooMany tt_TooMany s_NoContact_TooMany s_NoContact_NoContact,
    i_NoContact_Deep := kit_own cl_Deep tt_Deep s_NoContact_Deep s_NoContact_NoContact,
    i_NoContact_NoContact := kit_own cl_NoContact tt_NoContact s_NoContact_NoContact s_NoContact_NoContact,
    i_NoContact_NoRelay := kit_own cl_NoRelay tt_NoRelay s_NoContact_NoRelay s_NoContact_NoContact,
    i_NoContact_Still := kit_own cl_Still tt_Still s_NoContact_Still s_NoContact_NoContact,
    i_NoContact_NoNote := kit_own cl_NoNote tt_NoNote s_NoContact_NoNote s_NoContact_NoContact,
    E_NoContact := ⟨hg_NoContact, hk_NoContact, sb_NoContact, hd_NoContact, ha_NoContact, x_n, x_t, hm_NoContact⟩,
    c_NoRelay := PySem.W.mg_of X G aC_NoRelay,
    c_Still := PySem.W.mg_of X G aC_Still,
    c_NoNote := PySem.W.mg_of X G aC_NoNote }
  exact ⟨(PySem.W.fnOf "law" "law" (defArgs slaw) (defBody slaw) (defScope slaw) .none kV20 dc20 pm20 an20 cd20 ct20), fun s v => .of_eq rfl, fun base _ _ => ok_law T⟩
end Rl
open PySem PySem.W PyProof.Rows in
set_option maxRecDepth 100000 in
set_option maxHeartbeats 0 in
theorem PySem.Challenge.cw_relayroom_k01_looked_holds : PySem.Challenge.rw_relayroom_k01_looked.Holds := by
  w_on; o_law; k_head; (case hw => w_witness2)
  k_fill
  refine L2.walk_of (l := PySem.Challenge.rw_relayroom_k01_looked) (n := 63) (k := 24) (x := "script") (CX := fun w => L2.CX0) (sp := fun w => Rl.sp_law _) rfl (by decide) rfl ⟨rfl, by decide, by decide⟩ (fun w h Y => PySem.W.kIn_of Y) ?F (fun _ _ a ns hl _ hS => ⟨a, ns, rfl, hS, hl, fun _ => rfl⟩) (fun _ _ _ _ _ h => h)
  case F =>
    intro w mg fa h KX G hmg
    refine' Rl.all_mk KX G hmg ?a0 ?l0 ?c0 ?k0 ?a1 ?l1 ?c1 ?k1 ?a2 ?l2 ?c2 ?k2 ?a3 ?l3 ?c3 ?k3 ?a4 ?l4 ?c4 ?k4 ?a5 ?l5 ?c5 ?k5 ?a6 ?l6 ?c6 ?k6 ?a7 ?l7 ?c7 ?k7 ?a8 ?l8 ?c8 ?k8 ?a9 ?l9 ?c9 ?k9 ?a10 ?l10 ?c10 ?k10 ?a11 ?l11 ?c11 ?k11 ?a12 ?l12 ?c12 ?k12 ?a13 ?l13 ?c13 ?k13 ?a14 ?l14 ?c14 ?k14 ?a15 ?l15 ?c15 ?k15 ?a16 ?l16 ?c16 ?k16 ?a17 ?l17 ?c17 ?k17 ?a18 ?l18 ?c18 ?k18 ?a19 ?l19 ?c19 ?k19 ?a20 ?l20 ?c20 ?k20 ?z_max ?z_all ?z_len ?z_isinstance ?z_int ?z_bool ?z_range ?z_tuple ?z_ValueError ?z_min ?z_list ?g_MOST_RELAYS ?g_MOST_BUTTONS ?g_DEEPEST ?aC_RoomError ?aC_TooMany ?aC_Deep ?aC_NoContact ?aC_NoRelay ?aC_Still ?aC_NoNote ?cl_RoomError ?tt_RoomError ?cl_TooMany ?tt_TooMany ?cl_Deep ?tt_Deep ?cl_NoContact ?tt_NoContact ?cl_NoRelay ?tt_NoRelay ?cl_Still ?tt_Still ?cl_NoNote ?tt_NoNote ?sbR ?x_TooMany ?k_TooMany ?sb_TooMany ?sv_TooMany ?sr_TooMany ?s_TooMany_TooMany ?s_TooMany_Deep ?s_TooMany_NoContact ?s_TooMany_NoRelay ?s_TooMany_Still ?s_TooMany_NoNote ?hg_TooMany ?hk_TooMany ?hd_TooMany ?ha_TooMany ?hm_TooMany ?x_Deep ?k_Deep ?sb_Deep ?sv_Deep ?sr_Deep ?s_Deep_TooMany ?s_Deep_Deep ?s_Deep_NoContact ?s_Deep_NoRelay ?s_Deep_Still ?s_Deep_NoNote ?hg_Deep ?hk_Deep ?hd_Deep ?ha_Deep ?hm_Deep ?x_NoContact ?k_NoContact ?sb_NoContact ?sv_NoContact ?sr_NoContact ?s_NoContact_TooMany ?s_NoContact_Deep ?s_NoContact_NoContact ?s_NoContact_NoRelay ?s_NoContact_Still ?s_NoContact_NoNote ?hg_NoContact ?hk_NoContact ?hd_NoContact ?ha_NoContact ?hm_NoContact ?x_n ?x_t
    (case a0 => k_is)
    (case l0 => k_is)
    (case c0 => k_is)
    (case k0 => k_is)
    (case a1 => k_is)
    (case l1 => k_is)
    (case c1 => k_is)
    (case k1 => k_is)
    (case a2 => k_is)
    (case l2 => k_is)
    (case c2 => k_is)
    (case k2 => k_is)
    (case a3 => k_is)
    (case l3 => k_is)
    (case c3 => k_is)
    (case k3 => k_is)
    (case a4 => k_is)
    (case l4 => k_is)
    (case c4 => k_is)
    (case k4 => k_is)
    (case a5 => k_is)
    (case l5 => k_is)
    (case c5 => k_is)
    (case k5 => k_is)
    (case a6 => k_is)
    (case l6 => k_is)
    (case c6 => k_is)
    (case k6 => k_is)
    (case a7 => k_is)
    (case l7 => k_is)
    (case c7 => k_is)
    (case k7 => k_is)
    (case a8 => k_is)
    (case l8 => k_is)
    (case c8 => k_is)
    (case k8 => k_is)
    (case a9 => k_is)
    (case l9 => k_is)
    (case c9 => k_is)
    (case k9 => k_is)
    (case a10 => k_is)
    (case l10 => k_is)
    (case c10 => k_is)
    (case k10 => k_is)
    (case a11 => k_is)
    (case l11 => k_is)
    (case c11 => k_is)
    (case k11 => k_is)
    (case a12 => k_is)
    (case l12 => k_is)
    (case c12 => k_is)
    (case k12 => k_is)
    (case a13 => k_is)
    (case l13 => k_is)
    (case c13 => k_is)
    (case k13 => k_is)
    (case a14 => k_is)
    (case l14 => k_is)
    (case c14 => k_is)
    (case k14 => k_is)
    (case a15 => k_is)
    (case l15 => k_is)
    (case c15 => k_is)
    (case k15 => k_is)
    (case a16 => k_is)
    (case l16 => k_is)
    (case c16 => k_is)
    (case k16 => k_is)
    (case a17 => k_is)
    (case l17 => k_is)
    (case c17 => k_is)
    (case k17 => k_is)
    (case a18 => k_is)
    (case l18 => k_is)
    (case c18 => k_is)
    (case k18 => k_is)
    (case a19 => k_is)
    (case l19 => k_is)
    (case c19 => k_is)
    (case k19 => k_is)
    (case a20 => k_is)
    (case l20 => k_is)
    (case c20 => k_is)
    (case k20 => k_is)
    (case z_max => k_is)
    (case z_all => k_is)
    (case z_len => k_is)
    (case z_isinstance => k_is)
    (case z_int => k_is)
    (case z_bool => k_is)
    (case z_range => k_is)
    (case z_tuple => k_is)
    (case z_ValueError => k_is)
    (case z_min => k_is)
    (case z_list => k_is)
    (case g_MOST_RELAYS => k_is)
    (case g_MOST_BUTTONS => k_is)
    (case g_DEEPEST => k_is)
    (case aC_RoomError => k_is)
    (case aC_TooMany => k_is)
    (case aC_Deep => k_is)
    (case aC_NoContact => k_is)
    (case aC_NoRelay => k_is)
    (case aC_Still => k_is)
    (case aC_NoNote => k_is)
    (case cl_RoomError => k_is)
    (case tt_RoomError => k_is)
    (case cl_TooMany => k_is)
    (case tt_TooMany => k_is)
    (case cl_Deep => k_is)
    (case tt_Deep => k_is)
    (case cl_NoContact => k_is)
    (case tt_NoContact => k_is)
    (case cl_NoRelay => k_is)
    (case tt_NoRelay => k_is)
    (case cl_Still => k_is)
    (case tt_Still => k_is)
    (case cl_NoNote => k_is)
    (case tt_NoNote => k_is)
    (case sbR => k_is)
    (case x_TooMany => k_exc)
    (case k_TooMany => k_is)
    (case sb_TooMany => k_is)
    (case sv_TooMany => k_is)
    (case sr_TooMany => k_is)
    (case s_TooMany_TooMany => first | rfl | k_is)
    (case s_TooMany_Deep => first | rfl | k_is)
    (case s_TooMany_NoContact => first | rfl | k_is)
    (case s_TooMany_NoRelay => first | rfl | k_is)
    (case s_TooMany_Still => first | rfl | k_is)
    (case s_TooMany_NoNote => first | rfl | k_is)
    (case hg_TooMany => k_is)
    (case hk_TooMany => k_is)
    (case hd_TooMany => k_is)
    (case ha_TooMany => k_is)
    (case hm_TooMany => k_is)
    (case x_Deep => k_exc)
    (case k_Deep => k_is)
    (case sb_Deep => k_is)
    (case sv_Deep => k_is)
    (case sr_Deep => k_is)
    (case s_Deep_TooMany => first | rfl | k_is)
    (case s_Deep_Deep => first | rfl | k_is)
    (case s_Deep_NoContact => first | rfl | k_is)
    (case s_Deep_NoRelay => first | rfl | k_is)
    (case s_Deep_Still => first | rfl | k_is)
    (case s_Deep_NoNote => first | rfl | k_is)
    (case hg_Deep => k_is)
    (case hk_Deep => k_is)
    (case hd_Deep => k_is)
    (case ha_Deep => k_is)
    (case hm_Deep => k_is)
    (case x_NoContact => k_exc)
    (case k_NoContact => k_is)
    (case sb_NoContact => k_is)
    (case sv_NoContact => k_is)
    (case sr_NoContact => k_is)
    (case s_NoContact_TooMany => first | rfl | k_is)
    (case s_NoContact_Deep => first | rfl | k_is)
    (case s_NoContact_NoContact => first | rfl | k_is)
    (case s_NoContact_NoRelay => first | rfl | k_is)
    (case s_NoContact_Still => first | rfl | k_is)
    (case s_NoContact_NoNote => first | rfl | k_is)
    (case hg_NoContact => k_is)
    (case hk_NoContact => k_is)
    (case hd_NoContact => k_is)
    (case ha_NoContact => k_is)
    (case hm_NoContact => k_is)
    (case x_n => k_is)
    (case x_t => k_is)
#print axioms PySem.Challenge.cw_relayroom_k01_looked_holds
