import PyProof.Rows.All
import Wide.All
import OpenK.AllK
import Wide.FinOn
import HandS.ForMost
import HandS.ForExc
import HandS.IsInst
import HandS.ExcIs
import HandS.Flow
import HandS.WideBits
import HandS.Codes
import HandS.TupAny
import HandS.SetBool
import HandS.Conv
import HandS.TupLen
import HandS.Walk
import HandS.Deep
import HandS.SortKw
import KE.KDictDisplayH
import KE.DataMinMax
import HandS.Dict
import PySem.Challenge.RW_relayroom_k13_shown
set_option Elab.async false
set_option linter.all false
set_option maxRecDepth 100000
namespace Rl
open PySem L2
/-! ### words -/
inductive W where
  | on | off | relay (k : Int) | button (k : Int) | not (w : W) | and (a b : W) | or (a b : W)
  deriving DecidableEq
def W.depth : W → Nat
  | .not w => w.depth + 1
  | .and a b => max a.depth b.depth + 1
  | .or a b => max a.depth b.depth + 1
  | _ => 1
/-- all contacts are there: n relays, m buttons -/
def W.wired (n m : Nat) : W → Prop
  | .on => True
  | .off => True
  | .relay k => 0 ≤ k ∧ k < (n : Int)
  | .button k => 0 ≤ k ∧ k < (m : Int)
  | .not w => w.wired n m
  | .and a b => a.wired n m ∧ b.wired n m
  | .or a b => a.wired n m ∧ b.wired n m
theorem W.depth_pos : ∀ w : W, 1 ≤ w.depth
  | .on => Nat.le_refl _
  | .off => Nat.le_refl _
  | .relay _ => Nat.le_refl _
  | .button _ => Nat.le_refl _
  | .not _ => Nat.le_add_left _ _
  | .and _ _ => Nat.le_add_left _ _
  | .or _ _ => Nat.le_add_left _ _
def W.eval (st pr : List Bool) : W → Bool
  | .on => true
  | .off => false
  | .relay k => st.getD k.toNat false
  | .button k => pr.getD k.toNat false
  | .not w => !w.eval st pr
  | .and a b => a.eval st pr && b.eval st pr
  | .or a b => a.eval st pr || b.eval st pr
/-- a word stands at a -/
def WA (H : Hp) : W → Addr → Prop
  | .on, a => H a = some (.tup [.str "on"])
  | .off, a => H a = some (.tup [.str "off"])
  | .relay k, a => H a = some (.tup [.str "relay", .int k])
  | .button k, a => H a = some (.tup [.str "button", .int k])
  | .not w, a => ∃ b, H a = some (.tup [.str "not", .ref b]) ∧ WA H w b
  | .and x y, a => ∃ b c, H a = some (.tup [.str "and", .ref b, .ref c]) ∧ WA H x b ∧ WA H y c
  | .or x y, a => ∃ b c, H a = some (.tup [.str "or", .ref b, .ref c]) ∧ WA H x b ∧ WA H y c
/-- tuples stay -/
def Tk (H H' : Hp) : Prop := ∀ b xs, H b = some (.tup xs) → H' b = some (.tup xs)
theorem Tk.refl (H : Hp) : Tk H H := fun _ _ h => h
theorem Tk.trans {H H1 H2 : Hp} (a : Tk H H1) (b : Tk H1 H2) : Tk H H2 := fun c o h => b c o (a c o h)
theorem Same.tk {H H' : Hp} (s : Same H H') : Tk H H' := fun b xs h => s b _ h
theorem Tk.lst {H : Hp} {D : Addr} {xs ys : List V} (h : H D = some (.lst xs)) : Tk H (upd H D (.lst ys)) := fun b zs q => by
  rw [upd_ne (ne_of q h (by intro z; cases z))]; exact q
theorem Tk.new {H : Hp} {p : Addr} {o : HO} (h : H p = none) : Tk H (upd H p o) := fun b zs q => by
  rw [upd_ne (ne_of_none q h)]; exact q
theorem Same.new {H : Hp} {p : Addr} {o : HO} (h : H p = none) : Same H (upd H p o) := fun b u q => by rw [upd_ne (ne_of_none q h)]; exact q
theorem Same.get {H H' : Hp} {b : Addr} {o : HO} (s : Same H H') (h : H b = some o) : H' b = some o := s b o h
theorem Same.lst {H0 H : Hp} {D : Addr} {o : HO} (h : Same H0 H) (n : H0 D = none) : Same H0 (upd H D o) := fun b u q => by
  rw [upd_ne (ne_of_none q n)]; exact h b u q
theorem WA.tk : ∀ {w : W} {H H' : Hp} {a : Addr}, Tk H H' → WA H w a → WA H' w a
  | .on, _, _, _, t, h => t _ _ h
  | .off, _, _, _, t, h => t _ _ h
  | .relay _, _, _, _, t, h => t _ _ h
  | .button _, _, _, _, t, h => t _ _ h
  | .not _, _, _, _, t, h => let ⟨b, e, q⟩ := h; ⟨b, t _ _ e, WA.tk t q⟩
  | .and _ _, _, _, _, t, h => let ⟨b, c, e, q, r⟩ := h; ⟨b, c, t _ _ e, WA.tk t q, WA.tk t r⟩
  | .or _ _, _, _, _, t, h => let ⟨b, c, e, q, r⟩ := h; ⟨b, c, t _ _ e, WA.tk t q, WA.tk t r⟩
theorem WA.same {w : W} {H H' : Hp} {a : Addr} (s : Same H H') (h : WA H w a) : WA H' w a := WA.tk (Same.tk s) h
/-- a list's items are words -/
def WAs (H : Hp) (ws : List W) (vs : List V) : Prop := Paired (fun (w : W) (v : V) => ∃ a, v = .ref a ∧ WA H w a) ws vs
theorem paired_snoc {α β : Type} {F : α → β → Prop} : ∀ {l : List α} {r : List β} {a : α} {b : β}, Paired F l r → F a b → Paired F (l ++ [a]) (r ++ [b])
  | _, _, _, _, .nil, h => .cons h .nil
  | _, _, _, _, .cons r t, h => .cons r (paired_snoc t h)
theorem paired_get {α β : Type} {F : α → β → Prop} : ∀ {l : List α} {r : List β} {i : Nat} {b : β}, Paired F l r → r[i]? = some b → ∃ a, l[i]? = some a ∧ F a b
  | _, _, _, _, .nil, h => by simp at h
  | _, _, 0, _, .cons r t, h => by simp at h; subst h; exact ⟨_, rfl, r⟩
  | _, _, i + 1, b, .cons r t, h => by
    obtain ⟨a, e, q⟩ := paired_get (i := i) (b := b) t (by simpa using h)
    exact ⟨a, by simpa using e, q⟩
theorem paired_getl {α β : Type} {F : α → β → Prop} : ∀ {l : List α} {r : List β} {i : Nat} {a : α}, Paired F l r → l[i]? = some a → ∃ b, r[i]? = some b ∧ F a b
  | _, _, _, _, .nil, h => by simp at h
  | _, _, 0, _, .cons r t, h => by simp at h; subst h; exact ⟨_, rfl, r⟩
  | _, _, i + 1, a, .cons r t, h => by
    obtain ⟨b, e, q⟩ := paired_getl (i := i) (a := a) t (by simpa using h)
    exact ⟨b, by simpa using e, q⟩
theorem WAs.tk {H H' : Hp} {ws : List W} {vs : List V} (t : Tk H H') (h : WAs H ws vs) : WAs H' ws vs := Paired.mapP h fun _ _ ⟨a, e, q⟩ => ⟨a, e, WA.tk t q⟩
theorem WAs.same {H H' : Hp} {ws : List W} {vs : List V} (t : Same H H') (h : WAs H ws vs) : WAs H' ws vs := WAs.tk (Same.tk t) h
theorem WAs.length {H : Hp} {ws : List W} {vs : List V} (h : WAs H ws vs) : ws.length = vs.length := Paired.length h
theorem inV_bl (b : Bool) : ∀ bs : List Bool, inV (.bl b) (bs.map V.bl) = bs.any (fun x => x == b)
  | [] => rfl
  | x :: r => by
    show (eqV (.bl x) (.bl b) || inV (.bl b) (r.map V.bl)) = ((x == b) || r.any (fun x => x == b))
    rw [inV_bl b r]
    cases x <;> cases b <;> rfl
theorem flat_bl : ∀ bs : List Bool, (bs.map V.bl).all flatV = true
  | [] => rfl
  | _ :: r => flat_bl r
def W.parts : W → List W
  | .not w => [w]
  | .and a b => [a, b]
  | .or a b => [a, b]
  | _ => []
theorem cut1 (x : V) (xs : List V) : cutV (x :: xs) (some 1) none = xs := by
  unfold cutV
  rw [show HT.sIx (x :: xs).length 0 (some 1) = min 1 (x :: xs).length from HT.sIx_nat (x :: xs).length 0 1, HT.sIx_none]
  rw [show min 1 (x :: xs).length = 1 by rw [List.length_cons]; omega]
  show List.take ((x :: xs).length - 1) xs = xs
  rw [List.length_cons, Nat.add_sub_cancel]
  exact List.take_length
/-- a word's place, told by its tag and its parts -/
def W.tag : W → Str
  | .on => "on" | .off => "off" | .relay _ => "relay" | .button _ => "button" | .not _ => "not" | .and _ _ => "and" | .or _ _ => "or"
theorem WA.parts {H : Hp} {w : W} {a : Addr} (h : WA H w a) (n1 : ∀ k, w ≠ .relay k) (n2 : ∀ k, w ≠ .button k) : ∃ us, H a = some (.tup (.str w.tag :: us)) ∧ WAs H w.parts us := by
  cases w with
  | on => exact ⟨[], h, .nil⟩
  | off => exact ⟨[], h, .nil⟩
  | relay k => exact absurd rfl (n1 k)
  | button k => exact absurd rfl (n2 k)
  | not x => obtain ⟨b, e, q⟩ := h; exact ⟨_, e, .cons ⟨b, rfl, q⟩ .nil⟩
  | and x y => obtain ⟨b, c, e, q, r⟩ := h; exact ⟨_, e, .cons ⟨b, rfl, q⟩ (.cons ⟨c, rfl, r⟩ .nil)⟩
  | or x y => obtain ⟨b, c, e, q, r⟩ := h; exact ⟨_, e, .cons ⟨b, rfl, q⟩ (.cons ⟨c, rfl, r⟩ .nil)⟩
theorem parts_ok {w x : W} {n m N : Nat} (hx : x ∈ w.parts) (hw : w.wired n m) (hd : w.depth ≤ N + 1) : x.wired n m ∧ x.depth ≤ N := by
  cases w with
  | not y =>
    rcases List.mem_singleton.mp hx with rfl
    exact ⟨hw, Nat.le_of_succ_le_succ hd⟩
  | and y z =>
    have hd' : max y.depth z.depth + 1 ≤ N + 1 := hd
    rcases List.mem_cons.mp hx with rfl | hx
    · exact ⟨hw.1, by omega⟩
    · rcases List.mem_singleton.mp hx with rfl
      exact ⟨hw.2, by omega⟩
  | or y z =>
    have hd' : max y.depth z.depth + 1 ≤ N + 1 := hd
    rcases List.mem_cons.mp hx with rfl | hx
    · exact ⟨hw.1, by omega⟩
    · rcases List.mem_singleton.mp hx with rfl
      exact ⟨hw.2, by omega⟩
  | on => cases hx
  | off => cases hx
  | relay k => cases hx
  | button k => cases hx
/-! ### tests -/
theorem iF {c : Bool} {A B : Prop} (h : c = false) (q : B) : if c = true then A else B := by rw [h]; exact iteF q
theorem iT {c : Bool} {A B : Prop} (h : c = true) (q : A) : if c = true then A else B := by rw [h]; exact iteT q
theorem iB {c : Bool} {A B : Prop} (h1 : c = true → A) (h2 : c = false → B) : if c = true then A else B := by
  cases c with
  | true => exact iteT (h1 rfl)
  | false => exact iteF (h2 rfl)
abbrev rLenSeq (K : PySem.W.Frag) : List V → Hp → VK → Prop := fun xs H Q => ∃ p ys, xs = [.ref p] ∧ (SqL K H p ys ∨ SqT K H p ys) ∧ Q (.int ys.length) H
theorem tag_val {K : PySem.W.Frag} {σ : St} {H : Hp} {Q : VK} {i : Nat} {a : Addr} {t s : Str} {rest : List V} (h : σ[i]? = some (some (.ref a))) (e : H a = some (.tup (.str t :: rest))) (q : Q (.bl (decide (V.str t = V.str s))) H) :
    tOp rEq (tOp (rIxT K) (tVar i) (tC (.int 0))) (tC (.str s)) σ H Q := ⟨_, h, _, _, _, _, rfl, rfl, .of e, atI_nat (j := 0) rfl, rfl, q⟩
theorem tag_test {K : PySem.W.Frag} {σ : St} {H : Hp} {Q : Bool → Hp → Prop} {i : Nat} {a : Addr} {t s : Str} {rest : List V} (h : σ[i]? = some (some (.ref a))) (e : H a = some (.tup (.str t :: rest))) (q : Q (decide (V.str t = V.str s)) H) :
    tTest (tOp rEq (tOp (rIxT K) (tVar i) (tC (.int 0))) (tC (.str s))) σ H Q := tag_val h e ⟨_, rfl, q⟩
theorem at_bl {bs : List Bool} {k : Int} (h0 : 0 ≤ k) (h1 : k < (bs.length : Int)) : atI (bs.map V.bl) k = some (.bl (bs.getD k.toNat false)) := by
  have h : k.toNat < bs.length := by omega
  refine at_of (j := k.toNat) (by omega) ?_
  rw [List.getElem?_map, List.getElem?_eq_getElem h, List.getD_eq_getElem?_getD, List.getElem?_eq_getElem h]; rfl
theorem notF {b : Bool} (h : (!b) = false) : b = true := by cases b <;> first | rfl | cases h
theorem notT {b : Bool} (h : (!b) = true) : b = false := by cases b <;> first | rfl | cases h
theorem WA.pairs {H : Hp} {x : W} {a : Addr} (h : WA H x a) : (∃ y z, x = .and y z) ∨ (∃ y z, x = .or y z) ∨ (∃ t us, H a = some (.tup (.str t :: us)) ∧ decide (V.str t = V.str "and") = false ∧ decide (V.str t = V.str "or") = false) := by
  cases x with
  | and y z => exact .inl ⟨_, _, rfl⟩
  | or y z => exact .inr (.inl ⟨_, _, rfl⟩)
  | not y => obtain ⟨b, e, _⟩ := h; exact .inr (.inr ⟨_, _, e, decide_eq_false (by decide +kernel), decide_eq_false (by decide +kernel)⟩)
  | on => exact .inr (.inr ⟨_, _, h, decide_eq_false (by decide +kernel), decide_eq_false (by decide +kernel)⟩)
  | off => exact .inr (.inr ⟨_, _, h, decide_eq_false (by decide +kernel), decide_eq_false (by decide +kernel)⟩)
  | relay k => exact .inr (.inr ⟨_, _, h, decide_eq_false (by decide +kernel), decide_eq_false (by decide +kernel)⟩)
  | button k => exact .inr (.inr ⟨_, _, h, decide_eq_false (by decide +kernel), decide_eq_false (by decide +kernel)⟩)
theorem small10 {n : Nat} (h : n ≤ 10000) : n ≤ sizeLine := Nat.le_trans h (by decide)
theorem small11 {n : Nat} (h : n ≤ 10000) : n < sizeLine := Nat.lt_of_le_of_lt h (by decide)
/-! ### data of the law's own -/
def bits (z : Int) (n : Nat) : List Bool := (List.range n).map fun k => decide (z / 2 ^ k % 2 = 1)
theorem bits_succ (z : Int) (n : Nat) : bits z (n + 1) = bits z n ++ [decide (z / 2 ^ n % 2 = 1)] := by unfold bits; rw [List.range_succ, List.map_append]; rfl
theorem bits_len (z : Int) (n : Nat) : (bits z n).length = n := by unfold bits; rw [List.length_map, List.length_range]
theorem dec_vi (a b : Int) : decide (V.int a = V.int b) = decide (a = b) := decide_eq_decide.mpr ⟨fun e => V.int.inj e, fun e => by rw [e]⟩
theorem toNat0 (i : Nat) : ((0 : Int) + (i : Int)).toNat = i := by omega
def Fit (n m : Nat) (d : Int) (w : W) : Prop := w.wired n m ∧ (w.depth : Int) ≤ d
def Fits (n m : Nat) (d : Int) (ws : List W) : Prop := ∀ w ∈ ws, Fit n m d w
theorem Fits.snoc {n m : Nat} {d : Int} {ws : List W} {w : W} (h : Fits n m d ws) (f : Fit n m d w) : Fits n m d (ws ++ [w]) := fun x hx => by
  rcases List.mem_append.mp hx with q | q
  · exact h x q
  · rw [List.mem_singleton.mp q]; exact f
/-- a list of tuples of bools -/
def Tups (H : Hp) (bss : List (List Bool)) (us : List V) : Prop := Paired (fun (bs : List Bool) (v : V) => ∃ a, v = .ref a ∧ H a = some (.tup (bs.map V.bl))) bss us
theorem Tups.tk {H H' : Hp} {bss : List (List Bool)} {us : List V} (t : Tk H H') (h : Tups H bss us) : Tups H' bss us := Paired.mapP h fun _ _ ⟨a, e, q⟩ => ⟨a, e, t _ _ q⟩
theorem Tups.same {H H' : Hp} {bss : List (List Bool)} {us : List V} (t : Same H H') (h : Tups H bss us) : Tups H' bss us := Tups.tk (Same.tk t) h
theorem Tups.length {H : Hp} {bss : List (List Bool)} {us : List V} (h : Tups H bss us) : bss.length = us.length := Paired.length h
def allBits (n i : Nat) : List (List Bool) := (List.range i).map fun (k : Nat) => bits (k : Int) n
theorem allBits_succ (n i : Nat) : allBits n (i + 1) = allBits n i ++ [bits (i : Int) n] := by unfold allBits; rw [List.range_succ, List.map_append]; rfl
theorem allBits_len (n i : Nat) : (allBits n i).length = i := by unfold allBits; rw [List.length_map, List.length_range]
theorem allBits_get {n i k : Nat} (h : k < i) : (allBits n i)[k]? = some (bits (k : Int) n) := by
  unfold allBits
  rw [List.getElem?_map, List.getElem?_range h]; rfl
theorem allBits_get' {n i k : Nat} {bs : List Bool} (h : (allBits n i)[k]? = some bs) : k < i ∧ bs = bits (k : Int) n := by
  have hk : k < i := by
    have := (List.getElem?_eq_some_iff.mp h).1
    rw [allBits_len] at this; exact this
  rw [allBits_get hk] at h
  exact ⟨hk, (Option.some.inj h).symm⟩
theorem shl_one (n : Nat) : ((1 : Int) * 2 ^ ((n : Int).toNat)).toNat = 2 ^ n := by
  rw [Int.one_mul, Int.toNat_natCast]
  have : ((2 : Int) ^ n) = ((2 ^ n : Nat) : Int) := by rw [Int.natCast_pow]; rfl
  rw [this, Int.toNat_natCast]
theorem pow_le64 {n : Nat} (h : n ≤ 6) : 2 ^ n ≤ 64 := Nat.pow_le_pow_right (by decide) h
theorem pow_cast (n : Nat) : ((2 : Int) ^ n) = ((2 ^ n : Nat) : Int) := by rw [Int.natCast_pow]; rfl
section
variable {P : Program} {w : World} {K : PySem.W.Frag} {mg : Str → Option Value} {base : Heap}
theorem fn_none {k : Nat} {f : Addr} {fd : FuncData} {ps : List Str} {sp : Sp} (no : ∀ vs H Q E, ¬ sp vs H Q E) : FnOk P w K mg base CX0 k f fd ps sp :=
  ⟨fun vs H Q E h => absurd h (no vs H Q E), fun A outer s H args us vs Q E _ _ _ _ h => absurd h (no vs H Q E)⟩
end
/-! ### data for == -/
def Sh (d : PyData) (k : Nat) : Prop := d.canLay0 = true ∧ d.depth ≤ k
theorem Sh.shaped {d : PyData} {k : Nat} (h : Sh d k) (hk : k ≤ 64) : SeqAt.shaped d = true := by
  unfold SeqAt.shaped
  rw [h.1, decide_eq_true (Nat.le_trans h.2 hk)]; rfl
theorem Sh.refl {d : PyData} {k : Nat} (h : Sh d k) : PyData.eqv d d = true := SeqAt.eqv_refl d h.1
theorem Sh.bool (b : Bool) (k : Nat) : Sh (.bool b) k := ⟨by simp [PyData.canLay0], by simp [PyData.depth]⟩
theorem Sh.int (b : Int) (k : Nat) : Sh (.int b) k := ⟨by simp [PyData.canLay0], by simp [PyData.depth]⟩
theorem Sh.str (b : Str) (k : Nat) (h : PyData.strOk b = true := by decide +kernel) : Sh (.str b) k := ⟨by simp [PyData.canLay0, h], by simp [PyData.depth]⟩
theorem Sh.all {k : Nat} : ∀ {ds : List PyData}, (∀ d ∈ ds, Sh d k) → PyData.canLayAll0 ds = true ∧ PyData.depthAll ds ≤ k
  | [], _ => by simp [PyData.canLayAll0, PyData.depthAll]
  | d :: ds, h => by
    have h1 := h d (.head _)
    have h2 := Sh.all (ds := ds) fun e he => h e (.tail _ he)
    simp only [PyData.canLayAll0, PyData.depthAll, h1.1, h2.1, Bool.and_self, true_and]
    have a1 := h1.2
    have a2 := h2.2
    omega
theorem Sh.tup {k : Nat} {ds : List PyData} (h : ∀ d ∈ ds, Sh d k) : Sh (.tuple ds) (k + 1) := by
  have q := Sh.all h
  refine ⟨by simp [PyData.canLay0, q.1], ?_⟩
  have := q.2
  simp only [PyData.depth]; omega
theorem Sh.lst {k : Nat} {ds : List PyData} (h : ∀ d ∈ ds, Sh d k) : Sh (.list ds) (k + 1) := by
  have q := Sh.all h
  refine ⟨by simp [PyData.canLay0, q.1], ?_⟩
  have := q.2
  simp only [PyData.depth]; omega
theorem Sh.mono {d : PyData} {k j : Nat} (h : Sh d k) (hk : k ≤ j) : Sh d j := ⟨h.1, Nat.le_trans h.2 hk⟩
theorem dpAll_map {α : Type} {K : PySem.W.Frag} {H : Hp} {f : α → V} {g : α → PyData} : ∀ {l : List α}, (∀ x ∈ l, Dp K H (f x) (g x)) → DpAll K H (l.map f) (l.map g)
  | [], _ => .nil
  | x :: _, h => .cons (h x (.head _)) (dpAll_map fun y hy => h y (.tail _ hy))
def bd (bs : List Bool) : PyData := .tuple (bs.map PyData.bool)
theorem shB (bs : List Bool) : Sh (bd bs) 1 := Sh.tup fun d hd => by
  obtain ⟨b, _, rfl⟩ := List.mem_map.mp hd
  exact Sh.bool b 0
theorem dpB {K : PySem.W.Frag} {H : Hp} {a : Addr} {bs : List Bool} (h : H a = some (.tup (bs.map V.bl))) : Dp K H (.ref a) (bd bs) := .tup (.of h) (dpAll_map fun b _ => .bl b)
theorem eqv_bools : ∀ as bs : List Bool, PyData.eqvAll (as.map PyData.bool) (bs.map PyData.bool) = decide (as = bs)
  | [], [] => by simp [PyData.eqvAll]
  | [], _ :: _ => by simp [PyData.eqvAll]
  | _ :: _, [] => by simp [PyData.eqvAll]
  | a :: as, b :: bs => by
    simp only [List.map_cons, PyData.eqvAll, eqv_bools as bs, List.cons.injEq]
    cases a <;> cases b <;> simp [PyData.eqv]
theorem eqv_bd (as bs : List Bool) : PyData.eqv (bd as) (bd bs) = decide (as = bs) := by
  unfold bd
  simp only [PyData.eqv, eqv_bools]
/-- a word as data -/
def wd : W → PyData
  | .on => .tuple [.str "on"]
  | .off => .tuple [.str "off"]
  | .relay k => .tuple [.str "relay", .int k]
  | .button k => .tuple [.str "button", .int k]
  | .not x => .tuple [.str "not", wd x]
  | .and x y => .tuple [.str "and", wd x, wd y]
  | .or x y => .tuple [.str "or", wd x, wd y]
theorem dpW {K : PySem.W.Frag} {H : Hp} : ∀ {w : W} {a : Addr}, WA H w a → Dp K H (.ref a) (wd w)
  | .on, _, h => .tup (.of h) (.cons (.str _) .nil)
  | .off, _, h => .tup (.of h) (.cons (.str _) .nil)
  | .relay _, _, h => .tup (.of h) (.cons (.str _) (.cons (.int _) .nil))
  | .button _, _, h => .tup (.of h) (.cons (.str _) (.cons (.int _) .nil))
  | .not _, _, h => let ⟨_, e, q⟩ := h; .tup (.of e) (.cons (.str _) (.cons (dpW q) .nil))
  | .and _ _, _, h => let ⟨_, _, e, q, r⟩ := h; .tup (.of e) (.cons (.str _) (.cons (dpW q) (.cons (dpW r) .nil)))
  | .or _ _, _, h => let ⟨_, _, e, q, r⟩ := h; .tup (.of e) (.cons (.str _) (.cons (dpW q) (.cons (dpW r) .nil)))
theorem shW : ∀ w : W, Sh (wd w) w.depth
  | .on => Sh.tup (k := 0) fun d hd => by simp at hd; subst hd; exact Sh.str _ _
  | .off => Sh.tup (k := 0) fun d hd => by simp at hd; subst hd; exact Sh.str _ _
  | .relay _ => Sh.tup (k := 0) fun d hd => by simp at hd; rcases hd with rfl | rfl <;> first | exact Sh.str _ _ | exact Sh.int _ _
  | .button _ => Sh.tup (k := 0) fun d hd => by simp at hd; rcases hd with rfl | rfl <;> first | exact Sh.str _ _ | exact Sh.int _ _
  | .not x => Sh.tup (k := x.depth) fun d hd => by simp at hd; rcases hd with rfl | rfl <;> first | exact Sh.str _ _ | exact shW x
  | .and x y => Sh.tup (k := max x.depth y.depth) fun d hd => by
    simp at hd; rcases hd with rfl | rfl | rfl
    · exact Sh.str _ _
    · exact (shW x).mono (Nat.le_max_left _ _)
    · exact (shW y).mono (Nat.le_max_right _ _)
  | .or x y => Sh.tup (k := max x.depth y.depth) fun d hd => by
    simp at hd; rcases hd with rfl | rfl | rfl
    · exact Sh.str _ _
    · exact (shW x).mono (Nat.le_max_left _ _)
    · exact (shW y).mono (Nat.le_max_right _ _)
/-! ### numbers and bits -/
theorem bit_nat (j k : Nat) : decide ((j : Int) / 2 ^ k % 2 = 1) = Nat.testBit j k := by
  rw [Nat.testBit_eq_decide_div_mod_eq]
  refine decide_eq_decide.mpr ?_
  rw [pow_cast, ← Int.natCast_ediv]
  omega
theorem bits_nat (j n : Nat) : bits (j : Int) n = (List.range n).map (Nat.testBit j) := by
  unfold bits
  exact List.map_congr_left fun k _ => bit_nat j k
theorem bits_mod (j n : Nat) : bits (j : Int) n = bits ((j % 2 ^ n : Nat) : Int) n := by
  rw [bits_nat, bits_nat]
  refine List.map_congr_left fun k hk => ?_
  rw [Nat.testBit_mod_two_pow, decide_eq_true (List.mem_range.mp hk), Bool.true_and]
theorem shr_nat (j n : Nat) : (j : Int) / 2 ^ n = ((j / 2 ^ n : Nat) : Int) := by rw [pow_cast, Int.natCast_ediv]
/-! ### boards -/
def canMove (ws : List W) (ps ss : List Bool) (k : Nat) : Bool := (ws.getD k .off).eval ss ps != ss.getD k false
def movL (ws : List W) (ps ss : List Bool) : List Nat := (List.range ws.length).filter (canMove ws ps ss)
def vn (k : Nat) : V := .int (k : Int)
structure BoardAt (H : Hp) (b : Addr) (us : List V) (ws : List W) (n m : Nat) : Prop where
  lst : H b = some (.lst us)
  was : WAs H ws us
  len : ws.length = n
  n6 : n ≤ 6
  fit : Fits n m 10 ws
theorem BoardAt.same {H H' : Hp} {b : Addr} {us : List V} {ws : List W} {n m : Nat} (B : BoardAt H b us ws n m) (s : Same H H') : BoardAt H' b us ws n m := ⟨s _ _ B.lst, WAs.same s B.was, B.len, B.n6, B.fit⟩
theorem BoardAt.ulen {H : Hp} {b : Addr} {us : List V} {ws : List W} {n m : Nat} (B : BoardAt H b us ws n m) : us.length = n := by rw [← WAs.length B.was]; exact B.len
theorem BoardAt.at {H : Hp} {b : Addr} {us : List V} {ws : List W} {n m : Nat} (B : BoardAt H b us ws n m) {k : Nat} (h : k < n) : ∃ c, us[k]? = some (.ref c) ∧ WA H (ws.getD k .off) c ∧ Fit n m 10 (ws.getD k .off) := by
  have hk : k < ws.length := by rw [B.len]; exact h
  obtain ⟨v, hv, c, rfl, hc⟩ := paired_getl B.was (List.getElem?_eq_getElem hk)
  have e : ws.getD k .off = ws[k] := by rw [List.getD_eq_getElem?_getD, List.getElem?_eq_getElem hk]; rfl
  rw [e]
  exact ⟨c, hv, hc, B.fit _ (List.getElem_mem hk)⟩
theorem Fits.mono {n m : Nat} {d e : Int} {ws : List W} (h : Fits n m d ws) (hd : d ≤ e) : Fits n m e ws := fun w hw => ⟨(h w hw).1, Int.le_trans (h w hw).2 hd⟩
theorem filter_snoc {α : Type} (f : α → Bool) (l : List α) (x : α) : (l ++ [x]).filter f = if f x = true then l.filter f ++ [x] else l.filter f := by
  rw [List.filter_append]
  by_cases h : f x = true
  · rw [if_pos h]; simp [h]
  · rw [if_neg h]; simp [h]
theorem movL_le (ws : List W) (ps ss : List Bool) : (movL ws ps ss).length ≤ ws.length := by
  unfold movL
  have := List.length_filter_le (canMove ws ps ss) (List.range ws.length)
  rw [List.length_range] at this
  exact this
def il (ks : List Nat) : PyData := .list (ks.map fun (k : Nat) => PyData.int (k : Int))
theorem shI (ks : List Nat) : Sh (il ks) 1 := Sh.lst fun d hd => by
  obtain ⟨b, _, rfl⟩ := List.mem_map.mp hd
  exact Sh.int _ 0
theorem dpI {K : PySem.W.Frag} {H : Hp} {a : Addr} {ks : List Nat} (h : H a = some (.lst (ks.map vn))) : Dp K H (.ref a) (il ks) := .lst (.of h) (dpAll_map fun b _ => .int b)
theorem eqv_ints : ∀ as bs : List Nat, PyData.eqvAll (as.map fun (k : Nat) => PyData.int (k : Int)) (bs.map fun (k : Nat) => PyData.int (k : Int)) = decide (as = bs)
  | [], [] => by simp [PyData.eqvAll]
  | [], _ :: _ => by simp [PyData.eqvAll]
  | _ :: _, [] => by simp [PyData.eqvAll]
  | a :: as, b :: bs => by
    simp only [List.map_cons, PyData.eqvAll, eqv_ints as bs, List.cons.injEq]
    by_cases h : a = b
    · subst h; simp [PyData.eqv]
    · have : ¬ (a : Int) = (b : Int) := fun e => h (by omega)
      simp [PyData.eqv, h, this]
theorem eqv_il (as bs : List Nat) : PyData.eqv (il as) (il bs) = decide (as = bs) := by
  unfold il
  simp only [PyData.eqv, eqv_ints]
theorem dpTs {K : PySem.W.Frag} {H : Hp} : ∀ {bss : List (List Bool)} {us : List V}, Tups H bss us → DpAll K H us (bss.map bd)
  | _, _, .nil => .nil
  | _, _, .cons ⟨_, e, h⟩ t => .cons (e ▸ dpB h) (dpTs t)
theorem shTs (bss : List (List Bool)) : Sh (.list (bss.map bd)) 2 := Sh.lst fun d hd => by
  obtain ⟨b, _, rfl⟩ := List.mem_map.mp hd
  exact shB b
theorem dpWs {K : PySem.W.Frag} {H : Hp} : ∀ {ws : List W} {us : List V}, WAs H ws us → DpAll K H us (ws.map wd)
  | _, _, .nil => .nil
  | _, _, .cons ⟨_, e, h⟩ t => .cons (e ▸ dpW h) (dpWs t)
theorem shWs {n m : Nat} {ws : List W} {k : Nat} (h : Fits n m (k : Int) ws) : Sh (.list (ws.map wd)) (k + 1) := Sh.lst fun d hd => by
  obtain ⟨x, hx, rfl⟩ := List.mem_map.mp hd
  exact (shW x).mono (by have := (h x hx).2; omega)
/-! ### classes of the program -/
theorem kit_own {K : PySem.W.Frag} {D C : Addr} {b : Bool} (hC : PySem.W.isClsIn K C = true) (tC : PySem.W.typeIn K (.ref C) = some (.type "type")) (s : PySem.W.subIn K (.ref D) (.ref C) = some b) (self : PySem.W.subIn K (.ref D) (.ref D) = some true) :
    PySem.W.kitOne K (.ref D) (.ref C) = some b := by
  unfold PySem.W.kitOne PySem.W.kitCls
  by_cases h : D = C
  · subst h
    rw [self] at s
    rw [if_pos (beq_self_eq_true _)]
    exact s
  · have h1 : ¬ ((Value.ref D == Value.ref C) = true) := fun e => h (by have := of_decide_eq_true (p := _) e; cases beq_iff_eq.mp e; rfl)
    rw [if_neg h1]
    have e2 : ((PySem.W.clsIn K C).isSome && PySem.W.typeIn K (.ref C) == some (.type "type")) = true := by
      have hC' : (PySem.W.clsIn K C).isSome = true := hC
      rw [hC', tC]; rfl
    show (if ((PySem.W.clsIn K C).isSome && PySem.W.typeIn K (.ref C) == some (.type "type")) = true then PySem.W.subIn K (.ref D) (.ref C) else none) = some b
    rw [if_pos e2]
    exact s
theorem kit_val {K : PySem.W.Frag} {D : Addr} (s : PySem.W.subIn K (.ref D) (.type "ValueError") = some true) : PySem.W.kitOne K (.ref D) (.type "ValueError") = some true := by
  unfold PySem.W.kitOne PySem.W.kitCls
  have h1 : ¬ ((Value.ref D == Value.type "ValueError") = true) := fun e => by cases beq_iff_eq.mp e
  rw [if_neg h1]
  show (if PySem.W.kitMeta "ValueError" = true then PySem.W.subIn K (.ref D) (.type "ValueError") else none) = some true
  rw [if_pos (by decide +kernel)]
  exact s
theorem exm_own {K : PySem.W.Frag} {D C : Addr} (h1 : PySem.W.subIn K (.ref C) (.type "BaseException") = some true) (hC : PySem.W.isClsIn K C = true) (tC : PySem.W.typeIn K (.ref C) = some (.type "type")) (s : PySem.W.subIn K (.ref D) (.ref C) = some true) : PySem.W.exmOne K (.ref D) (.ref C) = some true := by
  have e1 : (PySem.W.subIn K (.ref C) (.type "BaseException") == some true) = true := by rw [h1]; rfl
  have e2 : ((PySem.W.clsIn K C).isSome && PySem.W.typeIn K (.ref C) == some (.type "type")) = true := by
    have hC' : (PySem.W.clsIn K C).isSome = true := hC
    rw [hC', tC]; rfl
  show (if (PySem.W.subIn K (.ref C) (.type "BaseException") == some true) = true then (if ((PySem.W.clsIn K C).isSome && PySem.W.typeIn K (.ref C) == some (.type "type")) = true then PySem.W.subIn K (.ref D) (.ref C) else none) else none) = some true
  rw [if_pos e1, if_pos e2]
  exact s
/-! ### a suite that marks what was caught -/
def rIsX (K : PySem.W.Frag) (a : Addr) (cls : Value) (d : Option Addr) : List V → Hp → VK → Prop := fun xs H Q => ∃ D, cls = .ref D ∧ d = none ∧ ExcC K D ∧ rIsE K D a xs H Q
theorem call_isX {X : Cx} {a : Addr} {oe : Obj} {pn : List (Addr × Obj)} {cls : Value} {d : Option Addr} (hz : Zc cls d oe) (hf : ∃ vs, oe.data = .fields vs) : CallR (X.suite a ((a, oe) :: pn)) (.builtin "isinstance") (rIsX X.K a cls d) := by
  intro pins s σ H xs us Q I r h
  obtain ⟨D, rfl, rfl, E, q⟩ := h
  exact call_isE E hz hf pins s σ H xs us Q I r q
def tMark (K : PySem.W.Frag) (a : Addr) (cls : Value) (d : Option Addr) (i : Nat) (v : V) : TE := tCB (rIsX K a cls d) (tCons (tVar i) (tCons (tC v) tNil))
def tSuite (K : PySem.W.Frag) (c1 c2 c3 c4 c5 c6 : Addr) (i j : Nat) (a : Addr) (cls : Value) (d : Option Addr) : TS :=
  tSeq (tAsg (tLst (tCons (tMark K a cls d i (.ref c1)) (tCons (tMark K a cls d i (.ref c2)) (tCons (tMark K a cls d i (.ref c3)) (tCons (tMark K a cls d i (.ref c4)) tNil))))) (gName j))
    (tAsg (tOp rCat (tVar j) (tLst (tCons (tMark K a cls d i (.ref c5)) (tCons (tMark K a cls d i (.ref c6)) (tCons (tMark K a cls d i (.ty "ValueError")) tNil))))) (gName j))
theorem mark_run {K : PySem.W.Frag} {a D : Addr} {i : Nat} {v : V} {cv : Value} {b : Bool} {σ : St} {H : Hp} {Q : VK} (E : ExcC K D) (hi : σ[i]? = some (some (.ref a))) (hv : ∀ u, RelV v u → u = cv) (k : PySem.W.kitOne K (.ref D) cv = some b) (q : Q (.bl b) H) :
    tMark K a (.ref D) none i v σ H Q := ⟨_, hi, D, rfl, rfl, E, v, cv, b, rfl, hv, k, q⟩
theorem suite_run {K : PySem.W.Frag} {c1 c2 c3 c4 c5 c6 : Addr} {i j : Nat} {a D : Addr} {b1 b2 b3 b4 b5 b6 : Bool} {σ : St} {H : Hp} {Dn : Ends} (E : ExcC K D)
    (k1 : PySem.W.kitOne K (.ref D) (.ref c1) = some b1) (k2 : PySem.W.kitOne K (.ref D) (.ref c2) = some b2) (k3 : PySem.W.kitOne K (.ref D) (.ref c3) = some b3) (k4 : PySem.W.kitOne K (.ref D) (.ref c4) = some b4)
    (k5 : PySem.W.kitOne K (.ref D) (.ref c5) = some b5) (k6 : PySem.W.kitOne K (.ref D) (.ref c6) = some b6) (kv : PySem.W.kitOne K (.ref D) (.type "ValueError") = some true) (hi : σ[i]? = some (some (.ref a))) (hj : j < σ.length) (hij : j ≠ i)
    (q : ∀ (H' : Hp) (p0 p : Addr), Same H H' → H' p = some (.lst ([b1, b2, b3, b4, b5, b6, true].map V.bl)) → Dn.nx ((σ.set j (some (.ref p0))).set j (some (.ref p))) H') : tSuite K c1 c2 c3 c4 c5 c6 i j a (.ref D) none Dn σ H := by
  refine mark_run E hi (fun u h => h) k1 (mark_run E hi (fun u h => h) k2 (mark_run E hi (fun u h => h) k3 (mark_run E hi (fun u h => h) k4 ⟨small10 (Nat.le_of_ble_eq_true rfl), fun p0 np0 => ?_⟩)))
  have s0 : Same H (upd H p0 (.lst [.bl b1, .bl b2, .bl b3, .bl b4])) := Same.new np0
  have e0 : (upd H p0 (.lst [.bl b1, .bl b2, .bl b3, .bl b4])) p0 = some (.lst [.bl b1, .bl b2, .bl b3, .bl b4]) := upd_same
  generalize upd H p0 (.lst [.bl b1, .bl b2, .bl b3, .bl b4]) = H1 at *
  have hi2 : (σ.set j (some (.ref p0)))[i]? = some (some (.ref a)) := by rw [List.getElem?_set_ne hij]; exact hi
  refine ⟨_, List.getElem?_set_self hj, ?_⟩
  refine mark_run E hi2 (fun u h => h) k5 (mark_run E hi2 (fun u h => h) k6 (mark_run E hi2 (fun u h => h) kv ⟨small10 (Nat.le_of_ble_eq_true rfl), fun p1 np1 => ?_⟩))
  have s1 : Same H1 (upd H1 p1 (.lst [.bl b5, .bl b6, .bl true])) := Same.new np1
  have e1 : (upd H1 p1 (.lst [.bl b5, .bl b6, .bl true])) p1 = some (.lst [.bl b5, .bl b6, .bl true]) := upd_same
  generalize upd H1 p1 (.lst [.bl b5, .bl b6, .bl true]) = H2 at *
  refine ⟨p0, p1, _, _, rfl, rfl, s1 _ _ e0, e1, small10 (Nat.le_of_ble_eq_true rfl), fun p2 np2 => ?_⟩
  exact q _ p0 p2 (s0.trans (s1.trans (Same.new np2))) upd_same
/-! ### walks -/
def flip (ss : List Bool) (k : Nat) : List Bool := ss.set k (!ss.getD k false)
theorem flip_len (ss : List Bool) (k : Nat) : (flip ss k).length = ss.length := List.length_set
inductive WR where
  | norelay | still | at (ss : List Bool)
def walkR (ws : List W) (ps : List Bool) : List Bool → List Int → WR
  | ss, [] => .at ss
  | ss, r :: rs => if 0 ≤ r ∧ r < (ws.length : Int) then (if canMove ws ps ss r.toNat = true then walkR ws ps (flip ss r.toNat) rs else .still) else .norelay
theorem walkR_snoc (ws : List W) (ps : List Bool) (r : Int) : ∀ (rs : List Int) (ss : List Bool), walkR ws ps ss (rs ++ [r]) = match walkR ws ps ss rs with
    | .at t => walkR ws ps t [r]
    | e => e
  | [], ss => rfl
  | x :: rs, ss => by
    show walkR ws ps ss (x :: (rs ++ [r])) = _
    simp only [walkR]
    by_cases h : 0 ≤ x ∧ x < (ws.length : Int)
    · rw [if_pos h, if_pos h]
      by_cases h2 : canMove ws ps ss x.toNat = true
      · rw [if_pos h2, if_pos h2]; exact walkR_snoc ws ps r rs _
      · rw [if_neg h2, if_neg h2]
    · rw [if_neg h, if_neg h]
theorem flip_get (ss : List Bool) (k i : Nat) (h : i < ss.length) : (flip ss k)[i]? = some (ss.getD i false != (decide (i = k))) := by
  unfold flip
  have e : ss.getD i false = ss[i] := by rw [List.getD_eq_getElem?_getD, List.getElem?_eq_getElem h]; rfl
  by_cases hk : i = k
  · subst hk
    rw [List.getElem?_set_self h, decide_eq_true rfl]
    cases ss.getD i false <;> rfl
  · rw [List.getElem?_set_ne (Ne.symm hk), decide_eq_false hk, List.getElem?_eq_getElem h, e]
    cases ss[i] <;> rfl
theorem mem_movL {ws : List W} {ps ss : List Bool} {k : Nat} : k ∈ movL ws ps ss ↔ k < ws.length ∧ canMove ws ps ss k = true := by
  unfold movL
  rw [List.mem_filter, List.mem_range]
theorem inV_vn (r : Int) : ∀ ks : List Nat, inV (.int r) (ks.map vn) = ks.any (fun k => decide ((k : Int) = r))
  | [] => rfl
  | x :: rest => by
    show (eqV (.int x) (.int r) || inV (.int r) (rest.map vn)) = (decide ((x : Int) = r) || rest.any (fun k => decide ((k : Int) = r)))
    rw [inV_vn r rest]
    have e : eqV (.int x) (.int r) = decide ((x : Int) = r) := by
      show ((x : Int) == r) = decide ((x : Int) = r)
      exact Bool.beq_eq_decide_eq ..
    rw [e]
theorem flat_vn : ∀ ks : List Nat, (ks.map vn).all flatV = true
  | [] => rfl
  | _ :: r => flat_vn r
end Rl

namespace Rl
open PySem L2
/-! ### how many stands there are -/
theorem nodup_len {α : Type} [DecidableEq α] : ∀ {l m : List α}, l.Nodup → (∀ x ∈ l, x ∈ m) → l.length ≤ m.length
  | [], m, _, _ => Nat.zero_le _
  | x :: l, m, hn, hs => by
    rw [List.nodup_cons] at hn
    have hx : x ∈ m := hs x List.mem_cons_self
    have h := nodup_len (l := l) (m := m.erase x) hn.2 fun y hy => by
      have : y ≠ x := fun e => hn.1 (e ▸ hy)
      exact (List.mem_erase_of_ne this).mpr (hs y (List.mem_cons_of_mem _ hy))
    rw [List.length_erase_of_mem hx] at h
    have := List.length_pos_of_mem hx
    rw [List.length_cons]; omega
def allOf : Nat → List (List Bool)
  | 0 => [[]]
  | n + 1 => (allOf n).map (true :: ·) ++ (allOf n).map (false :: ·)
theorem allOf_len : ∀ n, (allOf n).length = 2 ^ n
  | 0 => rfl
  | n + 1 => by
    show ((allOf n).map (true :: ·) ++ (allOf n).map (false :: ·)).length = _
    rw [List.length_append, List.length_map, List.length_map, allOf_len n, Nat.pow_succ]; omega
theorem mem_allOf : ∀ (bs : List Bool), bs ∈ allOf bs.length
  | [] => List.mem_singleton.mpr rfl
  | b :: bs => by
    show (b :: bs) ∈ (allOf bs.length).map (true :: ·) ++ (allOf bs.length).map (false :: ·)
    cases b
    · exact List.mem_append.mpr (.inr (List.mem_map.mpr ⟨bs, mem_allOf bs, rfl⟩))
    · exact List.mem_append.mpr (.inl (List.mem_map.mpr ⟨bs, mem_allOf bs, rfl⟩))
theorem stands_le {n : Nat} {ks : List (List Bool)} (h : ks.Nodup) (hl : ∀ k ∈ ks, k.length = n) (h6 : n ≤ 6) : ks.length ≤ 64 := by
  have h1 := nodup_len (m := allOf n) h fun k hk => by have := mem_allOf k; rw [hl k hk] at this; exact this
  rw [allOf_len] at h1
  exact Nat.le_trans h1 (pow_le64 h6)
theorem take_filt {α : Type} (f : α → Bool) {l : List α} {i : Nat} {x : α} (h : l[i]? = some x) : (l.take (i + 1)).filter f = if f x = true then (l.take i).filter f ++ [x] else (l.take i).filter f := by
  rw [List.take_add_one, h]
  exact filter_snoc f _ x
/-! ### walks -/
section
variable {ws : List W} {ps : List Bool}
def Road (ws : List W) (ps : List Bool) : List Bool → List Nat → List Bool → Prop
  | ss, [], tt => ss = tt
  | ss, r :: rs, tt => r ∈ movL ws ps ss ∧ Road ws ps (flip ss r) rs tt
theorem Road.append : ∀ {rs qs : List Nat} {ss tt uu : List Bool}, Road ws ps ss rs tt → Road ws ps tt qs uu → Road ws ps ss (rs ++ qs) uu
  | [], _, _, _, _, h, q => by cases (show _ = _ from h); exact q
  | _ :: _, _, _, _, _, ⟨h1, h2⟩, q => ⟨h1, Road.append h2 q⟩
theorem Road.snoc {rs : List Nat} {r : Nat} {ss tt : List Bool} (h : Road ws ps ss rs tt) (m : r ∈ movL ws ps tt) : Road ws ps ss (rs ++ [r]) (flip tt r) := h.append ⟨m, rfl⟩
theorem Road.len : ∀ {rs : List Nat} {ss tt : List Bool}, Road ws ps ss rs tt → tt.length = ss.length
  | [], _, _, h => by cases (show _ = _ from h); rfl
  | _ :: _, _, _, ⟨_, h⟩ => by rw [Road.len h, flip_len]
def Reach (ws : List W) (ps : List Bool) (ss tt : List Bool) : Prop := ∃ rs, Road ws ps ss rs tt
theorem Reach.refl (ss : List Bool) : Reach ws ps ss ss := ⟨[], rfl⟩
theorem Reach.step {ss tt : List Bool} {r : Nat} (h : Reach ws ps ss tt) (m : r ∈ movL ws ps tt) : Reach ws ps ss (flip tt r) := let ⟨rs, q⟩ := h; ⟨_, q.snoc m⟩
theorem Reach.trans {ss tt uu : List Bool} (h : Reach ws ps ss tt) (q : Reach ws ps tt uu) : Reach ws ps ss uu := let ⟨_, a⟩ := h; let ⟨_, b⟩ := q; ⟨_, a.append b⟩
theorem Reach.len {ss tt : List Bool} (h : Reach ws ps ss tt) : tt.length = ss.length := let ⟨_, q⟩ := h; q.len
def Closed (ws : List W) (ps : List Bool) (ks : List (List Bool)) : Prop := ∀ t ∈ ks, ∀ k ∈ movL ws ps t, flip t k ∈ ks
theorem Closed.road {ks : List (List Bool)} (c : Closed ws ps ks) : ∀ {rs : List Nat} {ss tt : List Bool}, ss ∈ ks → Road ws ps ss rs tt → tt ∈ ks
  | [], _, _, h, r => by cases (show _ = _ from r); exact h
  | _ :: _, _, _, h, ⟨m, r⟩ => c.road (c _ h _ m) r
theorem Closed.reach {ks : List (List Bool)} (c : Closed ws ps ks) {ss tt : List Bool} (h : ss ∈ ks) (r : Reach ws ps ss tt) : tt ∈ ks := let ⟨_, q⟩ := r; c.road h q
/-- just the stands that can be come to -/
structure Stands (ws : List W) (ps ss : List Bool) (ks : List (List Bool)) : Prop where
  nodup : ks.Nodup
  mem : ∀ t, t ∈ ks ↔ Reach ws ps ss t
theorem Stands.of {ss : List Bool} {ks : List (List Bool)} (n : ks.Nodup) (h : ss ∈ ks) (c : Closed ws ps ks) (r : ∀ t ∈ ks, Reach ws ps ss t) : Stands ws ps ss ks := ⟨n, fun t => ⟨r t, c.reach h⟩⟩
theorem Stands.closed {ss : List Bool} {ks : List (List Bool)} (S : Stands ws ps ss ks) : Closed ws ps ks := fun t ht k hk => (S.mem _).mpr (((S.mem t).mp ht).step hk)
theorem Stands.le {ss : List Bool} {ks : List (List Bool)} (S : Stands ws ps ss ks) (h : ss.length ≤ 6) : ks.length ≤ 64 := stands_le S.nodup (fun k hk => ((S.mem k).mp hk).len) h
theorem Stands.self {ss : List Bool} {ks : List (List Bool)} (S : Stands ws ps ss ks) : ss ∈ ks := (S.mem ss).mpr (.refl ss)
/-! ### papers -/
abbrev Pap := List (List Bool × Nat)
def look (P : Pap) (k : List Bool) : Option Nat := (P.find? fun x => decide (x.1 = k)).map (·.2)
theorem look_nil (k : List Bool) : look [] k = none := rfl
theorem look_cons (x : List Bool × Nat) (P : Pap) (k : List Bool) : look (x :: P) k = if x.1 = k then some x.2 else look P k := by
  unfold look
  rw [List.find?_cons]
  by_cases h : x.1 = k
  · rw [if_pos h, decide_eq_true h]; rfl
  · rw [if_neg h, decide_eq_false h]
theorem look_none : ∀ {P : Pap} {k : List Bool}, look P k = none ↔ k ∉ P.map (·.1)
  | [], k => ⟨fun _ h => (nomatch h), fun _ => rfl⟩
  | x :: P, k => by
    rw [look_cons, List.map_cons, List.mem_cons]
    by_cases h : x.1 = k
    · rw [if_pos h]; exact ⟨fun z => (nomatch z), fun z => absurd (.inl h.symm) z⟩
    · rw [if_neg h, look_none]
      exact ⟨fun z q => q.elim (fun e => h e.symm) z, fun z q => z (.inr q)⟩
theorem look_mem : ∀ {P : Pap} {k : List Bool} {v : Nat}, look P k = some v → (k, v) ∈ P
  | [], _, _, h => nomatch h
  | x :: P, k, v, h => by
    rw [look_cons] at h
    by_cases e : x.1 = k
    · rw [if_pos e] at h
      cases h; subst e; exact List.mem_cons_self
    · rw [if_neg e] at h
      exact List.mem_cons_of_mem _ (look_mem h)
theorem look_of : ∀ {P : Pap} {k : List Bool} {v : Nat}, (P.map (·.1)).Nodup → (k, v) ∈ P → look P k = some v
  | [], _, _, _, h => nomatch h
  | x :: P, k, v, n, h => by
    rw [List.map_cons, List.nodup_cons] at n
    rw [look_cons]
    rcases List.mem_cons.mp h with e | h
    · subst e; exact if_pos rfl
    · have : x.1 ≠ k := fun e => n.1 (List.mem_map.mpr ⟨_, h, e.symm⟩)
      rw [if_neg this]; exact look_of n.2 h
theorem look_some {P : Pap} {k : List Bool} : k ∈ P.map (·.1) ↔ ∃ v, look P k = some v := by
  cases h : look P k with
  | none => exact ⟨fun q => absurd q (look_none.mp h), fun ⟨v, e⟩ => (nomatch e)⟩
  | some v => exact ⟨fun _ => ⟨v, rfl⟩, fun _ => List.mem_map.mpr ⟨_, look_mem h, rfl⟩⟩
def papV (P : Pap) : List (List Bool × V) := P.map fun x => (x.1, vn x.2)
theorem papV_keys (P : Pap) : (papV P).map (·.1) = P.map (·.1) := by unfold papV; rw [List.map_map]; rfl
theorem papV_len (P : Pap) : (papV P).length = P.length := List.length_map _
theorem papV_snoc (P : Pap) (k : List Bool) (v : Nat) : papV P ++ [(k, vn v)] = papV (P ++ [(k, v)]) := by unfold papV; rw [List.map_append]; rfl
theorem valV_cons {κ : Type} [DecidableEq κ] (x : κ × V) (l : List (κ × V)) (k : κ) : valV (x :: l) k = if x.1 = k then some x.2 else valV l k := by
  by_cases h : x.1 = k
  · rw [if_pos h, valV_pos h]
  · rw [if_neg h, valV_neg h]
theorem valV_papV : ∀ (P : Pap) (k : List Bool), valV (papV P) k = (look P k).map vn
  | [], _ => rfl
  | x :: P, k => by
    show valV ((x.1, vn x.2) :: papV P) k = _
    rw [valV_cons, look_cons, valV_papV P k]
    by_cases h : x.1 = k
    · rw [if_pos h, if_pos h]; rfl
    · rw [if_neg h, if_neg h]
theorem valV_iff {κ : Type} [DecidableEq κ] : ∀ (l : List (κ × V)) (k : κ), (valV l k).isSome = true ↔ k ∈ l.map (·.1)
  | [], k => ⟨fun h => (nomatch h), fun h => (nomatch h)⟩
  | x :: l, k => by
    rw [valV_cons, List.map_cons, List.mem_cons]
    by_cases h : x.1 = k
    · rw [if_pos h]; exact ⟨fun _ => .inl h.symm, fun _ => rfl⟩
    · rw [if_neg h, valV_iff l k]
      exact ⟨.inr, fun q => q.elim (fun e => absurd e.symm h) id⟩
theorem val_in {κ : Type} [DecidableEq κ] {l : List (κ × V)} {k : κ} (h : (valV l k).isSome = true) : k ∈ l.map (·.1) := (valV_iff l k).mp h
theorem val_out {κ : Type} [DecidableEq κ] {l : List (κ × V)} {k : κ} (h : (valV l k).isSome = false) : k ∉ l.map (·.1) := fun q => by rw [(valV_iff l k).mpr q] at h; cases h
theorem in_val {κ : Type} [DecidableEq κ] {l : List (κ × V)} {k : κ} (h : k ∈ l.map (·.1)) : (valV l k).isSome = true := (valV_iff l k).mpr h
theorem out_val {κ : Type} [DecidableEq κ] {l : List (κ × V)} {k : κ} (h : k ∉ l.map (·.1)) : (valV l k).isSome = false := by
  cases e : (valV l k).isSome with
  | false => rfl
  | true => exact absurd (val_in e) h
theorem valV_of {κ : Type} [DecidableEq κ] : ∀ {l : List (κ × V)} {k : κ} {v : V}, (l.map (·.1)).Nodup → (k, v) ∈ l → valV l k = some v
  | [], _, _, _, h => nomatch h
  | x :: l, k, v, n, h => by
    rw [List.map_cons, List.nodup_cons] at n
    rw [valV_cons]
    rcases List.mem_cons.mp h with e | h
    · subst e; exact if_pos rfl
    · have : x.1 ≠ k := fun e => n.1 (List.mem_map.mpr ⟨_, h, e.symm⟩)
      rw [if_neg this]; exact valV_of n.2 h
theorem putK_fresh {κ : Type} [DecidableEq κ] {l : List (κ × V)} {k : κ} (v : V) (h : k ∉ l.map (·.1)) : putK l k v = l ++ [(k, v)] := by
  refine putK_new v ?_
  have := out_val h
  cases e : valV l k with
  | none => rfl
  | some x => rw [e] at this; cases this
/-- numbers that fall along each move, for stands from which every walk ends -/
structure Falls (ws : List W) (ps : List Bool) (P : Pap) : Prop where
  nodup : (P.map (·.1)).Nodup
  fall : ∀ t v, look P t = some v → ∀ k ∈ movL ws ps t, ∃ u, look P (flip t k) = some u ∧ u < v
  zero : ∀ t, look P t = some 0 ↔ (t ∈ P.map (·.1) ∧ movL ws ps t = [])
  low : ∀ t v, look P t = some v → v < P.length
/-- told to settle -/
structure Settles (ws : List W) (ps ss rest : List Bool) (P : Pap) : Prop where
  stands : Stands ws ps ss (P.map (·.1))
  falls : Falls ws ps P
  here : rest ∈ P.map (·.1)
  rest : ∀ t ∈ P.map (·.1), movL ws ps t = [] ↔ t = rest
structure Parts (ws : List W) (ps ss : List Bool) (r1 r2 : List Nat) (t1 t2 : List Bool) : Prop where
  road1 : Road ws ps ss r1 t1
  road2 : Road ws ps ss r2 t2
  rest1 : movL ws ps t1 = []
  rest2 : movL ws ps t2 = []
  ne : t1 ≠ t2
structure Rounds (ws : List W) (ps ss : List Bool) (r1 r2 : List Nat) (t : List Bool) : Prop where
  road : Road ws ps ss r1 t
  ring : Road ws ps t r2 t
  ne : r2 ≠ []
theorem Falls.road {P : Pap} (F : Falls ws ps P) : ∀ {rs : List Nat} {ss tt : List Bool} {v : Nat}, look P ss = some v → Road ws ps ss rs tt → ∃ u, look P tt = some u ∧ u + rs.length ≤ v
  | [], _, _, v, h, r => by cases (show _ = _ from r); exact ⟨v, h, Nat.le_refl _⟩
  | k :: rs, _, _, v, h, ⟨m, r⟩ => by
    obtain ⟨u, hu, lt⟩ := F.fall _ _ h _ m
    obtain ⟨x, hx, le⟩ := F.road hu r
    exact ⟨x, hx, by rw [List.length_cons]; omega⟩
theorem Settles.no_ring {ss rest t : List Bool} {P : Pap} {r1 r2 : List Nat} (S : Settles ws ps ss rest P) (R : Rounds ws ps ss r1 r2 t) : False := by
  obtain ⟨v, hv⟩ := look_some.mp ((S.stands.mem t).mpr ⟨_, R.road⟩)
  obtain ⟨u, hu, le⟩ := S.falls.road hv R.ring
  rw [hv] at hu
  cases hu
  have : 0 < r2.length := List.length_pos_iff.mpr R.ne
  omega
theorem Settles.no_parts {ss rest t1 t2 : List Bool} {P : Pap} {r1 r2 : List Nat} (S : Settles ws ps ss rest P) (R : Parts ws ps ss r1 r2 t1 t2) : False :=
  R.ne (((S.rest t1 ((S.stands.mem t1).mpr ⟨_, R.road1⟩)).mp R.rest1).trans ((S.rest t2 ((S.stands.mem t2).mpr ⟨_, R.road2⟩)).mp R.rest2).symm)
theorem Settles.rest_eq {ss rest rest2 : List Bool} {P P2 : Pap} (S : Settles ws ps ss rest P) (S2 : Settles ws ps ss rest2 P2) : rest = rest2 := by
  have h := (S.rest rest S.here).mpr rfl
  exact (S2.rest rest ((S2.stands.mem _).mpr ((S.stands.mem _).mp S.here))).mp h
theorem look_snoc : ∀ {P : Pap} {t : List Bool} {v : Nat} (k : List Bool), t ∉ P.map (·.1) → look (P ++ [(t, v)]) k = if t = k then some v else look P k
  | [], t, v, k, _ => look_cons _ _ _
  | x :: P, t, v, k, h => by
    rw [List.map_cons, List.mem_cons] at h
    show look (x :: (P ++ [(t, v)])) k = _
    rw [look_cons, look_cons]
    by_cases e : x.1 = k
    · have : t ≠ k := fun z => h (.inl (z.trans e.symm))
      rw [if_pos e, if_neg this, if_pos e]
    · rw [if_neg e, if_neg e, look_snoc k fun z => h (.inr z)]
def maxI (d : Int) : List Int → Int
  | [] => d
  | y :: ys => ys.foldl max y
def tops : List Nat → Nat
  | [] => 0
  | y :: ys => 1 + ys.foldl max y
theorem fold_ge : ∀ (ys : List Nat) (y : Nat), y ≤ ys.foldl max y ∧ ∀ x ∈ ys, x ≤ ys.foldl max y
  | [], y => ⟨Nat.le_refl _, fun _ h => (nomatch h)⟩
  | z :: ys, y => by
    obtain ⟨h1, h2⟩ := fold_ge ys (max y z)
    refine ⟨Nat.le_trans (Nat.le_max_left _ _) h1, fun x hx => ?_⟩
    rcases List.mem_cons.mp hx with rfl | hx
    · exact Nat.le_trans (Nat.le_max_right _ _) h1
    · exact h2 x hx
theorem fold_lt {B : Nat} : ∀ (ys : List Nat) (y : Nat), y < B → (∀ x ∈ ys, x < B) → ys.foldl max y < B
  | [], y, h, _ => h
  | z :: ys, y, h, k => fold_lt ys (max y z) (Nat.max_lt.mpr ⟨h, k z List.mem_cons_self⟩) fun x hx => k x (List.mem_cons_of_mem _ hx)
theorem tops_lt {l : List Nat} {x : Nat} (h : x ∈ l) : x < tops l := by
  cases l with
  | nil => cases h
  | cons y ys =>
    obtain ⟨h1, h2⟩ := fold_ge ys y
    show x < 1 + _
    rcases List.mem_cons.mp h with rfl | h
    · omega
    · have := h2 x h; omega
theorem tops_le {l : List Nat} {B : Nat} (h : ∀ x ∈ l, x < B) : tops l ≤ B := by
  cases l with
  | nil => exact Nat.zero_le _
  | cons y ys =>
    have := fold_lt ys y (h y List.mem_cons_self) fun x hx => h x (List.mem_cons_of_mem _ hx)
    show 1 + _ ≤ _
    omega
theorem tops_zero {l : List Nat} : tops l = 0 ↔ l = [] := by
  cases l with
  | nil => exact ⟨fun _ => rfl, fun _ => rfl⟩
  | cons y ys => exact ⟨fun h => absurd (show 1 + _ = 0 from h) (by omega), fun h => nomatch h⟩
theorem fold_cast : ∀ (ys : List Nat) (y : Nat), (ys.map fun (k : Nat) => (k : Int)).foldl max (y : Int) = ((ys.foldl max y : Nat) : Int)
  | [], y => rfl
  | z :: ys, y => by
    have := fold_cast ys (max y z)
    rw [List.map_cons, List.foldl_cons, List.foldl_cons, ← this]
    congr 1
    omega
theorem tops_int (l : List Nat) : (1 : Int) + maxI (-1) (l.map fun (k : Nat) => (k : Int)) = ((tops l : Nat) : Int) := by
  cases l with
  | nil => rfl
  | cons y ys =>
    show (1 : Int) + (ys.map fun (k : Nat) => (k : Int)).foldl max (y : Int) = ((1 + ys.foldl max y : Nat) : Int)
    rw [fold_cast]; omega
/-- the numbers behind t's moves -/
def behind (ws : List W) (ps : List Bool) (P : Pap) (t : List Bool) : List Nat := (movL ws ps t).map fun k => (look P (flip t k)).getD 0
theorem Falls.snoc {P : Pap} {t : List Bool} (F : Falls ws ps P) (ht : t ∉ P.map (·.1)) (h : ∀ k ∈ movL ws ps t, flip t k ∈ P.map (·.1)) : Falls ws ps (P ++ [(t, tops (behind ws ps P t))]) := by
  have keys : (P ++ [(t, tops (behind ws ps P t))]).map (·.1) = P.map (·.1) ++ [t] := by rw [List.map_append]; rfl
  have hb : ∀ k ∈ movL ws ps t, ∃ u, look P (flip t k) = some u ∧ u ∈ behind ws ps P t := fun k hk => by
    obtain ⟨u, hu⟩ := look_some.mp (h k hk)
    exact ⟨u, hu, List.mem_map.mpr ⟨k, hk, by rw [hu]; rfl⟩⟩
  have bl : ∀ x ∈ behind ws ps P t, x < P.length := fun x hx => by
    obtain ⟨k, hk, rfl⟩ := List.mem_map.mp hx
    obtain ⟨u, hu, _⟩ := hb k hk
    rw [hu]; exact F.low _ _ hu
  have other : ∀ u ∈ P.map (·.1), look (P ++ [(t, tops (behind ws ps P t))]) u = look P u := fun u hu => by
    have : t ≠ u := fun e => ht (e ▸ hu)
    rw [look_snoc u ht, if_neg this]
  have self : look (P ++ [(t, tops (behind ws ps P t))]) t = some (tops (behind ws ps P t)) := by rw [look_snoc t ht, if_pos rfl]
  refine ⟨?_, ?_, ?_, ?_⟩
  · rw [keys]
    refine List.nodup_append.mpr ⟨F.nodup, List.nodup_cons.mpr ⟨(fun h => nomatch h), List.nodup_nil⟩, fun a ha b hb e => ?_⟩
    rw [List.mem_singleton.mp hb] at e
    exact ht (e ▸ ha)
  · intro u v hu k hk
    by_cases e : t = u
    · subst e
      rw [self] at hu
      cases hu
      obtain ⟨x, hx, hm⟩ := hb k hk
      exact ⟨x, by rw [other _ (h k hk)]; exact hx, tops_lt hm⟩
    · rw [look_snoc u ht, if_neg e] at hu
      obtain ⟨x, hx, lt⟩ := F.fall u v hu k hk
      exact ⟨x, by rw [other _ (look_some.mpr ⟨x, hx⟩)]; exact hx, lt⟩
  · intro u
    rw [keys, List.mem_append, List.mem_singleton, look_snoc u ht]
    by_cases e : t = u
    · subst e
      rw [if_pos rfl]
      constructor
      · intro z
        have z : tops (behind ws ps P t) = 0 := Option.some.inj z
        refine ⟨.inr rfl, ?_⟩
        have := tops_zero.mp z
        exact List.map_eq_nil_iff.mp this
      · rintro ⟨_, z⟩
        have : behind ws ps P t = [] := by unfold behind; rw [z]; rfl
        rw [this]; rfl
    · rw [if_neg e, F.zero u]
      exact ⟨fun ⟨a, b⟩ => ⟨.inl a, b⟩, fun ⟨a, b⟩ => ⟨a.resolve_right fun z => e z.symm, b⟩⟩
  · intro u v hu
    rw [List.length_append, List.length_singleton]
    by_cases e : t = u
    · rw [look_snoc u ht, if_pos e] at hu
      cases hu
      have := tops_le bl; omega
    · rw [look_snoc u ht, if_neg e] at hu
      have := F.low u v hu; omega
theorem Falls.ends {P : Pap} (F : Falls ws ps P) : ∀ (v : Nat) (t : List Bool), look P t = some v → ∃ u ∈ P.map (·.1), movL ws ps u = [] := by
  intro v
  induction v using Nat.strongRecOn with
  | _ v ih =>
    intro t ht
    cases h : movL ws ps t with
    | nil => exact ⟨t, look_some.mpr ⟨v, ht⟩, h⟩
    | cons k ks =>
      obtain ⟨u, hu, lt⟩ := F.fall t v ht k (by rw [h]; exact List.mem_cons_self)
      exact ih u lt _ hu
end
end Rl

namespace Rl
open PySem PySem.Spec L2
/-! ### dicts whose keys are tuples of truth values -/
abbrev BK (P : Program) (w : World) : HeapKind P w (List Bool) := tupleKind (PpSet.boolK P w)
def bEnt (x : List Bool × Addr × Value) : DictEntry := ⟨reduceHash (Builtin.Tuple.tupleHashOf (x.1.map PpSet.hB)), .ref x.2.1, x.2.2⟩
theorem bEnt_eq (P : Program) (w : World) : bEnt = entryOfKey (BK P w) := rfl
def bFits (a : Addr) (bs : List Addr) (kvs : List (List Bool × V)) (h : Heap) : Prop :=
  kvs.length ≤ sizeLine ∧ (a == sysModules) = false ∧ ∃ xs : List (List Bool × Addr × Value), KV kvs (pairsH xs) ∧ xs.map (fun x => x.2.1) = bs ∧
    ∃ o ens ep, h.get? a = some o ∧ o.ExactDict ∧ o.data = .dict ens ep ∧ ens.toList = xs.map bEnt ∧ (xs.map (·.1)).Nodup
/-- the dict at a, its keys at bs -/
def bD (a : Addr) (bs : List Addr) (kvs : List (List Bool × V)) : HO := .ext (bFits a bs kvs)
theorem bD_ok {P : Program} {w : World} {H : Hp} {h : Heap} {a : Addr} {bs : List Addr} {kvs : List (List Bool × V)} (q : bFits a bs kvs h) : ObjOk P w H h a (bD a bs kvs) := by
  refine ⟨q, ?_, ?_⟩
  · obtain ⟨_, _, _, _, _, o, _, _, e, _⟩ := q; exact ⟨o, e⟩
  · rintro h1 h2 ⟨z, y, xs, r, l, o, ens, ep, e, c⟩ k
    exact ⟨z, y, xs, r, l, o, ens, ep, k o e, c⟩
/-- the keys' tuples -/
def KAt (H : Hp) (bs : List Addr) (ks : List (List Bool)) : Prop := Paired (fun b (k : List Bool) => H b = some (.tup (k.map V.bl))) bs ks
theorem KAt.tk {H H' : Hp} {bs : List Addr} {ks : List (List Bool)} (h : KAt H bs ks) (t : Tk H H') : KAt H' bs ks := Paired.mapP h fun _ _ e => t _ _ e
def DBat (H : Hp) (a : Addr) (kvs : List (List Bool × V)) : Prop := ∃ bs, H a = some (bD a bs kvs) ∧ KAt H bs (kvs.map (·.1)) ∧ (kvs.map (·.1)).Nodup
theorem DBat.same {H H' : Hp} {a : Addr} {kvs : List (List Bool × V)} (h : DBat H a kvs) (s : Same H H') : DBat H' a kvs := by
  obtain ⟨bs, e, k, n⟩ := h
  exact ⟨bs, s _ _ e, k.tk (Same.tk s), n⟩
theorem DBat.at {H H' : Hp} {a : Addr} {kvs : List (List Bool × V)} (h : DBat H a kvs) (e : H' a = H a) (t : Tk H H') : DBat H' a kvs := by
  obtain ⟨bs, e1, k, n⟩ := h
  exact ⟨bs, e.trans e1, k.tk t, n⟩
theorem DBat.nodup {H : Hp} {a : Addr} {kvs : List (List Bool × V)} (h : DBat H a kvs) : (kvs.map (·.1)).Nodup := let ⟨_, _, _, n⟩ := h; n
theorem bItems {P : Program} {w : World} : ∀ {k : List Bool} {us : List Value}, Vals (k.map V.bl) us → ItemsAre (PpSet.boolK P w) k us
  | [], _, r => by rw [List.map_nil] at r; cases r; exact .nil
  | b :: k, _, r => by
    rw [List.map_cons] at r
    cases r with
    | @cons _ u _ _ h t =>
      cases (show u = Value.bool b from h)
      exact .cons (PpSet.boolK_is P w b) (bItems t)
theorem bKey {P : Program} {w : World} {H : Hp} {h : Heap} {a : Addr} {k : List Bool} (ok : HOk P w H h) (e : H a = some (.tup (k.map V.bl))) : (BK P w).is h k a := by
  obtain ⟨_, its, r, ob, e1, e2, n, e3⟩ := (show ObjOk P w H h a (.tup (k.map V.bl)) from ok a _ e)
  exact ⟨ob, its.toArray, n, e1, e2, e3, by simpa using bItems r⟩
theorem kat_iff {H : Hp} : ∀ {xs : List (List Bool × Addr × Value)}, KAt H (xs.map fun x => x.2.1) (xs.map (·.1)) ↔ ∀ x ∈ xs, H x.2.1 = some (.tup (x.1.map V.bl))
  | [] => ⟨(fun _ _ h => nomatch h), (fun _ => .nil)⟩
  | x :: xs => by
    rw [List.map_cons, List.map_cons]
    constructor
    · intro h
      cases h with
      | cons r t =>
        intro y hy
        rcases List.mem_cons.mp hy with rfl | hy
        · exact r
        · exact (kat_iff.mp t) y hy
    · intro h
      exact .cons (h x List.mem_cons_self) (kat_iff.mpr fun y hy => h y (List.mem_cons_of_mem _ hy))
theorem pairs_keys (xs : List (List Bool × Addr × Value)) : (pairsH xs).map (·.1) = xs.map (·.1) := by
  unfold pairsH; rw [List.map_map]; rfl
theorem bOf {P : Program} {w : World} {H : Hp} {h : Heap} {a : Addr} {bs : List Addr} {kvs : List (List Bool × V)} (ok : HOk P w H h) (q : bFits a bs kvs h) (k : KAt H bs (kvs.map (·.1))) :
    kvs.length ≤ sizeLine ∧ (a == sysModules) = false ∧ ∃ xs : List (List Bool × Addr × Value), KV kvs (pairsH xs) ∧ xs.map (fun x => x.2.1) = bs ∧ h.DictOfH (BK P w) a xs := by
  obtain ⟨z, y, xs, r, l, o, ens, ep, e, c, d, f, n⟩ := q
  refine ⟨z, y, xs, r, l, o, ens, ep, e, c, d, f, fun x hx => ?_, n⟩
  rw [← l, KV.keys r, pairs_keys] at k
  exact bKey ok (kat_iff.mp k x hx)
theorem DBat.of {P : Program} {w : World} {H : Hp} {h : Heap} {a : Addr} {kvs : List (List Bool × V)} (ok : HOk P w H h) (d : DBat H a kvs) :
    ∃ bs, H a = some (bD a bs kvs) ∧ KAt H bs (kvs.map (·.1)) ∧ kvs.length ≤ sizeLine ∧ (a == sysModules) = false ∧ ∃ xs : List (List Bool × Addr × Value), KV kvs (pairsH xs) ∧ xs.map (fun x => x.2.1) = bs ∧ h.DictOfH (BK P w) a xs := by
  obtain ⟨bs, e, k, _⟩ := d
  have q : ObjOk P w H h a (bD a bs kvs) := ok a _ e
  exact ⟨bs, e, k, bOf ok q.1 k⟩
theorem dictH_bFits {P : Program} {w : World} {h : Heap} {a : Addr} {kvs : List (List Bool × V)} {xs : List (List Bool × Addr × Value)} (z : kvs.length ≤ sizeLine) (y : (a == sysModules) = false) (r : KV kvs (pairsH xs)) (d : h.DictOfH (BK P w) a xs) :
    bFits a (xs.map fun x => x.2.1) kvs h := by
  obtain ⟨o, ens, ep, e, c, dd, f, _, n⟩ := d
  exact ⟨z, y, xs, r, rfl, o, ens, ep, e, c, dd, f, n⟩
theorem nodup_of {P : Program} {w : World} {h : Heap} {a : Addr} {kvs : List (List Bool × V)} {xs : List (List Bool × Addr × Value)} (r : KV kvs (pairsH xs)) (d : h.DictOfH (BK P w) a xs) : (kvs.map (·.1)).Nodup := by
  obtain ⟨o, ens, ep, e, c, dd, f, _, n⟩ := d
  rw [KV.keys r, pairs_keys]; exact n
theorem bVal {kvs : List (List Bool × V)} {xs : List (List Bool × Addr × Value)} (r : KV kvs (pairsH xs)) (k : List Bool) : RelO (valV kvs k) ((atKey xs k).map (·.2)) := by
  rw [← valueAt_pairsH]
  exact KV.val r k
theorem kat_put {H : Hp} {xs : List (List Bool × Addr × Value)} {k : List Bool} {b : Addr} {v : Value} (h : ∀ x ∈ xs, H x.2.1 = some (.tup (x.1.map V.bl))) (e : H b = some (.tup (k.map V.bl))) : ∀ x ∈ storedH xs k b v, H x.2.1 = some (.tup (x.1.map V.bl)) := by
  intro x hx
  unfold storedH at hx
  split at hx
  · obtain ⟨y, hy, rfl⟩ := List.mem_map.mp hx
    unfold putAt
    split
    · exact h y hy
    · exact h y hy
  · rcases List.mem_append.mp hx with q | q
    · exact h x q
    · rw [List.mem_singleton.mp q]; exact e
/-- all but a stay -/
def But (a : Addr) (H H' : Hp) : Prop := ∀ c, c ≠ a → H' c = H c
theorem But.upd {a : Addr} {H : Hp} {o : HO} : But a H (upd H a o) := fun c hc => upd_ne hc
theorem But.tk {a : Addr} {H H' : Hp} {kvs : List (List Bool × V)} (b : But a H H') (d : DBat H a kvs) : Tk H H' := fun c xs e => by
  obtain ⟨bs, q, _⟩ := d
  rw [b c (ne_of e q (by intro z; cases z))]; exact e
theorem But.get {a c : Addr} {H H' : Hp} (b : But a H H') (h : c ≠ a) : H' c = H c := b c h
theorem Same.but {H0 H H' : Hp} {a : Addr} (s : Same H0 H) (n : H0 a = none) (b : But a H H') : Same H0 H' := fun c o e => by
  rw [b c (ne_of_none e n)]; exact s c o e
section
variable {X : Cx} {pins : List (Addr × Obj)} {σ : St} {H : Hp} {s : Shared} {a b : Addr} {v : V} {r : Value} {A : Around} {E : Value → Shared → Prop} {kvs : List (List Bool × V)} {k : List Bool}
theorem b_getItem {Q : Value → Shared → Prop} (hu : A.units + 1 < cLine) (I : Inv X pins σ H s) (d : DBat H a kvs) (eb : H b = some (.tup (k.map V.bl))) (hv : valV kvs k = some v) (h : ∀ w' s', Inv X pins σ H s' → RelV v w' → Q w' s') :
    wpAny (model X.prog X.w) A (getItem (.ref a) (.ref b)) Q E s := by
  obtain ⟨bs, e, ka, z, y, xs, rel, _, dd⟩ := d.of I.hok
  have q := bVal rel k
  rw [hv] at q
  obtain ⟨u, hu2, ru⟩ := RelO.some_of q
  obtain ⟨p, hp, rfl⟩ := Option.map_eq_some_iff.mp hu2
  exact wpAny_getItem_heap (tupleKind_room_in1 hu) (bKey I.hok eb) dd hp (h _ _ (I.tok _) ru)
theorem b_in {Q : Value → Shared → Prop} (hu : A.units + 1 < cLine) (I : Inv X pins σ H s) (d : DBat H a kvs) (eb : H b = some (.tup (k.map V.bl))) (h : ∀ s', Inv X pins σ H s' → Q (.bool (valV kvs k).isSome) s') :
    wpAny (model X.prog X.w) A (compareOp .In (.ref b) (.ref a)) Q E s := by
  obtain ⟨bs, e, ka, z, y, xs, rel, _, dd⟩ := d.of I.hok
  have q := (bVal rel k).isSome_eq
  rw [Option.isSome_map] at q
  refine wpAny_in_heap (tupleKind_room_in1 hu) (bKey I.hok eb) y dd ?_
  rw [← q]; exact h _ (I.tok _)
theorem b_notIn {Q : Value → Shared → Prop} (hu : A.units + 1 < cLine) (I : Inv X pins σ H s) (d : DBat H a kvs) (eb : H b = some (.tup (k.map V.bl))) (h : ∀ s', Inv X pins σ H s' → Q (.bool (!(valV kvs k).isSome)) s') :
    wpAny (model X.prog X.w) A (compareOp .NotIn (.ref b) (.ref a)) Q E s := by
  obtain ⟨bs, e, ka, z, y, xs, rel, _, dd⟩ := d.of I.hok
  have q := (bVal rel k).isSome_eq
  rw [Option.isSome_map] at q
  refine PyProof.Rows.wpAny_notIn_heap (tupleKind_room_in1 hu) (bKey I.hok eb) y dd ?_
  rw [← q]; exact h _ (I.tok _)
/-- the dict at a is written -/
theorem b_write {h' : Heap} {t' : Nat} {kvs2 : List (List Bool × V)} {xs2 : List (List Bool × Addr × Value)} (I : Inv X pins σ H s) (d : DBat H a kvs) (hs : Heap.SameBut a s.heap h') (z : kvs2.length ≤ sizeLine) (rel : KV kvs2 (pairsH xs2)) (dd : h'.DictOfH (BK X.prog X.w) a xs2)
    (hk : ∀ x ∈ xs2, H x.2.1 = some (.tup (x.1.map V.bl))) : ∃ H', Inv X pins σ H' { s with heap := h', toks := t' } ∧ DBat H' a kvs2 ∧ But a H H' := by
  obtain ⟨bs, e, ka, z0, y, xs, rel0, _, dd0⟩ := d.of I.hok
  have e2 : ∃ q, h'.get? a = some q := let ⟨q, _, _, hq, _⟩ := dd; ⟨q, hq⟩
  have t : Tk H (upd H a (bD a (xs2.map fun x => x.2.1) kvs2)) := fun c ys q => by rw [upd_ne (ne_of q e (by intro z; cases z))]; exact q
  refine ⟨upd H a (bD a (xs2.map fun x => x.2.1) kvs2), I.write (x := a) (e := a) (by rw [e]; exact True.intro) (.inl rfl) (fun c q hc u => (hs.2 c hc).trans u) e2 (bD_ok (dictH_bFits z y rel dd)), ⟨_, upd_same, ?_, nodup_of rel dd⟩, But.upd⟩
  have w : KAt H (xs2.map fun x => x.2.1) (kvs2.map (·.1)) := by
    rw [KV.keys rel, pairs_keys]; exact kat_iff.mpr hk
  exact w.tk t
theorem b_setItem {Q : Unit → Shared → Prop} (hu : A.units + 1 < cLine) (I : Inv X pins σ H s) (d : DBat H a kvs) (eb : H b = some (.tup (k.map V.bl))) (hl : kvs.length < sizeLine) (rv : RelV v r)
    (h : ∀ H' s', Inv X pins σ H' s' → DBat H' a (putK kvs k v) → But a H H' → Q () s') : wpAny (model X.prog X.w) A (setItem (.ref a) (.ref b) r) Q E s := by
  obtain ⟨bs, e, ka, z, y, xs, rel, hbs, dd⟩ := d.of I.hok
  have hz : xs.length ≤ sizeLine := by
    have : kvs.length = xs.length := by rw [KV.length rel]; unfold pairsH; rw [List.length_map]
    omega
  refine wpAny_setItem_heap (hsz := hz) (tupleKind_room_in1 hu) (bKey I.hok eb) dd fun h' dd' hs => ?_
  have hl2 : (putK kvs k v).length ≤ sizeLine := by have := length_putK kvs k v; omega
  rw [← hbs, KV.keys rel, pairs_keys] at ka
  obtain ⟨H', I', d', b'⟩ := b_write (t' := s.toks + (BK X.prog X.w).draws k) I d hs hl2 (xs2 := storedH xs k b r) (by rw [pairsH_storedH]; exact KV.put rel k rv) dd' (kat_put (kat_iff.mp ka) eb)
  exact h H' _ I' d' b'
end
/-! ### readings and rules -/
def tBGet (td ty : TE) : TE := fun σ H Q => td σ H fun x H1 => ty σ H1 fun y H2 => ∃ a b kvs k v, x = .ref a ∧ y = .ref b ∧ DBat H2 a kvs ∧ H2 b = some (.tup (k.map V.bl)) ∧ valV kvs k = some v ∧ Q v H2
def tBIn (ty td : TE) : TE := fun σ H Q => ty σ H fun y H1 => td σ H1 fun x H2 => ∃ a b kvs k, x = .ref a ∧ y = .ref b ∧ DBat H2 a kvs ∧ H2 b = some (.tup (k.map V.bl)) ∧ Q (.bl (valV kvs k).isSome) H2
def tBNotIn (ty td : TE) : TE := fun σ H Q => ty σ H fun y H1 => td σ H1 fun x H2 => ∃ a b kvs k, x = .ref a ∧ y = .ref b ∧ DBat H2 a kvs ∧ H2 b = some (.tup (k.map V.bl)) ∧ Q (.bl (!(valV kvs k).isSome)) H2
def sBPut (td ty tv : TE) : TS := fun D σ H => tv σ H fun v H1 => td σ H1 fun x H2 => ty σ H2 fun y H3 => ∃ a b kvs k, x = .ref a ∧ y = .ref b ∧ DBat H3 a kvs ∧ H3 b = some (.tup (k.map V.bl)) ∧ kvs.length < sizeLine ∧
  ∀ H4, DBat H4 a (putK kvs k v) → But a H3 H4 → D.nx σ H4
def tBNew : TE := fun _ H Q => ∀ p H', H p = none → Same H H' → But p H H' → DBat H' p [] → Q (.ref p) H'
section
variable {X : Cx} {o i e value : Expr} {pos pos' tpos : Pos} {td ty tv : TE}
theorem DBat.typeIs {pins : List (Addr × Obj)} {σ : St} {H : Hp} {s : Shared} {a : Addr} {kvs : List (List Bool × V)} (I : Inv X pins σ H s) (d : DBat H a kvs) : s.TypeIs (.ref a) "dict" := by
  obtain ⟨_, _, _, _, _, xs, _, _, dd⟩ := d.of I.hok
  exact dd.typeIs
theorem DBat.noDict {pins : List (Addr × Obj)} {σ : St} {H : Hp} {s : Shared} {a : Addr} {kvs : List (List Bool × V)} (I : Inv X pins σ H s) (d : DBat H a kvs) : ∀ b, Value.ref a = .ref b → ∃ ob, s.heap.get? b = some ob ∧ ob.dict = none := fun b q => by
  cases q
  obtain ⟨_, _, _, _, _, xs, _, _, ob, _, _, e1, e2, _⟩ := d.of I.hok
  exact ⟨ob, e1, e2.2.1⟩
theorem pe_bget (hu : X.A.units + 1 < cLine) (ho : PE X o td) (hi : PE X i ty) (hs : NoSl i) : PE X (.Subscript o i pos) (tBGet td ty) := by
  refine ⟨fun pins s σ H Q I h => subD_of PySem.F.slot_dict_getitem.lookup hs (thn (ho.run pins s σ H _ I h) fun u s1 ⟨x, H1, I1, rx, q1⟩ => thn (hi.run pins s1 σ H1 _ I1 q1) ?_)⟩
  rintro iv s2 ⟨y, H2, I2, ry, a, b, kvs, k, v, rfl, rfl, d, eb, hv, q2⟩
  obtain rfl : u = Value.ref a := rx
  obtain rfl : iv = Value.ref b := ry
  exact ⟨d.typeIs I2, b_getItem hu I2 d eb hv fun w' s3 I3 rw' => ⟨v, H2, I3, rw', q2⟩⟩
theorem pc_bin (hu : X.A.units + 1 < cLine) (hi : PE X i ty) (ho : PE X o td) : PC X .In i o (tBIn ty td) := by
  refine ⟨fun pins s σ H Q I h => thn (hi.run pins s σ H _ I h) fun iv s1 ⟨y, H1, I1, ry, q1⟩ => thn (ho.run pins s1 σ H1 _ I1 q1) ?_⟩
  rintro u s2 ⟨x, H2, I2, rx, a, b, kvs, k, rfl, rfl, d, eb, q2⟩
  obtain rfl : u = Value.ref a := rx
  obtain rfl : iv = Value.ref b := ry
  exact b_in hu I2 d eb fun s3 I3 => ⟨.bl (valV kvs k).isSome, H2, I3, rfl, q2⟩
theorem pc_bnotin (hu : X.A.units + 1 < cLine) (hi : PE X i ty) (ho : PE X o td) : PC X .NotIn i o (tBNotIn ty td) := by
  refine ⟨fun pins s σ H Q I h => thn (hi.run pins s σ H _ I h) fun iv s1 ⟨y, H1, I1, ry, q1⟩ => thn (ho.run pins s1 σ H1 _ I1 q1) ?_⟩
  rintro u s2 ⟨x, H2, I2, rx, a, b, kvs, k, rfl, rfl, d, eb, q2⟩
  obtain rfl : u = Value.ref a := rx
  obtain rfl : iv = Value.ref b := ry
  exact b_notIn hu I2 d eb fun s3 I3 => ⟨.bl (!(valV kvs k).isSome), H2, I3, rfl, q2⟩
theorem ps_bput (hu : X.A.units + 1 < cLine) (ho : PE X o td) (hi : PE X i ty) (hv : PE X value tv) (hs : swapsWith value (some (.Subscript o i pos')) pos.line X.env = pure false) : PS X (.Assign [.Subscript o i pos'] value pos) (sBPut td ty tv) := by
  refine ⟨fun pins s σ H D I h => wpAny_Assign_Subscript (thn (hv.run pins s σ H _ I h) fun r s1 ⟨v, H1, I1, rv, q1⟩ => thn (ho.run pins s1 σ H1 _ I1 q1) fun u s2 ⟨x, H2, I2, rx, q2⟩ => thn (hi.run pins s2 σ H2 _ I2 q2) ?_) hs⟩
  rintro iv s3 ⟨y, H3, I3, ry, a, b, kvs, k, rfl, rfl, d, eb, hl, q3⟩
  obtain rfl : u = Value.ref a := rx
  obtain rfl : iv = Value.ref b := ry
  exact b_setItem hu I3 d eb hl rv fun H4 s4 I4 d4 b4 => ⟨σ, H4, I4, q3 H4 d4 b4⟩
theorem b_fresh {P : Program} {w : World} (h : Heap) (hb : sysModules < h.objs.size) : bFits h.objs.size [] [] (h.push { cls := .type "dict", data := .dict #[] }) :=
  dictH_bFits (P := P) (w := w) (xs := []) (Nat.zero_le _) (beq_eq_false_iff_ne.mpr (Ne.symm (Nat.ne_of_lt hb))) .nil (Heap.DictOfH.new h)
theorem b_new {pins : List (Addr × Obj)} {σ : St} {H : Hp} {s : Shared} (t : Nat) (I : Inv X pins σ H s) : Inv X pins σ (upd H s.heap.objs.size (bD s.heap.objs.size [] [])) { s with heap := s.heap.push { cls := .type "dict", data := .dict #[] }, toks := t } :=
  I.laid (fun _ _ q => Heap.get?_push_of_some _ q) (Nat.le_refl _) (bD_ok (b_fresh (P := X.prog) (w := X.w) s.heap I.big))
theorem dbat_new {H : Hp} {p : Addr} : DBat (upd H p (bD p [] [])) p [] := ⟨[], upd_same, .nil, List.nodup_nil⟩
theorem pe_bnew : PE X (.Dict [] [] pos) tBNew := ⟨fun pins s σ H Q I h => by
  have hn : H s.heap.objs.size = none := I.hok.fresh (Nat.le_refl _)
  exact wpAny_Dict_empty ⟨.ref s.heap.objs.size, _, b_new s.toks I, rfl, h _ _ hn (Same.new hn) But.upd dbat_new⟩⟩
/-- {k: v} -/
def tBOne (tk tv : TE) : TE := fun σ H Q => ∀ p H0, H p = none → Same H H0 → But p H H0 → DBat H0 p [] → tk σ H0 fun x H1 => tv σ H1 fun v H2 => DBat H2 p [] ∧ ∃ b k, x = .ref b ∧ H2 b = some (.tup (k.map V.bl)) ∧
  ∀ H3, DBat H3 p [(k, v)] → But p H2 H3 → Q (.ref p) H3
theorem pe_bone {k v : Expr} {tk tv : TE} (hu : X.A.units + 1 < cLine) (hk : PE X k tk) (hv : PE X v tv) : PE X (.Dict [some k] [v] pos) (tBOne tk tv) := by
  refine ⟨fun pins s σ H Q I h => ?_⟩
  have hn : H s.heap.objs.size = none := I.hok.fresh (Nat.le_refl _)
  have I0 := b_new s.toks I
  have h0 := h _ _ hn (Same.new hn) But.upd dbat_new
  have np : pairTrees [some k] [v] X.env pos ≠ [] := by
    intro z
    have e := congrArg List.length z
    rw [pairTrees_length [some k] [v] X.env pos rfl rfl] at e
    exact absurd (show 1 = 0 from e) (by decide)
  have nl : (pairTrees [some k] [v] X.env pos).length = 1 := pairTrees_length [some k] [v] X.env pos rfl rfl
  rw [arm_eval_Dict, zip_pairTrees [some k] [v] X.env pos rfl rfl, dictDisplay_pairs (pairTrees [some k] [v] X.env pos) np (by rw [nl]; exact Nat.le_of_ble_eq_true rfl)]
  refine wpAny_bind (wpAny_standAt (wpAny_bind (wpAny_subDictH (knd := BK X.prog X.w) (show X.A.units < cLine from by omega) (by rw [nl]; exact Nat.le_of_ble_eq_true rfl) ?_)))
  refine pairTrees_cons_walk (thn (hk.run pins _ σ _ _ I0 h0) fun u s1 ⟨x, H1, I1, rx, q1⟩ => thn (hv.run pins s1 σ H1 _ I1 q1) fun w2 s2 ⟨y, H2, I2, ry, d2, b, kk, ex, eb, q2⟩ => pairTrees_nil_walk ?_)
  subst ex
  obtain rfl : u = Value.ref b := rx
  obtain ⟨bs, e, ka, z, yy, xs, rel, hbs, dd⟩ := d2.of I2.hok
  have hx : xs = [] := by
    have := KV.length rel
    unfold pairsH at this
    rw [List.length_map] at this
    exact List.eq_nil_of_length_eq_zero this.symm
  subst hx
  refine ⟨[(kk, b, w2)], ⟨rfl, rfl, bKey I2.hok eb, True.intro⟩, dd, fun h' t dd2 hs => ?_⟩
  obtain ⟨H3, I3, d3, b3⟩ := b_write (t' := t) I2 d2 hs (kvs2 := [(kk, y)]) (xs2 := [(kk, b, w2)]) (small10 (Nat.le_of_ble_eq_true rfl)) (.cons ⟨rfl, ry⟩ .nil) dd2 (fun x hx => by rw [List.mem_singleton.mp hx]; exact eb)
  exact wpAny_pure ⟨.ref s.heap.objs.size, H3, I3, rfl, q2 H3 d3 b3⟩
end
/-! ### calls and methods -/
section
variable {X : Cx}
def rBLen : List V → Hp → VK → Prop := fun xs H Q => ∃ a kvs, xs = [.ref a] ∧ DBat H a kvs ∧ Q (.int ((kvs.length : Nat) : Int)) H
theorem call_blen : CallR X (.builtin "len") rBLen := by
  rintro pins s σ H xs us Q I r ⟨a, kvs, rfl, d, q⟩
  obtain ⟨u, rfl, rx⟩ := vals1 r
  obtain rfl : u = .ref a := rx
  obtain ⟨bs, e, ka, z, y, ys, rel, _, dd⟩ := d.of I.hok
  have hl : kvs.length = ys.length := by rw [KV.length rel]; unfold pairsH; rw [List.length_map]
  refine call_len_dictH y dd (by rw [← hl]; rw [sizeLine_eq] at z; omega) ?_
  rw [← hl]
  exact ⟨.int ((kvs.length : Nat) : Int), H, I.tok _, ⟨_, rfl⟩, q⟩
/-- list(d) -/
def rBList : List V → Hp → VK → Prop := fun xs H Q => ∃ a kvs, xs = [.ref a] ∧ DBat H a kvs ∧ ∀ p H' us, H p = none → Same H H' → H' p = some (.lst us) → Tups H' (kvs.map (·.1)) us → Q (.ref p) H'
theorem kat_tups {H : Hp} : ∀ {bs : List Addr} {ks : List (List Bool)}, KAt H bs ks → Tups H ks (bs.map V.ref)
  | _, _, .nil => .nil
  | _, _, .cons r t => .cons ⟨_, rfl, r⟩ (kat_tups t)
theorem call_blist (hc : X.calm = true) : CallR X (.type "list") rBList := by
  rintro pins s σ H vs us Q I r ⟨a, kvs, rfl, d, q⟩
  obtain ⟨u, rfl, rx⟩ := r.one
  cases rx
  obtain ⟨bs, e, ka, z, y, xs, rel, hbs, dd⟩ := d.of I.hok
  obtain ⟨o, ens, ep, ho, hx, hd, hen, _, hn⟩ := dd
  have l1 : ens.size = xs.length := size_of_entries hen
  have l2 : kvs.length = xs.length := by rw [KV.length rel]; unfold pairsH; rw [List.length_map]
  refine PySem.W.kdl_call (kdl_raw y hx hd) (I.ok.hd hc) ho (by omega) fun h' tk acc c kp e1 it => ?_
  have ea : acc.toList = bs.map Value.ref := by
    rw [← hbs, List.map_map]
    apply List.ext_getElem?
    intro j
    rw [List.getElem?_map]
    cases hj : acc.toList[j]? with
    | none =>
      have g := List.getElem?_eq_none_iff.mp hj
      rw [Array.length_toList, it.1] at g
      rw [List.getElem?_eq_none (by omega)]; rfl
    | some v =>
      obtain ⟨en, he, rfl⟩ := it.2 j v (by rw [← Array.getElem?_toList]; exact hj)
      rw [entry_at hen j] at he
      obtain ⟨x, hx1, rfl⟩ := Option.map_eq_some_iff.mp he
      rw [hx1]; rfl
  have hl : (bs.map V.ref).length ≤ sizeLine := by rw [← hbs, List.length_map, List.length_map]; omega
  have hnew : H s.heap.objs.size = none := I.hok.fresh (Nat.le_refl _)
  refine ⟨.ref s.heap.objs.size, upd H s.heap.objs.size (.lst (bs.map V.ref)), I.laid kp (Nat.le_refl _) ⟨hl, acc.toList, c, by rw [ea]; exact vals_refs bs, by rw [Array.toArray_toList]; exact e1⟩, rfl, ?_⟩
  exact q _ _ _ hnew (Same.new hnew) upd_same (Tups.same (Same.new hnew) (kat_tups ka))
/-- isinstance(d, dict) -/
def rBIsi : List V → Hp → VK → Prop := fun xs H Q => ∃ a kvs, xs = [.ref a, .ty "dict"] ∧ DBat H a kvs ∧ Q (.bl true) H
theorem call_bisi : CallR X (.builtin "isinstance") rBIsi := by
  rintro pins s σ H xs us Q I r ⟨a, kvs, rfl, d, q⟩
  obtain ⟨u, w', rfl, rx, ry⟩ := vals2 r
  obtain rfl : u = .ref a := rx
  obtain rfl : w' = .type "dict" := ry
  obtain ⟨bs, e, ka, z, y, xs, rel, hbs, o, ens, ep, ho, hx, _⟩ := d.of I.hok
  exact PySem.W.kia_one PySem.W.kitx_dict I.kIn ⟨o, ho, hx.1⟩ (kit_ty (a := "dict") (b := "dict") (r := true) (by decide +kernel)) (fun z => nomatch z) fun tk => ⟨.bl true, H, I.tok tk, rfl, q⟩
end
/-! ### max with a default -/
def rMaxD (K : PySem.W.Frag) : List V → List V → Hp → VK → Prop := fun vs zs H Q => ∃ (a : Addr) (ns : List Int) (d : Int), vs = [.ref a] ∧ zs = [.int d] ∧ SqL K H a (ns.map V.int) ∧ Q (.int (maxI d ns)) H
theorem reads_ints {h : Heap} : ∀ {ns : List Int} {us : List Value}, Vals (ns.map V.int) us → ∃ as, ReadsAll h us (ns.map PyData.int) as
  | [], _, r => by rw [List.map_nil] at r; cases r; exact ⟨_, .nil⟩
  | n :: ns, _, r => by
    rw [List.map_cons] at r
    cases r with
    | cons h1 t =>
      obtain ⟨tk, rfl⟩ := h1
      obtain ⟨as, q⟩ := reads_ints (h := h) t
      exact ⟨_, .cons (.int n tk) q⟩
theorem depth_ints : ∀ ns : List Int, PyData.depthAll (ns.map PyData.int) = 0
  | [] => rfl
  | n :: ns => by
    rw [List.map_cons]
    show max (PyData.depth (.int n)) (PyData.depthAll (ns.map PyData.int)) = 0
    rw [depth_ints ns]; rfl
theorem call_maxD {X : Cx} (hc : X.calm = true) (hu : X.A.units + 1 < cLine) : CallRK X (.builtin "max") ["default"] (rMaxD X.K) := by
  rintro pins s σ H vs zs us ws Q I r rz ⟨a, ns, d, rfl, rfl, hs, q⟩
  obtain ⟨u, rfl, rx⟩ := vals1 r
  obtain rfl : u = .ref a := rx
  obtain ⟨u2, rfl, rd⟩ := vals1 rz
  obtain ⟨its, rv, hl, hz⟩ := I.list hs
  obtain ⟨as, hr⟩ := reads_ints (h := s.heap) rv
  have al : PySem.W.AlikeAll (ns.map PyData.int) := by
    refine ⟨fun x hx y hy => ?_, fun x hx => ?_⟩
    · obtain ⟨i, _, rfl⟩ := List.mem_map.mp hx
      obtain ⟨j, _, rfl⟩ := List.mem_map.mp hy
      rfl
    · obtain ⟨i, _, rfl⟩ := List.mem_map.mp hx
      intro z; cases z
  refine PySem.W.max_list_default (xs := ns.map PyData.int) (as := as) (I.ok.hd hc) hl.isList (by simpa using hr) al (by rw [depth_ints]; omega) (fun hn h' tk k => ?_) (fun y ys i v h' tk bs hn hi rd2 k => ?_)
  · cases ns with
    | nil => exact ⟨.int d, H, I.kept k, rd, q⟩
    | cons n ns => exact nomatch hn
  · cases ns with
    | nil => exact nomatch hn
    | cons n ns =>
      rw [List.map_cons] at hn
      cases hn
      rw [PySem.W.maxD_ints] at rd2
      cases rd2 with
      | int _ t => exact ⟨.int (ns.foldl max n), H, I.kept k, ⟨t, rfl⟩, q⟩
/-! ### a walk over the keys -/
section
variable {X : Cx} {pins : List (Addr × Obj)} {σ : St} {H : Hp} {s : Shared} {d : Addr} {o : Obj} {bs : List Addr} {kvs : List (List Bool × V)}
theorem frzB (I : Inv X pins σ H s) (h : H d = some (.frz o (bD d bs kvs))) :
    (d == sysModules) = false ∧ s.heap.get? d = some o ∧ o.ExactDict ∧ ∃ (es : Array DictEntry) (ep : Nat), o.data = .dict es ep ∧ es.size = bs.length ∧ ∀ (i : Nat) (b : Addr), bs[i]? = some b → ∃ en : DictEntry, es[i]? = some en ∧ en.key = .ref b := by
  obtain ⟨hd, q⟩ := I.hok d _ h
  obtain ⟨_, y, xs, r, l, o2, ens, ep, e, c, dd, f, _⟩ := q.1
  rw [hd] at e
  cases e
  refine ⟨y, hd, c, ens, ep, dd, ?_, fun i b hb => ?_⟩
  · rw [← l, List.length_map]; exact size_of_entries (knd := BK X.prog X.w) f
  · rw [← l, List.getElem?_map] at hb
    obtain ⟨x, hx, rfl⟩ := Option.map_eq_some_iff.mp hb
    have g := entry_at (knd := BK X.prog X.w) f i
    rw [hx] at g
    exact ⟨_, g, rfl⟩
end
/-- the keys of the locked dict at d -/
def ItB (d : Addr) (o : Obj) (bs : List Addr) (kvs : List (List Bool × V)) : It :=
  ⟨fun i H => H d = some (.frz o (bD d bs kvs)) ∧ i < bs.length, fun i H x H' => H' = H ∧ ∃ b, bs[i]? = some b ∧ x = .ref b, fun i H => H d = some (.frz o (bD d bs kvs)) ∧ bs.length ≤ i⟩
theorem turn_B {P : Program} {w : World} {K : PySem.W.Frag} {tg : Expr} {d : Addr} {o : Obj} {es : Array DictEntry} {ep : Nat} {bs : List Addr} {kvs : List (List Bool × V)} (it : Addr) (hod : o.data = .dict es ep) :
    Turn P w K tg (ItB d o bs kvs) [it] it (fun i h => h.IsKeyIter it d i bs.length ep) where
  mem := List.mem_singleton.mpr rfl
  obj := fun i h st b hb => by
    cases List.mem_singleton.mp hb
    obtain ⟨oi, e1, _, e3⟩ := st
    exact ⟨oi, e1, fun v z => by rw [e3] at z; cases z⟩
  keep := fun i h h2 st k => st.at fun oi e => k it (List.mem_singleton.mpr rfl) oi e
  item := by
    rintro X rfl rfl rfl hc i pins s σ H E I hf st ⟨hd, hi⟩
    obtain ⟨f0, f1, f2, f3, f4, f5⟩ := hf it (List.mem_singleton.mpr rfl)
    obtain ⟨y, hgd, hx, es2, ep2, hdt, hsz, ent⟩ := frzB I hd
    cases (dict_ep hod hdt).1
    cases (dict_ep hod hdt).2
    have hb : bs[i]? = some bs[i] := List.getElem?_eq_getElem hi
    obtain ⟨en, hen, hk⟩ := ent i _ hb
    refine next_key_item st hgd hdt hsz hen fun h2 st2 sb => ?_
    have I2 : Inv X pins σ H { s with heap := h2 } := I.turned (t' := s.toks) (fun b ob hb e => (sb.2 b hb).trans e) f0 f1 f3 f4 f5
    obtain ⟨oi, e1, c1, d1⟩ := id st2
    exact ⟨en.key, rfl, go_of (s := { s with heap := h2 }) e1 c1 d1 (by decide) ⟨.ref bs[i], H, I2, hk, ⟨rfl, _, hb, rfl⟩, st2, fun b hb => (hf b hb).1⟩⟩
  done := by
    rintro X rfl rfl rfl hc i pins s σ H E I hf st ⟨hd, hi⟩
    obtain ⟨f0, f1, f2, f3, f4, f5⟩ := hf it (List.mem_singleton.mpr rfl)
    obtain ⟨y, hgd, hx, es2, ep2, hdt, hsz, ent⟩ := frzB I hd
    cases (dict_ep hod hdt).1
    cases (dict_ep hod hdt).2
    exact next_key_end (I.ok.hd hc) st hgd hdt hsz hi fun h2 eb => ⟨rfl, I.turned (t' := s.toks) (fun b ob hb e => eb b ob hb e) f0 f1 f3 f4 f5⟩
  self := fun A i s Q E st h => by
    have ty := st.typeIs (s := s)
    refine wpAny_pyIter_slot ty F.slot_dict_keyiterator_iter ?_
    refine wpAny_call_entry F.slot_dict_keyiterator_iter ty F.entry_dict_keyiterator_iter ?_ (F.args_dict_keyiterator_iter_1 _)
    exact wpAny_pure ⟨.ref it, rfl, "dict_keyiterator", _, ty, F.slot_dict_keyiterator_next.lookup, h⟩
def iBKeys (td : TE) : TI := fun σ H R => td σ H fun x H1 => ∃ d o bs kvs, x = .ref d ∧ H1 d = some (.frz o (bD d bs kvs)) ∧ R (ItB d o bs kvs) H1
theorem pi_bkeys {X : Cx} {tg e : Expr} {td : TE} (he : PE X e td) : PI X tg e (iBKeys td) := by
  refine ⟨fun pins s σ H R I h => thn (he.run pins s σ H _ I h) ?_⟩
  rintro u s1 ⟨x, H1, I1, rx, d, o, bs, kvs, rfl, hd, q⟩
  obtain rfl : u = Value.ref d := rx
  obtain ⟨y, hgd, hx, es, ep, hdt, hsz, ent⟩ := frzB I1 hd
  refine iter_keys y hgd hx hdt (pi_one (tk := s1.toks) I1 _ (turn_B _ hdt) ⟨_, Heap.get?_push_size _ rfl, rfl, ?_⟩ q)
  rw [hsz]; rfl
theorem walk_B {d : Addr} {o : Obj} {bs : List Addr} {kvs : List (List Bool × V)} : Walk (ItB d o bs kvs) bs.length (fun H => H d = some (.frz o (bD d bs kvs))) (YAt (bs.map V.ref)) :=
  ⟨fun i H hi h => ⟨h, hi⟩, fun H h => ⟨h, Nat.le_refl _⟩, fun i H x H' hi h ⟨e, b, hb, hx⟩ => ⟨e, by rw [List.getElem?_map, hb, hx]; rfl⟩⟩
/-! ### x.clear(), a list or a dict -/
def tClear (to : TE) : TE := fun σ H Q => to σ H fun x H1 => (∃ l xs, x = .ref l ∧ H1 l = some (.lst xs) ∧ Q .non (upd H1 l (.lst []))) ∨ (∃ a kvs, x = .ref a ∧ DBat H1 a kvs ∧ ∀ H2, DBat H2 a [] → But a H1 H2 → Q .non H2)
theorem pe_clear {X : Cx} {o : Expr} {to : TE} {apos cpos : Pos} (ho : PE X o to) (hbase : attributeBase o "clear" X.env (eval o X.env) = eval o X.env := by rfl) (hline : (apos.endLine == cpos.line) = true := by rfl) :
    PE X (.Call (.Attribute o "clear" apos) [] [] cpos) (tClear to) := by
  refine ⟨fun pins s σ H Q I h => wpAny_Call_method0_late hbase hline (thn (ho.run pins s σ H _ I h) ?_)⟩
  rintro v s1 ⟨x, H1, I1, r1, ⟨l, xs, rfl, hl, q⟩ | ⟨a, kvs, rfl, d, q⟩⟩
  · have ty : tyV X.K "list" (.ref l) H1 := .inl ⟨rfl, _, SqL.of hl⟩
    obtain ⟨h1, h2⟩ := tyV_is I1 r1 ty
    exact ⟨"list", "list.clear", PySem.F.plainAttrs_list, PySem.F.slot_list_clear, PySem.F.type_list_clear, h1, h2, Calls.callWith_builtin rfl (PySem.evalArgs_none (mt_clear pins s1 σ H1 _ [] v [] Q I1 r1 .nil ⟨l, xs, rfl, rfl, hl, q⟩))⟩
  · obtain rfl : v = .ref a := r1
    refine ⟨"dict", "dict.clear", PySem.F.plainAttrs_dict, PySem.F.slot_dict_clear, PySem.F.type_dict_clear, d.typeIs I1, d.noDict I1, Calls.callWith_builtin rfl (PySem.evalArgs_none ?_)⟩
    obtain ⟨bs, e, ka, z, y, xs, rel, hbs, dd⟩ := d.of I1.hok
    have hl : kvs.length = xs.length := by rw [KV.length rel]; unfold pairsH; rw [List.length_map]
    refine clear_keyed (knd := BK X.prog X.w) ⟨xs, dd, rfl⟩ (fun h2 ⟨ys, d2, e2⟩ hs => ?_) (by unfold pairsH; rw [List.length_map, ← hl]; exact z)
    have hy : ys = [] := by
      unfold pairsH at e2
      exact List.map_eq_nil_iff.mp e2
    subst hy
    obtain ⟨H2, I2, d3, b3⟩ := b_write (t' := s1.toks) I1 d hs (kvs2 := []) (xs2 := []) (Nat.zero_le _) .nil d2 (fun x hx => nomatch hx)
    exact ⟨.non, H2, I2, rfl, q H2 d3 b3⟩
theorem units65 {k : Nat} {A : Around} (hr : Room k A) : A.units + 65 < cLine := by have := hr.un; omega
end Rl

namespace Rl
open PySem L2
/-! ### looking through a board -/
def W.okAt (n m : Int) : W → Bool
  | .relay k => decide (0 ≤ k) && decide (k < n)
  | .button k => decide (0 ≤ k) && decide (k < m)
  | .not w => w.okAt n m
  | .and a b => a.okAt n m && b.okAt n m
  | .or a b => a.okAt n m && b.okAt n m
  | _ => true
theorem depth_parts (x : W) : (1 : Int) + maxI 0 (x.parts.map fun y => (y.depth : Int)) = (x.depth : Int) := by
  cases x with
  | not y => show (1 : Int) + (y.depth : Int) = ((y.depth + 1 : Nat) : Int); omega
  | and y z => show (1 : Int) + max (y.depth : Int) (z.depth : Int) = ((max y.depth z.depth + 1 : Nat) : Int); omega
  | or y z => show (1 : Int) + max (y.depth : Int) (z.depth : Int) = ((max y.depth z.depth + 1 : Nat) : Int); omega
  | on => rfl
  | off => rfl
  | relay k => rfl
  | button k => rfl
theorem okAt_parts (x : W) (n m : Int) (n1 : ∀ k, x ≠ .relay k) (n2 : ∀ k, x ≠ .button k) : (x.parts.map fun y => y.okAt n m).all id = x.okAt n m := by
  cases x with
  | not y => show (y.okAt n m && true) = _; rw [Bool.and_true]; rfl
  | and y z => show (y.okAt n m && (z.okAt n m && true)) = _; rw [Bool.and_true]; rfl
  | or y z => show (y.okAt n m && (z.okAt n m && true)) = _; rw [Bool.and_true]; rfl
  | on => rfl
  | off => rfl
  | relay k => exact absurd rfl (n1 k)
  | button k => exact absurd rfl (n2 k)
theorem parts_depth {x y : W} {N : Nat} (h : y ∈ x.parts) (hd : x.depth ≤ N + 1) : y.depth ≤ N := by
  cases x with
  | not z =>
    rcases List.mem_singleton.mp h with rfl
    exact Nat.le_of_succ_le_succ hd
  | and z w =>
    have hd' : max z.depth w.depth + 1 ≤ N + 1 := hd
    rcases List.mem_cons.mp h with rfl | h
    · omega
    · rcases List.mem_singleton.mp h with rfl
      omega
  | or z w =>
    have hd' : max z.depth w.depth + 1 ≤ N + 1 := hd
    rcases List.mem_cons.mp h with rfl | h
    · omega
    · rcases List.mem_singleton.mp h with rfl
      omega
  | on => cases h
  | off => cases h
  | relay k => cases h
  | button k => cases h
def deepOk (ws : List W) : Bool := ws.all fun w => decide (w.depth ≤ 8)
def allOk (ws : List W) (m : Int) : Bool := ws.all fun w => w.okAt (ws.length : Int) m
def roomOk (ws : List W) (m : Int) : Bool := (decide ((1 : Int) ≤ ws.length) && decide ((ws.length : Int) ≤ 6)) && (decide (0 ≤ m) && decide (m ≤ 4))
def lookR (ws : List W) (m : Int) : Int := if roomOk ws m = true then (if deepOk ws = true then (if allOk ws m = true then -1 else 2) else 1) else 0
theorem lookR_room {ws : List W} {m : Int} (h : roomOk ws m = false) : lookR ws m = 0 := by unfold lookR; rw [h]; rfl
theorem lookR_deep {ws : List W} {m : Int} (h : roomOk ws m = true) (h2 : deepOk ws = false) : lookR ws m = 1 := by unfold lookR; rw [h, h2]; rfl
theorem lookR_all {ws : List W} {m : Int} (h : roomOk ws m = true) (h2 : deepOk ws = true) (h3 : allOk ws m = false) : lookR ws m = 2 := by unfold lookR; rw [h, h2, h3]; rfl
theorem lookR_ok {ws : List W} {m : Int} (h : roomOk ws m = true) (h2 : deepOk ws = true) (h3 : allOk ws m = true) : lookR ws m = -1 := by unfold lookR; rw [h, h2, h3]; rfl
theorem all_take_step {α : Type} (f : α → Bool) {l : List α} {i : Nat} {x : α} (h : l[i]? = some x) : (l.take (i + 1)).all f = ((l.take i).all f && f x) := by
  rw [List.take_add_one, h, List.all_append]
  show ((l.take i).all f && (f x && true)) = _
  rw [Bool.and_true]
theorem all_bad {α : Type} (f : α → Bool) {l : List α} {i : Nat} {x : α} (h : l[i]? = some x) (hx : f x = false) : l.all f = false :=
  List.all_eq_false.mpr ⟨x, List.mem_of_getElem? h, by rw [hx]; decide⟩
theorem cutL_lo (xs : List V) (k : Nat) (h : k ≤ xs.length) : cutV xs none (some (k : Int)) = xs.take k := by
  unfold cutV
  rw [HT.sIx_none, HT.sIx_nat, Nat.min_eq_left h]
  rfl
theorem cutL_hi (xs : List V) (k : Nat) : cutV xs (some (k : Int)) none = xs.drop k := by
  unfold cutV
  rw [HT.sIx_none, HT.sIx_nat]
  by_cases h : k ≤ xs.length
  · rw [Nat.min_eq_left h, List.take_of_length_le (by rw [List.length_drop]; exact Nat.le_refl _)]
  · rw [Nat.min_eq_right (by omega), Nat.sub_self, List.take_zero, List.drop_eq_nil_of_le (by omega)]
theorem paired_app {α β : Type} {F : α → β → Prop} : ∀ {l l2 : List α} {r r2 : List β}, Paired F l r → Paired F l2 r2 → Paired F (l ++ l2) (r ++ r2)
  | _, _, _, _, .nil, h => h
  | _, _, _, _, .cons r t, h => .cons r (paired_app t h)
theorem paired_tk {α β : Type} {F : α → β → Prop} : ∀ {l : List α} {r : List β} (n : Nat), Paired F l r → Paired F (l.take n) (r.take n)
  | _, _, 0, _ => by rw [List.take_zero, List.take_zero]; exact .nil
  | _, _, _ + 1, .nil => .nil
  | _, _, n + 1, .cons r t => .cons r (paired_tk n t)
theorem paired_dr {α β : Type} {F : α → β → Prop} : ∀ {l : List α} {r : List β} (n : Nat), Paired F l r → Paired F (l.drop n) (r.drop n)
  | _, _, 0, h => h
  | _, _, _ + 1, .nil => .nil
  | _, _, n + 1, .cons _ t => paired_dr n t
theorem eqv_none (ds : List PyData) : PyData.eqv (.list ds) (.list []) = decide (ds = []) := by
  cases ds with
  | nil => simp [PyData.eqv, PyData.eqvAll]
  | cons d ds => simp [PyData.eqv, PyData.eqvAll]
theorem shWL {ws : List W} {d : Nat} (h : ∀ x ∈ ws, x.depth ≤ d) : Sh (.list (ws.map wd)) (d + 1) := Sh.lst fun e he => by
  obtain ⟨x, hx, rfl⟩ := List.mem_map.mp he
  exact (shW x).mono (h x hx)
end Rl

namespace Rl
open PySem PySem.Spec L2 SX
/-! ### the text of a word -/
def txt : W → List Nat
  | .on => [49]
  | .off => [48]
  | .relay k => 114 :: TL.numL k.toNat
  | .button k => 98 :: TL.numL k.toNat
  | .not x => 33 :: txt x
  | .and x y => 40 :: (txt x ++ (38 :: (txt y ++ [41])))
  | .or x y => 40 :: (txt x ++ (124 :: (txt y ++ [41])))
theorem num1 {k : Int} (h0 : 0 ≤ k) (h9 : k < 10) : TL.numL k.toNat = [48 + k.toNat] := TL.numL_lt (by omega)
theorem txt_free : ∀ {w : W}, w.wired 10 10 → 59 ∉ txt w
  | .on, _, h => by simp [txt] at h
  | .off, _, h => by simp [txt] at h
  | .relay k, ⟨a, b⟩, h => by rw [txt, num1 a b] at h; simp at h; omega
  | .button k, ⟨a, b⟩, h => by rw [txt, num1 a b] at h; simp at h; omega
  | .not x, hw, h => by
    rw [txt, List.mem_cons] at h
    rcases h with h | h
    · omega
    · exact txt_free (w := x) hw h
  | .and x y, hw, h => by
    rw [txt] at h
    simp only [List.mem_cons, List.mem_append, List.not_mem_nil, or_false] at h
    rcases h with h | h | h | h | h
    · omega
    · exact txt_free (w := x) hw.1 h
    · omega
    · exact txt_free (w := y) hw.2 h
    · omega
  | .or x y, hw, h => by
    rw [txt] at h
    simp only [List.mem_cons, List.mem_append, List.not_mem_nil, or_false] at h
    rcases h with h | h | h | h | h
    · omega
    · exact txt_free (w := x) hw.1 h
    · omega
    · exact txt_free (w := y) hw.2 h
    · omega
theorem txt_len : ∀ {w : W}, w.wired 10 10 → (txt w).length + 3 ≤ 5 * 2 ^ (w.depth - 1)
  | .on, _ => by decide
  | .off, _ => by decide
  | .relay k, ⟨a, b⟩ => by rw [txt, num1 a b]; exact (by decide : 2 + 3 ≤ 5 * 2 ^ (1 - 1))
  | .button k, ⟨a, b⟩ => by rw [txt, num1 a b]; exact (by decide : 2 + 3 ≤ 5 * 2 ^ (1 - 1))
  | .not x, hw => by
    have h := txt_len (w := x) hw
    have hp := x.depth_pos
    show (txt x).length + 1 + 3 ≤ 5 * 2 ^ (x.depth + 1 - 1)
    rw [show x.depth + 1 - 1 = (x.depth - 1) + 1 by omega, Nat.pow_succ]
    have : 1 ≤ 2 ^ (x.depth - 1) := Nat.one_le_two_pow
    omega
  | .and x y, hw => by
    have h1 := txt_len (w := x) hw.1
    have h2 := txt_len (w := y) hw.2
    have p1 := x.depth_pos
    have p2 := y.depth_pos
    have m1 : 2 ^ (x.depth - 1) ≤ 2 ^ (max x.depth y.depth - 1) := Nat.pow_le_pow_right (by decide) (by omega)
    have m2 : 2 ^ (y.depth - 1) ≤ 2 ^ (max x.depth y.depth - 1) := Nat.pow_le_pow_right (by decide) (by omega)
    show (40 :: (txt x ++ (38 :: (txt y ++ [41])))).length + 3 ≤ 5 * 2 ^ (max x.depth y.depth + 1 - 1)
    rw [show max x.depth y.depth + 1 - 1 = (max x.depth y.depth - 1) + 1 by omega, Nat.pow_succ]
    simp only [List.length_cons, List.length_append, List.length_nil]
    omega
  | .or x y, hw => by
    have h1 := txt_len (w := x) hw.1
    have h2 := txt_len (w := y) hw.2
    have p1 := x.depth_pos
    have p2 := y.depth_pos
    have m1 : 2 ^ (x.depth - 1) ≤ 2 ^ (max x.depth y.depth - 1) := Nat.pow_le_pow_right (by decide) (by omega)
    have m2 : 2 ^ (y.depth - 1) ≤ 2 ^ (max x.depth y.depth - 1) := Nat.pow_le_pow_right (by decide) (by omega)
    show (40 :: (txt x ++ (124 :: (txt y ++ [41])))).length + 3 ≤ 5 * 2 ^ (max x.depth y.depth + 1 - 1)
    rw [show max x.depth y.depth + 1 - 1 = (max x.depth y.depth - 1) + 1 by omega, Nat.pow_succ]
    simp only [List.length_cons, List.length_append, List.length_nil]
    omega
theorem txt_le {w : W} (h : w.wired 10 10) (hd : w.depth ≤ 9) : (txt w).length ≤ 1280 := by
  have h1 := txt_len h
  have h2 : 2 ^ (w.depth - 1) ≤ 2 ^ 8 := Nat.pow_le_pow_right (by decide) (by omega)
  omega
/-! ### the pile -/
inductive It where
  | sg (c : Nat) | wd (w : W)
/-- a word laid on the pile, with the nots under it put to it (top first) -/
def turnW (w : W) : List It → List It
  | [] => [.wd w]
  | .wd v :: r => .wd w :: .wd v :: r
  | .sg c :: r => if c = 33 then turnW (.not w) r else .wd w :: .sg c :: r
def closeS : List It → Option (W × List It)
  | .wd b :: .sg c :: .wd a :: .sg d :: r => if d = 40 then (if c = 38 then some (.and a b, r) else if c = 124 then some (.or a b, r) else none) else none
  | _ => none
def plainS (st : List It) (c : Nat) : Option (List It) :=
  if c = 49 then some (turnW .on st) else if c = 48 then some (turnW .off st) else if c = 41 then (closeS st).map fun x => turnW x.1 x.2
  else if c ∈ [114, 98, 33, 40, 38, 124] then some (.sg c :: st) else none
def stepS (st : List It) (c : Nat) : Option (List It) :=
  match st with
  | .sg d :: r => if d = 114 ∨ d = 98 then (if 48 ≤ c ∧ c ≤ 57 then some (turnW (if d = 114 then .relay ((c : Int) - 48) else .button ((c : Int) - 48)) r) else none) else plainS (.sg d :: r) c
  | st => plainS st c
def runS : List It → List Nat → Option (List It)
  | st, [] => some st
  | st, c :: cs => match stepS st c with
    | some s2 => runS s2 cs
    | none => none
def clearS : List It → Prop
  | .sg d :: _ => ¬ (d = 114 ∨ d = 98)
  | _ => True
theorem clear_sg {c : Nat} {st : List It} (h : ¬ (c = 114 ∨ c = 98)) : clearS (.sg c :: st) := h
theorem step_clear {st : List It} (h : clearS st) (c : Nat) : stepS st c = plainS st c := by
  cases st with
  | nil => rfl
  | cons x r =>
    cases x with
    | wd w => rfl
    | sg d => exact if_neg h
theorem run_cons {st s2 : List It} {c : Nat} {cs : List Nat} (h : stepS st c = some s2) : runS st (c :: cs) = runS s2 cs := by
  show (match stepS st c with | some s2 => runS s2 cs | none => none) = _
  rw [h]
theorem run_sign {st : List It} (h : clearS st) {c : Nat} {cs : List Nat} (hc : c = 114 ∨ c = 98 ∨ c = 33 ∨ c = 40 ∨ c = 38 ∨ c = 124) : runS st (c :: cs) = runS (.sg c :: st) cs := by
  refine run_cons ?_
  rw [step_clear h]
  unfold plainS
  rw [if_neg (by omega), if_neg (by omega), if_neg (by omega), if_pos (by simp; omega)]
theorem run_fig {st : List It} {d : Nat} {k : Int} {cs : List Nat} (hd : d = 114 ∨ d = 98) (h0 : 0 ≤ k) (h9 : k < 10) : runS (.sg d :: st) ((48 + k.toNat) :: cs) = runS (turnW (if d = 114 then .relay k else .button k) st) cs := by
  refine run_cons ?_
  show (if d = 114 ∨ d = 98 then _ else _) = _
  rw [if_pos hd, if_pos (by omega)]
  rw [show (((48 + k.toNat : Nat) : Int) - 48) = k by omega]
theorem run_txt : ∀ {w : W} {st : List It} {cs : List Nat}, w.wired 10 10 → clearS st → runS st (txt w ++ cs) = runS (turnW w st) cs
  | .on, st, cs, _, h => run_cons (by rw [step_clear h]; rfl)
  | .off, st, cs, _, h => run_cons (by rw [step_clear h]; rfl)
  | .relay k, st, cs, ⟨a, b⟩, h => by
    rw [txt, num1 a b]
    show runS st (114 :: (48 + k.toNat) :: cs) = _
    rw [run_sign h (.inl rfl), run_fig (.inl rfl) a b, if_pos rfl]
  | .button k, st, cs, ⟨a, b⟩, h => by
    rw [txt, num1 a b]
    show runS st (98 :: (48 + k.toNat) :: cs) = _
    rw [run_sign h (.inr (.inl rfl)), run_fig (.inr rfl) a b, if_neg (by decide)]
  | .not x, st, cs, hw, h => by
    show runS st (33 :: (txt x ++ cs)) = _
    rw [run_sign h (by simp), run_txt (w := x) hw (show clearS (.sg 33 :: st) from clear_sg (by decide))]
    rfl
  | .and x y, st, cs, hw, h => by
    have e : txt (.and x y) ++ cs = 40 :: (txt x ++ (38 :: (txt y ++ (41 :: cs)))) := by simp [txt]
    rw [e, run_sign h (by simp), run_txt (w := x) hw.1 (show clearS (.sg 40 :: st) from clear_sg (by decide))]
    show runS (.wd x :: .sg 40 :: st) _ = _
    rw [run_sign (show clearS (.wd x :: .sg 40 :: st) from True.intro) (by simp), run_txt (w := y) hw.2 (show clearS (.sg 38 :: .wd x :: .sg 40 :: st) from clear_sg (by decide))]
    exact run_cons rfl
  | .or x y, st, cs, hw, h => by
    have e : txt (.or x y) ++ cs = 40 :: (txt x ++ (124 :: (txt y ++ (41 :: cs)))) := by simp [txt]
    rw [e, run_sign h (by simp), run_txt (w := x) hw.1 (show clearS (.sg 40 :: st) from clear_sg (by decide))]
    show runS (.wd x :: .sg 40 :: st) _ = _
    rw [run_sign (show clearS (.wd x :: .sg 40 :: st) from True.intro) (by simp), run_txt (w := y) hw.2 (show clearS (.sg 124 :: .wd x :: .sg 40 :: st) from clear_sg (by decide))]
    exact run_cons rfl
theorem run_word {w : W} (h : w.wired 10 10) : runS [] (txt w) = some [.wd w] := by
  have := run_txt (cs := []) h (st := []) True.intro
  rw [List.append_nil] at this
  exact this
/-! ### the pile in the heap -/
def ItAt (H : Hp) : It → V → Prop
  | .sg c, v => v = .str (S [c])
  | .wd w, v => ∃ a, v = .ref a ∧ WA H w a
def PileAt (H : Hp) (p : Addr) (st : List It) : Prop := ∃ vs, H p = some (.lst vs.reverse) ∧ Paired (ItAt H) st vs
theorem ItAt.tk {H H' : Hp} {x : It} {v : V} (t : Tk H H') (h : ItAt H x v) : ItAt H' x v := by
  cases x with
  | sg c => exact h
  | wd w => obtain ⟨a, e, q⟩ := h; exact ⟨a, e, WA.tk t q⟩
theorem PileAt.same {H H' : Hp} {p : Addr} {st : List It} (s : Same H H') (h : PileAt H p st) : PileAt H' p st := by
  obtain ⟨vs, e, q⟩ := h
  exact ⟨vs, s _ _ e, Paired.mapP q fun _ _ h => h.tk (Same.tk s)⟩
def itD : It → PyData
  | .sg c => .str (S [c])
  | .wd w => wd w
theorem itDp {K : PySem.W.Frag} {H : Hp} {x : It} {v : V} (h : ItAt H x v) : Dp K H v (itD x) := by
  cases x with
  | sg c => cases (show v = _ from h); exact .str _
  | wd w => obtain ⟨a, rfl, q⟩ := h; exact dpW q
/-- of a text's sign -/
def signOk : It → Prop
  | .sg c => c < 1114112 ∧ ¬ (55296 ≤ c ∧ c ≤ 57343)
  | .wd _ => True
theorem cat_S (a b : List Nat) : SX.S a ++ SX.S b = SX.S (a ++ b) := SX.S_cat a b
theorem len_S (l : List Nat) : (SX.S l).length = l.length := SX.S_len l
theorem small_log {j : Nat} (h : j < 10) : (j : Int).natAbs.log2 < 1920 := Nat.lt_of_le_of_lt (Nat.log2_le_self _) (by omega)
theorem num_str (j : Nat) : (Str.ofString (toString ((j : Nat) : Int)) : Str) = SX.S (TL.numL j) := SX.num_S j
end Rl

namespace Rl
open PySem PySem.Spec L2 SX
/-! ### data against a text, whatever its depth -/
def rEqS (K : PySem.W.Frag) : R2 := fun x y H Q => ∃ d z, Dp K H x d ∧ d.canLay0 = true ∧ y = .str z ∧ PyData.strOk z = true ∧ Q (.bl (PyData.eqv d (.str z))) H
def rNeS (K : PySem.W.Frag) : R2 := fun x y H Q => ∃ d z, Dp K H x d ∧ d.canLay0 = true ∧ y = .str z ∧ PyData.strOk z = true ∧ Q (.bl (!PyData.eqv d (.str z))) H
def rInS2 (K : PySem.W.Frag) : R2 := fun x y H Q => ∃ d p ds, Dp K H x d ∧ d.canLay0 = true ∧ y = .ref p ∧ Dp K H (.ref p) (.tuple ds) ∧ PyData.canLayAll0 ds = true ∧ PyData.depthAll ds = 0 ∧ Q (.bl (ds.any fun z => PyData.eqv z d)) H
def rNotInS2 (K : PySem.W.Frag) : R2 := fun x y H Q => ∃ d p ds, Dp K H x d ∧ d.canLay0 = true ∧ y = .ref p ∧ Dp K H (.ref p) (.tuple ds) ∧ PyData.canLayAll0 ds = true ∧ PyData.depthAll ds = 0 ∧ Q (.bl (!ds.any fun z => PyData.eqv z d)) H
section
variable {X : Cx}
theorem lay_str {z : Str} (h : PyData.strOk z = true) : (PyData.str z).canLay0 = true := by simp [PyData.canLay0, h]
theorem op_eqS (hu : X.A.units + 1 < cLine) : OpR X (compareOp .Eq) (rEqS X.K) := by
  rintro pins s σ H x y v u Q I rx ry ⟨d, z, hd, hc, rfl, hz, q⟩
  obtain ⟨la, z1⟩ := Dp.reads I d x v hd rx
  obtain ⟨lb, z2⟩ := Dp.reads I (.str z) (.str z) u (.str z) ry
  exact SeqAt.compareEq_reads z1 z2 hc (lay_str hz) (by show X.A.units + min d.depth 0 < cLine; omega) ⟨.bl _, H, I, rfl, q⟩
theorem op_neS (hu : X.A.units + 1 < cLine) : OpR X (compareOp .NotEq) (rNeS X.K) := by
  rintro pins s σ H x y v u Q I rx ry ⟨d, z, hd, hc, rfl, hz, q⟩
  obtain ⟨la, z1⟩ := Dp.reads I d x v hd rx
  obtain ⟨lb, z2⟩ := Dp.reads I (.str z) (.str z) u (.str z) ry
  exact SeqAt.compareNe_reads z1 z2 hc (lay_str hz) (by show X.A.units + min d.depth 0 < cLine; omega) ⟨.bl _, H, I, rfl, q⟩
theorem op_inS2 (hu : X.A.units + 1 < cLine) : OpR X (compareOp .In) (rInS2 X.K) := by
  rintro pins s σ H x y v u Q I rx ry ⟨d, p, ds, hd, hc, rfl, he, hz, h0, q⟩
  obtain ⟨la, z1⟩ := Dp.reads I d x v hd rx
  obtain ⟨lb, z2⟩ := Dp.reads I (.tuple ds) (.ref p) u he ry
  exact SeqAt.in_tuple_reads z2 z1 hz hc (by rw [h0]; omega) ⟨.bl _, H, I, rfl, q⟩
theorem op_notInS2 (hu : X.A.units + 1 < cLine) : OpR X (compareOp .NotIn) (rNotInS2 X.K) := by
  rintro pins s σ H x y v u Q I rx ry ⟨d, p, ds, hd, hc, rfl, he, hz, h0, q⟩
  obtain ⟨la, z1⟩ := Dp.reads I d x v hd rx
  obtain ⟨lb, z2⟩ := Dp.reads I (.tuple ds) (.ref p) u he ry
  exact SeqAt.notIn_tuple_reads z2 z1 hz hc (by rw [h0]; omega) ⟨.bl _, H, I, rfl, q⟩
end
/-! ### items -/
def isSg (c : Nat) : It → Bool
  | .sg d => decide (d = c)
  | .wd _ => false
def itOk : It → Prop
  | .sg c => c < 128
  | .wd _ => True
theorem str_eqv (c d : Nat) : PyData.eqv (.str (S [c])) (.str (S [d])) = decide (c = d) := by
  simp only [PyData.eqv]
  rw [S_beq_eq]
  exact decide_eq_decide.mpr ⟨fun e => by cases e; rfl, fun e => by rw [e]⟩
theorem eqv_it (c : Nat) (x : It) : PyData.eqv (itD x) (.str (S [c])) = isSg c x := by
  cases x with
  | sg d => exact str_eqv d c
  | wd w => cases w <;> simp [itD, wd, PyData.eqv, isSg]
theorem it_eqv (c : Nat) (x : It) : PyData.eqv (.str (S [c])) (itD x) = isSg c x := by
  cases x with
  | sg d =>
    show PyData.eqv (.str (S [c])) (.str (S [d])) = decide (d = c)
    rw [str_eqv]
    exact decide_eq_decide.mpr ⟨Eq.symm, Eq.symm⟩
  | wd w => cases w <;> simp [itD, wd, PyData.eqv, isSg]
theorem sg_ok {c : Nat} (h : c < 128) : PyData.strOk (S [c]) = true := by
  simp [PyData.strOk]; omega
theorem it_lay {x : It} (h : itOk x) : (itD x).canLay0 = true := by
  cases x with
  | sg c => exact lay_str (sg_ok h)
  | wd w => exact (shW w).1
/-! ### places counted from the end -/
theorem at_neg {xs : List V} {k : Nat} {v : V} (h1 : 1 ≤ k) (h2 : k ≤ xs.length) (h : xs[xs.length - k]? = some v) : atI xs (-(k : Int)) = some v := by
  unfold atI ixN
  rw [if_neg (by omega), if_pos (by omega)]
  show xs[(-(k : Int) + (xs.length : Int)).toNat]? = some v
  rw [show (-(k : Int) + (xs.length : Int)).toNat = xs.length - k by omega]; exact h
theorem cut_neg {xs : List V} {k : Nat} (h1 : 1 ≤ k) (h2 : k ≤ xs.length) : cutV xs none (some (-(k : Int))) = xs.take (xs.length - k) := by
  unfold cutV
  rw [HT.sIx_none]
  show (xs.drop 0).take ((if -(k : Int) < 0 then (-(k : Int) + (xs.length : Int)).toNat else _) - 0) = _
  rw [if_pos (by omega), List.drop_zero, Nat.sub_zero]
  congr 1
  omega
theorem rev1 (v : V) (r : List V) : (v :: r).reverse = r.reverse ++ [v] := List.reverse_cons
theorem rev2 (v u : V) (r : List V) : (v :: u :: r).reverse = r.reverse ++ [u, v] := by simp
theorem rev4 (v u t s : V) (r : List V) : (v :: u :: t :: s :: r).reverse = r.reverse ++ [s, t, u, v] := by simp
theorem at1 (l : List V) (v : V) : atI (l ++ [v]) (-1) = some v := atI_last l v
theorem at2a (l : List V) (u v : V) : atI (l ++ [u, v]) (-1) = some v := at_neg (k := 1) (by decide) (by simp) (by simp)
theorem at2b (l : List V) (u v : V) : atI (l ++ [u, v]) (-2) = some u := at_neg (k := 2) (by decide) (by simp) (by simp)
theorem at4a (l : List V) (s t u v : V) : atI (l ++ [s, t, u, v]) (-1) = some v := at_neg (k := 1) (by decide) (by simp) (by simp)
theorem at4b (l : List V) (s t u v : V) : atI (l ++ [s, t, u, v]) (-2) = some u := at_neg (k := 2) (by decide) (by simp) (by simp)
theorem at4c (l : List V) (s t u v : V) : atI (l ++ [s, t, u, v]) (-3) = some t := at_neg (k := 3) (by decide) (by simp) (by simp)
theorem at4d (l : List V) (s t u v : V) : atI (l ++ [s, t, u, v]) (-4) = some s := at_neg (k := 4) (by decide) (by simp) (by simp)
theorem cutn1 (l : List V) (v : V) : cutV (l ++ [v]) none (some (-1)) = l := by
  have := cut_neg (xs := l ++ [v]) (k := 1) (by decide) (by simp)
  rw [show cutV (l ++ [v]) none (some (-1)) = (l ++ [v]).take ((l ++ [v]).length - 1) from this]; simp
theorem cutn2 (l : List V) (u v : V) : cutV (l ++ [u, v]) none (some (-2)) = l := by
  have := cut_neg (xs := l ++ [u, v]) (k := 2) (by decide) (by simp)
  rw [show cutV (l ++ [u, v]) none (some (-2)) = (l ++ [u, v]).take ((l ++ [u, v]).length - 2) from this]; simp
theorem cutn4 (l : List V) (s t u v : V) : cutV (l ++ [s, t, u, v]) none (some (-4)) = l := by
  have := cut_neg (xs := l ++ [s, t, u, v]) (k := 4) (by decide) (by simp)
  rw [show cutV (l ++ [s, t, u, v]) none (some (-4)) = (l ++ [s, t, u, v]).take ((l ++ [s, t, u, v]).length - 4) from this]; simp
/-! ### the pieces of a stack -/
theorem turn_len : ∀ (r : List It) (w : W), (turnW w r).length ≤ r.length + 1
  | [], _ => Nat.le_refl _
  | .wd v :: r, w => Nat.le_refl _
  | .sg c :: r, w => by
    unfold turnW
    split
    · have := turn_len r (.not w); rw [List.length_cons]; omega
    · exact Nat.le_refl _
theorem turn_ok : ∀ (r : List It) (w : W), (∀ x ∈ r, itOk x) → ∀ x ∈ turnW w r, itOk x
  | [], w, h, x, hx => by rw [List.mem_singleton.mp hx]; exact True.intro
  | .wd v :: r, w, h, x, hx => by
    rcases List.mem_cons.mp hx with rfl | hx
    · exact True.intro
    · exact h x hx
  | .sg c :: r, w, h, x, hx => by
    unfold turnW at hx
    split at hx
    · exact turn_ok r (.not w) (fun y hy => h y (List.mem_cons_of_mem _ hy)) x hx
    · rcases List.mem_cons.mp hx with rfl | hx
      · exact True.intro
      · exact h x hx
theorem close_inv {st : List It} {w : W} {r : List It} (h : closeS st = some (w, r)) : ∃ a b c, st = .wd b :: .sg c :: .wd a :: .sg 40 :: r ∧ ((c = 38 ∧ w = .and a b) ∨ (c = 124 ∧ w = .or a b)) := by
  unfold closeS at h
  split at h
  · rename_i b c a d r'
    split at h
    · rename_i hd
      subst hd
      split at h
      · cases h; exact ⟨a, b, c, rfl, .inl ⟨‹_›, rfl⟩⟩
      · split at h
        · cases h; exact ⟨a, b, c, rfl, .inr ⟨‹_›, rfl⟩⟩
        · cases h
    · cases h
  · cases h
theorem pile_inv1 {H : Hp} {p : Addr} {w : W} {r : List It} (h : PileAt H p (.wd w :: r)) : ∃ (a : Addr) (vs : List V), H p = some (.lst (vs.reverse ++ [.ref a])) ∧ WA H w a ∧ Paired (ItAt H) r vs := by
  obtain ⟨us, e, q⟩ := h
  cases q with
  | @cons _ v _ vs h1 t =>
    obtain ⟨a, rfl, ha⟩ := h1
    exact ⟨a, vs, by rw [e, rev1], ha, t⟩
theorem pile_push {H : Hp} {p : Addr} {st : List It} {vs : List V} {x : It} {v : V} (e : H p = some (.lst (vs.reverse ++ [v]))) (q : Paired (ItAt H) st vs) (h : ItAt H x v) : PileAt H p (x :: st) := ⟨v :: vs, by rw [e, rev1], .cons h q⟩
theorem WA.tupx {H : Hp} {x : W} {a : Addr} (h : WA H x a) : ∃ us, H a = some (.tup us) := by
  cases x with
  | relay k => exact ⟨_, h⟩
  | button k => exact ⟨_, h⟩
  | on => exact ⟨_, h⟩
  | off => exact ⟨_, h⟩
  | not y => obtain ⟨b, e, _⟩ := h; exact ⟨_, e⟩
  | and y z => obtain ⟨b, c, e, _⟩ := h; exact ⟨_, e⟩
  | or y z => obtain ⟨b, c, e, _⟩ := h; exact ⟨_, e⟩
theorem paired_same {H H' : Hp} {st : List It} {vs : List V} (s : Same H H') (h : Paired (ItAt H) st vs) : Paired (ItAt H') st vs := Paired.mapP h fun _ _ h => h.tk (Same.tk s)
end Rl

local macro_rules
  | `(tactic| wtm_at $s:str) => do
    match s.getString.splitOn " " with
    | ["new", p, h, ss, e] =>
      let n := Lean.mkIdent (Lean.Name.mkSimple ("n" ++ p))
      let p := Lean.mkIdent (Lean.Name.mkSimple p)
      let h := Lean.mkIdent (Lean.Name.mkSimple h)
      let ss := Lean.mkIdent (Lean.Name.mkSimple ss)
      let e := Lean.mkIdent (Lean.Name.mkSimple e)
      `(tactic| (intro $p $n; generalize eNew : L2.upd _ $p _ = $h; have $ss : L2.Same _ $h := eNew ▸ Rl.Same.new $n; have $e : $h $p = some _ := eNew ▸ L2.upd_same; clear eNew))
    | ["hp"] => `(tactic| first | assumption | exact L2.SqL.of (by wtm_at "hp") | exact L2.SqT.of (by wtm_at "hp") | (refine Rl.Same.get (by assumption) ?_; wtm_at "hp") | (refine L2.Same.seq (by assumption) ?_; wtm_at "hp") | (refine Rl.WA.same (by assumption) ?_; wtm_at "hp") | (refine Rl.WAs.same (by assumption) ?_; wtm_at "hp"))
    | ["cond"] => `(tactic| first | omega | decide | exact Rl.small10 (Nat.le_of_ble_eq_true rfl) | exact ⟨by decide, by decide⟩ | exact ⟨by omega, by omega⟩ | exact .inr ⟨by decide, by decide⟩ | exact .inl ⟨by decide, by decide⟩ | exact .inl ⟨by omega, by omega⟩ | exact .inr ⟨by omega, by omega⟩)
    | ["r1"] => `(tactic| first | refine ⟨_, rfl, ?_⟩ | refine ⟨_, _, rfl, rfl, ?_⟩ | refine ⟨rfl, ?_⟩ | refine ⟨show (_ : Prop) from (by wtm_at "cond"), ?_⟩)
    | ["rd"] => `(tactic| ((repeat wtm_at "r1"); (try dsimp -proj -eta -iota only)))
    | ["dF"] => `(tactic| refine Rl.iF (decide_eq_false (by first | decide +kernel | (dsimp only [Rl.W.tag]; decide +kernel))) ?_)
    | ["dT"] => `(tactic| refine Rl.iT (decide_eq_true (by first | decide +kernel | rfl | (dsimp only [Rl.W.tag]; decide +kernel))) ?_)
    | ["lc"] => `(tactic| (refine ⟨rfl, ?_⟩; dsimp -proj -eta -iota only [L2.tYes]; refine Rl.iT rfl ?_))
    | ["ds"] => `(tactic| dsimp -proj -eta -iota only)
    | ["szs"] => `(tactic| try refine ⟨by exact Rl.small10 (Nat.le_of_ble_eq_true rfl), ?_⟩)
    | ["sz"] => `(tactic| exact Rl.small10 (Nat.le_of_ble_eq_true rfl))
    | _ => Lean.Macro.throwUnsupported

namespace Rl
open PySem L2
def topS (i : Nat) : Stmt := PySem.Challenge.pw_relayroom_k13_shown.main.body.getD i (.Pass ⟨0, 0, 0, 0⟩)
abbrev sparts : Stmt := topS 6
abbrev sdepth : Stmt := topS 7
abbrev sword_shown : Stmt := topS 10
abbrev sshown : Stmt := topS 11
abbrev sclosed : Stmt := topS 12
abbrev sturned : Stmt := topS 13
abbrev sword_of : Stmt := topS 14
abbrev sread : Stmt := topS 15
abbrev s_law_cell_at : Stmt := topS 17
abbrev s_law_pick : Stmt := topS 18
abbrev s_law_whole : Stmt := topS 19
abbrev s_law_mix : Stmt := topS 20
abbrev s_law_leaf : Stmt := topS 21
abbrev s_law_word : Stmt := topS 22
abbrev s_law_text : Stmt := topS 24
abbrev s_law_is_word : Stmt := topS 25
abbrev slaw : Stmt := topS 26
theorem scparts : FnScope ["word"] ["word"] (defScope sparts) := ⟨rfl, rfl, rfl, by decide +kernel, rfl, by decide +kernel, by decide +kernel⟩
theorem scdepth : FnScope ["word", "part"] ["word"] (defScope sdepth) := ⟨rfl, rfl, rfl, by decide +kernel, rfl, by decide +kernel, by decide +kernel⟩
theorem scword_shown : FnScope ["word", "mark"] ["word"] (defScope sword_shown) := ⟨rfl, rfl, rfl, by decide +kernel, rfl, by decide +kernel, by decide +kernel⟩
theorem scshown : FnScope ["board", "word"] ["board"] (defScope sshown) := ⟨rfl, rfl, rfl, by decide +kernel, rfl, by decide +kernel, by decide +kernel⟩
theorem scclosed : FnScope ["pile", "name"] ["pile"] (defScope sclosed) := ⟨rfl, rfl, rfl, by decide +kernel, rfl, by decide +kernel, by decide +kernel⟩
theorem scturned : FnScope ["pile"] ["pile"] (defScope sturned) := ⟨rfl, rfl, rfl, by decide +kernel, rfl, by decide +kernel, by decide +kernel⟩
theorem scword_of : FnScope ["text", "pile", "sign", "name"] ["text"] (defScope sword_of) := ⟨rfl, rfl, rfl, by decide +kernel, rfl, by decide +kernel, by decide +kernel⟩
theorem scread : FnScope ["text", "board", "word", "part"] ["text"] (defScope sread) := ⟨rfl, rfl, rfl, by decide +kernel, rfl, by decide +kernel, by decide +kernel⟩
theorem sc_law_cell_at : FnScope ["script", "k"] ["script", "k"] (defScope s_law_cell_at) := ⟨rfl, rfl, rfl, by decide +kernel, rfl, by decide +kernel, by decide +kernel⟩
theorem sc_law_pick : FnScope ["script", "k"] ["script", "k"] (defScope s_law_pick) := ⟨rfl, rfl, rfl, by decide +kernel, rfl, by decide +kernel, by decide +kernel⟩
theorem sc_law_whole : FnScope ["x"] ["x"] (defScope s_law_whole) := ⟨rfl, rfl, rfl, by decide +kernel, rfl, by decide +kernel, by decide +kernel⟩
theorem sc_law_mix : FnScope ["cell", "k", "mixed"] ["cell", "k"] (defScope s_law_mix) := ⟨rfl, rfl, rfl, by decide +kernel, rfl, by decide +kernel, by decide +kernel⟩
theorem sc_law_leaf : FnScope ["mixed", "relays", "buttons", "spot"] ["mixed", "relays", "buttons"] (defScope s_law_leaf) := ⟨rfl, rfl, rfl, by decide +kernel, rfl, by decide +kernel, by decide +kernel⟩
theorem sc_law_word : FnScope ["cell", "k", "deep", "relays", "buttons", "mixed", "kind", "first"] ["cell", "k", "deep", "relays", "buttons"] (defScope s_law_word) := ⟨rfl, rfl, rfl, by decide +kernel, rfl, by decide +kernel, by decide +kernel⟩
theorem sc_law_text : FnScope ["word", "mark"] ["word"] (defScope s_law_text) := ⟨rfl, rfl, rfl, by decide +kernel, rfl, by decide +kernel, by decide +kernel⟩
theorem sc_law_is_word : FnScope ["found", "part"] ["found"] (defScope s_law_is_word) := ⟨rfl, rfl, rfl, by decide +kernel, rfl, by decide +kernel, by decide +kernel⟩
theorem sclaw : FnScope ["script", "cell", "board", "due", "found", "back", "k", "word"] ["script"] (defScope slaw) := ⟨rfl, rfl, rfl, by decide +kernel, rfl, by decide +kernel, by decide +kernel⟩
structure Ad where
  (aparts adepth aword_shown ashown aclosed aturned aword_of aread a_law_cell_at a_law_pick a_law_whole a_law_mix a_law_leaf a_law_word a_law_text a_law_is_word alaw : Addr)
  (dparts ddepth dword_shown dshown dclosed dturned dword_of dread d_law_cell_at d_law_pick d_law_whole d_law_mix d_law_leaf d_law_word d_law_text d_law_is_word dlaw : FuncData)
  (CRoomError CDeep CNoNote : Addr)
structure Txt (K : PySem.W.Frag) (mg : Str → Option Value) (A : Ad) : Prop where
  F_parts : Fun K "parts" "parts" sparts A.aparts A.dparts
  m_parts : mg "parts" = some (.ref A.aparts)
  b_parts : Binds K A.dparts ["word"] []
  F_depth : Fun K "depth" "depth" sdepth A.adepth A.ddepth
  m_depth : mg "depth" = some (.ref A.adepth)
  b_depth : Binds K A.ddepth ["word"] []
  F_word_shown : Fun K "word_shown" "word_shown" sword_shown A.aword_shown A.dword_shown
  m_word_shown : mg "word_shown" = some (.ref A.aword_shown)
  b_word_shown : Binds K A.dword_shown ["word"] []
  F_shown : Fun K "shown" "shown" sshown A.ashown A.dshown
  m_shown : mg "shown" = some (.ref A.ashown)
  b_shown : Binds K A.dshown ["board"] []
  F_closed : Fun K "closed" "closed" sclosed A.aclosed A.dclosed
  m_closed : mg "closed" = some (.ref A.aclosed)
  b_closed : Binds K A.dclosed ["pile"] []
  F_turned : Fun K "turned" "turned" sturned A.aturned A.dturned
  m_turned : mg "turned" = some (.ref A.aturned)
  b_turned : Binds K A.dturned ["pile"] []
  F_word_of : Fun K "word_of" "word_of" sword_of A.aword_of A.dword_of
  m_word_of : mg "word_of" = some (.ref A.aword_of)
  b_word_of : Binds K A.dword_of ["text"] []
  F_read : Fun K "read" "read" sread A.aread A.dread
  m_read : mg "read" = some (.ref A.aread)
  b_read : Binds K A.dread ["text"] []
  F__law_cell_at : Fun K "_law_cell_at" "_law_cell_at" s_law_cell_at A.a_law_cell_at A.d_law_cell_at
  m__law_cell_at : mg "_law_cell_at" = some (.ref A.a_law_cell_at)
  b__law_cell_at : Binds K A.d_law_cell_at ["script", "k"] []
  F__law_pick : Fun K "_law_pick" "_law_pick" s_law_pick A.a_law_pick A.d_law_pick
  m__law_pick : mg "_law_pick" = some (.ref A.a_law_pick)
  b__law_pick : Binds K A.d_law_pick ["script", "k"] []
  F__law_whole : Fun K "_law_whole" "_law_whole" s_law_whole A.a_law_whole A.d_law_whole
  m__law_whole : mg "_law_whole" = some (.ref A.a_law_whole)
  b__law_whole : Binds K A.d_law_whole ["x"] []
  F__law_mix : Fun K "_law_mix" "_law_mix" s_law_mix A.a_law_mix A.d_law_mix
  m__law_mix : mg "_law_mix" = some (.ref A.a_law_mix)
  b__law_mix : Binds K A.d_law_mix ["cell", "k"] []
  F__law_leaf : Fun K "_law_leaf" "_law_leaf" s_law_leaf A.a_law_leaf A.d_law_leaf
  m__law_leaf : mg "_law_leaf" = some (.ref A.a_law_leaf)
  b__law_leaf : Binds K A.d_law_leaf ["mixed", "relays", "buttons"] []
  F__law_word : Fun K "_law_word" "_law_word" s_law_word A.a_law_word A.d_law_word
  m__law_word : mg "_law_word" = some (.ref A.a_law_word)
  b__law_word : Binds K A.d_law_word ["cell", "k", "deep", "relays", "buttons"] []
  F__law_text : Fun K "_law_text" "_law_text" s_law_text A.a_law_text A.d_law_text
  m__law_text : mg "_law_text" = some (.ref A.a_law_text)
  b__law_text : Binds K A.d_law_text ["word"] []
  F__law_is_word : Fun K "_law_is_word" "_law_is_word" s_law_is_word A.a_law_is_word A.d_law_is_word
  m__law_is_word : mg "_law_is_word" = some (.ref A.a_law_is_word)
  b__law_is_word : Binds K A.d_law_is_word ["found"] []
  F_law : Fun K "law" "law" slaw A.alaw A.dlaw
  m_law : mg "law" = some (.ref A.alaw)
  b_law : Binds K A.dlaw ["script"] []
  n_max : mg "max" = none
  n_str : mg "str" = none
  n_len : mg "len" = none
  n_isinstance : mg "isinstance" = none
  n_tuple : mg "tuple" = none
  n_int : mg "int" = none
  n_bool : mg "bool" = none
  n_all : mg "all" = none
  n_list : mg "list" = none
  n_range : mg "range" = none
  g_DEEPEST : ∃ t, mg "DEEPEST" = some (.int 8 t)
  g_FIGURES : ∃ t, mg "FIGURES" = some (.str "0123456789" t)
  c_RoomError : mg "RoomError" = some (.ref A.CRoomError)
  c_Deep : mg "Deep" = some (.ref A.CDeep)
  c_NoNote : mg "NoNote" = some (.ref A.CNoNote)
section
variable {P : Program} {w : World} {K : PySem.W.Frag} {mg : Str → Option Value} {base : Heap} {Z : Ad}
def sp_word_shown (N : Nat) : Sp := fun vs H Q _ => ∃ (a : Addr) (x : W), vs = [.ref a] ∧ WA H x a ∧ x.wired 10 10 ∧ x.depth ≤ N ∧ x.depth ≤ 9 ∧ Q (.str (SX.S (txt x))) H
theorem st_word_shown (T : Txt K mg Z) {N : Nat} (Gword_shown : FnOk P w K mg base CX0 N Z.aword_shown Z.dword_shown ["word"] (sp_word_shown N)) : FnOk P w K mg base CX0 (N + 1) Z.aword_shown Z.dword_shown ["word"] (sp_word_shown (N + 1)) := by
  refine T.F_word_shown.ok scword_shown (fun vs H Q E h => by obtain ⟨_, _, rfl, _⟩ := h; rfl) (fun cdv A outer s H vs Q E hr h => ?_)
  obtain ⟨a, x, rfl, hx, hw, hd, hN, q⟩ := h
  refine ⟨_, (pss_cons (ps_if (pt_cmpR op_eq (pe_ix (r := rIxT K) ix_tup (pv 0) pe_int (fun _ _ => rfl)) pe_str (nomark _)) (pss_one (ps_ret pe_str)) pss_nil)
      (pss_cons (ps_if (pt_cmpR op_eq (pe_ix (r := rIxT K) ix_tup (pv 0) pe_int (fun _ _ => rfl)) pe_str (nomark _)) (pss_one (ps_ret pe_str)) pss_nil)
      (pss_cons (ps_if (PW.pt (pw_or (pt_cmpR op_eq (pe_ix (r := rIxT K) ix_tup (pv 0) pe_int (fun _ _ => rfl)) pe_str (nomark _)) (pw_or1 (pt_cmpR op_eq (pe_ix (r := rIxT K) ix_tup (pv 0) pe_int (fun _ _ => rfl)) pe_str (nomark _))))) (pss_one (ps_ret (pe_op op_add_str (pe_ix ix_str (pe_ix (r := rIxT K) ix_tup (pv 0) pe_int (fun _ _ => rfl)) pe_int (fun _ _ => rfl)) (pe_callTy call_str_int (by rfl) T.n_str (by decide +kernel) (pa_cons (pe_ix (r := rIxT K) ix_tup (pv 0) pe_int (fun _ _ => rfl)) pa_nil))))) pss_nil)
      (pss_cons (ps_if (pt_cmpR op_eq (pe_ix (r := rIxT K) ix_tup (pv 0) pe_int (fun _ _ => rfl)) pe_str (nomark _)) (pss_one (ps_ret (pe_op op_add_str pe_str (pe_call Gword_shown (hr.mono (by omega)) (by rfl) T.m_word_shown T.F_word_shown.kp T.b_word_shown .nil pass0 (pa_cons (pe_ix (r := rIxT K) ix_tup (pv 0) pe_int (fun _ _ => rfl)) pa_nil))))) pss_nil)
      (pss_cons (ps_set (i := 1) scword_shown.nd rfl (Or.inl rfl) pe_str)
      (C8.pss_cut (ps_if (pt_cmpR op_eq (pe_ix (r := rIxT K) ix_tup (pv 0) pe_int (fun _ _ => rfl)) pe_str (nomark _)) (pss_one (ps_set (i := 1) scword_shown.nd rfl (Or.inl rfl) pe_str)) pss_nil)
      (pss_one (ps_ret (pe_op op_add_str (pe_op op_add_str (pe_op op_add_str (pe_op op_add_str pe_str (pe_call Gword_shown (hr.mono (by omega)) (by rfl) T.m_word_shown T.F_word_shown.kp T.b_word_shown .nil pass0 (pa_cons (pe_ix (r := rIxT K) ix_tup (pv 0) pe_int (fun _ _ => rfl)) pa_nil))) (pv 1)) (pe_call Gword_shown (hr.mono (by omega)) (by rfl) T.m_word_shown T.F_word_shown.kp T.b_word_shown .nil pass0 (pa_cons (pe_ix (r := rIxT K) ix_tup (pv 0) pe_int (fun _ _ => rfl)) pa_nil))) pe_str))))))))), ?_⟩
  cases x with
  | on =>
    have e0 : H a = some (.tup [.str "on"]) := hx
    refine tag_test rfl e0 ?_; wtm_at "dT"
    exact q
  | off =>
    have e0 : H a = some (.tup [.str "off"]) := hx
    refine tag_test rfl e0 ?_; wtm_at "dF"
    refine tag_test rfl e0 ?_; wtm_at "dT"
    exact q
  | relay k =>
    have e0 : H a = some (.tup [.str "relay", .int k]) := hx
    obtain ⟨j, rfl⟩ : ∃ j : Nat, k = (j : Int) := ⟨k.toNat, by have := hw.1; omega⟩
    have hj : j < 10 := by have := hw.2; omega
    refine tag_test rfl e0 ?_; wtm_at "dF"
    refine tag_test rfl e0 ?_; wtm_at "dF"
    refine tag_test rfl e0 ?_; wtm_at "dT"
    refine ⟨_, rfl, a, _, 0, _, rfl, rfl, .of e0, atI_nat (j := 0) rfl, _, 0, 114, rfl, rfl, by decide +kernel, by decide +kernel, ?_⟩
    refine ⟨_, rfl, a, _, 1, _, rfl, rfl, .of e0, atI_nat (j := 1) rfl, (j : Int), rfl, small_log hj, ?_⟩
    have e : (Str.ofString (toString ((j : Nat) : Int)) : Str) = SX.S [48 + j] := by rw [num_str, TL.numL_lt hj]
    refine ⟨SX.S [114], SX.S [48 + j], rfl, congrArg V.str e, by rw [len_S, len_S]; exact small10 (Nat.le_of_ble_eq_true rfl), ?_⟩
    rw [cat_S]
    have : txt (.relay (j : Int)) = [114] ++ [48 + j] := by rw [txt, Int.toNat_natCast, TL.numL_lt hj]; rfl
    rw [← this]; exact q
  | button k =>
    have e0 : H a = some (.tup [.str "button", .int k]) := hx
    obtain ⟨j, rfl⟩ : ∃ j : Nat, k = (j : Int) := ⟨k.toNat, by have := hw.1; omega⟩
    have hj : j < 10 := by have := hw.2; omega
    refine tag_test rfl e0 ?_; wtm_at "dF"
    refine tag_test rfl e0 ?_; wtm_at "dF"
    refine tag_test rfl e0 ?_; wtm_at "dF"
    refine tag_test rfl e0 ?_; wtm_at "dT"
    refine ⟨_, rfl, a, _, 0, _, rfl, rfl, .of e0, atI_nat (j := 0) rfl, _, 0, 98, rfl, rfl, by decide +kernel, by decide +kernel, ?_⟩
    refine ⟨_, rfl, a, _, 1, _, rfl, rfl, .of e0, atI_nat (j := 1) rfl, (j : Int), rfl, small_log hj, ?_⟩
    have e : (Str.ofString (toString ((j : Nat) : Int)) : Str) = SX.S [48 + j] := by rw [num_str, TL.numL_lt hj]
    refine ⟨SX.S [98], SX.S [48 + j], rfl, congrArg V.str e, by rw [len_S, len_S]; exact small10 (Nat.le_of_ble_eq_true rfl), ?_⟩
    rw [cat_S]
    have : txt (.button (j : Int)) = [98] ++ [48 + j] := by rw [txt, Int.toNat_natCast, TL.numL_lt hj]; rfl
    rw [← this]; exact q
  | not y =>
    obtain ⟨b, e0, hy⟩ := hx
    have hd' : y.depth + 1 ≤ N + 1 := hd
    have hN' : y.depth + 1 ≤ 9 := hN
    have ly := txt_le (w := y) hw (by omega)
    refine tag_test rfl e0 ?_; wtm_at "dF"
    refine tag_test rfl e0 ?_; wtm_at "dF"
    refine tag_test rfl e0 ?_; wtm_at "dF"
    refine tag_test rfl e0 ?_; wtm_at "dF"
    refine tag_test rfl e0 ?_; wtm_at "dT"
    refine ⟨_, rfl, a, _, 1, _, rfl, rfl, .of e0, atI_nat (j := 1) rfl, b, y, rfl, hy, hw, by omega, by omega, ?_⟩
    refine ⟨SX.S [33], _, rfl, rfl, by rw [len_S, len_S]; exact small10 (by show 1 + _ ≤ _; omega), ?_⟩
    rw [cat_S]; exact q
  | and y z =>
    obtain ⟨b, c, e0, hy, hz⟩ := hx
    have hd' : max y.depth z.depth + 1 ≤ N + 1 := hd
    have hN' : max y.depth z.depth + 1 ≤ 9 := hN
    have ly := txt_le (w := y) hw.1 (by omega)
    have lz := txt_le (w := z) hw.2 (by omega)
    refine tag_test rfl e0 ?_; wtm_at "dF"
    refine tag_test rfl e0 ?_; wtm_at "dF"
    refine tag_test rfl e0 ?_; wtm_at "dF"
    refine tag_test rfl e0 ?_; wtm_at "dF"
    refine tag_test rfl e0 ?_; wtm_at "dF"
    refine ⟨fun σ' H' => H' = H ∧ σ' = [some (.ref a), some (.str (SX.S [38]))], ?_, ?_⟩
    · refine tag_test rfl e0 ?_; wtm_at "dF"
      exact ⟨rfl, rfl⟩
    rintro σ' H' ⟨rfl, rfl⟩
    refine ⟨_, rfl, a, _, 1, _, rfl, rfl, .of e0, atI_nat (j := 1) rfl, b, y, rfl, hy, hw.1, by omega, by omega, ?_⟩
    refine ⟨SX.S [40], _, rfl, rfl, by rw [len_S, len_S]; exact small10 (by show 1 + _ ≤ _; omega), ?_⟩
    rw [cat_S]
    refine ⟨_, rfl, _, _, rfl, rfl, by rw [len_S, len_S]; exact small10 (by rw [List.length_append]; show 1 + _ + 1 ≤ _; omega), ?_⟩
    rw [cat_S]
    refine ⟨_, rfl, a, _, 2, _, rfl, rfl, .of e0, atI_nat (j := 2) rfl, c, z, rfl, hz, hw.2, by omega, by omega, ?_⟩
    refine ⟨_, _, rfl, rfl, by rw [len_S, len_S]; exact small10 (by rw [List.length_append, List.length_append]; show 1 + _ + 1 + _ ≤ _; omega), ?_⟩
    rw [cat_S]
    refine ⟨_, SX.S [41], rfl, rfl, by rw [len_S, len_S]; exact small10 (by rw [List.length_append, List.length_append, List.length_append]; show 1 + _ + 1 + _ + 1 ≤ _; omega), ?_⟩
    rw [cat_S]
    have : txt (.and y z) = [40] ++ txt y ++ [38] ++ txt z ++ [41] := by simp [txt]
    rw [← this]; exact q
  | or y z =>
    obtain ⟨b, c, e0, hy, hz⟩ := hx
    have hd' : max y.depth z.depth + 1 ≤ N + 1 := hd
    have hN' : max y.depth z.depth + 1 ≤ 9 := hN
    have ly := txt_le (w := y) hw.1 (by omega)
    have lz := txt_le (w := z) hw.2 (by omega)
    refine tag_test rfl e0 ?_; wtm_at "dF"
    refine tag_test rfl e0 ?_; wtm_at "dF"
    refine tag_test rfl e0 ?_; wtm_at "dF"
    refine tag_test rfl e0 ?_; wtm_at "dF"
    refine tag_test rfl e0 ?_; wtm_at "dF"
    refine ⟨fun σ' H' => H' = H ∧ σ' = [some (.ref a), some (.str (SX.S [124]))], ?_, ?_⟩
    · refine tag_test rfl e0 ?_; wtm_at "dT"
      exact ⟨rfl, rfl⟩
    rintro σ' H' ⟨rfl, rfl⟩
    refine ⟨_, rfl, a, _, 1, _, rfl, rfl, .of e0, atI_nat (j := 1) rfl, b, y, rfl, hy, hw.1, by omega, by omega, ?_⟩
    refine ⟨SX.S [40], _, rfl, rfl, by rw [len_S, len_S]; exact small10 (by show 1 + _ ≤ _; omega), ?_⟩
    rw [cat_S]
    refine ⟨_, rfl, _, _, rfl, rfl, by rw [len_S, len_S]; exact small10 (by rw [List.length_append]; show 1 + _ + 1 ≤ _; omega), ?_⟩
    rw [cat_S]
    refine ⟨_, rfl, a, _, 2, _, rfl, rfl, .of e0, atI_nat (j := 2) rfl, c, z, rfl, hz, hw.2, by omega, by omega, ?_⟩
    refine ⟨_, _, rfl, rfl, by rw [len_S, len_S]; exact small10 (by rw [List.length_append, List.length_append]; show 1 + _ + 1 + _ ≤ _; omega), ?_⟩
    rw [cat_S]
    refine ⟨_, SX.S [41], rfl, rfl, by rw [len_S, len_S]; exact small10 (by rw [List.length_append, List.length_append, List.length_append]; show 1 + _ + 1 + _ + 1 ≤ _; omega), ?_⟩
    rw [cat_S]
    have : txt (.or y z) = [40] ++ txt y ++ [124] ++ txt z ++ [41] := by simp [txt]
    rw [← this]; exact q
theorem ok_word_shown (T : Txt K mg Z) : ∀ N : Nat, FnOk P w K mg base CX0 N Z.aword_shown Z.dword_shown ["word"] (sp_word_shown N)
  | 0 => fn_none (by rintro vs H Q E ⟨_, x, _, _, _, h, _⟩; have := x.depth_pos; omega)
  | N + 1 => st_word_shown T (ok_word_shown T N)

def sp_law_text (N : Nat) : Sp := fun vs H Q _ => ∃ (a : Addr) (x : W), vs = [.ref a] ∧ WA H x a ∧ x.wired 10 10 ∧ x.depth ≤ N ∧ x.depth ≤ 9 ∧ Q (.str (SX.S (txt x))) H
theorem st_law_text (T : Txt K mg Z) {N : Nat} (G_law_text : FnOk P w K mg base CX0 N Z.a_law_text Z.d_law_text ["word"] (sp_law_text N)) : FnOk P w K mg base CX0 (N + 1) Z.a_law_text Z.d_law_text ["word"] (sp_law_text (N + 1)) := by
  refine T.F__law_text.ok sc_law_text (fun vs H Q E h => by obtain ⟨_, _, rfl, _⟩ := h; rfl) (fun cdv A outer s H vs Q E hr h => ?_)
  obtain ⟨a, x, rfl, hx, hw, hd, hN, q⟩ := h
  refine ⟨_, (pss_cons (ps_if (PW.pt (pw_or (pt_cmpR op_eq (pe_ix (r := rIxT K) ix_tup (pv 0) pe_int (fun _ _ => rfl)) pe_str (nomark _)) (pw_or1 (pt_cmpR op_eq (pe_ix (r := rIxT K) ix_tup (pv 0) pe_int (fun _ _ => rfl)) pe_str (nomark _))))) (pss_one (ps_ret (pe_ix ix_str pe_str (pe_callTy call_int1 (by rfl) T.n_int (by decide +kernel) (pa_cons (pe_cmpR op_eq (pe_ix (r := rIxT K) ix_tup (pv 0) pe_int (fun _ _ => rfl)) pe_str (nomark _)) pa_nil)) (fun _ _ => rfl)))) pss_nil)
      (pss_cons (ps_if (PW.pt (pw_or (pt_cmpR op_eq (pe_ix (r := rIxT K) ix_tup (pv 0) pe_int (fun _ _ => rfl)) pe_str (nomark _)) (pw_or1 (pt_cmpR op_eq (pe_ix (r := rIxT K) ix_tup (pv 0) pe_int (fun _ _ => rfl)) pe_str (nomark _))))) (pss_one (ps_ret (pe_op op_add_str (pe_ix ix_str (pe_ix (r := rIxT K) ix_tup (pv 0) pe_int (fun _ _ => rfl)) pe_int (fun _ _ => rfl)) (pe_callTy call_str_int (by rfl) T.n_str (by decide +kernel) (pa_cons (pe_ix (r := rIxT K) ix_tup (pv 0) pe_int (fun _ _ => rfl)) pa_nil))))) pss_nil)
      (pss_cons (ps_if (pt_cmpR op_eq (pe_ix (r := rIxT K) ix_tup (pv 0) pe_int (fun _ _ => rfl)) pe_str (nomark _)) (pss_one (ps_ret (pe_op op_add_str pe_str (pe_call G_law_text (hr.mono (by omega)) (by rfl) T.m__law_text T.F__law_text.kp T.b__law_text .nil pass0 (pa_cons (pe_ix (r := rIxT K) ix_tup (pv 0) pe_int (fun _ _ => rfl)) pa_nil))))) pss_nil)
      (pss_cons (ps_set (i := 1) sc_law_text.nd rfl (Or.inl rfl) (pe_ix ix_str pe_str (pe_callTy call_int1 (by rfl) T.n_int (by decide +kernel) (pa_cons (pe_cmpR op_eq (pe_ix (r := rIxT K) ix_tup (pv 0) pe_int (fun _ _ => rfl)) pe_str (nomark _)) pa_nil)) (fun _ _ => rfl)))
      (pss_one (ps_ret (pe_op op_add_str (pe_op op_add_str (pe_op op_add_str (pe_op op_add_str pe_str (pe_call G_law_text (hr.mono (by omega)) (by rfl) T.m__law_text T.F__law_text.kp T.b__law_text .nil pass0 (pa_cons (pe_ix (r := rIxT K) ix_tup (pv 0) pe_int (fun _ _ => rfl)) pa_nil))) (pv 1)) (pe_call G_law_text (hr.mono (by omega)) (by rfl) T.m__law_text T.F__law_text.kp T.b__law_text .nil pass0 (pa_cons (pe_ix (r := rIxT K) ix_tup (pv 0) pe_int (fun _ _ => rfl)) pa_nil))) pe_str))))))), ?_⟩
  cases x with
  | on =>
    have e0 : H a = some (.tup [.str "on"]) := hx
    refine tag_test rfl e0 ?_; wtm_at "dT"
    refine tag_val rfl e0 ?_
    exact .inr ⟨_, rfl, _, 1, 49, rfl, rfl, by decide +kernel, by decide +kernel, q⟩
  | off =>
    have e0 : H a = some (.tup [.str "off"]) := hx
    refine tag_test rfl e0 ?_; wtm_at "dF"
    refine tag_test rfl e0 ?_; wtm_at "dT"
    refine tag_val rfl e0 ?_
    exact .inr ⟨_, rfl, _, 0, 48, rfl, rfl, by decide +kernel, by decide +kernel, q⟩
  | relay k =>
    have e0 : H a = some (.tup [.str "relay", .int k]) := hx
    obtain ⟨j, rfl⟩ : ∃ j : Nat, k = (j : Int) := ⟨k.toNat, by have := hw.1; omega⟩
    have hj : j < 10 := by have := hw.2; omega
    refine tag_test rfl e0 ?_; wtm_at "dF"
    refine tag_test rfl e0 ?_; wtm_at "dF"
    refine tag_test rfl e0 ?_; wtm_at "dT"
    refine ⟨_, rfl, a, _, 0, _, rfl, rfl, .of e0, atI_nat (j := 0) rfl, _, 0, 114, rfl, rfl, by decide +kernel, by decide +kernel, ?_⟩
    refine ⟨_, rfl, a, _, 1, _, rfl, rfl, .of e0, atI_nat (j := 1) rfl, (j : Int), rfl, small_log hj, ?_⟩
    have e : (Str.ofString (toString ((j : Nat) : Int)) : Str) = SX.S [48 + j] := by rw [num_str, TL.numL_lt hj]
    refine ⟨SX.S [114], SX.S [48 + j], rfl, congrArg V.str e, by rw [len_S, len_S]; exact small10 (Nat.le_of_ble_eq_true rfl), ?_⟩
    rw [cat_S]
    have : txt (.relay (j : Int)) = [114] ++ [48 + j] := by rw [txt, Int.toNat_natCast, TL.numL_lt hj]; rfl
    rw [← this]; exact q
  | button k =>
    have e0 : H a = some (.tup [.str "button", .int k]) := hx
    obtain ⟨j, rfl⟩ : ∃ j : Nat, k = (j : Int) := ⟨k.toNat, by have := hw.1; omega⟩
    have hj : j < 10 := by have := hw.2; omega
    refine tag_test rfl e0 ?_; wtm_at "dF"
    refine tag_test rfl e0 ?_; wtm_at "dF"
    refine tag_test rfl e0 ?_; wtm_at "dF"
    refine tag_test rfl e0 ?_; wtm_at "dT"
    refine ⟨_, rfl, a, _, 0, _, rfl, rfl, .of e0, atI_nat (j := 0) rfl, _, 0, 98, rfl, rfl, by decide +kernel, by decide +kernel, ?_⟩
    refine ⟨_, rfl, a, _, 1, _, rfl, rfl, .of e0, atI_nat (j := 1) rfl, (j : Int), rfl, small_log hj, ?_⟩
    have e : (Str.ofString (toString ((j : Nat) : Int)) : Str) = SX.S [48 + j] := by rw [num_str, TL.numL_lt hj]
    refine ⟨SX.S [98], SX.S [48 + j], rfl, congrArg V.str e, by rw [len_S, len_S]; exact small10 (Nat.le_of_ble_eq_true rfl), ?_⟩
    rw [cat_S]
    have : txt (.button (j : Int)) = [98] ++ [48 + j] := by rw [txt, Int.toNat_natCast, TL.numL_lt hj]; rfl
    rw [← this]; exact q
  | not y =>
    obtain ⟨b, e0, hy⟩ := hx
    have hd' : y.depth + 1 ≤ N + 1 := hd
    have hN' : y.depth + 1 ≤ 9 := hN
    have ly := txt_le (w := y) hw (by omega)
    refine tag_test rfl e0 ?_; wtm_at "dF"
    refine tag_test rfl e0 ?_; wtm_at "dF"
    refine tag_test rfl e0 ?_; wtm_at "dF"
    refine tag_test rfl e0 ?_; wtm_at "dF"
    refine tag_test rfl e0 ?_; wtm_at "dT"
    refine ⟨_, rfl, a, _, 1, _, rfl, rfl, .of e0, atI_nat (j := 1) rfl, b, y, rfl, hy, hw, by omega, by omega, ?_⟩
    refine ⟨SX.S [33], _, rfl, rfl, by rw [len_S, len_S]; exact small10 (by show 1 + _ ≤ _; omega), ?_⟩
    rw [cat_S]; exact q
  | and y z =>
    obtain ⟨b, c, e0, hy, hz⟩ := hx
    have hd' : max y.depth z.depth + 1 ≤ N + 1 := hd
    have hN' : max y.depth z.depth + 1 ≤ 9 := hN
    have ly := txt_le (w := y) hw.1 (by omega)
    have lz := txt_le (w := z) hw.2 (by omega)
    refine tag_test rfl e0 ?_; wtm_at "dF"
    refine tag_test rfl e0 ?_; wtm_at "dF"
    refine tag_test rfl e0 ?_; wtm_at "dF"
    refine tag_test rfl e0 ?_; wtm_at "dF"
    refine tag_test rfl e0 ?_; wtm_at "dF"
    refine tag_val rfl e0 ?_
    refine .inr ⟨_, rfl, _, 1, 38, rfl, rfl, by decide +kernel, by decide +kernel, ?_⟩
    refine ⟨_, rfl, a, _, 1, _, rfl, rfl, .of e0, atI_nat (j := 1) rfl, b, y, rfl, hy, hw.1, by omega, by omega, ?_⟩
    refine ⟨SX.S [40], _, rfl, rfl, by rw [len_S, len_S]; exact small10 (by show 1 + _ ≤ _; omega), ?_⟩
    rw [cat_S]
    refine ⟨_, rfl, _, _, rfl, rfl, by rw [len_S, len_S]; exact small10 (by rw [List.length_append]; show 1 + _ + 1 ≤ _; omega), ?_⟩
    rw [cat_S]
    refine ⟨_, rfl, a, _, 2, _, rfl, rfl, .of e0, atI_nat (j := 2) rfl, c, z, rfl, hz, hw.2, by omega, by omega, ?_⟩
    refine ⟨_, _, rfl, rfl, by rw [len_S, len_S]; exact small10 (by rw [List.length_append, List.length_append]; show 1 + _ + 1 + _ ≤ _; omega), ?_⟩
    rw [cat_S]
    refine ⟨_, SX.S [41], rfl, rfl, by rw [len_S, len_S]; exact small10 (by rw [List.length_append, List.length_append, List.length_append]; show 1 + _ + 1 + _ + 1 ≤ _; omega), ?_⟩
    rw [cat_S]
    have : txt (.and y z) = [40] ++ txt y ++ [38] ++ txt z ++ [41] := by simp [txt]
    rw [← this]; exact q
  | or y z =>
    obtain ⟨b, c, e0, hy, hz⟩ := hx
    have hd' : max y.depth z.depth + 1 ≤ N + 1 := hd
    have hN' : max y.depth z.depth + 1 ≤ 9 := hN
    have ly := txt_le (w := y) hw.1 (by omega)
    have lz := txt_le (w := z) hw.2 (by omega)
    refine tag_test rfl e0 ?_; wtm_at "dF"
    refine tag_test rfl e0 ?_; wtm_at "dF"
    refine tag_test rfl e0 ?_; wtm_at "dF"
    refine tag_test rfl e0 ?_; wtm_at "dF"
    refine tag_test rfl e0 ?_; wtm_at "dF"
    refine tag_val rfl e0 ?_
    refine .inr ⟨_, rfl, _, 0, 124, rfl, rfl, by decide +kernel, by decide +kernel, ?_⟩
    refine ⟨_, rfl, a, _, 1, _, rfl, rfl, .of e0, atI_nat (j := 1) rfl, b, y, rfl, hy, hw.1, by omega, by omega, ?_⟩
    refine ⟨SX.S [40], _, rfl, rfl, by rw [len_S, len_S]; exact small10 (by show 1 + _ ≤ _; omega), ?_⟩
    rw [cat_S]
    refine ⟨_, rfl, _, _, rfl, rfl, by rw [len_S, len_S]; exact small10 (by rw [List.length_append]; show 1 + _ + 1 ≤ _; omega), ?_⟩
    rw [cat_S]
    refine ⟨_, rfl, a, _, 2, _, rfl, rfl, .of e0, atI_nat (j := 2) rfl, c, z, rfl, hz, hw.2, by omega, by omega, ?_⟩
    refine ⟨_, _, rfl, rfl, by rw [len_S, len_S]; exact small10 (by rw [List.length_append, List.length_append]; show 1 + _ + 1 + _ ≤ _; omega), ?_⟩
    rw [cat_S]
    refine ⟨_, SX.S [41], rfl, rfl, by rw [len_S, len_S]; exact small10 (by rw [List.length_append, List.length_append, List.length_append]; show 1 + _ + 1 + _ + 1 ≤ _; omega), ?_⟩
    rw [cat_S]
    have : txt (.or y z) = [40] ++ txt y ++ [124] ++ txt z ++ [41] := by simp [txt]
    rw [← this]; exact q
theorem ok_law_text (T : Txt K mg Z) : ∀ N : Nat, FnOk P w K mg base CX0 N Z.a_law_text Z.d_law_text ["word"] (sp_law_text N)
  | 0 => fn_none (by rintro vs H Q E ⟨_, x, _, _, _, h, _⟩; have := x.depth_pos; omega)
  | N + 1 => st_law_text T (ok_law_text T N)

theorem joinL_len (l : List (List Nat)) (s : Nat) (B : Nat) (h : ∀ x ∈ l, x.length ≤ B) : (l.map (·.length)).sum + l.length * 1 ≤ l.length * (B + 1) := by
  induction l with
  | nil => simp
  | cons x l ih =>
    have h1 := h x List.mem_cons_self
    have h2 := ih fun y hy => h y (List.mem_cons_of_mem _ hy)
    rw [List.map_cons, List.sum_cons, List.length_cons, Nat.succ_mul, Nat.succ_mul]
    omega
def joinT (ws : List W) : List Nat := TL.joinL [59] (ws.map txt)
theorem joinT_str (ws : List W) : Txt.join (SX.S [59]) ((ws.map txt).map SX.S) = SX.S (joinT ws) := SX.join_S [59] (ws.map txt)
theorem sums_S (ws : List W) : (((ws.map txt).map SX.S).map (·.length)).sum + ((ws.map txt).map SX.S).length * (SX.S [59]).length ≤ ws.length * 1281 ∨ ∃ x ∈ ws, ¬ (txt x).length ≤ 1280 := by
  by_cases h : ∃ x ∈ ws, ¬ (txt x).length ≤ 1280
  · exact .inr h
  · refine .inl ?_
    rw [SX.lens, List.length_map, List.length_map]
    have := joinL_len (ws.map txt) 59 1280 fun x hx => by
      obtain ⟨w, hw, rfl⟩ := List.mem_map.mp hx
      exact Classical.byContradiction fun z => h ⟨w, hw, z⟩
    rw [List.length_map] at this
    exact this
def sp_shown : Sp := fun vs H Q _ => ∃ (b : Addr) (us : List V) (ws : List W), vs = [.ref b] ∧ H b = some (.lst us) ∧ WAs H ws us ∧ (∀ x ∈ ws, x.wired 10 10 ∧ x.depth ≤ 9) ∧ ws.length ≤ 10 ∧ ∀ H', Same H H' → Q (.str (SX.S (joinT ws))) H'
theorem ok_shown (T : Txt K mg Z) : FnOk P w K mg base CX0 10 Z.ashown Z.dshown ["board"] sp_shown := by
  have Gword_shown := ok_word_shown (P := P) (w := w) (base := base) T 9
  refine T.F_shown.ok scshown (fun vs H Q E h => by obtain ⟨_, _, _, rfl, _⟩ := h; rfl) (fun cdv A outer s H vs Q E hr h => ?_)
  obtain ⟨b, us, ws, rfl, hb, hW, hf, hl, q⟩ := h
  refine ⟨_, (pss_one (ps_ret (pe_bm PySem.F.plainAttrs_str PySem.F.slot_str_join PySem.F.type_str_join mt_join pe_str (pa_cons (pe_lc (own := [("word", 1)]) (g := gName 1) (tt := tYes) rfl scshown.nd (pi_list (pv 0)) (blkOk_by (own := [("word", 1)]) (N := ["board", "word"]) (sc := defScope sshown) (by decide +kernel)) (fun _ _ _ _ _ => pg_name (i := 1) scshown.nd rfl (Or.inl rfl)) (fun _ _ _ _ _ => pts_nil) (fun _ _ _ _ _ => (pe_call Gword_shown (hr.mono (by omega)) (by rfl) T.m_word_shown T.F_word_shown.kp T.b_word_shown .nil pass0 (pa_cons (pv 1) pa_nil)))) pa_nil)))), ?_⟩
  have hul := hW.length
  refine ⟨rfl, ?_⟩
  refine ⟨_, rfl, b, rfl, ⟨_, .of hb⟩, fun D nD => lc_list (K := K) (a := b) (xs := us) (fun i H' => Same H H' ∧ H' D = some (.lst ((((ws.take i).map txt).map SX.S).map V.str))) ?_ ?_ ?_ ?_⟩
  · exact ⟨Same.new nD, upd_same⟩
  · rintro i H' _ ⟨s1, _⟩
    exact .of (s1 _ _ hb)
  · rintro i v H1 hi ⟨s1, hD⟩
    obtain ⟨y, hy, c, rfl, hc⟩ := paired_get hW hi
    have hym := List.mem_of_getElem? hy
    wtm_at "lc"
    refine ⟨_, rfl, c, y, rfl, WA.same s1 hc, (hf y hym).1, (hf y hym).2, (hf y hym).2, ?_⟩
    refine ⟨_, hD, small11 ?_, Same.lst s1 nD, ?_⟩
    · rw [List.length_map, List.length_map, List.length_map, List.length_take]; omega
    · rw [upd_same, List.take_add_one, hy, List.map_append, List.map_append, List.map_append]; rfl
  rintro H1 ⟨s1, hD⟩
  rw [← hul, List.take_length] at hD
  refine ⟨SX.S [59], D, (ws.map txt).map SX.S, rfl, rfl, .inl (.of hD), ?_, ?_⟩
  · rcases sums_S ws with h | ⟨x, hx, h⟩
    · omega
    · exact absurd (txt_le (hf x hx).1 (hf x hx).2) h
  · rw [joinT_str]; exact q _ s1

def sp_turned : Sp := fun vs H Q _ => ∃ (p : Addr) (x : W) (r : List It), vs = [.ref p] ∧ PileAt H p (.wd x :: r) ∧ (∀ y ∈ r, itOk y) ∧ r.length ≤ 5000 ∧ ∀ (H' : Hp) (p' : Addr), Same H H' → PileAt H' p' (turnW x r) → Q (.ref p') H'
theorem ok_turned (T : Txt K mg Z) : FnOk P w K mg base CX0 1 Z.aturned Z.dturned ["pile"] sp_turned := by
  refine T.F_turned.ok scturned (fun vs H Q E h => by obtain ⟨_, _, _, rfl, _⟩ := h; rfl) (fun cdv A outer s H vs Q E hr h => ?_)
  obtain ⟨p, x, r, rfl, hp, hok, hl, q⟩ := h
  refine ⟨_, (pss_cons (ps_while PassesOwn.never (PW.pt (pw_and (pt_cmpR op_gt (pe_callB (r := rLenSeq K) call_len_seq (by rfl) T.n_len PySem.boot_len (pa_cons (pv 0) pa_nil)) pe_int (nomark _)) (pw_and (pt_val (pe_callB (r := rIsi K) call_isi (by rfl) T.n_isinstance (by decide +kernel) (pa_cons (pe_ix (r := rIxL K) ix_list (pv 0) (pe_un un_neg pe_int) (fun _ _ => rfl)) (pa_cons (pe_bltn (v := .ty "tuple") (u := .type "tuple") (by rfl) T.n_tuple (by decide +kernel) rfl) pa_nil)))) (pw_and1 (pt_cmpR (r := rEqS K) (op_eqS (hu_of hr)) (pe_ix (r := rIxL K) ix_list (pv 0) (pe_un un_neg pe_int) (fun _ _ => rfl)) pe_str (nomark _))))))
      (pss_one (ps_set (i := 0) scturned.nd rfl (Or.inl rfl) (pe_op op_cat (pe_slice (r := rSlL K) sl_list (pv 0) po_none (po_some (pe_un un_neg pe_int))) (pe_lst (pa_cons (pe_tup (pa_cons pe_str (pa_cons (pe_ix (r := rIxL K) ix_list (pv 0) (pe_un un_neg pe_int) (fun _ _ => rfl)) pa_nil))) pa_nil))))))
      (pss_one (ps_ret (pv 0)))), ?_⟩
  refine ⟨fun m σ H' => ∃ p' x' r', σ = [some (.ref p')] ∧ Same H H' ∧ PileAt H' p' (.wd x' :: r') ∧ (∀ y ∈ r', itOk y) ∧ turnW x' r' = turnW x r ∧ m = r'.length ∧ m ≤ 5000, ⟨_, p, x, r, rfl, Same.refl _, hp, hok, rfl, rfl, hl⟩, ?_⟩
  rintro m0 σ H1 ⟨p1, x1, r1, rfl, s1, hp1, hok1, ht, rfl, hm⟩
  obtain ⟨a, vs, e1, hx, hr1⟩ := pile_inv1 hp1
  have hvl := hr1.length
  have out : Q (.ref p1) H1 ∨ True := .inr True.intro
  have leave : (turnW x1 r1 = .wd x1 :: r1) → Q (.ref p1) H1 := fun h => q H1 p1 s1 (by rw [← ht, h]; exact hp1)
  refine ⟨_, rfl, p1, _, rfl, .inl (.of e1), _, _, rfl, rfl, _, rfl, ?_⟩
  cases hr1 with
  | nil =>
    refine iF (decide_eq_false (by show ¬ (1 : Int) < 1; omega)) ?_
    exact ⟨_, rfl, leave rfl⟩
  | @cons y v r2 vs2 hy hr2 =>
    have e2 : H1 p1 = some (.lst (vs2.reverse ++ [v, .ref a])) := by rw [e1, rev1, List.append_assoc]; rfl
    refine iT (decide_eq_true (by rw [List.length_append, List.length_reverse, List.length_cons, List.length_singleton]; omega)) ?_
    refine ⟨_, rfl, _, rfl, p1, _, -1, _, rfl, rfl, .of e2, at2a _ _ _, ?_⟩
    obtain ⟨us, eu⟩ := hx.tupx
    refine ⟨.ref a, .ty "tuple", .type "tuple", .type "tuple", true, rfl, .ty _, .base (.tup eu), kit_ty (by decide +kernel), _, rfl, ?_⟩
    refine iT rfl ?_
    refine ⟨_, rfl, _, rfl, p1, _, -2, _, rfl, rfl, .of e2, at2b _ _ _, itD y, SX.S [33], itDp hy, it_lay (hok1 y List.mem_cons_self), rfl, by decide +kernel, _, rfl, ?_⟩
    rw [eqv_it]
    cases y with
    | wd u =>
      refine iF rfl ?_
      exact ⟨_, rfl, leave rfl⟩
    | sg c =>
      refine iB (fun z => ?_) (fun z => ?_)
      · have hc : c = 33 := of_decide_eq_true z
        subst hc
        refine ⟨fun σ' H' => ∃ m', m' < (It.sg 33 :: r2).length ∧ ∃ p' x' r', σ' = [some (.ref p')] ∧ Same H H' ∧ PileAt H' p' (.wd x' :: r') ∧ (∀ y ∈ r', itOk y) ∧ turnW x' r' = turnW x r ∧ m' = r'.length ∧ m' ≤ 5000, fun _ _ h => h, ?_⟩
        rw [List.length_cons] at hm
        refine ⟨_, rfl, _, rfl, _, rfl, p1, _, rfl, .of e2, ?_⟩
        wtm_at "new s0 H2 s2 es2"
        rw [cutn2] at es2
        refine ⟨_, rfl, _, rfl, p1, _, -1, _, rfl, rfl, .of (s2 _ _ e2), at2a _ _ _, by wtm_at "sz", ?_⟩
        wtm_at "new t0 H3 s3 et3"
        refine ⟨by wtm_at "sz", ?_⟩
        wtm_at "new l0 H4 s4 el4"
        have s24 := s3.trans s4
        have l2 := hr2.length
        refine ⟨s0, l0, vs2.reverse, _, rfl, rfl, s24 _ _ es2, el4, small10 (by rw [List.length_reverse, List.length_singleton]; omega), ?_⟩
        wtm_at "new n0 H5 s5 en5"
        have s15 := s2.trans (s24.trans s5)
        refine ⟨r2.length, Nat.lt_succ_self _, n0, .not x1, r2, rfl, s1.trans s15, pile_push en5 (paired_same s15 hr2) ⟨t0, rfl, _, (s4.trans s5) _ _ et3, WA.same s15 hx⟩, fun y hy => hok1 y (List.mem_cons_of_mem _ hy), ?_, rfl, by omega⟩
        rw [← ht]; rfl
      · have hc : c ≠ 33 := of_decide_eq_false z
        exact ⟨_, rfl, leave (if_neg hc)⟩

def sp_closed_ok : Sp := fun vs H Q _ => ∃ (p : Addr) (st : List It) (x : W) (r : List It), vs = [.ref p] ∧ PileAt H p st ∧ (∀ y ∈ st, itOk y) ∧ closeS st = some (x, r) ∧ st.length ≤ 5000 ∧ ∀ (H' : Hp) (p' : Addr), Same H H' → PileAt H' p' (.wd x :: r) → Q (.ref p') H'
theorem amp_any (y : It) : ([PyData.str (SX.S [38]), PyData.str (SX.S [124])].any fun z => PyData.eqv z (itD y)) = (isSg 38 y || isSg 124 y) := by
  show (PyData.eqv _ _ || (PyData.eqv _ _ || false)) = _
  rw [it_eqv, it_eqv, Bool.or_false]
theorem ok_closed_ok (T : Txt K mg Z) : FnOk P w K mg base CX0 1 Z.aclosed Z.dclosed ["pile"] sp_closed_ok := by
  refine T.F_closed.ok scclosed (fun vs H Q E h => by obtain ⟨_, _, _, _, rfl, _⟩ := h; rfl) (fun cdv A outer s H vs Q E hr h => ?_)
  obtain ⟨p, st, x, r, rfl, hp, hok, hc, hl, q⟩ := h
  refine ⟨_, (pss_cons (ps_if (PW.pt (pw_or (pt_cmpR op_lt (pe_callB (r := rLenSeq K) call_len_seq (by rfl) T.n_len PySem.boot_len (pa_cons (pv 0) pa_nil)) pe_int (nomark _)) (pw_or (pt_cmpR (r := rNeS K) (op_neS (hu_of hr)) (pe_ix (r := rIxL K) ix_list (pv 0) (pe_un un_neg pe_int) (fun _ _ => rfl)) pe_str (nomark _)) (pw_or1 (pt_cmpR (r := rNotInS2 K) (op_notInS2 (hu_of hr)) (pe_ix (r := rIxL K) ix_list (pv 0) (pe_un un_neg pe_int) (fun _ _ => rfl)) (pe_tup (pa_cons pe_str (pa_cons pe_str pa_nil))) (by rfl)))))) (pss_one ps_never) pss_nil)
      (pss_cons (ps_if (PW.pt (pw_or (pt_not (pt_val (pe_callB (r := rIsi K) call_isi (by rfl) T.n_isinstance (by decide +kernel) (pa_cons (pe_ix (r := rIxL K) ix_list (pv 0) (pe_un un_neg pe_int) (fun _ _ => rfl)) (pa_cons (pe_bltn (v := .ty "tuple") (u := .type "tuple") (by rfl) T.n_tuple (by decide +kernel) rfl) pa_nil))))) (pw_or1 (pt_not (pt_val (pe_callB (r := rIsi K) call_isi (by rfl) T.n_isinstance (by decide +kernel) (pa_cons (pe_ix (r := rIxL K) ix_list (pv 0) (pe_un un_neg pe_int) (fun _ _ => rfl)) (pa_cons (pe_bltn (v := .ty "tuple") (u := .type "tuple") (by rfl) T.n_tuple (by decide +kernel) rfl) pa_nil)))))))) (pss_one ps_never) pss_nil)
      (pss_cons (ps_set (i := 1) scclosed.nd rfl (Or.inl rfl) pe_str)
      (C8.pss_cut (ps_if (pt_cmpR (r := rEqS K) (op_eqS (hu_of hr)) (pe_ix (r := rIxL K) ix_list (pv 0) (pe_un un_neg pe_int) (fun _ _ => rfl)) pe_str (nomark _)) (pss_one (ps_set (i := 1) scclosed.nd rfl (Or.inl rfl) pe_str)) pss_nil)
      (pss_one (ps_ret (pe_op op_cat (pe_slice (r := rSlL K) sl_list (pv 0) po_none (po_some (pe_un un_neg pe_int))) (pe_lst (pa_cons (pe_tup (pa_cons (pv 1) (pa_cons (pe_ix (r := rIxL K) ix_list (pv 0) (pe_un un_neg pe_int) (fun _ _ => rfl)) (pa_cons (pe_ix (r := rIxL K) ix_list (pv 0) (pe_un un_neg pe_int) (fun _ _ => rfl)) pa_nil)))) pa_nil))))))))), ?_⟩
  obtain ⟨wa, wb, c, rfl, hcw⟩ := close_inv hc
  obtain ⟨vs, e0, hq⟩ := hp
  cases hq with
  | @cons _ vb _ _ hb hq =>
  cases hq with
  | @cons _ vc _ _ hsg hq =>
  cases hq with
  | @cons _ va _ _ ha hq =>
  cases hq with
  | @cons _ vo _ vs ho hr4 =>
  obtain ⟨b, rfl, hb⟩ := hb
  obtain ⟨a, rfl, ha⟩ := ha
  rw [rev4] at e0
  have okc : itOk (.sg c) := hok _ (by simp)
  refine ⟨_, rfl, p, _, rfl, .inl (.of e0), _, _, rfl, rfl, _, rfl, ?_⟩
  refine iF (decide_eq_false (by rw [List.length_append]; show ¬ (((_ + 4 : Nat)) : Int) < 4; omega)) ?_
  refine ⟨_, rfl, _, rfl, p, _, -4, _, rfl, rfl, .of e0, at4d _ _ _ _ _, itD (.sg 40), SX.S [40], itDp ho, it_lay (show (40 : Nat) < 128 by decide), rfl, by decide +kernel, _, rfl, ?_⟩
  rw [eqv_it]
  refine iF rfl ?_
  refine ⟨_, rfl, _, rfl, p, _, -2, _, rfl, rfl, .of e0, at4b _ _ _ _ _, Nat.le_of_ble_eq_true (n := 2) rfl, ?_⟩
  wtm_at "new c0 H1 s1 e1"
  refine ⟨itD (.sg c), c0, _, itDp (hsg.tk (Same.tk s1)), it_lay okc, rfl, .tup (.of e1) (.cons (.str _) (.cons (.str _) .nil)), by decide +kernel, rfl, _, rfl, ?_⟩
  have eany := amp_any (.sg c)
  have hyes : (isSg 38 (.sg c) || isSg 124 (.sg c)) = true := by
    rcases hcw with ⟨rfl, _⟩ | ⟨rfl, _⟩ <;> rfl
  rw [hyes] at eany
  refine iF (congrArg not eany) ?_
  have e01 := s1 _ _ e0
  have ha1 := WA.same s1 ha
  have hb1 := WA.same s1 hb
  obtain ⟨ua, eua⟩ := ha1.tupx
  obtain ⟨ub, eub⟩ := hb1.tupx
  refine ⟨_, rfl, _, rfl, p, _, -3, _, rfl, rfl, .of e01, at4c _ _ _ _ _, .ref a, .ty "tuple", .type "tuple", .type "tuple", true, rfl, .ty _, .base (.tup eua), kit_ty (by decide +kernel), _, rfl, ?_⟩
  refine iF rfl ?_
  refine ⟨_, rfl, _, rfl, p, _, -1, _, rfl, rfl, .of e01, at4a _ _ _ _ _, .ref b, .ty "tuple", .type "tuple", .type "tuple", true, rfl, .ty _, .base (.tup eub), kit_ty (by decide +kernel), _, rfl, ?_⟩
  refine iF rfl ?_
  refine ⟨fun σ' H' => H' = H1 ∧ ∃ t : Str, σ' = [some (.ref p), some (.str t)] ∧ ∀ (H2 : Hp) (z : Addr), H2 z = some (.tup [.str t, .ref a, .ref b]) → WA H2 wa a → WA H2 wb b → WA H2 x z, ?_, ?_⟩
  · refine ⟨_, rfl, _, rfl, p, _, -2, _, rfl, rfl, .of e01, at4b _ _ _ _ _, itD (.sg c), SX.S [124], itDp (hsg.tk (Same.tk s1)), it_lay okc, rfl, by decide +kernel, _, rfl, ?_⟩
    rw [eqv_it]
    rcases hcw with ⟨rfl, rfl⟩ | ⟨rfl, rfl⟩
    · refine iF rfl ?_
      exact ⟨rfl, _, rfl, fun H2 z e g1 g2 => ⟨a, b, e, g1, g2⟩⟩
    · refine iT rfl ?_
      exact ⟨rfl, _, rfl, fun H2 z e g1 g2 => ⟨a, b, e, g1, g2⟩⟩
  rintro σ' H' ⟨rfl, t, rfl, mk⟩
  refine ⟨_, rfl, _, rfl, _, rfl, p, _, rfl, .of e01, ?_⟩
  wtm_at "new s0 H2 s2 es2"
  rw [cutn4] at es2
  have e02 := s2 _ _ e01
  refine ⟨_, rfl, _, rfl, _, rfl, p, _, -3, _, rfl, rfl, .of e02, at4c _ _ _ _ _, _, rfl, _, rfl, p, _, -1, _, rfl, rfl, .of e02, at4a _ _ _ _ _, Nat.le_of_ble_eq_true (n := 3) rfl, ?_⟩
  wtm_at "new t0 H3 s3 et3"
  refine ⟨Nat.le_of_ble_eq_true (n := 1) rfl, ?_⟩
  wtm_at "new l0 H4 s4 el4"
  have s24 := s3.trans s4
  have l4 := hr4.length
  simp only [List.length_cons] at hl
  refine ⟨s0, l0, vs.reverse, _, rfl, rfl, s24 _ _ es2, el4, small10 (by rw [List.length_reverse, List.length_singleton]; omega), ?_⟩
  wtm_at "new n0 H5 s5 en5"
  have s15 := s2.trans (s24.trans s5)
  have s05 := s1.trans s15
  exact q _ _ s05 (pile_push en5 (paired_same s05 hr4) ⟨t0, rfl, mk _ _ ((s4.trans s5) _ _ et3) (WA.same s05 ha) (WA.same s05 hb)⟩)

theorem rb_any (y : It) : ([PyData.str (SX.S [114]), PyData.str (SX.S [98])].any fun z => PyData.eqv z (itD y)) = (isSg 114 y || isSg 98 y) := by
  show (PyData.eqv _ _ || (PyData.eqv _ _ || false)) = _
  rw [it_eqv, it_eqv, Bool.or_false]
theorem dec_sg (c d : Nat) : decide (V.str ⟨#[c]⟩ = V.str (SX.S [d])) = decide (c = d) := by
  refine decide_eq_decide.mpr ⟨fun e => ?_, fun e => by rw [e]⟩
  have e1 : (SX.S [c]) = SX.S [d] := V.str.inj e
  have := SX.S_inj e1
  cases this; rfl
theorem figs : ∀ k : Fin 10, decide ((48 + k.val) ∈ ("0123456789" : Str).cps.toList) = true ∧ Txt.find ("0123456789" : Str) ⟨#[48 + k.val]⟩ = (k.val : Int) := by decide +kernel
theorem fig_in {c : Nat} (h0 : 48 ≤ c) (h9 : c ≤ 57) : decide (c ∈ ("0123456789" : Str).cps.toList) = true := by
  have := (figs ⟨c - 48, by omega⟩).1
  rw [show 48 + (⟨c - 48, by omega⟩ : Fin 10).val = c from by show 48 + (c - 48) = c; omega] at this
  exact this
theorem fig_find {c : Nat} (h0 : 48 ≤ c) (h9 : c ≤ 57) : Txt.find ("0123456789" : Str) ⟨#[c]⟩ = (c : Int) - 48 := by
  have := (figs ⟨c - 48, by omega⟩).2
  rw [show 48 + (⟨c - 48, by omega⟩ : Fin 10).val = c from by show 48 + (c - 48) = c; omega] at this
  rw [this]
  show ((c - 48 : Nat) : Int) = _
  omega
theorem six_list : ("rb!(&|" : Str).cps.toList = [114, 98, 33, 40, 38, 124] := by decide +kernel
theorem step_sg {d : Nat} {r : List It} {c : Nat} {s2 : List It} (h : stepS (.sg d :: r) c = some s2) (hd : d = 114 ∨ d = 98) : 48 ≤ c ∧ c ≤ 57 ∧ s2 = turnW (if d = 114 then .relay ((c : Int) - 48) else .button ((c : Int) - 48)) r := by
  unfold stepS at h
  simp only at h
  rw [if_pos hd] at h
  by_cases hc : 48 ≤ c ∧ c ≤ 57
  · rw [if_pos hc] at h
    exact ⟨hc.1, hc.2, (Option.some.inj h).symm⟩
  · rw [if_neg hc] at h; cases h
theorem run_step {st : List It} {c : Nat} {cs : List Nat} {z : List It} (h : runS st (c :: cs) = some z) : ∃ s2, stepS st c = some s2 ∧ runS s2 cs = some z := by
  unfold runS at h
  split at h
  · exact ⟨_, ‹_›, h⟩
  · cases h
def sp_word_of_ok : Sp := fun vs H Q _ => ∃ (cs : List Nat) (x : W), vs = [.str (SX.S cs)] ∧ cs.length ≤ 2000 ∧ runS [] cs = some [.wd x] ∧ ∀ (H' : Hp) (a : Addr), Same H H' → WA H' x a → Q (.ref a) H'
structure WoAt (H0 H : Hp) (p : Addr) (st : List It) (n : Nat) : Prop where
  same : Same H0 H
  pile : PileAt H p st
  ok : ∀ y ∈ st, itOk y
  len : st.length ≤ n
theorem ok_word_of_ok (T : Txt K mg Z) : FnOk P w K mg base CX0 2 Z.aword_of Z.dword_of ["text"] sp_word_of_ok := by
  have Gclosed := ok_closed_ok (P := P) (w := w) (base := base) T
  have Gturned := ok_turned (P := P) (w := w) (base := base) T
  refine T.F_word_of.ok scword_of (fun vs H Q E h => by obtain ⟨_, _, rfl, _⟩ := h; rfl) (fun cdv A outer s H vs Q E hr h => ?_)
  obtain ⟨cs, x, rfl, hl, hrun, q⟩ := h
  obtain ⟨_, gc_FIGURES⟩ := T.g_FIGURES
  refine ⟨_, (pss_cons (ps_set (i := 1) scword_of.nd rfl (Or.inl rfl) (pe_lst pa_nil))
      (pss_cons (ps_for PassesOwn.never rfl (pi_str (pv 0)) (pg_name (i := 2) scword_of.nd rfl (Or.inl rfl))
      (pss_one (ps_if (PW.pt (pw_and (pt_cmpR op_gt (pe_callB (r := rLenSeq K) call_len_seq (by rfl) T.n_len PySem.boot_len (pa_cons (pv 1) pa_nil)) pe_int (nomark _)) (pw_and1 (pt_cmpR (r := rInS2 K) (op_inS2 (hu_of hr)) (pe_ix (r := rIxL K) ix_list (pv 1) (pe_un un_neg pe_int) (fun _ _ => rfl)) (pe_tup (pa_cons pe_str (pa_cons pe_str pa_nil))) (by rfl))))) (pss_cons (ps_if (pt_cmpR op_notIn_sign (pv 2) (pe_glob rfl gc_FIGURES (show RelV (.str "0123456789") _ from ⟨_, rfl⟩)) (by rfl)) (pss_one ps_never) pss_nil)
      (pss_cons (ps_set (i := 3) scword_of.nd rfl (Or.inl rfl) (pe_dget (hu_of hr) (pe_disp (pps_cons pe_str pe_str (pps_cons pe_str pe_str pps_nil)) (by rfl) (by rfl) (fun z => by cases z) (by decide)) (pe_ix (r := rIxL K) ix_list (pv 1) (pe_un un_neg pe_int) (fun _ _ => rfl)) (fun _ _ => rfl)))
      (pss_one (ps_set (i := 1) scword_of.nd rfl (Or.inl rfl) (pe_call Gturned (hr.mono (by omega)) (by rfl) T.m_turned T.F_turned.kp T.b_turned .nil pass0 (pa_cons (pe_op op_cat (pe_slice (r := rSlL K) sl_list (pv 1) po_none (po_some (pe_un un_neg pe_int))) (pe_lst (pa_cons (pe_tup (pa_cons (pv 3) (pa_cons (pe_bm PySem.F.plainAttrs_str PySem.F.slot_str_find PySem.F.type_str_find mt_find (pe_glob rfl gc_FIGURES (show RelV (.str "0123456789") _ from ⟨_, rfl⟩)) (pa_cons (pv 2) pa_nil)) pa_nil))) pa_nil))) pa_nil)))))) (pss_one (ps_if (pt_cmpR op_eq (pv 2) pe_str (nomark _)) (pss_one (ps_set (i := 1) scword_of.nd rfl (Or.inl rfl) (pe_call Gturned (hr.mono (by omega)) (by rfl) T.m_turned T.F_turned.kp T.b_turned .nil pass0 (pa_cons (pe_op op_cat (pv 1) (pe_lst (pa_cons (pe_tup (pa_cons pe_str pa_nil)) pa_nil))) pa_nil)))) (pss_one (ps_if (pt_cmpR op_eq (pv 2) pe_str (nomark _)) (pss_one (ps_set (i := 1) scword_of.nd rfl (Or.inl rfl) (pe_call Gturned (hr.mono (by omega)) (by rfl) T.m_turned T.F_turned.kp T.b_turned .nil pass0 (pa_cons (pe_op op_cat (pv 1) (pe_lst (pa_cons (pe_tup (pa_cons pe_str pa_nil)) pa_nil))) pa_nil)))) (pss_one (ps_if (pt_cmpR op_eq (pv 2) pe_str (nomark _)) (pss_one (ps_set (i := 1) scword_of.nd rfl (Or.inl rfl) (pe_call Gturned (hr.mono (by omega)) (by rfl) T.m_turned T.F_turned.kp T.b_turned .nil pass0 (pa_cons (pe_call Gclosed (hr.mono (by omega)) (by rfl) T.m_closed T.F_closed.kp T.b_closed .nil pass0 (pa_cons (pv 1) pa_nil)) pa_nil)))) (pss_one (ps_if (pt_cmpR op_in_sign (pv 2) pe_str (by rfl)) (pss_one (ps_set (i := 1) scword_of.nd rfl (Or.inl rfl) (pe_op op_cat (pv 1) (pe_lst (pa_cons (pv 2) pa_nil))))) (pss_one ps_never))))))))))))
      (pss_cons (ps_if (PW.pt (pw_or (pt_cmpR op_ne (pe_callB (r := rLenSeq K) call_len_seq (by rfl) T.n_len PySem.boot_len (pa_cons (pv 1) pa_nil)) pe_int (nomark _)) (pw_or1 (pt_not (pt_val (pe_callB (r := rIsi K) call_isi (by rfl) T.n_isinstance (by decide +kernel) (pa_cons (pe_ix (r := rIxL K) ix_list (pv 1) pe_int (fun _ _ => rfl)) (pa_cons (pe_bltn (v := .ty "tuple") (u := .type "tuple") (by rfl) T.n_tuple (by decide +kernel) rfl) pa_nil)))))))) (pss_one ps_never) pss_nil)
      (pss_one (ps_ret (pe_ix (r := rIxL K) ix_list (pv 1) pe_int (fun _ _ => rfl))))))), ?_⟩
  refine ⟨Nat.zero_le _, ?_⟩
  wtm_at "new p0 H1 s1 e1"
  refine ⟨_, rfl, _, rfl, for_it walk_str (fun i σ H' => ∃ p st x2 x3, σ = [some (.str (SX.S cs)), some (.ref p), x2, x3] ∧ WoAt H H' p st i ∧ runS st (cs.drop i) = some [.wd x]) ?_ ?_ ?_ ?_⟩
  · exact ⟨p0, [], none, none, rfl, ⟨s1, ⟨[], e1, .nil⟩, (fun _ h => nomatch h), Nat.zero_le _⟩, hrun⟩
  · exact fun _ _ _ _ _ => True.intro
  · rintro i v σ Hx H2 hi ⟨p, st, x2, x3, rfl, N, hrun⟩ ⟨rfl, c, hc, rfl⟩
    have hi : i < cs.length := by simpa using hi
    have hc : cs[i]? = some c := by simpa using hc
    have hd : cs.drop i = c :: cs.drop (i + 1) := by
      obtain ⟨h1, h2⟩ := List.getElem?_eq_some_iff.mp hc
      rw [← h2]; exact List.drop_eq_getElem_cons h1
    rw [hd] at hrun
    obtain ⟨s2, hstep, hrun⟩ := run_step hrun
    obtain ⟨vs, e0, hq⟩ := N.pile
    have hvl := hq.length
    have hNl := N.len
    have next : ∀ {H' : Hp} {p' : Addr} {y : Option V}, WoAt H H' p' s2 (i + 1) → ∃ p st x2 x3, [some (.str (SX.S cs)), some (.ref p'), some (.str ⟨#[c]⟩), y] = [some (.str (SX.S cs)), some (.ref p), x2, x3] ∧ WoAt H H' p st (i + 1) ∧ runS st (cs.drop (i + 1)) = some [.wd x] := fun {H' p' y} N' => ⟨p', s2, _, y, rfl, N', hrun⟩
    have turn : ∀ {H' H'' : Hp} {p' : Addr} {u : W} {r : List It} (s' : Same H' H'') (h : PileAt H'' p' (turnW u r)) (s'' : Same H H') (ho : ∀ y ∈ r, itOk y) (hl : r.length ≤ i) (e : s2 = turnW u r), WoAt H H'' p' s2 (i + 1) := fun {H' H'' p' u r} s' h s'' ho hl e => ⟨s''.trans s', e ▸ h, e ▸ turn_ok r u ho, by rw [e]; have := turn_len r u; omega⟩
    refine ⟨_, rfl, p, _, rfl, .inl (.of e0), _, _, rfl, rfl, _, rfl, ?_⟩
    have fork : (st = [] ∧ plainS st c = some s2) ∨ (∃ y r, st = y :: r ∧ (isSg 114 y || isSg 98 y) = false ∧ plainS st c = some s2) ∨ (∃ d r, st = .sg d :: r ∧ (d = 114 ∨ d = 98)) := by
      cases st with
      | nil => exact .inl ⟨rfl, hstep⟩
      | cons y r =>
        cases y with
        | wd u => exact .inr (.inl ⟨_, _, rfl, rfl, hstep⟩)
        | sg d =>
          by_cases hd : d = 114 ∨ d = 98
          · exact .inr (.inr ⟨d, r, rfl, hd⟩)
          · refine .inr (.inl ⟨_, _, rfl, ?_, ?_⟩)
            · show (decide (d = 114) || decide (d = 98)) = false
              rw [decide_eq_false (fun z => hd (.inl z)), decide_eq_false (fun z => hd (.inr z))]; rfl
            · rw [← step_clear (st := .sg d :: r) hd]; exact hstep
    rcases fork with ⟨rfl, hpl⟩ | ⟨y, r, rfl, hy, hpl⟩ | ⟨d, r, rfl, hd⟩
    · have hv : vs = [] := by cases hq; rfl
      subst hv
      refine iF (decide_eq_false (by show ¬ (0 : Int) < 0; omega)) ?_
      have e3 := e0
      have hq3 := hq
      have t23 : Same H2 H2 := Same.refl _
      have d49 : decide (V.str ⟨#[c]⟩ = V.str ("1" : Str)) = decide (c = 49) := dec_sg c 49
      have d48 : decide (V.str ⟨#[c]⟩ = V.str ("0" : Str)) = decide (c = 48) := dec_sg c 48
      have d41 : decide (V.str ⟨#[c]⟩ = V.str (")" : Str)) = decide (c = 41) := dec_sg c 41
      unfold plainS at hpl
      refine ⟨_, rfl, rfl, _, rfl, ?_⟩
      rw [d49]
      by_cases c49 : c = 49
      · rw [if_pos c49] at hpl
        refine iT (decide_eq_true c49) ?_
        refine ⟨_, rfl, Nat.le_of_ble_eq_true (n := 1) rfl, ?_⟩
        wtm_at "new t0 H4 s4 et4"
        refine ⟨Nat.le_of_ble_eq_true (n := 1) rfl, ?_⟩
        wtm_at "new l0 H5 s5 el5"
        have s45 := s4.trans s5
        refine ⟨p, l0, _, _, rfl, rfl, s45 _ _ e3, el5, small10 (by rw [List.length_reverse, List.length_singleton]; omega), ?_⟩
        wtm_at "new n0 H6 s6 en6"
        have s36 := s45.trans s6
        refine ⟨n0, .on, _, rfl, pile_push en6 (paired_same s36 hq3) ⟨t0, rfl, (s5.trans s6) _ _ et4⟩, N.ok, by omega, fun H7 p7 s7 hp7 => ?_⟩
        exact next (turn s7 hp7 (N.same.trans (t23.trans s36)) N.ok hNl (Option.some.inj hpl).symm)
      rw [if_neg c49] at hpl
      refine iF (decide_eq_false c49) ?_
      refine ⟨_, rfl, rfl, _, rfl, ?_⟩
      rw [d48]
      by_cases c48 : c = 48
      · rw [if_pos c48] at hpl
        refine iT (decide_eq_true c48) ?_
        refine ⟨_, rfl, Nat.le_of_ble_eq_true (n := 1) rfl, ?_⟩
        wtm_at "new t0 H4 s4 et4"
        refine ⟨Nat.le_of_ble_eq_true (n := 1) rfl, ?_⟩
        wtm_at "new l0 H5 s5 el5"
        have s45 := s4.trans s5
        refine ⟨p, l0, _, _, rfl, rfl, s45 _ _ e3, el5, small10 (by rw [List.length_reverse, List.length_singleton]; omega), ?_⟩
        wtm_at "new n0 H6 s6 en6"
        have s36 := s45.trans s6
        refine ⟨n0, .off, _, rfl, pile_push en6 (paired_same s36 hq3) ⟨t0, rfl, (s5.trans s6) _ _ et4⟩, N.ok, by omega, fun H7 p7 s7 hp7 => ?_⟩
        exact next (turn s7 hp7 (N.same.trans (t23.trans s36)) N.ok hNl (Option.some.inj hpl).symm)
      rw [if_neg c48] at hpl
      refine iF (decide_eq_false c48) ?_
      refine ⟨_, rfl, rfl, _, rfl, ?_⟩
      rw [d41]
      by_cases c41 : c = 41
      · rw [if_pos c41] at hpl
        refine iT (decide_eq_true c41) ?_
        obtain ⟨⟨u, r5⟩, hcl, hpl⟩ := Option.map_eq_some_iff.mp hpl
        refine ⟨_, rfl, p, _, u, r5, rfl, ⟨_, e3, hq3⟩, N.ok, hcl, by omega, fun H6 p6 s6 hp6 => ?_⟩
        obtain ⟨ca, cb, cc, e5, _⟩ := close_inv hcl
        have o5 : ∀ y ∈ r5, itOk y := fun y hy => N.ok y (by rw [e5]; simp [hy])
        have l5 : r5.length ≤ i := by rw [e5] at hNl; simp only [List.length_cons] at hNl; omega
        refine ⟨p6, u, r5, rfl, hp6, o5, by omega, fun H7 p7 s7 hp7 => ?_⟩
        exact next (turn s7 hp7 (N.same.trans (t23.trans s6)) o5 l5 hpl.symm)
      rw [if_neg c41] at hpl
      refine iF (decide_eq_false c41) ?_
      have hsix : c ∈ [114, 98, 33, 40, 38, 124] := Classical.byContradiction fun z => by rw [if_neg z] at hpl; cases hpl
      rw [if_pos hsix] at hpl
      refine ⟨_, rfl, c, _, rfl, rfl, _, rfl, ?_⟩
      refine iT (decide_eq_true (by rw [six_list]; exact hsix)) ?_
      refine ⟨_, rfl, _, rfl, Nat.le_of_ble_eq_true (n := 1) rfl, ?_⟩
      wtm_at "new l0 H5 s5 el5"
      refine ⟨p, l0, _, _, rfl, rfl, s5 _ _ e3, el5, small10 (by rw [List.length_reverse, List.length_singleton]; omega), ?_⟩
      wtm_at "new n0 H6 s6 en6"
      have s36 := s5.trans s6
      have c128 : c < 128 := by simp at hsix; omega
      have hpush : PileAt H6 n0 (.sg c :: _) := pile_push en6 (paired_same s36 hq3) rfl
      exact next ⟨N.same.trans (t23.trans s36), (Option.some.inj hpl) ▸ hpush, fun y hy => by
        rw [← Option.some.inj hpl] at hy
        rcases List.mem_cons.mp hy with rfl | hy
        · exact c128
        · exact N.ok y hy, by rw [← Option.some.inj hpl, List.length_cons]; omega⟩
    · cases hq with
      | @cons _ v0 _ vs0 hy0 hr0 =>
      refine iT (decide_eq_true (by rw [List.length_reverse, List.length_cons]; omega)) ?_
      rw [rev1] at e0
      refine ⟨_, rfl, _, rfl, p, _, -1, _, rfl, rfl, .of e0, at1 _ _, Nat.le_of_ble_eq_true (n := 2) rfl, ?_⟩
      wtm_at "new c0 H3 t23 ec3"
      refine ⟨itD y, c0, _, itDp (hy0.tk (Same.tk t23)), it_lay (N.ok y List.mem_cons_self), rfl, .tup (.of ec3) (.cons (.str _) (.cons (.str _) .nil)), by decide +kernel, rfl, _, rfl, ?_⟩
      have eany := rb_any y
      rw [hy] at eany
      refine iF eany ?_
      have hq3 : Paired (ItAt H3) (y :: r) (v0 :: vs0) := paired_same t23 (.cons hy0 hr0)
      have e3 : H3 p = some (.lst (v0 :: vs0).reverse) := by rw [rev1]; exact t23 _ _ e0
      have d49 : decide (V.str ⟨#[c]⟩ = V.str ("1" : Str)) = decide (c = 49) := dec_sg c 49
      have d48 : decide (V.str ⟨#[c]⟩ = V.str ("0" : Str)) = decide (c = 48) := dec_sg c 48
      have d41 : decide (V.str ⟨#[c]⟩ = V.str (")" : Str)) = decide (c = 41) := dec_sg c 41
      unfold plainS at hpl
      refine ⟨_, rfl, rfl, _, rfl, ?_⟩
      rw [d49]
      by_cases c49 : c = 49
      · rw [if_pos c49] at hpl
        refine iT (decide_eq_true c49) ?_
        refine ⟨_, rfl, Nat.le_of_ble_eq_true (n := 1) rfl, ?_⟩
        wtm_at "new t0 H4 s4 et4"
        refine ⟨Nat.le_of_ble_eq_true (n := 1) rfl, ?_⟩
        wtm_at "new l0 H5 s5 el5"
        have s45 := s4.trans s5
        refine ⟨p, l0, _, _, rfl, rfl, s45 _ _ e3, el5, small10 (by rw [List.length_reverse, List.length_singleton]; omega), ?_⟩
        wtm_at "new n0 H6 s6 en6"
        have s36 := s45.trans s6
        refine ⟨n0, .on, _, rfl, pile_push en6 (paired_same s36 hq3) ⟨t0, rfl, (s5.trans s6) _ _ et4⟩, N.ok, by omega, fun H7 p7 s7 hp7 => ?_⟩
        exact next (turn s7 hp7 (N.same.trans (t23.trans s36)) N.ok hNl (Option.some.inj hpl).symm)
      rw [if_neg c49] at hpl
      refine iF (decide_eq_false c49) ?_
      refine ⟨_, rfl, rfl, _, rfl, ?_⟩
      rw [d48]
      by_cases c48 : c = 48
      · rw [if_pos c48] at hpl
        refine iT (decide_eq_true c48) ?_
        refine ⟨_, rfl, Nat.le_of_ble_eq_true (n := 1) rfl, ?_⟩
        wtm_at "new t0 H4 s4 et4"
        refine ⟨Nat.le_of_ble_eq_true (n := 1) rfl, ?_⟩
        wtm_at "new l0 H5 s5 el5"
        have s45 := s4.trans s5
        refine ⟨p, l0, _, _, rfl, rfl, s45 _ _ e3, el5, small10 (by rw [List.length_reverse, List.length_singleton]; omega), ?_⟩
        wtm_at "new n0 H6 s6 en6"
        have s36 := s45.trans s6
        refine ⟨n0, .off, _, rfl, pile_push en6 (paired_same s36 hq3) ⟨t0, rfl, (s5.trans s6) _ _ et4⟩, N.ok, by omega, fun H7 p7 s7 hp7 => ?_⟩
        exact next (turn s7 hp7 (N.same.trans (t23.trans s36)) N.ok hNl (Option.some.inj hpl).symm)
      rw [if_neg c48] at hpl
      refine iF (decide_eq_false c48) ?_
      refine ⟨_, rfl, rfl, _, rfl, ?_⟩
      rw [d41]
      by_cases c41 : c = 41
      · rw [if_pos c41] at hpl
        refine iT (decide_eq_true c41) ?_
        obtain ⟨⟨u, r5⟩, hcl, hpl⟩ := Option.map_eq_some_iff.mp hpl
        refine ⟨_, rfl, p, _, u, r5, rfl, ⟨_, e3, hq3⟩, N.ok, hcl, by omega, fun H6 p6 s6 hp6 => ?_⟩
        obtain ⟨ca, cb, cc, e5, _⟩ := close_inv hcl
        have o5 : ∀ y ∈ r5, itOk y := fun y hy => N.ok y (by rw [e5]; simp [hy])
        have l5 : r5.length ≤ i := by rw [e5] at hNl; simp only [List.length_cons] at hNl; omega
        refine ⟨p6, u, r5, rfl, hp6, o5, by omega, fun H7 p7 s7 hp7 => ?_⟩
        exact next (turn s7 hp7 (N.same.trans (t23.trans s6)) o5 l5 hpl.symm)
      rw [if_neg c41] at hpl
      refine iF (decide_eq_false c41) ?_
      have hsix : c ∈ [114, 98, 33, 40, 38, 124] := Classical.byContradiction fun z => by rw [if_neg z] at hpl; cases hpl
      rw [if_pos hsix] at hpl
      refine ⟨_, rfl, c, _, rfl, rfl, _, rfl, ?_⟩
      refine iT (decide_eq_true (by rw [six_list]; exact hsix)) ?_
      refine ⟨_, rfl, _, rfl, Nat.le_of_ble_eq_true (n := 1) rfl, ?_⟩
      wtm_at "new l0 H5 s5 el5"
      refine ⟨p, l0, _, _, rfl, rfl, s5 _ _ e3, el5, small10 (by rw [List.length_reverse, List.length_singleton]; omega), ?_⟩
      wtm_at "new n0 H6 s6 en6"
      have s36 := s5.trans s6
      have c128 : c < 128 := by simp at hsix; omega
      have hpush : PileAt H6 n0 (.sg c :: _) := pile_push en6 (paired_same s36 hq3) rfl
      exact next ⟨N.same.trans (t23.trans s36), (Option.some.inj hpl) ▸ hpush, fun y hy => by
        rw [← Option.some.inj hpl] at hy
        rcases List.mem_cons.mp hy with rfl | hy
        · exact c128
        · exact N.ok y hy, by rw [← Option.some.inj hpl, List.length_cons]; omega⟩
    · obtain ⟨h0, h9, hs2⟩ := step_sg hstep hd
      cases hq with
      | @cons _ v0 _ vs0 hy0 hr0 =>
      have ev : v0 = .str (SX.S [d]) := hy0
      subst ev
      refine iT (decide_eq_true (by rw [List.length_reverse, List.length_cons]; omega)) ?_
      rw [rev1] at e0
      refine ⟨_, rfl, _, rfl, p, _, -1, _, rfl, rfl, .of e0, at1 _ _, Nat.le_of_ble_eq_true (n := 2) rfl, ?_⟩
      wtm_at "new c0 H3 t23 ec3"
      refine ⟨itD (.sg d), c0, _, .str _, it_lay (N.ok _ List.mem_cons_self), rfl, .tup (.of ec3) (.cons (.str _) (.cons (.str _) .nil)), by decide +kernel, rfl, _, rfl, ?_⟩
      have eany := rb_any (.sg d)
      have hyes : (isSg 114 (.sg d) || isSg 98 (.sg d)) = true := by rcases hd with rfl | rfl <;> rfl
      rw [hyes] at eany
      refine iT eany ?_
      refine ⟨_, rfl, c, _, rfl, rfl, _, rfl, ?_⟩
      refine iF (by rw [fig_in h0 h9]; rfl) ?_
      rcases hd with rfl | rfl
      · intro dp ndp
        refine ⟨upd_same, [(Sum.inr ("r" : Str), .str "relay"), (Sum.inr ("b" : Str), .str "button")], rfl, by decide, ?_⟩
        have e34 : (upd (upd H3 dp (.dK [])) dp (.dK (mergeK [] [(Sum.inr ("r" : Str), .str "relay"), (Sum.inr ("b" : Str), .str "button")]))) dp = some (.dK (mergeK [] [(Sum.inr ("r" : Str), .str "relay"), (Sum.inr ("b" : Str), .str "button")])) := upd_same
        have t34 : Same H3 (upd (upd H3 dp (.dK [])) dp (.dK (mergeK [] [(Sum.inr ("r" : Str), .str "relay"), (Sum.inr ("b" : Str), .str "button")]))) := Same.lst (Same.new ndp) ndp
        generalize upd (upd H3 dp (.dK [])) dp (.dK (mergeK [] [(Sum.inr ("r" : Str), .str "relay"), (Sum.inr ("b" : Str), .str "button")])) = H4 at *
        refine ⟨_, rfl, _, rfl, p, _, -1, _, rfl, rfl, .of ((t23.trans t34) _ _ e0), at1 _ _, dp, .str "relay", rfl, DGet.k (k := Sum.inr ("r" : Str)) e34, ?_⟩
        have e4 := (t23.trans t34) _ _ e0
        refine ⟨_, rfl, _, rfl, _, rfl, p, _, rfl, .of e4, ?_⟩
        wtm_at "new s0 H5 s5 es5"
        rw [cutn1] at es5
        refine ⟨_, rfl, rfl, _, rfl, _, _, rfl, rfl, Nat.le_of_ble_eq_true (n := 2) rfl, ?_⟩
        rw [fig_find h0 h9]
        wtm_at "new t0 H6 s6 et6"
        refine ⟨Nat.le_of_ble_eq_true (n := 1) rfl, ?_⟩
        wtm_at "new l0 H7 s7 el7"
        have s57 := s6.trans s7
        rw [List.length_cons] at hvl hNl
        have hv2 := hr0.length
        refine ⟨s0, l0, vs0.reverse, _, rfl, rfl, s57 _ _ es5, el7, small10 (by rw [List.length_reverse, List.length_singleton]; omega), ?_⟩
        wtm_at "new n0 H8 s8 en8"
        have s28 := t23.trans (t34.trans (s5.trans (s57.trans s8)))
        have or : ∀ y ∈ r, itOk y := fun y hy => N.ok y (List.mem_cons_of_mem _ hy)
        refine ⟨n0, .relay ((c : Int) - 48), r, rfl, pile_push en8 (paired_same s28 hr0) ⟨t0, rfl, (s7.trans s8) _ _ et6⟩, or, by omega, fun H9 p9 s9 hp9 => ?_⟩
        exact next (turn s9 hp9 (N.same.trans s28) or (by omega) hs2)
      · intro dp ndp
        refine ⟨upd_same, [(Sum.inr ("r" : Str), .str "relay"), (Sum.inr ("b" : Str), .str "button")], rfl, by decide, ?_⟩
        have e34 : (upd (upd H3 dp (.dK [])) dp (.dK (mergeK [] [(Sum.inr ("r" : Str), .str "relay"), (Sum.inr ("b" : Str), .str "button")]))) dp = some (.dK (mergeK [] [(Sum.inr ("r" : Str), .str "relay"), (Sum.inr ("b" : Str), .str "button")])) := upd_same
        have t34 : Same H3 (upd (upd H3 dp (.dK [])) dp (.dK (mergeK [] [(Sum.inr ("r" : Str), .str "relay"), (Sum.inr ("b" : Str), .str "button")]))) := Same.lst (Same.new ndp) ndp
        generalize upd (upd H3 dp (.dK [])) dp (.dK (mergeK [] [(Sum.inr ("r" : Str), .str "relay"), (Sum.inr ("b" : Str), .str "button")])) = H4 at *
        refine ⟨_, rfl, _, rfl, p, _, -1, _, rfl, rfl, .of ((t23.trans t34) _ _ e0), at1 _ _, dp, .str "button", rfl, DGet.k (k := Sum.inr ("b" : Str)) e34, ?_⟩
        have e4 := (t23.trans t34) _ _ e0
        refine ⟨_, rfl, _, rfl, _, rfl, p, _, rfl, .of e4, ?_⟩
        wtm_at "new s0 H5 s5 es5"
        rw [cutn1] at es5
        refine ⟨_, rfl, rfl, _, rfl, _, _, rfl, rfl, Nat.le_of_ble_eq_true (n := 2) rfl, ?_⟩
        rw [fig_find h0 h9]
        wtm_at "new t0 H6 s6 et6"
        refine ⟨Nat.le_of_ble_eq_true (n := 1) rfl, ?_⟩
        wtm_at "new l0 H7 s7 el7"
        have s57 := s6.trans s7
        rw [List.length_cons] at hvl hNl
        have hv2 := hr0.length
        refine ⟨s0, l0, vs0.reverse, _, rfl, rfl, s57 _ _ es5, el7, small10 (by rw [List.length_reverse, List.length_singleton]; omega), ?_⟩
        wtm_at "new n0 H8 s8 en8"
        have s28 := t23.trans (t34.trans (s5.trans (s57.trans s8)))
        have or : ∀ y ∈ r, itOk y := fun y hy => N.ok y (List.mem_cons_of_mem _ hy)
        refine ⟨n0, .button ((c : Int) - 48), r, rfl, pile_push en8 (paired_same s28 hr0) ⟨t0, rfl, (s7.trans s8) _ _ et6⟩, or, by omega, fun H9 p9 s9 hp9 => ?_⟩
        exact next (turn s9 hp9 (N.same.trans s28) or (by omega) hs2)
  · rintro σ H2 ⟨p, st, x2, x3, rfl, N, hrun⟩
    have hn : (SX.S cs).cps.size = cs.length := by simp
    rw [hn, List.drop_length] at hrun
    cases hrun
    obtain ⟨a, vs, e2, hx, hq⟩ := pile_inv1 N.pile
    cases hq
    obtain ⟨ua, eua⟩ := hx.tupx
    refine ⟨_, rfl, p, _, rfl, .inl (.of e2), rfl, _, rfl, ?_⟩
    refine iF rfl ?_
    refine ⟨_, rfl, p, _, 0, _, rfl, rfl, .of e2, atI_nat (j := 0) rfl, .ref a, .ty "tuple", .type "tuple", .type "tuple", true, rfl, .ty _, .base (.tup eua), kit_ty (by decide +kernel), _, rfl, ?_⟩
    refine iF rfl ?_
    exact ⟨_, rfl, p, _, 0, _, rfl, rfl, .of e2, atI_nat (j := 0) rfl, q _ _ N.same hx⟩

def sp_parts : Sp := fun vs H Q _ => ∃ (a : Addr) (x : W), vs = [.ref a] ∧ WA H x a ∧ ∀ (H' : Hp) (p : Addr) (us : List V), Same H H' → H' p = some (.tup us) → WAs H' x.parts us → Q (.ref p) H'
theorem ok_parts (T : Txt K mg Z) : FnOk P w K mg base CX0 1 Z.aparts Z.dparts ["word"] sp_parts := by
  refine T.F_parts.ok scparts (fun vs H Q E h => by obtain ⟨_, _, rfl, _⟩ := h; rfl) (fun cdv A outer s H vs Q E hr h => ?_)
  obtain ⟨a, x, rfl, hx, q⟩ := h
  refine ⟨_, (pss_cons (ps_if (pt_cmpR (r := rIn K false) op_in_seq (pe_ix (r := rIxT K) ix_tup (pv 0) pe_int (fun _ _ => rfl)) (pe_tup (pa_cons pe_str (pa_cons pe_str (pa_cons pe_str pa_nil)))) (by rfl)) (pss_one (ps_ret (pe_slice (r := rSlT K) sl_tup (pv 0) (po_some pe_int) po_none))) pss_nil)
      (pss_one (ps_ret (pe_tup pa_nil)))), ?_⟩
  have tag : ∃ (t : Str) (us : List V), H a = some (.tup (.str t :: us)) ∧ ((inV (.str t) [.str "not", .str "and", .str "or"] = true ∧ WAs H x.parts us) ∨ (inV (.str t) [.str "not", .str "and", .str "or"] = false ∧ x.parts = [])) := by
    cases x with
    | on => exact ⟨_, _, hx, .inr ⟨by decide +kernel, rfl⟩⟩
    | off => exact ⟨_, _, hx, .inr ⟨by decide +kernel, rfl⟩⟩
    | relay k => exact ⟨_, _, hx, .inr ⟨by decide +kernel, rfl⟩⟩
    | button k => exact ⟨_, _, hx, .inr ⟨by decide +kernel, rfl⟩⟩
    | not y => obtain ⟨b, e, hy⟩ := hx; exact ⟨_, _, e, .inl ⟨by decide +kernel, .cons ⟨b, rfl, hy⟩ .nil⟩⟩
    | and y z => obtain ⟨b, c, e, hy, hz⟩ := hx; exact ⟨_, _, e, .inl ⟨by decide +kernel, .cons ⟨b, rfl, hy⟩ (.cons ⟨c, rfl, hz⟩ .nil)⟩⟩
    | or y z => obtain ⟨b, c, e, hy, hz⟩ := hx; exact ⟨_, _, e, .inl ⟨by decide +kernel, .cons ⟨b, rfl, hy⟩ (.cons ⟨c, rfl, hz⟩ .nil)⟩⟩
  obtain ⟨t, us, e0, h⟩ := tag
  refine ⟨_, rfl, a, _, 0, _, rfl, rfl, .of e0, atI_nat (j := 0) rfl, Nat.le_of_ble_eq_true (n := 3) rfl, ?_⟩
  wtm_at "new c H1 s1 e1"
  refine ⟨c, _, rfl, .inr (.of e1), rfl, rfl, _, rfl, ?_⟩
  have e01 := s1 _ _ e0
  rcases h with ⟨h1, h2⟩ | ⟨h1, h2⟩
  · refine iT h1 ?_
    refine ⟨_, rfl, 1, rfl, a, _, rfl, .of e01, fun z => ?_, ?_⟩
    · have z1 := z.1
      rw [show HT.sIx (V.str t :: us).length 0 (some 1) = min 1 (V.str t :: us).length from HT.sIx_nat _ 0 1, List.length_cons] at z1
      omega
    rw [cut1]
    wtm_at "new p H2 s2 e2"
    exact q _ _ us (s1.trans s2) e2 (WAs.same (s1.trans s2) h2)
  · refine iF h1 ?_
    refine ⟨Nat.zero_le _, ?_⟩
    wtm_at "new p H2 s2 e2"
    exact q _ _ [] (s1.trans s2) e2 (by rw [h2]; exact .nil)

def sp_depth (N : Nat) : Sp := fun vs H Q _ => ∃ (a : Addr) (x : W), vs = [.ref a] ∧ WA H x a ∧ x.depth ≤ N ∧ ∀ H', Same H H' → Q (.int (x.depth : Int)) H'
theorem st_depth (T : Txt K mg Z) {N : Nat} (Gdepth : FnOk P w K mg base CX0 (N + 1) Z.adepth Z.ddepth ["word"] (sp_depth N)) : FnOk P w K mg base CX0 (N + 2) Z.adepth Z.ddepth ["word"] (sp_depth (N + 1)) := by
  have Gparts := ok_parts (P := P) (w := w) (base := base) T
  refine T.F_depth.ok scdepth (fun vs H Q E h => by obtain ⟨_, _, rfl, _⟩ := h; rfl) (fun cdv A outer s H vs Q E hr h => ?_)
  obtain ⟨a, x, rfl, hx, hd, q⟩ := h
  refine ⟨_, (pss_one (ps_ret (pe_op op_add pe_int (pe_callBK (r := rMaxD K) (call_maxD rfl (hu_of hr)) (by rfl) T.n_max (by decide +kernel) (pa_cons (pe_lc (own := [("part", 1)]) (g := gName 1) (tt := tYes) rfl scdepth.nd (pi_tup (pe_call Gparts (hr.mono (by omega)) (by rfl) T.m_parts T.F_parts.kp T.b_parts .nil pass0 (pa_cons (pv 0) pa_nil))) (blkOk_by (own := [("part", 1)]) (N := ["word", "part"]) (sc := defScope sdepth) (by decide +kernel)) (fun _ _ _ _ _ => pg_name (i := 1) scdepth.nd rfl (Or.inl rfl)) (fun _ _ _ _ _ => pts_nil) (fun _ _ _ _ _ => (pe_call Gdepth (hr.mono (by omega)) (by rfl) T.m_depth T.F_depth.kp T.b_depth .nil pass0 (pa_cons (pv 1) pa_nil)))) pa_nil) (pk_cons pe_int pk_nil))))), ?_⟩
  refine ⟨_, rfl, a, x, rfl, hx, fun H1 p us s1 e1 hW => ?_⟩
  have hl := hW.length
  have h2 : x.parts.length ≤ 2 := by cases x <;> simp [W.parts]
  refine ⟨p, rfl, ⟨_, .of e1⟩, fun D nD => lc_tup (K := K) (a := p) (xs := us) (fun i H' => Same H1 H' ∧ H' D = some (.lst (((x.parts.take i).map fun y => (y.depth : Int)).map V.int))) ?_ ?_ ?_ ?_⟩
  · exact ⟨Same.new nD, upd_same⟩
  · rintro i H' _ ⟨s2, _⟩
    exact .of (s2 _ _ e1)
  · rintro i v H2 hi ⟨s2, hD⟩
    obtain ⟨y, hy, b, rfl, hb⟩ := paired_get hW hi
    wtm_at "lc"
    refine ⟨_, rfl, b, y, rfl, WA.same s2 hb, parts_depth (List.mem_of_getElem? hy) hd, fun H3 s3 => ?_⟩
    refine ⟨_, s3 _ _ hD, small11 ?_, Same.lst (s2.trans s3) nD, ?_⟩
    · rw [List.length_map, List.length_map, List.length_take]; omega
    · rw [upd_same, List.take_add_one, hy, List.map_append, List.map_append]; rfl
  rintro H2 ⟨s2, hD⟩
  rw [← hl, List.take_length] at hD
  refine ⟨D, _, 0, rfl, rfl, .of hD, _, _, rfl, rfl, ?_⟩
  have := q _ (s1.trans s2)
  rw [← depth_parts] at this
  exact this
theorem ok_depth (T : Txt K mg Z) : ∀ N : Nat, FnOk P w K mg base CX0 (N + 1) Z.adepth Z.ddepth ["word"] (sp_depth N)
  | 0 => fn_none (by rintro vs H Q E ⟨_, x, _, _, h, _⟩; have := x.depth_pos; omega)
  | N + 1 => st_depth T (ok_depth T N)

theorem joinL_le (s : Nat) : ∀ (l : List (List Nat)) (B : Nat), (∀ x ∈ l, x.length ≤ B) → (TL.joinL [s] l).length ≤ l.length * (B + 1)
  | [], _, _ => Nat.zero_le _
  | [p], B, h => by
    show p.length ≤ 1 * (B + 1)
    have := h p List.mem_cons_self; omega
  | p :: q :: r, B, h => by
    have h1 := h p List.mem_cons_self
    have h2 := joinL_le s (q :: r) B fun y hy => h y (List.mem_cons_of_mem _ hy)
    show (p ++ ([s] ++ TL.joinL [s] (q :: r))).length ≤ _
    rw [List.length_append, List.length_append, List.length_singleton, List.length_cons, Nat.succ_mul]
    omega
theorem split_board {ws : List W} (hne : ws ≠ []) (hf : ∀ x ∈ ws, x.wired 10 10) : Txt.split (SX.S (joinT ws)) (SX.S [59]) = (ws.map txt).map SX.S := by
  rw [← joinT_str]
  refine TL.split_join (s := 59) (S := []) rfl (by decide +kernel) (fun e => hne (List.map_eq_nil_iff.mp (List.map_eq_nil_iff.mp e))) fun p hp => ?_
  obtain ⟨t, ht, rfl⟩ := List.mem_map.mp hp
  obtain ⟨x, hx, rfl⟩ := List.mem_map.mp ht
  exact txt_free (hf x hx)
def sp_read_ok : Sp := fun vs H Q _ => ∃ (ws : List W), vs = [.str (SX.S (joinT ws))] ∧ ws ≠ [] ∧ (∀ x ∈ ws, x.wired 10 10 ∧ x.depth ≤ 8) ∧ ws.length ≤ 10 ∧
  ∀ (H' : Hp) (p : Addr) (us : List V), Same H H' → H p = none → H' p = some (.lst us) → WAs H' ws us → Q (.ref p) H'
theorem ok_read_ok (T : Txt K mg Z) : FnOk P w K mg base CX0 22 Z.aread Z.dread ["text"] sp_read_ok := by
  have Gword_of := ok_word_of_ok (P := P) (w := w) (base := base) T
  have Gdepth := ok_depth (P := P) (w := w) (base := base) T 10
  refine T.F_read.ok scread (fun vs H Q E h => by obtain ⟨_, rfl, _⟩ := h; rfl) (fun cdv A outer s H vs Q E hr h => ?_)
  obtain ⟨ws, rfl, hne, hf, hl, q⟩ := h
  obtain ⟨_, gc_DEEPEST⟩ := T.g_DEEPEST
  refine ⟨_, (pss_cons (ps_setLc (i := 1) (own := [("part", 3)]) (g := gName 3) (tt := tYes) rfl scread.nd rfl rfl (sw_true rfl rfl rfl (by decide +kernel)) (pi_list (pe_bm PySem.F.plainAttrs_str PySem.F.slot_str_split PySem.F.type_str_split mt_split (pv 0) (pa_cons pe_str pa_nil))) (blkOk_by (own := [("part", 3)]) (N := ["text", "board", "word", "part"]) (sc := defScope sread) (by decide +kernel)) (fun _ _ _ _ _ => pg_name (i := 3) scread.nd rfl (Or.inl rfl)) (fun _ _ _ _ _ => pts_nil) (fun _ _ _ _ _ => (pe_call Gword_of (hr.mono (by omega)) (by rfl) T.m_word_of T.F_word_of.kp T.b_word_of .nil pass0 (pa_cons (pv 3) pa_nil))))
      (pss_cons (ps_for PassesOwn.never rfl (pi_list (pv 1)) (pg_name (i := 2) scread.nd rfl (Or.inl rfl))
      (pss_one (ps_if (pt_cmpR op_gt (pe_call Gdepth (hr.mono (by omega)) (by rfl) T.m_depth T.F_depth.kp T.b_depth .nil pass0 (pa_cons (pv 2) pa_nil)) (pe_glob rfl gc_DEEPEST (show RelV (.int 8) _ from ⟨_, rfl⟩)) (nomark _)) (pss_one ps_never) pss_nil)))
      (pss_one (ps_ret (pv 1))))), ?_⟩
  have tl : ∀ x ∈ ws.map txt, x.length ≤ 1280 := fun x hx => by
    obtain ⟨y, hy, rfl⟩ := List.mem_map.mp hx
    exact txt_le (hf y hy).1 (by have := (hf y hy).2; omega)
  have hjl : (joinT ws).length ≤ 20000 := by
    have := joinL_le 59 (ws.map txt) 1280 tl
    rw [List.length_map] at this
    exact Nat.le_trans this (by omega)
  refine ⟨_, rfl, rfl, SX.S (joinT ws), SX.S [59], rfl, rfl, rfl, by rw [len_S]; exact Nat.le_trans (by omega : _ ≤ 30000) (by decide), ?_⟩
  rw [split_board hne fun x hx => (hf x hx).1]
  wtm_at "new g H1 s1 e1"
  refine ⟨g, rfl, ⟨_, .of e1⟩, fun D nD => lc_list (K := K) (a := g) (xs := ((ws.map txt).map SX.S).map V.str) (fun i H' => Same H1 H' ∧ ∃ ys, H' D = some (.lst ys) ∧ WAs H' (ws.take i) ys) ?_ ?_ ?_ ?_⟩
  · exact ⟨Same.new nD, [], upd_same, .nil⟩
  · rintro i H' _ ⟨s2, _⟩
    exact .of (s2 _ _ e1)
  · rintro i v H2 hi ⟨s2, ys, hD, hY⟩
    rw [List.getElem?_map, List.getElem?_map, List.getElem?_map] at hi
    obtain ⟨z1, hi1, ev1⟩ := Option.map_eq_some_iff.mp hi
    obtain ⟨z2, hi2, ev2⟩ := Option.map_eq_some_iff.mp hi1
    obtain ⟨y, hy, ev3⟩ := Option.map_eq_some_iff.mp hi2
    clear hi hi1 hi2
    subst ev3 ev2 ev1
    have hym := List.mem_of_getElem? hy
    have hyl := hY.length
    rw [List.length_take] at hyl
    wtm_at "lc"
    refine ⟨_, rfl, txt y, y, rfl, by have := tl _ (List.mem_map.mpr ⟨y, hym, rfl⟩); omega, run_word (hf y hym).1, fun H3 a s3 w3 => ?_⟩
    have hD3 := s3 _ _ hD
    have t4 : Tk H3 (upd H3 D (.lst (ys ++ [.ref a]))) := Tk.lst hD3
    refine ⟨ys, hD3, small11 (by omega), Same.lst (s2.trans s3) nD, _, upd_same, ?_⟩
    rw [List.take_add_one, hy]
    exact paired_snoc (WAs.tk ((Same.tk s3).trans t4) hY) ⟨a, rfl, WA.tk t4 w3⟩
  rintro H2 ⟨s2, ys, hD, hY⟩
  rw [List.length_map, List.length_map, List.length_map, List.take_length] at hY
  have hyl := hY.length
  have s02 := s1.trans s2
  refine ⟨_, rfl, D, rfl, ⟨_, .of hD⟩, for_list (K := K) (a := D) (xs := ys) (fun i σ H' => Same H2 H' ∧ ∃ x2, σ = [some (.str (SX.S (joinT ws))), some (.ref D), x2, none]) ?_ ?_ ?_ ?_⟩
  · exact ⟨Same.refl _, none, rfl⟩
  · rintro i σ H' _ ⟨s3, _⟩
    exact .of (s3 _ _ hD)
  · rintro i v σ H3 hi ⟨s3, x2, rfl⟩
    obtain ⟨y, hy, c, rfl, hc⟩ := paired_get hY hi
    have hyd := (hf y (List.mem_of_getElem? hy)).2
    refine ⟨_, rfl, c, y, rfl, WA.same s3 hc, by omega, fun H4 s4 => ?_⟩
    refine ⟨_, _, rfl, rfl, _, rfl, ?_⟩
    refine iF (decide_eq_false (by omega)) ?_
    exact ⟨s3.trans s4, _, rfl⟩
  · rintro σ H3 ⟨s3, x2, rfl⟩
    exact ⟨_, rfl, q _ _ ys (s02.trans s3) (s1.free nD) (s3 _ _ hD) (WAs.same s3 hY)⟩

def sp_law_whole : Sp := fun vs H Q _ => ∃ (i : Int), vs = [.int i] ∧ Q (.bl true) H
theorem ok_law_whole (T : Txt K mg Z) : FnOk P w K mg base CX0 1 Z.a_law_whole Z.d_law_whole ["x"] sp_law_whole := by
  refine T.F__law_whole.ok sc_law_whole (fun vs H Q E h => by obtain ⟨_, rfl, _⟩ := h; rfl) (fun cdv A outer s H vs Q E hr h => ?_)
  obtain ⟨i, rfl, q⟩ := h
  refine ⟨_, (pss_one (ps_ret (pe_and (pe_callB (r := rIsi K) call_isi (by rfl) T.n_isinstance (by decide +kernel) (pa_cons (pv 0) (pa_cons (pe_bltn (v := .ty "int") (u := .type "int") (by rfl) T.n_int (by decide +kernel) rfl) pa_nil))) (pe_one (pe_not (pe_callB (r := rIsi K) call_isi (by rfl) T.n_isinstance (by decide +kernel) (pa_cons (pv 0) (pa_cons (pe_bltn (v := .ty "bool") (u := .type "bool") (by rfl) T.n_bool (by decide +kernel) rfl) pa_nil)))))))), ?_⟩
  refine ⟨_, rfl, .int i, .ty "int", .type "int", .type "int", true, rfl, .ty _, .base (.int _), kit_ty (by decide +kernel), _, rfl, iT rfl ?_⟩
  exact ⟨_, rfl, .int i, .ty "bool", .type "int", .type "bool", false, rfl, .ty _, .base (.int _), kit_ty (by decide +kernel), _, rfl, q⟩

def sp_law_is_word (N : Nat) : Sp := fun vs H Q _ => ∃ (a : Addr) (x : W), vs = [.ref a] ∧ WA H x a ∧ x.depth ≤ N ∧ ∀ H', Same H H' → Q (.bl true) H'
theorem all_true : ∀ i : Nat, (List.replicate i true).all id = true
  | 0 => rfl
  | i + 1 => all_true i
theorem st_law_is_word (T : Txt K mg Z) {N : Nat} (G_law_is_word : FnOk P w K mg base CX0 (N + 1) Z.a_law_is_word Z.d_law_is_word ["found"] (sp_law_is_word N)) : FnOk P w K mg base CX0 (N + 2) Z.a_law_is_word Z.d_law_is_word ["found"] (sp_law_is_word (N + 1)) := by
  have G_law_whole := ok_law_whole (P := P) (w := w) (base := base) T
  refine T.F__law_is_word.ok sc_law_is_word (fun vs H Q E h => by obtain ⟨_, _, rfl, _⟩ := h; rfl) (fun cdv A outer s H vs Q E hr h => ?_)
  obtain ⟨a, x, rfl, hx, hd, q⟩ := h
  refine ⟨_, (pss_cons (ps_if (PW.pt (pw_or (pt_not (pt_val (pe_callB (r := rIsi K) call_isi (by rfl) T.n_isinstance (by decide +kernel) (pa_cons (pv 0) (pa_cons (pe_bltn (v := .ty "tuple") (u := .type "tuple") (by rfl) T.n_tuple (by decide +kernel) rfl) pa_nil))))) (pw_or1 (pt_cmpR op_eq (pe_callB (r := rLenSeq K) call_len_seq (by rfl) T.n_len PySem.boot_len (pa_cons (pv 0) pa_nil)) pe_int (nomark _))))) (pss_one (ps_ret pe_bl)) pss_nil)
      (pss_cons (ps_if (PW.pt (pw_or (pt_cmpR op_eq (pe_ix (r := rIxT K) ix_tup (pv 0) pe_int (fun _ _ => rfl)) pe_str (nomark _)) (pw_or1 (pt_cmpR op_eq (pe_ix (r := rIxT K) ix_tup (pv 0) pe_int (fun _ _ => rfl)) pe_str (nomark _))))) (pss_one (ps_ret (pe_and (pe_cmpR op_eq (pe_callB (r := rLenSeq K) call_len_seq (by rfl) T.n_len PySem.boot_len (pa_cons (pv 0) pa_nil)) pe_int (nomark _)) (pe_one (pe_call G_law_whole (hr.mono (by omega)) (by rfl) T.m__law_whole T.F__law_whole.kp T.b__law_whole .nil pass0 (pa_cons (pe_ix (r := rIxT K) ix_tup (pv 0) pe_int (fun _ _ => rfl)) pa_nil)))))) pss_nil)
      (pss_one (ps_ret (pe_callB (r := rAll K) (cr_all rfl) (by rfl) T.n_all (by decide +kernel) (pa_cons (pe_lc (own := [("part", 1)]) (g := gName 1) (tt := tYes) rfl sc_law_is_word.nd (pi_tup (pe_slice (r := rSlT K) sl_tup (pv 0) (po_some pe_int) po_none)) (blkOk_by (own := [("part", 1)]) (N := ["found", "part"]) (sc := defScope s_law_is_word) (by decide +kernel)) (fun _ _ _ _ _ => pg_name (i := 1) sc_law_is_word.nd rfl (Or.inl rfl)) (fun _ _ _ _ _ => pts_nil) (fun _ _ _ _ _ => (pe_call G_law_is_word (hr.mono (by omega)) (by rfl) T.m__law_is_word T.F__law_is_word.kp T.b__law_is_word .nil pass0 (pa_cons (pv 1) pa_nil)))) pa_nil)))))), ?_⟩
  have leaf : ∀ {t : Str} {k : Int}, H a = some (.tup [.str t, .int k]) → (decide (V.str t = V.str "relay") = true ∨ (decide (V.str t = V.str "relay") = false ∧ decide (V.str t = V.str "button") = true)) → True := fun _ _ => True.intro
  cases x with
  | relay k =>
    have e0 : H a = some (.tup [.str "relay", .int k]) := hx
    refine ⟨_, rfl, .ref a, .ty "tuple", .type "tuple", .type "tuple", true, rfl, .ty _, .base (.tup e0), kit_ty (by decide +kernel), _, rfl, ?_⟩
    refine iF rfl ?_
    refine ⟨_, rfl, a, _, rfl, .inr (.of e0), rfl, _, rfl, ?_⟩
    refine iF (decide_eq_false (show ¬ V.int 2 = V.int 0 by decide)) ?_
    refine tag_test rfl e0 ?_; wtm_at "dT"
    refine ⟨_, rfl, a, _, rfl, .inr (.of e0), rfl, _, rfl, ?_⟩
    refine iT (decide_eq_true (show V.int 2 = V.int 2 from rfl)) ?_
    exact ⟨_, rfl, a, _, 1, _, rfl, rfl, .of e0, atI_nat (j := 1) rfl, k, rfl, q _ (Same.refl _)⟩
  | button k =>
    have e0 : H a = some (.tup [.str "button", .int k]) := hx
    refine ⟨_, rfl, .ref a, .ty "tuple", .type "tuple", .type "tuple", true, rfl, .ty _, .base (.tup e0), kit_ty (by decide +kernel), _, rfl, ?_⟩
    refine iF rfl ?_
    refine ⟨_, rfl, a, _, rfl, .inr (.of e0), rfl, _, rfl, ?_⟩
    refine iF (decide_eq_false (show ¬ V.int 2 = V.int 0 by decide)) ?_
    refine tag_test rfl e0 ?_; wtm_at "dF"
    refine tag_test rfl e0 ?_; wtm_at "dT"
    refine ⟨_, rfl, a, _, rfl, .inr (.of e0), rfl, _, rfl, ?_⟩
    refine iT (decide_eq_true (show V.int 2 = V.int 2 from rfl)) ?_
    exact ⟨_, rfl, a, _, 1, _, rfl, rfl, .of e0, atI_nat (j := 1) rfl, k, rfl, q _ (Same.refl _)⟩
  | _ =>
    obtain ⟨us, e0, hW0⟩ := hx.parts (fun _ h => nomatch h) (fun _ h => nomatch h)
    refine ⟨_, rfl, .ref a, .ty "tuple", .type "tuple", .type "tuple", true, rfl, .ty _, .base (.tup e0), kit_ty (by decide +kernel), _, rfl, ?_⟩
    refine iF rfl ?_
    refine ⟨_, rfl, a, _, rfl, .inr (.of e0), rfl, _, rfl, ?_⟩
    refine iF (decide_eq_false (fun z => by have := V.int.inj z; rw [List.length_cons] at this; omega)) ?_
    refine tag_test rfl e0 ?_; wtm_at "dF"
    refine tag_test rfl e0 ?_; wtm_at "dF"
    refine ⟨_, rfl, 1, rfl, a, _, rfl, .of e0, fun z => ?_, ?_⟩
    · have z1 := z.1
      rw [show HT.sIx (V.str (W.tag _) :: us).length 0 (some 1) = min 1 (V.str (W.tag _) :: us).length from HT.sIx_nat _ 0 1, List.length_cons] at z1
      omega
    rw [cut1]
    wtm_at "new p H1 s1 e1"
    have hW := WAs.same s1 hW0
    have hul := hW.length
    refine ⟨p, rfl, ⟨_, .of e1⟩, fun D nD => lc_tup (K := K) (a := p) (xs := us) (fun i H' => Same H1 H' ∧ H' D = some (.lst ((List.replicate i true).map V.bl))) ?_ ?_ ?_ ?_⟩
    · exact ⟨Same.new nD, upd_same⟩
    · rintro i H' _ ⟨s2, _⟩
      exact .of (s2 _ _ e1)
    · rintro i v H2 hi ⟨s2, hD⟩
      obtain ⟨y, hy, b, rfl, hb⟩ := paired_get hW hi
      have hil := (List.getElem?_eq_some_iff.mp hi).1
      wtm_at "lc"
      refine ⟨_, rfl, b, y, rfl, WA.same s2 hb, parts_depth (List.mem_of_getElem? hy) hd, fun H3 s3 => ?_⟩
      have h2 : us.length ≤ 2 := by rw [← hul]; simp [W.parts]
      refine ⟨_, s3 _ _ hD, small11 (by rw [List.length_map, List.length_replicate]; omega), Same.lst (s2.trans s3) nD, ?_⟩
      rw [upd_same, List.replicate_succ', List.map_append]; rfl
    rintro H2 ⟨s2, hD⟩
    refine ⟨D, _, rfl, .of hD, ?_⟩
    rw [all_true]
    exact q _ (s1.trans s2)
theorem ok_law_is_word (T : Txt K mg Z) : ∀ N : Nat, FnOk P w K mg base CX0 (N + 1) Z.a_law_is_word Z.d_law_is_word ["found"] (sp_law_is_word N)
  | 0 => fn_none (by rintro vs H Q E ⟨_, x, _, _, h, _⟩; have := x.depth_pos; omega)
  | N + 1 => st_law_is_word T (ok_law_is_word T N)

def sp_law_cell_at (K : PySem.W.Frag) : Sp := fun vs H Q _ => ∃ (a : Addr) (ns : List Int) (k : Int), vs = [.ref a, .int k] ∧ SqL K H a (ns.map V.int) ∧ 0 ≤ k ∧ ∀ n : Int, Q (.int n) H
theorem ok_law_cell_at (T : Txt K mg Z) : FnOk P w K mg base CX0 1 Z.a_law_cell_at Z.d_law_cell_at ["script", "k"] (sp_law_cell_at K) := by
  refine T.F__law_cell_at.ok sc_law_cell_at (fun vs H Q E h => by obtain ⟨_, _, _, rfl, _⟩ := h; rfl) (fun cdv A outer s H vs Q E hr h => ?_)
  obtain ⟨a, ns, k, rfl, hS, h0, q⟩ := h
  refine ⟨_, (pss_cons (ps_if (pt_cmpR op_lt (pv 1) (pe_callB (r := rLenSeq K) call_len_seq (by rfl) T.n_len PySem.boot_len (pa_cons (pv 0) pa_nil)) (nomark _)) (pss_one (ps_ret (pe_ix (r := rIxL K) ix_list (pv 0) (pv 1) (fun _ _ => rfl)))) pss_nil)
      (pss_one (ps_ret pe_int))), ?_⟩
  refine ⟨_, rfl, _, rfl, a, _, rfl, .inl hS, ?_⟩
  wtm_at "rd"
  refine iB (fun c => ?_) (fun c => ?_)
  · have c' := of_decide_eq_true c
    rw [List.length_map] at c'
    obtain ⟨j, rfl⟩ : ∃ j : Nat, k = (j : Int) := ⟨k.toNat, by omega⟩
    have hj : j < ns.length := by omega
    refine ⟨_, rfl, _, rfl, a, _, _, .int ns[j], rfl, rfl, hS, atI_nat (by rw [List.getElem?_map, List.getElem?_eq_getElem hj]; rfl), ?_⟩
    exact q _
  · exact q _

def sp_law_pick (K : PySem.W.Frag) : Sp := sp_law_cell_at K
theorem ok_law_pick (T : Txt K mg Z) : FnOk P w K mg base CX0 2 Z.a_law_pick Z.d_law_pick ["script", "k"] (sp_law_pick K) := by
  have G_law_cell_at := ok_law_cell_at (P := P) (w := w) (base := base) T
  refine T.F__law_pick.ok sc_law_pick (fun vs H Q E h => by obtain ⟨_, _, _, rfl, _⟩ := h; rfl) (fun cdv A outer s H vs Q E hr h => ?_)
  obtain ⟨a, ns, k, rfl, hS, h0, q⟩ := h
  refine ⟨_, (pss_cons (ps_if (pt_cmpR op_lt (pv 1) (pe_callB (r := rLenSeq K) call_len_seq (by rfl) T.n_len PySem.boot_len (pa_cons (pv 0) pa_nil)) (nomark _)) (pss_one (ps_ret (pe_ix (r := rIxL K) ix_list (pv 0) (pv 1) (fun _ _ => rfl)))) pss_nil)
      (pss_one (ps_ret (pe_op op_fdiv (pe_op op_mod (pe_op op_mul (pe_op op_add (pe_op op_add (pe_call G_law_cell_at (hr.mono (by omega)) (by rfl) T.m__law_cell_at T.F__law_cell_at.kp T.b__law_cell_at .nil pass0 (pa_cons (pv 0) (pa_cons pe_int pa_nil))) (pe_op op_mul pe_int (pv 1))) pe_int) pe_int) pe_int) pe_int)))), ?_⟩
  refine ⟨_, rfl, _, rfl, a, _, rfl, .inl hS, ?_⟩
  wtm_at "rd"
  refine iB (fun c => ?_) (fun c => ?_)
  · have c' := of_decide_eq_true c
    rw [List.length_map] at c'
    obtain ⟨j, rfl⟩ : ∃ j : Nat, k = (j : Int) := ⟨k.toNat, by omega⟩
    have hj : j < ns.length := by omega
    refine ⟨_, rfl, _, rfl, a, _, _, .int ns[j], rfl, rfl, hS, atI_nat (by rw [List.getElem?_map, List.getElem?_eq_getElem hj]; rfl), ?_⟩
    exact q _
  · refine ⟨_, rfl, a, ns, 0, rfl, hS, by omega, fun n => ?_⟩
    wtm_at "rd"
    exact q _

def sp_law_mix : Sp := fun vs H Q _ => ∃ (c k : Int), vs = [.int c, .int k] ∧ ∀ n : Int, 0 ≤ n → n < 2147483587 → Q (.int n) H
theorem ok_law_mix (T : Txt K mg Z) : FnOk P w K mg base CX0 1 Z.a_law_mix Z.d_law_mix ["cell", "k"] sp_law_mix := by
  refine T.F__law_mix.ok sc_law_mix (fun vs H Q E h => by obtain ⟨_, _, rfl, _⟩ := h; rfl) (fun cdv A outer s H vs Q E hr h => ?_)
  obtain ⟨c, k, rfl, q⟩ := h
  refine ⟨_, (pss_cons (ps_set (i := 2) sc_law_mix.nd rfl (Or.inl rfl) (pe_op op_mod (pe_op op_add (pe_op op_add (pe_op op_mul (pv 0) pe_int) (pe_op op_mul pe_int (pv 1))) pe_int) pe_int))
      (pss_cons (ps_set (i := 2) sc_law_mix.nd rfl (Or.inl rfl) (pe_op op_mod (pe_op op_add (pe_op op_add (pe_op op_mul (pv 2) (pv 2)) (pe_op op_mul pe_int (pv 2))) (pv 1)) pe_int))
      (pss_one (ps_ret (pe_op op_mod (pe_op op_add (pe_op op_add (pe_op op_mul (pv 2) (pv 2)) (pe_op op_mul pe_int (pv 2))) (pe_op op_mul pe_int (pv 1))) pe_int))))), ?_⟩
  wtm_at "rd"
  have b1 : 0 ≤ (c * 69621 + 7001 * k + 3) % 2147483629 ∧ (c * 69621 + 7001 * k + 3) % 2147483629 < 2147483629 := ⟨Int.emod_nonneg _ (by decide), Int.emod_lt_of_pos _ (by decide)⟩
  generalize (c * 69621 + 7001 * k + 3) % 2147483629 = m1 at *
  wtm_at "rd"
  have b2 : 0 ≤ (m1 * m1 + 39373 * m1 + k) % 2147483647 ∧ (m1 * m1 + 39373 * m1 + k) % 2147483647 < 2147483647 := ⟨Int.emod_nonneg _ (by decide), Int.emod_lt_of_pos _ (by decide)⟩
  generalize (m1 * m1 + 39373 * m1 + k) % 2147483647 = m2 at *
  wtm_at "rd"
  exact q _ (Int.emod_nonneg _ (by decide)) (Int.emod_lt_of_pos _ (by decide))

def sp_law_leaf : Sp := fun vs H Q _ => ∃ (c : Int) (n m : Nat), vs = [.int c, .int n, .int m] ∧ ∀ (H' : Hp) (a : Addr) (w : W), Same H H' → WA H' w a → Fit n m 1 w → Q (.ref a) H'
theorem ok_law_leaf (T : Txt K mg Z) : FnOk P w K mg base CX0 1 Z.a_law_leaf Z.d_law_leaf ["mixed", "relays", "buttons"] sp_law_leaf := by
  refine T.F__law_leaf.ok sc_law_leaf (fun vs H Q E h => by obtain ⟨_, _, _, rfl, _⟩ := h; rfl) (fun cdv A outer s H vs Q E hr h => ?_)
  obtain ⟨c, n, m, rfl, q⟩ := h
  refine ⟨_, (pss_cons (ps_set (i := 3) sc_law_leaf.nd rfl (Or.inl rfl) (pe_op op_mod (pv 0) (pe_op op_add (pe_op op_add (pv 1) (pv 2)) pe_int)))
      (pss_cons (ps_if (pt_cmpR op_lt (pv 3) (pv 1) (nomark _)) (pss_one (ps_ret (pe_tup (pa_cons pe_str (pa_cons (pv 3) pa_nil))))) pss_nil)
      (pss_cons (ps_if (pt_cmpR op_lt (pv 3) (pe_op op_add (pv 1) (pv 2)) (nomark _)) (pss_one (ps_ret (pe_tup (pa_cons pe_str (pa_cons (pe_op op_sub (pv 3) (pv 1)) pa_nil))))) pss_nil)
      (pss_one (ps_ret (pe_ix (r := rIxL K) ix_list (pe_lst (pa_cons (pe_tup (pa_cons pe_str pa_nil)) (pa_cons (pe_tup (pa_cons pe_str pa_nil)) pa_nil))) (pe_op op_mod (pe_op op_fdiv (pv 0) pe_int) pe_int) (fun _ _ => rfl))))))), ?_⟩
  wtm_at "rd"
  have b1 : 0 ≤ c % ((n : Int) + m + 1) ∧ c % ((n : Int) + m + 1) < (n : Int) + m + 1 := ⟨Int.emod_nonneg _ (by omega), Int.emod_lt_of_pos _ (by omega)⟩
  generalize c % ((n : Int) + m + 1) = z at *
  refine iB (fun c1 => ?_) (fun c1 => ?_)
  · have c1' := of_decide_eq_true c1
    wtm_at "rd"
    wtm_at "szs"
    wtm_at "new p H1 s1 e1"
    exact q _ _ (.relay z) s1 e1 ⟨⟨by omega, by omega⟩, Int.le_refl 1⟩
  · have c1' := of_decide_eq_false c1
    wtm_at "rd"
    refine iB (fun c2 => ?_) (fun c2 => ?_)
    · have c2' := of_decide_eq_true c2
      wtm_at "rd"
      wtm_at "szs"
      wtm_at "new p H1 s1 e1"
      exact q _ _ (.button (z - n)) s1 e1 ⟨⟨by omega, by omega⟩, Int.le_refl 1⟩
    · wtm_at "szs"
      wtm_at "new p1 H1 s1 e1"
      wtm_at "szs"
      wtm_at "new p2 H2 s2 e2"
      wtm_at "szs"
      wtm_at "new p3 H3 s3 e3"
      wtm_at "rd"
      rcases (by omega : c / 64 % 2 = 0 ∨ c / 64 % 2 = 1) with e | e
      · exact ⟨_, _, _, _, rfl, rfl, .of e3, at_of (j := 0) e rfl, q _ _ .on (s1.trans (s2.trans s3)) (by wtm_at "hp") ⟨trivial, Int.le_refl 1⟩⟩
      · exact ⟨_, _, _, _, rfl, rfl, .of e3, at_of (j := 1) e rfl, q _ _ .off (s1.trans (s2.trans s3)) (by wtm_at "hp") ⟨trivial, Int.le_refl 1⟩⟩

def sp_law_word (N : Nat) : Sp := fun vs H Q _ => ∃ (c k d : Int) (n m : Nat), vs = [.int c, .int k, .int d, .int n, .int m] ∧ 1 ≤ d ∧ d ≤ N ∧ ∀ (H' : Hp) (a : Addr) (w : W), Same H H' → WA H' w a → Fit n m d w → Q (.ref a) H'
theorem st_law_word (T : Txt K mg Z) {N : Nat} (G_law_word : FnOk P w K mg base CX0 (N + 1) Z.a_law_word Z.d_law_word ["cell", "k", "deep", "relays", "buttons"] (sp_law_word N)) : FnOk P w K mg base CX0 (N + 2) Z.a_law_word Z.d_law_word ["cell", "k", "deep", "relays", "buttons"] (sp_law_word (N + 1)) := by
  have G_law_mix := ok_law_mix (P := P) (w := w) (base := base) T
  have G_law_leaf := ok_law_leaf (P := P) (w := w) (base := base) T
  refine T.F__law_word.ok sc_law_word (fun vs H Q E h => by obtain ⟨_, _, _, _, _, rfl, _⟩ := h; rfl) (fun cdv A outer s H vs Q E hr h => ?_)
  obtain ⟨c, k, d, n, m, rfl, hd1, hd2, q⟩ := h
  refine ⟨_, (pss_cons (ps_set (i := 5) sc_law_word.nd rfl (Or.inl rfl) (pe_op op_fdiv (pe_call G_law_mix (hr.mono (by omega)) (by rfl) T.m__law_mix T.F__law_mix.kp T.b__law_mix .nil pass0 (pa_cons (pv 0) (pa_cons (pv 1) pa_nil))) pe_int))
      (pss_cons (ps_set (i := 6) sc_law_word.nd rfl (Or.inl rfl) (pe_op op_mod (pv 5) pe_int))
      (pss_cons (ps_if (PW.pt (pw_or (pt_cmpR op_lt (pv 2) pe_int (nomark _)) (pw_or1 (pt_cmpR op_lt (pv 6) pe_int (nomark _))))) (pss_one (ps_ret (pe_call G_law_leaf (hr.mono (by omega)) (by rfl) T.m__law_leaf T.F__law_leaf.kp T.b__law_leaf .nil pass0 (pa_cons (pe_op op_fdiv (pv 5) pe_int) (pa_cons (pv 3) (pa_cons (pv 4) pa_nil)))))) pss_nil)
      (pss_cons (ps_set (i := 7) sc_law_word.nd rfl (Or.inl rfl) (pe_call G_law_word (hr.mono (by omega)) (by rfl) T.m__law_word T.F__law_word.kp T.b__law_word .nil pass0 (pa_cons (pv 0) (pa_cons (pe_op op_add (pe_op op_mul pe_int (pv 1)) pe_int) (pa_cons (pe_op op_sub (pv 2) pe_int) (pa_cons (pv 3) (pa_cons (pv 4) pa_nil)))))))
      (pss_cons (ps_if (pt_cmpR op_lt (pv 6) pe_int (nomark _)) (pss_one (ps_ret (pe_tup (pa_cons pe_str (pa_cons (pv 7) pa_nil))))) pss_nil)
      (pss_one (ps_ret (pe_tup (pa_cons (pe_ix (r := rIxL K) ix_list (pe_lst (pa_cons pe_str (pa_cons pe_str pa_nil))) (pe_op op_mod (pv 6) pe_int) (fun _ _ => rfl)) (pa_cons (pv 7) (pa_cons (pe_call G_law_word (hr.mono (by omega)) (by rfl) T.m__law_word T.F__law_word.kp T.b__law_word .nil pass0 (pa_cons (pv 0) (pa_cons (pe_op op_add (pe_op op_mul pe_int (pv 1)) pe_int) (pa_cons (pe_op op_sub (pv 2) pe_int) (pa_cons (pv 3) (pa_cons (pv 4) pa_nil)))))) pa_nil))))))))))), ?_⟩
  wtm_at "rd"
  refine ⟨c, k, rfl, fun x hx0 hx1 => ?_⟩
  wtm_at "rd"
  have leaf : ∀ (σ : St) (D : Ends), D.rt = Q → σ[5]? = some (some (.int (x / 7))) → σ[3]? = some (some (.int n)) → σ[4]? = some (some (.int m)) → tRet (tCall sp_law_leaf [] E0 (tCons (tOp (rI CDiv fun i j => .int (i / j)) (tVar 5) (tC (.int 10))) (tCons (tVar 3) (tCons (tVar 4) tNil)))) D σ H := by
    intro σ D hD h5 h3 h4
    refine ⟨_, h5, _, _, rfl, rfl, ⟨by decide, by decide⟩, _, h3, _, h4, _, n, m, rfl, fun H' a w s1 e1 f1 => ?_⟩
    rw [hD]
    exact q _ _ _ s1 e1 ⟨f1.1, Int.le_trans f1.2 hd1⟩
  refine iB (fun c1 => ?_) (fun c1 => ?_)
  · exact iT rfl (leaf _ _ rfl rfl rfl rfl)
  have c1' := of_decide_eq_false c1
  wtm_at "rd"
  have hk : 0 ≤ x / 7 % 10 ∧ x / 7 % 10 < 10 := by omega
  generalize x / 7 % 10 = kd at *
  refine iB (fun c2 => ?_) (fun c2 => ?_)
  · exact leaf _ _ rfl rfl rfl rfl
  have c2' := of_decide_eq_false c2
  wtm_at "rd"
  refine ⟨c, 2 * k + 1, d - 1, n, m, rfl, by omega, by omega, fun H1 a1 w1 s1 e1 f1 => ?_⟩
  wtm_at "rd"
  refine iB (fun c3 => ?_) (fun c3 => ?_)
  · wtm_at "rd"
    wtm_at "szs"
    wtm_at "new p H2 s2 e2"
    refine q _ _ (.not w1) (s1.trans s2) ⟨_, e2, WA.same s2 e1⟩ ⟨f1.1, ?_⟩
    have := f1.2
    show ((w1.depth + 1 : Nat) : Int) ≤ d
    omega
  · wtm_at "szs"
    wtm_at "new p H2 s2 e2"
    wtm_at "rd"
    have fin : ∀ (H3 : Hp) (a2 : Addr) (w2 : W), Same H2 H3 → WA H3 w2 a2 → Fit n m (d - 1) w2 → ∀ p, H3 p = none →
        Q (.ref p) (upd H3 p (.tup [.str "and", .ref a1, .ref a2])) ∧ Q (.ref p) (upd H3 p (.tup [.str "or", .ref a1, .ref a2])) := by
      intro H3 a2 w2 s3 e3 f2 p np
      have s4 : ∀ o, Same H3 (upd H3 p o) := fun o => Same.new np
      have dp : ((max w1.depth w2.depth + 1 : Nat) : Int) ≤ d := by
        have := f1.2
        have := f2.2
        omega
      exact ⟨q _ _ (.and w1 w2) (s1.trans (s2.trans (s3.trans (s4 _)))) ⟨_, _, upd_same, WA.same (s2.trans (s3.trans (s4 _))) e1, WA.same (s4 _) e3⟩ ⟨⟨f1.1, f2.1⟩, dp⟩,
        q _ _ (.or w1 w2) (s1.trans (s2.trans (s3.trans (s4 _)))) ⟨_, _, upd_same, WA.same (s2.trans (s3.trans (s4 _))) e1, WA.same (s4 _) e3⟩ ⟨⟨f1.1, f2.1⟩, dp⟩⟩
    rcases (by omega : kd % 2 = 0 ∨ kd % 2 = 1) with e | e
    · refine ⟨_, _, _, _, rfl, rfl, .of e2, at_of (j := 0) e rfl, ?_⟩
      wtm_at "rd"
      refine ⟨c, 2 * k + 2, d - 1, n, m, rfl, by omega, by omega, fun H3 a2 w2 s3 e3 f2 => ?_⟩
      exact ⟨by wtm_at "sz", fun p np => (fin H3 a2 w2 s3 e3 f2 p np).1⟩
    · refine ⟨_, _, _, _, rfl, rfl, .of e2, at_of (j := 1) e rfl, ?_⟩
      wtm_at "rd"
      refine ⟨c, 2 * k + 2, d - 1, n, m, rfl, by omega, by omega, fun H3 a2 w2 s3 e3 f2 => ?_⟩
      exact ⟨by wtm_at "sz", fun p np => (fin H3 a2 w2 s3 e3 f2 p np).2⟩
theorem ok_law_word (T : Txt K mg Z) : ∀ N : Nat, FnOk P w K mg base CX0 (N + 1) Z.a_law_word Z.d_law_word ["cell", "k", "deep", "relays", "buttons"] (sp_law_word N)
  | 0 => fn_none (by rintro vs H Q E ⟨c, k, d, n, m, _, h1, h2, _⟩; omega)
  | N + 1 => st_law_word T (ok_law_word T N)

theorem cutS_take (l : List Nat) (k : Nat) : cutS (SX.S l) none (some (k : Int)) = SX.S (l.take k) := by
  unfold cutS
  rw [HT.sIx_none, HT.sIx_nat, SX.S_len]
  show (⟨((l.drop 0).take (min k l.length - 0)).toArray⟩ : Str) = _
  rw [List.drop_zero, Nat.sub_zero]
  by_cases h : k ≤ l.length
  · rw [Nat.min_eq_left h]
  · rw [Nat.min_eq_right (by omega), List.take_of_length_le (Nat.le_refl _), List.take_of_length_le (by omega)]
def sp_law (K : PySem.W.Frag) : Sp := fun vs H Q _ => ∃ (a : Addr) (ns : List Int), vs = [.ref a] ∧ SqL K H a (ns.map V.int) ∧ ns.length ≤ 63 ∧ ∀ H', Q (.bl true) H'
set_option maxHeartbeats 0 in
theorem ok_law (T : Txt K mg Z) : FnOk P w K mg base CX0 23 Z.alaw Z.dlaw ["script"] (sp_law K) := by
  have G_law_cell_at := ok_law_cell_at (P := P) (w := w) (base := base) T
  have G_law_pick := ok_law_pick (P := P) (w := w) (base := base) T
  have G_law_word := ok_law_word (P := P) (w := w) (base := base) T 8
  have G_law_text := ok_law_text (P := P) (w := w) (base := base) T 9
  have G_law_is_word := ok_law_is_word (P := P) (w := w) (base := base) T 10
  have Gshown := ok_shown (P := P) (w := w) (base := base) T
  have Gread := ok_read_ok (P := P) (w := w) (base := base) T
  refine T.F_law.ok sclaw (fun vs H Q E h => by obtain ⟨_, _, rfl, _⟩ := h; rfl) (fun cdv A outer s H vs Q E hr h => ?_)
  obtain ⟨a, ns, rfl, hS, hlen, q⟩ := h
  refine ⟨_, (pss_cons (ps_set (i := 1) sclaw.nd rfl (Or.inr rfl) (pe_call G_law_cell_at (hr.mono (by omega)) (by rfl) T.m__law_cell_at T.F__law_cell_at.kp T.b__law_cell_at .nil pass0 (pa_cons (pv 0) (pa_cons pe_int pa_nil))))
      (pss_cons (ps_setLc (i := 2) (own := [("k", 6)]) (g := gName 6) (tt := tYes) rfl sclaw.nd rfl rfl (sw_true rfl rfl rfl (by decide +kernel)) (pi_range1 rfl T.n_range (pa_cons (pe_op op_add pe_int (pe_op op_mod (pv 1) pe_int)) pa_nil)) (blkOk_by (own := [("k", 6)]) (N := ["script", "cell", "board", "due", "found", "back", "k", "word"]) (sc := defScope slaw) (by decide +kernel)) (fun _ _ _ _ _ => pg_name (i := 6) sclaw.nd rfl (Or.inl rfl)) (fun _ _ _ _ _ => pts_nil) (fun _ _ _ _ _ => (pe_call G_law_word (hr.mono (by omega)) (by rfl) T.m__law_word T.F__law_word.kp T.b__law_word .nil pass0 (pa_cons (pe_call G_law_pick (hr.mono (by omega)) (by rfl) T.m__law_pick T.F__law_pick.kp T.b__law_pick .nil pass0 (pa_cons (pv 0) (pa_cons (pe_op op_add pe_int (pv 6)) pa_nil))) (pa_cons (pv 6) (pa_cons (pe_op op_add pe_int (pe_op op_mod (pe_op op_fdiv (pv 1) pe_int) pe_int)) (pa_cons pe_int (pa_cons pe_int pa_nil))))))))
      (pss_cons (ps_set (i := 3) sclaw.nd rfl (Or.inl rfl) (pe_slice sl_str (pe_bm PySem.F.plainAttrs_str PySem.F.slot_str_join PySem.F.type_str_join mt_join pe_str (pa_cons (pe_lc (own := [("word", 7)]) (g := gName 7) (tt := tYes) rfl sclaw.nd (pi_list (pv 2)) (blkOk_by (own := [("word", 7)]) (N := ["script", "cell", "board", "due", "found", "back", "k", "word"]) (sc := defScope slaw) (by decide +kernel)) (fun _ _ _ _ _ => pg_name (i := 7) sclaw.nd rfl (Or.inl rfl)) (fun _ _ _ _ _ => pts_nil) (fun _ _ _ _ _ => (pe_call G_law_text (hr.mono (by omega)) (by rfl) T.m__law_text T.F__law_text.kp T.b__law_text .nil pass0 (pa_cons (pv 7) pa_nil)))) pa_nil)) po_none (po_some pe_int)))
      (pss_cons (ps_if (pt_cmpR op_eq (pe_callB call_len_str (by rfl) T.n_len PySem.boot_len (pa_cons (pv 3) pa_nil)) pe_int (nomark _)) (pss_one (ps_ret pe_bl)) pss_nil)
      (pss_cons (ps_set (i := 4) sclaw.nd rfl (Or.inl rfl) (pe_call Gshown (hr.mono (by omega)) (by rfl) T.m_shown T.F_shown.kp T.b_shown .nil pass0 (pa_cons (pe_callTy call_list_of (by rfl) T.n_list (by decide +kernel) (pa_cons (pv 2) pa_nil)) pa_nil)))
      (pss_cons (ps_if (PW.pt (pw_or (pt_not (pt_val (pe_callB (r := rIsi K) call_isi (by rfl) T.n_isinstance (by decide +kernel) (pa_cons (pv 4) (pa_cons (pe_bltn (v := .ty "str") (u := .type "str") (by rfl) T.n_str (by decide +kernel) rfl) pa_nil))))) (pw_or1 (pt_cmpR op_ne (pv 4) (pv 3) (nomark _))))) (pss_one (ps_ret pe_bl)) pss_nil)
      (pss_cons (ps_set (i := 5) sclaw.nd rfl (Or.inl rfl) (pe_call Gread (hr.mono (by omega)) (by rfl) T.m_read T.F_read.kp T.b_read .nil pass0 (pa_cons (pv 3) pa_nil)))
      (pss_cons (ps_if (PW.pt (pw_or (pt_not (pt_val (pe_callB (r := rIsi K) call_isi (by rfl) T.n_isinstance (by decide +kernel) (pa_cons (pv 5) (pa_cons (pe_bltn (v := .ty "list") (u := .type "list") (by rfl) T.n_list (by decide +kernel) rfl) pa_nil))))) (pw_or (pt_cmpR (r := rNeD K) (op_neD hr.units) (pv 5) (pv 2) (nomark _)) (pw_or1 (pt_not (pt_val (pe_callB (r := rAll K) (cr_all rfl) (by rfl) T.n_all (by decide +kernel) (pa_cons (pe_lc (own := [("word", 7)]) (g := gName 7) (tt := tYes) rfl sclaw.nd (pi_list (pv 5)) (blkOk_by (own := [("word", 7)]) (N := ["script", "cell", "board", "due", "found", "back", "k", "word"]) (sc := defScope slaw) (by decide +kernel)) (fun _ _ _ _ _ => pg_name (i := 7) sclaw.nd rfl (Or.inl rfl)) (fun _ _ _ _ _ => pts_nil) (fun _ _ _ _ _ => (pe_call G_law_is_word (hr.mono (by omega)) (by rfl) T.m__law_is_word T.F__law_is_word.kp T.b__law_is_word .nil pass0 (pa_cons (pv 7) pa_nil)))) pa_nil)))))))) (pss_one (ps_ret pe_bl)) pss_nil)
      (pss_cons (ps_expr (pe_bm PySem.F.plainAttrs_list PySem.F.slot_list_append PySem.F.type_list_append mt_append (pv 5) (pa_cons (pe_tup (pa_cons pe_str pa_nil)) pa_nil)))
      (pss_one (ps_ret (pe_cmpR (r := rEqD K) (op_eqD hr.units) (pe_call Gread (hr.mono (by omega)) (by rfl) T.m_read T.F_read.kp T.b_read .nil pass0 (pa_cons (pv 3) pa_nil)) (pv 2) (nomark _))))))))))))), ?_⟩
  refine ⟨_, rfl, a, ns, 0, rfl, hS, by omega, fun c => ?_⟩
  obtain ⟨n, en, hn1, hn6⟩ : ∃ n : Nat, 1 + c % 6 = (n : Int) ∧ 1 ≤ n ∧ n ≤ 6 := ⟨(1 + c % 6).toNat, by omega, by omega, by omega⟩
  wtm_at "rd"
  rw [en]
  rw [Int.toNat_natCast]
  refine fun D nD => lc_range (lo := 0) (n := n) (fun i H' => ∃ ws us, Same H H' ∧ H' D = some (.lst us) ∧ WAs H' ws us ∧ ws.length = i ∧ Fits 10 10 5 ws) ?_ ?_ ?_
  · exact ⟨[], [], Same.new nD, upd_same, .nil, rfl, fun _ h => nomatch h⟩
  · rintro i H1 hi ⟨ws, us, s1, hD, hw, hl, hf⟩
    wtm_at "lc"
    wtm_at "rd"
    refine ⟨a, ns, 2 + (0 + (i : Int)), rfl, s1.seq hS, by omega, fun c1 => ?_⟩
    wtm_at "rd"
    refine ⟨c1, 0 + (i : Int), 1 + c / 6 % 5, 10, 10, rfl, by omega, by omega, fun H2 b w1 s2 e2 f2 => ?_⟩
    have hlen := hw.length
    have t2 : Tk H2 (upd H2 D (.lst (us ++ [.ref b]))) := Tk.lst (s2 _ _ hD)
    exact ⟨us, s2 _ _ hD, small11 (by omega), ws ++ [w1], us ++ [.ref b], Same.lst (s1.trans s2) nD, upd_same, paired_snoc (WAs.tk ((Same.tk s2).trans t2) hw) ⟨b, rfl, WA.tk t2 e2⟩, by simp [hl], hf.snoc ⟨f2.1, by have := f2.2; omega⟩⟩
  rintro H1 ⟨ws, us, s1, hD, hw, hl, hf⟩
  have hul := hw.length
  have d5 : ∀ x ∈ ws, x.wired 10 10 ∧ x.depth ≤ 5 := fun x hx => ⟨(hf x hx).1, by have := (hf x hx).2; omega⟩
  have d8 : ∀ x ∈ ws, x.wired 10 10 ∧ x.depth ≤ 8 := fun x hx => ⟨(d5 x hx).1, by have := (d5 x hx).2; omega⟩
  have d9 : ∀ x ∈ ws, x.wired 10 10 ∧ x.depth ≤ 9 := fun x hx => ⟨(d5 x hx).1, by have := (d5 x hx).2; omega⟩
  have hne : ws ≠ [] := fun e => by rw [e] at hl; simp at hl; omega
  refine ⟨rfl, ?_⟩
  refine ⟨_, rfl, D, rfl, ⟨_, .of hD⟩, fun E nE => lc_list (K := K) (a := D) (xs := us) (fun i H' => Same H1 H' ∧ H' E = some (.lst ((((ws.take i).map txt).map SX.S).map V.str))) ?_ ?_ ?_ ?_⟩
  · exact ⟨Same.new nE, upd_same⟩
  · rintro i H' _ ⟨s2, _⟩
    exact .of (s2 _ _ hD)
  · rintro i v H2 hi ⟨s2, hE⟩
    obtain ⟨y, hy, b, rfl, hb⟩ := paired_get hw hi
    have hym := List.mem_of_getElem? hy
    wtm_at "lc"
    refine ⟨_, rfl, b, y, rfl, WA.same s2 hb, (d9 y hym).1, (d9 y hym).2, (d9 y hym).2, ?_⟩
    refine ⟨_, hE, small11 ?_, Same.lst s2 nE, ?_⟩
    · rw [List.length_map, List.length_map, List.length_map, List.length_take]; omega
    · rw [upd_same, List.take_add_one, hy, List.map_append, List.map_append, List.map_append]; rfl
  rintro H2 ⟨s2, hE⟩
  rw [← hul, List.take_length] at hE
  have tl : ∀ x ∈ ws.map txt, x.length ≤ 1280 := fun x hx => by
    obtain ⟨y, hy, rfl⟩ := List.mem_map.mp hx
    exact txt_le (d9 y hy).1 (d9 y hy).2
  have hjl : (joinT ws).length ≤ 20000 := by
    have := joinL_le 59 (ws.map txt) 1280 tl
    rw [List.length_map] at this
    exact Nat.le_trans this (by omega)
  refine ⟨SX.S [59], E, (ws.map txt).map SX.S, rfl, rfl, .inl (.of hE), ?_, ?_⟩
  · rcases sums_S ws with h | ⟨x, hx, h⟩
    · omega
    · exact absurd (txt_le (d9 x hx).1 (d9 x hx).2) h
  rw [joinT_str]
  refine ⟨300, rfl, _, rfl, by rw [len_S]; exact Nat.le_trans (by omega : _ ≤ 30000) (by decide), ?_⟩
  rw [show (300 : Int) = ((300 : Nat) : Int) from rfl, cutS_take]
  refine ⟨_, rfl, _, rfl, by rw [len_S, List.length_take]; exact small10 (by omega), rfl, _, rfl, ?_⟩
  refine iB (fun z => ?_) (fun z => ?_)
  · exact q _
  have z1 : ¬ ((joinT ws).take 300).length = 300 := fun e => of_decide_eq_false z (by rw [len_S, e])
  have hlt : (joinT ws).length < 300 := by rw [List.length_take] at z1; omega
  rw [List.take_of_length_le (by omega)]
  have s12 := s1.trans s2
  have hD2 := s2 _ _ hD
  have hw2 := WAs.same s2 hw
  refine ⟨_, rfl, D, us, rfl, .inl (.of hD2), ?_⟩
  wtm_at "new L H3 s3 e3"
  refine ⟨L, us, ws, rfl, e3, WAs.same s3 hw2, d9, by omega, fun H4 s4 => ?_⟩
  refine ⟨_, rfl, .str (SX.S (joinT ws)), .ty "str", .type "str", .type "str", true, rfl, .ty _, .base (.str _), kit_ty (by decide +kernel), _, rfl, ?_⟩
  refine iF rfl ?_
  refine ⟨_, rfl, _, rfl, rfl, _, rfl, ?_⟩
  refine iF (by rw [decide_eq_true rfl]; rfl) ?_
  have s24 := s3.trans s4
  refine ⟨_, rfl, ws, rfl, hne, d8, by omega, fun H5 p vs s5 np e5 W5 => ?_⟩
  have s25 := s24.trans s5
  have hD5 := s25 _ _ hD2
  have hw5 := WAs.same s25 hw2
  have sh : Sh (.list (ws.map wd)) (5 + 1) := shWL fun x hx => (d5 x hx).2
  refine ⟨_, rfl, .ref p, .ty "list", .type "list", .type "list", true, rfl, .ty _, .base (.lst e5), kit_ty (by decide +kernel), _, rfl, ?_⟩
  refine iF rfl ?_
  refine ⟨_, rfl, _, rfl, _, _, .lst (.of e5) (dpWs W5), .lst (.of hD5) (dpWs hw5), sh.shaped (by decide), sh.shaped (by decide), _, rfl, ?_⟩
  rw [sh.refl]
  refine iF rfl ?_
  have hvl := W5.length
  refine ⟨_, rfl, p, rfl, ⟨_, .of e5⟩, fun E nE => lc_list (K := K) (a := p) (xs := vs) (fun i H' => Same H5 H' ∧ H' E = some (.lst ((List.replicate i true).map V.bl))) ?_ ?_ ?_ ?_⟩
  · exact ⟨Same.new nE, upd_same⟩
  · rintro i H' _ ⟨s6, _⟩
    exact .of (s6 _ _ e5)
  · rintro i v H6 hi ⟨s6, hE⟩
    obtain ⟨y, hy, b, rfl, hb⟩ := paired_get W5 hi
    have hil := (List.getElem?_eq_some_iff.mp hi).1
    wtm_at "lc"
    refine ⟨_, rfl, b, y, rfl, WA.same s6 hb, by have := (d5 y (List.mem_of_getElem? hy)).2; omega, fun H7 s7 => ?_⟩
    refine ⟨_, s7 _ _ hE, small11 (by rw [List.length_map, List.length_replicate]; omega), Same.lst (s6.trans s7) nE, ?_⟩
    rw [upd_same, List.replicate_succ', List.map_append]; rfl
  rintro H6 ⟨s6, hE⟩
  refine ⟨E, _, rfl, .of hE, _, rfl, ?_⟩
  rw [all_true]
  refine iF rfl ?_
  refine ⟨_, rfl, .inl ⟨rfl, _, .of (s6 _ _ e5)⟩, by wtm_at "sz", ?_⟩
  wtm_at "new U H7 s7 e7"
  have e57 := (s6.trans s7) _ _ e5
  refine ⟨p, vs, _, rfl, rfl, e57, small11 (by omega), ?_⟩
  have s28 : Same H2 (upd H7 p (.lst (vs ++ [.ref U]))) := Same.lst (s25.trans (s6.trans s7)) (s24.free np)
  generalize upd H7 p (.lst (vs ++ [.ref U])) = H8 at *
  refine ⟨_, rfl, ws, rfl, hne, d8, by omega, fun H9 p9 v9 s9 np9 e9 W9 => ?_⟩
  have s29 := s28.trans s9
  refine ⟨_, rfl, _, _, .lst (.of e9) (dpWs W9), .lst (.of (s29 _ _ hD2)) (dpWs (WAs.same s29 hw2)), sh.shaped (by decide), sh.shaped (by decide), ?_⟩
  rw [sh.refl]
  exact q _

end
theorem all_mk {l : PySem.W.OpenLaw} {w : World} {K : PySem.W.Frag} {h : Heap} {mg : Str → Option Value} {fa : Addr} (X : K.In h) (G : h.Ns mainGlobals mg) (hfa : mg "law" = some (.ref fa))
    {f0 f1 f2 f3 f4 f5 f6 f7 f8 f9 f10 f11 f12 f13 f14 f15 f16 : Addr}
    {CRoomError CDeep CNoNote : Addr}
    {od0 an0 : Option Addr} {sl0 : Array (Option Value)} {oc0 kV0 dc0 pm0 cd0 ct0 : Value}
    (a0 : PySem.W.nsIn K mainGlobals "parts" = some (some (.ref f0))) (l0 : K.lookup f0 = some ⟨oc0, od0, .func (PySem.W.fnOf "parts" "parts" (defArgs sparts) (defBody sparts) (defScope sparts) .none kV0 dc0 pm0 an0 cd0 ct0), sl0⟩) (c0 : PySem.W.codeIn K cd0 "parts" = true) (k0 : PySem.W.keepIn K (.ref f0) = true)
    {od1 an1 : Option Addr} {sl1 : Array (Option Value)} {oc1 kV1 dc1 pm1 cd1 ct1 : Value}
    (a1 : PySem.W.nsIn K mainGlobals "depth" = some (some (.ref f1))) (l1 : K.lookup f1 = some ⟨oc1, od1, .func (PySem.W.fnOf "depth" "depth" (defArgs sdepth) (defBody sdepth) (defScope sdepth) .none kV1 dc1 pm1 an1 cd1 ct1), sl1⟩) (c1 : PySem.W.codeIn K cd1 "depth" = true) (k1 : PySem.W.keepIn K (.ref f1) = true)
    {od2 an2 : Option Addr} {sl2 : Array (Option Value)} {oc2 kV2 dc2 pm2 cd2 ct2 : Value}
    (a2 : PySem.W.nsIn K mainGlobals "word_shown" = some (some (.ref f2))) (l2 : K.lookup f2 = some ⟨oc2, od2, .func (PySem.W.fnOf "word_shown" "word_shown" (defArgs sword_shown) (defBody sword_shown) (defScope sword_shown) .none kV2 dc2 pm2 an2 cd2 ct2), sl2⟩) (c2 : PySem.W.codeIn K cd2 "word_shown" = true) (k2 : PySem.W.keepIn K (.ref f2) = true)
    {od3 an3 : Option Addr} {sl3 : Array (Option Value)} {oc3 kV3 dc3 pm3 cd3 ct3 : Value}
    (a3 : PySem.W.nsIn K mainGlobals "shown" = some (some (.ref f3))) (l3 : K.lookup f3 = some ⟨oc3, od3, .func (PySem.W.fnOf "shown" "shown" (defArgs sshown) (defBody sshown) (defScope sshown) .none kV3 dc3 pm3 an3 cd3 ct3), sl3⟩) (c3 : PySem.W.codeIn K cd3 "shown" = true) (k3 : PySem.W.keepIn K (.ref f3) = true)
    {od4 an4 : Option Addr} {sl4 : Array (Option Value)} {oc4 kV4 dc4 pm4 cd4 ct4 : Value}
    (a4 : PySem.W.nsIn K mainGlobals "closed" = some (some (.ref f4))) (l4 : K.lookup f4 = some ⟨oc4, od4, .func (PySem.W.fnOf "closed" "closed" (defArgs sclosed) (defBody sclosed) (defScope sclosed) .none kV4 dc4 pm4 an4 cd4 ct4), sl4⟩) (c4 : PySem.W.codeIn K cd4 "closed" = true) (k4 : PySem.W.keepIn K (.ref f4) = true)
    {od5 an5 : Option Addr} {sl5 : Array (Option Value)} {oc5 kV5 dc5 pm5 cd5 ct5 : Value}
    (a5 : PySem.W.nsIn K mainGlobals "turned" = some (some (.ref f5))) (l5 : K.lookup f5 = some ⟨oc5, od5, .func (PySem.W.fnOf "turned" "turned" (defArgs sturned) (defBody sturned) (defScope sturned) .none kV5 dc5 pm5 an5 cd5 ct5), sl5⟩) (c5 : PySem.W.codeIn K cd5 "turned" = true) (k5 : PySem.W.keepIn K (.ref f5) = true)
    {od6 an6 : Option Addr} {sl6 : Array (Option Value)} {oc6 kV6 dc6 pm6 cd6 ct6 : Value}
    (a6 : PySem.W.nsIn K mainGlobals "word_of" = some (some (.ref f6))) (l6 : K.lookup f6 = some ⟨oc6, od6, .func (PySem.W.fnOf "word_of" "word_of" (defArgs sword_of) (defBody sword_of) (defScope sword_of) .none kV6 dc6 pm6 an6 cd6 ct6), sl6⟩) (c6 : PySem.W.codeIn K cd6 "word_of" = true) (k6 : PySem.W.keepIn K (.ref f6) = true)
    {od7 an7 : Option Addr} {sl7 : Array (Option Value)} {oc7 kV7 dc7 pm7 cd7 ct7 : Value}
    (a7 : PySem.W.nsIn K mainGlobals "read" = some (some (.ref f7))) (l7 : K.lookup f7 = some ⟨oc7, od7, .func (PySem.W.fnOf "read" "read" (defArgs sread) (defBody sread) (defScope sread) .none kV7 dc7 pm7 an7 cd7 ct7), sl7⟩) (c7 : PySem.W.codeIn K cd7 "read" = true) (k7 : PySem.W.keepIn K (.ref f7) = true)
    {od8 an8 : Option Addr} {sl8 : Array (Option Value)} {oc8 kV8 dc8 pm8 cd8 ct8 : Value}
    (a8 : PySem.W.nsIn K mainGlobals "_law_cell_at" = some (some (.ref f8))) (l8 : K.lookup f8 = some ⟨oc8, od8, .func (PySem.W.fnOf "_law_cell_at" "_law_cell_at" (defArgs s_law_cell_at) (defBody s_law_cell_at) (defScope s_law_cell_at) .none kV8 dc8 pm8 an8 cd8 ct8), sl8⟩) (c8 : PySem.W.codeIn K cd8 "_law_cell_at" = true) (k8 : PySem.W.keepIn K (.ref f8) = true)
    {od9 an9 : Option Addr} {sl9 : Array (Option Value)} {oc9 kV9 dc9 pm9 cd9 ct9 : Value}
    (a9 : PySem.W.nsIn K mainGlobals "_law_pick" = some (some (.ref f9))) (l9 : K.lookup f9 = some ⟨oc9, od9, .func (PySem.W.fnOf "_law_pick" "_law_pick" (defArgs s_law_pick) (defBody s_law_pick) (defScope s_law_pick) .none kV9 dc9 pm9 an9 cd9 ct9), sl9⟩) (c9 : PySem.W.codeIn K cd9 "_law_pick" = true) (k9 : PySem.W.keepIn K (.ref f9) = true)
    {od10 an10 : Option Addr} {sl10 : Array (Option Value)} {oc10 kV10 dc10 pm10 cd10 ct10 : Value}
    (a10 : PySem.W.nsIn K mainGlobals "_law_whole" = some (some (.ref f10))) (l10 : K.lookup f10 = some ⟨oc10, od10, .func (PySem.W.fnOf "_law_whole" "_law_whole" (defArgs s_law_whole) (defBody s_law_whole) (defScope s_law_whole) .none kV10 dc10 pm10 an10 cd10 ct10), sl10⟩) (c10 : PySem.W.codeIn K cd10 "_law_whole" = true) (k10 : PySem.W.keepIn K (.ref f10) = true)
    {od11 an11 : Option Addr} {sl11 : Array (Option Value)} {oc11 kV11 dc11 pm11 cd11 ct11 : Value}
    (a11 : PySem.W.nsIn K mainGlobals "_law_mix" = some (some (.ref f11))) (l11 : K.lookup f11 = some ⟨oc11, od11, .func (PySem.W.fnOf "_law_mix" "_law_mix" (defArgs s_law_mix) (defBody s_law_mix) (defScope s_law_mix) .none kV11 dc11 pm11 an11 cd11 ct11), sl11⟩) (c11 : PySem.W.codeIn K cd11 "_law_mix" = true) (k11 : PySem.W.keepIn K (.ref f11) = true)
    {od12 an12 : Option Addr} {sl12 : Array (Option Value)} {oc12 kV12 dc12 pm12 cd12 ct12 : Value}
    (a12 : PySem.W.nsIn K mainGlobals "_law_leaf" = some (some (.ref f12))) (l12 : K.lookup f12 = some ⟨oc12, od12, .func (PySem.W.fnOf "_law_leaf" "_law_leaf" (defArgs s_law_leaf) (defBody s_law_leaf) (defScope s_law_leaf) .none kV12 dc12 pm12 an12 cd12 ct12), sl12⟩) (c12 : PySem.W.codeIn K cd12 "_law_leaf" = true) (k12 : PySem.W.keepIn K (.ref f12) = true)
    {od13 an13 : Option Addr} {sl13 : Array (Option Value)} {oc13 kV13 dc13 pm13 cd13 ct13 : Value}
    (a13 : PySem.W.nsIn K mainGlobals "_law_word" = some (some (.ref f13))) (l13 : K.lookup f13 = some ⟨oc13, od13, .func (PySem.W.fnOf "_law_word" "_law_word" (defArgs s_law_word) (defBody s_law_word) (defScope s_law_word) .none kV13 dc13 pm13 an13 cd13 ct13), sl13⟩) (c13 : PySem.W.codeIn K cd13 "_law_word" = true) (k13 : PySem.W.keepIn K (.ref f13) = true)
    {od14 an14 : Option Addr} {sl14 : Array (Option Value)} {oc14 kV14 dc14 pm14 cd14 ct14 : Value}
    (a14 : PySem.W.nsIn K mainGlobals "_law_text" = some (some (.ref f14))) (l14 : K.lookup f14 = some ⟨oc14, od14, .func (PySem.W.fnOf "_law_text" "_law_text" (defArgs s_law_text) (defBody s_law_text) (defScope s_law_text) .none kV14 dc14 pm14 an14 cd14 ct14), sl14⟩) (c14 : PySem.W.codeIn K cd14 "_law_text" = true) (k14 : PySem.W.keepIn K (.ref f14) = true)
    {od15 an15 : Option Addr} {sl15 : Array (Option Value)} {oc15 kV15 dc15 pm15 cd15 ct15 : Value}
    (a15 : PySem.W.nsIn K mainGlobals "_law_is_word" = some (some (.ref f15))) (l15 : K.lookup f15 = some ⟨oc15, od15, .func (PySem.W.fnOf "_law_is_word" "_law_is_word" (defArgs s_law_is_word) (defBody s_law_is_word) (defScope s_law_is_word) .none kV15 dc15 pm15 an15 cd15 ct15), sl15⟩) (c15 : PySem.W.codeIn K cd15 "_law_is_word" = true) (k15 : PySem.W.keepIn K (.ref f15) = true)
    {od16 an16 : Option Addr} {sl16 : Array (Option Value)} {oc16 kV16 dc16 pm16 cd16 ct16 : Value}
    (a16 : PySem.W.nsIn K mainGlobals "law" = some (some (.ref f16))) (l16 : K.lookup f16 = some ⟨oc16, od16, .func (PySem.W.fnOf "law" "law" (defArgs slaw) (defBody slaw) (defScope slaw) .none kV16 dc16 pm16 an16 cd16 ct16), sl16⟩) (c16 : PySem.W.codeIn K cd16 "law" = true) (k16 : PySem.W.keepIn K (.ref f16) = true)
    (z_max : PySem.W.nsIn K mainGlobals "max" = some none)
    (z_str : PySem.W.nsIn K mainGlobals "str" = some none)
    (z_len : PySem.W.nsIn K mainGlobals "len" = some none)
    (z_isinstance : PySem.W.nsIn K mainGlobals "isinstance" = some none)
    (z_tuple : PySem.W.nsIn K mainGlobals "tuple" = some none)
    (z_int : PySem.W.nsIn K mainGlobals "int" = some none)
    (z_bool : PySem.W.nsIn K mainGlobals "bool" = some none)
    (z_all : PySem.W.nsIn K mainGlobals "all" = some none)
    (z_list : PySem.W.nsIn K mainGlobals "list" = some none)
    (z_range : PySem.W.nsIn K mainGlobals "range" = some none)
    {t_DEEPEST : Tok} (g_DEEPEST : PySem.W.nsIn K mainGlobals "DEEPEST" = some (some (.int 8 t_DEEPEST)))
    {t_FIGURES : Tok} (g_FIGURES : PySem.W.nsIn K mainGlobals "FIGURES" = some (some (.str "0123456789" t_FIGURES)))
    (aC_RoomError : PySem.W.nsIn K mainGlobals "RoomError" = some (some (.ref CRoomError)))
    (aC_Deep : PySem.W.nsIn K mainGlobals "Deep" = some (some (.ref CDeep)))
    (aC_NoNote : PySem.W.nsIn K mainGlobals "NoNote" = some (some (.ref CNoNote)))
    : ∃ fd : FuncData, (∀ (s : Shared) (v : Value), BindsTo s fd ⟨[v], []⟩ [("script", v)]) ∧ ∀ base : Heap, K.In base → base.Ns mainGlobals mg → FnOk l.prog w K mg base CX0 23 fa fd ["script"] (sp_law K) := by
  have e := hfa.symm.trans (PySem.W.mg_of X G a16)
  cases e
  have F0 := fun_mk (st := sparts) l0 c0 k0
  have F1 := fun_mk (st := sdepth) l1 c1 k1
  have F2 := fun_mk (st := sword_shown) l2 c2 k2
  have F3 := fun_mk (st := sshown) l3 c3 k3
  have F4 := fun_mk (st := sclosed) l4 c4 k4
  have F5 := fun_mk (st := sturned) l5 c5 k5
  have F6 := fun_mk (st := sword_of) l6 c6 k6
  have F7 := fun_mk (st := sread) l7 c7 k7
  have F8 := fun_mk (st := s_law_cell_at) l8 c8 k8
  have F9 := fun_mk (st := s_law_pick) l9 c9 k9
  have F10 := fun_mk (st := s_law_whole) l10 c10 k10
  have F11 := fun_mk (st := s_law_mix) l11 c11 k11
  have F12 := fun_mk (st := s_law_leaf) l12 c12 k12
  have F13 := fun_mk (st := s_law_word) l13 c13 k13
  have F14 := fun_mk (st := s_law_text) l14 c14 k14
  have F15 := fun_mk (st := s_law_is_word) l15 c15 k15
  have F16 := fun_mk (st := slaw) l16 c16 k16
  have T : Txt K mg { aparts := f0, adepth := f1, aword_shown := f2, ashown := f3, aclosed := f4, aturned := f5, aword_of := f6, aread := f7, a_law_cell_at := f8, a_law_pick := f9, a_law_whole := f10, a_law_mix := f11, a_law_leaf := f12, a_law_word := f13, a_law_text := f14, a_law_is_word := f15, alaw := fa, dparts := (PySem.W.fnOf "parts" "parts" (defArgs sparts) (defBody sparts) (defScope sparts) .none kV0 dc0 pm0 an0 cd0 ct0), ddepth := (PySem.W.fnOf "depth" "depth" (defArgs sdepth) (defBody sdepth) (defScope sdepth) .none kV1 dc1 pm1 an1 cd1 ct1), dword_shown := (PySem.W.fnOf "word_shown" "word_shown" (defArgs sword_shown) (defBody sword_shown) (defScope sword_shown) .none kV2 dc2 pm2 an2 cd2 ct2), dshown := (PySem.W.fnOf "shown" "shown" (defArgs sshown) (defBody sshown) (defScope sshown) .none kV3 dc3 pm3 an3 cd3 ct3), dclosed := (PySem.W.fnOf "closed" "closed" (defArgs sclosed) (defBody sclosed) (defScope sclosed) .none kV4 dc4 pm4 an4 cd4 ct4), dturned := (PySem.W.fnOf "turned" "turned" (defArgs sturned) (defBody sturned) (defScope sturned) .none kV5 dc5 pm5 an5 cd5 ct5), dword_of := (PySem.W.fnOf "word_of" "word_of" (defArgs sword_of) (defBody sword_of) (defScope sword_of) .none kV6 dc6 pm6 an6 cd6 ct6), dread := (PySem.W.fnOf "read" "read" (defArgs sread) (defBody sread) (defScope sread) .none kV7 dc7 pm7 an7 cd7 ct7), d_law_cell_at := (PySem.W.fnOf "_law_cell_at" "_law_cell_at" (defArgs s_law_cell_at) (defBody s_law_cell_at) (defScope s_law_cell_at) .none kV8 dc8 pm8 an8 cd8 ct8), d_law_pick := (PySem.W.fnOf "_law_pick" "_law_pick" (defArgs s_law_pick) (defBody s_law_pick) (defScope s_law_pick) .none kV9 dc9 pm9 an9 cd9 ct9), d_law_whole := (PySem.W.fnOf "_law_whole" "_law_whole" (defArgs s_law_whole) (defBody s_law_whole) (defScope s_law_whole) .none kV10 dc10 pm10 an10 cd10 ct10), d_law_mix := (PySem.W.fnOf "_law_mix" "_law_mix" (defArgs s_law_mix) (defBody s_law_mix) (defScope s_law_mix) .none kV11 dc11 pm11 an11 cd11 ct11), d_law_leaf := (PySem.W.fnOf "_law_leaf" "_law_leaf" (defArgs s_law_leaf) (defBody s_law_leaf) (defScope s_law_leaf) .none kV12 dc12 pm12 an12 cd12 ct12), d_law_word := (PySem.W.fnOf "_law_word" "_law_word" (defArgs s_law_word) (defBody s_law_word) (defScope s_law_word) .none kV13 dc13 pm13 an13 cd13 ct13), d_law_text := (PySem.W.fnOf "_law_text" "_law_text" (defArgs s_law_text) (defBody s_law_text) (defScope s_law_text) .none kV14 dc14 pm14 an14 cd14 ct14), d_law_is_word := (PySem.W.fnOf "_law_is_word" "_law_is_word" (defArgs s_law_is_word) (defBody s_law_is_word) (defScope s_law_is_word) .none kV15 dc15 pm15 an15 cd15 ct15), dlaw := (PySem.W.fnOf "law" "law" (defArgs slaw) (defBody slaw) (defScope slaw) .none kV16 dc16 pm16 an16 cd16 ct16), CRoomError := CRoomError, CDeep := CDeep, CNoNote := CNoNote } := {
    F_parts := F0,
    m_parts := PySem.W.mg_of X G a0,
    b_parts := F0.binds (ps := ["word"]) fun _ _ _ _ _ _ us hl => match us, hl with | [_], _ => rfl,
    F_depth := F1,
    m_depth := PySem.W.mg_of X G a1,
    b_depth := F1.binds (ps := ["word"]) fun _ _ _ _ _ _ us hl => match us, hl with | [_], _ => rfl,
    F_word_shown := F2,
    m_word_shown := PySem.W.mg_of X G a2,
    b_word_shown := F2.binds (ps := ["word"]) fun _ _ _ _ _ _ us hl => match us, hl with | [_], _ => rfl,
    F_shown := F3,
    m_shown := PySem.W.mg_of X G a3,
    b_shown := F3.binds (ps := ["board"]) fun _ _ _ _ _ _ us hl => match us, hl with | [_], _ => rfl,
    F_closed := F4,
    m_closed := PySem.W.mg_of X G a4,
    b_closed := F4.binds (ps := ["pile"]) fun _ _ _ _ _ _ us hl => match us, hl with | [_], _ => rfl,
    F_turned := F5,
    m_turned := PySem.W.mg_of X G a5,
    b_turned := F5.binds (ps := ["pile"]) fun _ _ _ _ _ _ us hl => match us, hl with | [_], _ => rfl,
    F_word_of := F6,
    m_word_of := PySem.W.mg_of X G a6,
    b_word_of := F6.binds (ps := ["text"]) fun _ _ _ _ _ _ us hl => match us, hl with | [_], _ => rfl,
    F_read := F7,
    m_read := PySem.W.mg_of X G a7,
    b_read := F7.binds (ps := ["text"]) fun _ _ _ _ _ _ us hl => match us, hl with | [_], _ => rfl,
    F__law_cell_at := F8,
    m__law_cell_at := PySem.W.mg_of X G a8,
    b__law_cell_at := F8.binds (ps := ["script", "k"]) fun _ _ _ _ _ _ us hl => match us, hl with | [_, _], _ => rfl,
    F__law_pick := F9,
    m__law_pick := PySem.W.mg_of X G a9,
    b__law_pick := F9.binds (ps := ["script", "k"]) fun _ _ _ _ _ _ us hl => match us, hl with | [_, _], _ => rfl,
    F__law_whole := F10,
    m__law_whole := PySem.W.mg_of X G a10,
    b__law_whole := F10.binds (ps := ["x"]) fun _ _ _ _ _ _ us hl => match us, hl with | [_], _ => rfl,
    F__law_mix := F11,
    m__law_mix := PySem.W.mg_of X G a11,
    b__law_mix := F11.binds (ps := ["cell", "k"]) fun _ _ _ _ _ _ us hl => match us, hl with | [_, _], _ => rfl,
    F__law_leaf := F12,
    m__law_leaf := PySem.W.mg_of X G a12,
    b__law_leaf := F12.binds (ps := ["mixed", "relays", "buttons"]) fun _ _ _ _ _ _ us hl => match us, hl with | [_, _, _], _ => rfl,
    F__law_word := F13,
    m__law_word := PySem.W.mg_of X G a13,
    b__law_word := F13.binds (ps := ["cell", "k", "deep", "relays", "buttons"]) fun _ _ _ _ _ _ us hl => match us, hl with | [_, _, _, _, _], _ => rfl,
    F__law_text := F14,
    m__law_text := PySem.W.mg_of X G a14,
    b__law_text := F14.binds (ps := ["word"]) fun _ _ _ _ _ _ us hl => match us, hl with | [_], _ => rfl,
    F__law_is_word := F15,
    m__law_is_word := PySem.W.mg_of X G a15,
    b__law_is_word := F15.binds (ps := ["found"]) fun _ _ _ _ _ _ us hl => match us, hl with | [_], _ => rfl,
    F_law := F16,
    m_law := PySem.W.mg_of X G a16,
    b_law := F16.binds (ps := ["script"]) fun _ _ _ _ _ _ us hl => match us, hl with | [_], _ => rfl,
    n_max := PySem.W.mg_none_of X G z_max,
    n_str := PySem.W.mg_none_of X G z_str,
    n_len := PySem.W.mg_none_of X G z_len,
    n_isinstance := PySem.W.mg_none_of X G z_isinstance,
    n_tuple := PySem.W.mg_none_of X G z_tuple,
    n_int := PySem.W.mg_none_of X G z_int,
    n_bool := PySem.W.mg_none_of X G z_bool,
    n_all := PySem.W.mg_none_of X G z_all,
    n_list := PySem.W.mg_none_of X G z_list,
    n_range := PySem.W.mg_none_of X G z_range,
    g_DEEPEST := ⟨_, PySem.W.mg_of X G g_DEEPEST⟩,
    g_FIGURES := ⟨_, PySem.W.mg_of X G g_FIGURES⟩,
    c_RoomError := PySem.W.mg_of X G aC_RoomError,
    c_Deep := PySem.W.mg_of X G aC_Deep,
    c_NoNote := PySem.W.mg_of X G aC_NoNote }
  exact ⟨(PySem.W.fnOf "law" "law" (defArgs slaw) (defBody slaw) (defScope slaw) .none kV16 dc16 pm16 an16 cd16 ct16), fun s v => .of_eq rfl, fun base _ _ => ok_law T⟩
end Rl
open PySem PySem.W PyProof.Rows in
set_option maxRecDepth 100000 in
set_option maxHeartbeats 0 in
theorem PySem.Challenge.cw_relayroom_k13_shown_holds : PySem.Challenge.rw_relayroom_k13_shown.Holds := by
  w_on; o_law; k_head; (case hw => w_witness2)
  k_fill
  refine L2.walk_of (l := PySem.Challenge.rw_relayroom_k13_shown) (n := 63) (k := 23) (x := "script") (CX := fun w => L2.CX0) (sp := fun w => Rl.sp_law _) rfl (by decide) rfl ⟨rfl, by decide, by decide⟩ (fun w h Y => PySem.W.kIn_of Y) ?F (fun _ _ a ns hl _ hS => ⟨a, ns, rfl, hS, hl, fun _ => rfl⟩) (fun _ _ _ _ _ h => h)
  case F =>
    intro w mg fa h KX G hmg
    refine' Rl.all_mk KX G hmg ?a0 ?l0 ?c0 ?k0 ?a1 ?l1 ?c1 ?k1 ?a2 ?l2 ?c2 ?k2 ?a3 ?l3 ?c3 ?k3 ?a4 ?l4 ?c4 ?k4 ?a5 ?l5 ?c5 ?k5 ?a6 ?l6 ?c6 ?k6 ?a7 ?l7 ?c7 ?k7 ?a8 ?l8 ?c8 ?k8 ?a9 ?l9 ?c9 ?k9 ?a10 ?l10 ?c10 ?k10 ?a11 ?l11 ?c11 ?k11 ?a12 ?l12 ?c12 ?k12 ?a13 ?l13 ?c13 ?k13 ?a14 ?l14 ?c14 ?k14 ?a15 ?l15 ?c15 ?k15 ?a16 ?l16 ?c16 ?k16 ?z_max ?z_str ?z_len ?z_isinstance ?z_tuple ?z_int ?z_bool ?z_all ?z_list ?z_range ?g_DEEPEST ?g_FIGURES ?aC_RoomError ?aC_Deep ?aC_NoNote
    (case a0 => k_is)
    (case l0 => k_is)
    (case c0 => k_is)
    (case k0 => k_is)
    (case a1 => k_is)
    (case l1 => k_is)
    (case c1 => k_is)
    (case k1 => k_is)
    (case a2 => k_is)
    (case l2 => k_is)
    (case c2 => k_is)
    (case k2 => k_is)
    (case a3 => k_is)
    (case l3 => k_is)
    (case c3 => k_is)
    (case k3 => k_is)
    (case a4 => k_is)
    (case l4 => k_is)
    (case c4 => k_is)
    (case k4 => k_is)
    (case a5 => k_is)
    (case l5 => k_is)
    (case c5 => k_is)
    (case k5 => k_is)
    (case a6 => k_is)
    (case l6 => k_is)
    (case c6 => k_is)
    (case k6 => k_is)
    (case a7 => k_is)
    (case l7 => k_is)
    (case c7 => k_is)
    (case k7 => k_is)
    (case a8 => k_is)
    (case l8 => k_is)
    (case c8 => k_is)
    (case k8 => k_is)
    (case a9 => k_is)
    (case l9 => k_is)
    (case c9 => k_is)
    (case k9 => k_is)
    (case a10 => k_is)
    (case l10 => k_is)
    (case c10 => k_is)
    (case k10 => k_is)
    (case a11 => k_is)
    (case l11 => k_is)
    (case c11 => k_is)
    (case k11 => k_is)
    (case a12 => k_is)
    (case l12 => k_is)
    (case c12 => k_is)
    (case k12 => k_is)
    (case a13 => k_is)
    (case l13 => k_is)
    (case c13 => k_is)
    (case k13 => k_is)
    (case a14 => k_is)
    (case l14 => k_is)
    (case c14 => k_is)
    (case k14 => k_is)
    (case a15 => k_is)
    (case l15 => k_is)
    (case c15 => k_is)
    (case k15 => k_is)
    (case a16 => k_is)
    (case l16 => k_is)
    (case c16 => k_is)
    (case k16 => k_is)
    (case z_max => k_is)
    (case z_str => k_is)
    (case z_len => k_is)
    (case z_isinstance => k_is)
    (case z_tuple => k_is)
    (case z_int => k_is)
    (case z_bool => k_is)
    (case z_all => k_is)
    (case z_list => k_is)
    (case z_range => k_is)
    (case g_DEEPEST => k_is)
    (case g_FIGURES => k_is)
    (case aC_RoomError => k_is)
    (case aC_Deep => k_is)
    (case aC_NoNote => k_is)
#print axioms PySem.Challenge.cw_relayroom_k13_shown_holds
