import PyProof.Rows.All
import Wide.All
import OpenK.AllK
import Wide.FinOn
import HandS.ForMost
import HandS.Deep
import HandS.Wide
import HandS.TupAny
import HandS.TupMul
import HandS.Conv
import HandS.OwnEq
import HandS.Style
import HandS.IsInst
import HandS.ExcSuper
import HandS.GenList
import HandS.TryOnly
import HandS.Exc
import HandS.ExcOwn
import HandS.ExcInit
import HandS.WordsExc
import HandS.Defaults
import HandS.DictTup
import HandS.TupLen
import HandS.TryMany
import HandS.ExcField
import HandS.Codes
import KE.SortData
import KE.KDictDisplayH
import KE.KExcSuper
import HandS.Head0
import HandS.Head1
import HandS.Head2
import HandS.HeadEnd
import HandS.HeadHook1
import HandS.HeadHook2
import PySem.Challenge.RW_weightkeepers_k35_whole_cyclic_codes
set_option Elab.async false
set_option linter.all false
set_option autoImplicit false
set_option maxRecDepth 512
set_option maxHeartbeats 200000
/-! The mirror: what each def hands back, in plain Lean. -/
namespace Wk
abbrev Wrd := List Int
def Pr (p : Int) : Prop := p = 2 ∨ p = 3 ∨ p = 5 ∨ p = 7
theorem Pr.pos {p : Int} (h : Pr p) : 0 < p ∧ p ≤ 7 := by unfold Pr at h; omega
def Wd (p : Int) (w : Wrd) : Prop := ∀ x ∈ w, 0 ≤ x ∧ x < p
/-- a word of the length n -/
def Wn (p : Int) (n : Nat) (w : Wrd) : Prop := w.length = n ∧ Wd p w

def inv (a p : Int) : Int := match (List.range (p - 1).toNat).find? (fun i => a * (1 + (i : Nat)) % p == 1) with
  | some i => 1 + (i : Nat)
  | none => 0
def addw (v w : Wrd) (p : Int) : Wrd := List.zipWith (fun x y => (x + y) % p) v w
def scaled (w : Wrd) (a p : Int) : Wrd := w.map fun x => x * a % p
def cleared (row head : Wrd) (at_ : Nat) (p : Int) : Wrd := addw row (scaled head (-(row.getD at_ 0)) p) p
/-- rest, found, pivots -/
abbrev RedSt := List Wrd × List Wrd × List Int
def redStep (p : Int) (st : RedSt) (at_ : Nat) : RedSt := match st.1.filter (fun r => r.getD at_ 0 != 0) with
  | [] => st
  | h :: _ => let head := scaled h (inv (h.getD at_ 0) p) p
    ((st.1.erase h).map (fun r => cleared r head at_ p), st.2.1.map (fun r => cleared r head at_ p) ++ [head], st.2.2 ++ [((at_ : Nat) : Int)])
def redRun (rows : List Wrd) (n : Nat) (p : Int) : RedSt := (List.range n).foldl (redStep p) (rows, [], [])
def reduced (rows : List Wrd) (n : Nat) (p : Int) : List Wrd × List Int := (redRun rows n p).2

def trimmed (w : Wrd) : Wrd := (w.reverse.dropWhile (· == 0)).reverse
def timesIn (a b : Wrd) (p : Int) (i : Nat) (t : Wrd) (j : Nat) : Wrd := t.set (i + j) ((t.getD (i + j) 0 + a.getD i 0 * b.getD j 0) % p)
def timesRow (a b : Wrd) (p : Int) (t : Wrd) (i : Nat) : Wrd := (List.range b.length).foldl (timesIn a b p i) t
def timesRaw (a b : Wrd) (p : Int) : Wrd := (List.range a.length).foldl (timesRow a b p) (List.replicate (a.length + b.length) 0)
def times (a b : Wrd) (p : Int) : Wrd := trimmed (timesRaw a b p)
def divIn (b : Wrd) (p factor : Int) (at_ : Nat) (r : Wrd) (k : Nat) : Wrd := r.set (at_ + k) ((r.getD (at_ + k) 0 - factor * b.getD k 0) % p)
def divFac (b : Wrd) (p head : Int) (r : Wrd) (at_ : Nat) : Int := r.getD (at_ + b.length - 1) 0 * head % p
def divStep (b : Wrd) (p head : Int) (m : Nat) (st : Wrd × Wrd) (i : Nat) : Wrd × Wrd :=
  ((List.range b.length).foldl (divIn b p (divFac b p head st.1 (m - 1 - i)) (m - 1 - i)) st.1, st.2.set (m - 1 - i) (divFac b p head st.1 (m - 1 - i)))
def divRaw (a b : Wrd) (p : Int) : Wrd × Wrd := (List.range (a.length + 1 - b.length)).foldl (divStep b p (inv (b.getLastD 0) p) (a.length + 1 - b.length)) (a, List.replicate (a.length + 1 - b.length) 0)
/-- quotient, remainder -/
def divided (a b : Wrd) (p : Int) : Wrd × Wrd := (trimmed (divRaw a b p).2, trimmed (divRaw a b p).1)
def rem (a b : Wrd) (p : Int) : Wrd := (divided a b p).2
def madeMonic (a : Wrd) (p : Int) : Wrd := if a.length = 0 then [] else a.map fun x => x * inv (a.getLastD 0) p % p
def gcdStep (p : Int) (s : Wrd × Wrd) : Wrd × Wrd := (s.2, rem s.1 s.2 p)
def gcdRun (p : Int) : Nat → Wrd × Wrd → Wrd × Wrd
  | 0, s => s
  | k + 1, s => if s.2.length = 0 then s else gcdRun p k (gcdStep p s)
def commonDivisor (a b : Wrd) (p : Int) : Wrd := madeMonic (gcdRun p 14 (a, b)).1 p
def unitPoly (p : Int) (n : Nat) : Wrd := (p - 1) :: (List.replicate (n - 1) 0 ++ [1])
def tuplesOf (p : Int) : Nat → List Wrd
  | 0 => [[]]
  | k + 1 => (tuplesOf p k).flatMap fun row => (List.range p.toNat).map fun a => row ++ [((a : Nat) : Int)]
def monics (d : Nat) (p : Int) : List Wrd := (tuplesOf p d).map (· ++ [1])
def firstFactor (a : Wrd) (p : Int) : Nat → Nat → Wrd
  | 0, _ => a
  | f + 1, d => if 2 * d < a.length then (match (monics d p).find? (fun row => (rem a row p).length == 0) with
      | some row => row
      | none => firstFactor a p f (d + 1)) else a
def putC (l : List (Wrd × Int)) (k : Wrd) (v : Int) : List (Wrd × Int) := if l.any (fun e => e.1 == k) then l.map (fun e => if e.1 == k then (k, v) else e) else l ++ [(k, v)]
def getC (l : List (Wrd × Int)) (k : Wrd) : Int := ((l.find? fun e => e.1 == k).map (·.2)).getD 0
/-- rest, found, low -/
abbrev FacSt := Wrd × List (Wrd × Int) × Nat
def facFac (p : Int) (s : FacSt) : Wrd := firstFactor s.1 p 14 s.2.2
def facStep (p : Int) (s : FacSt) : FacSt := ((divided s.1 (facFac p s) p).1, putC s.2.1 (facFac p s) (getC s.2.1 (facFac p s) + 1), (facFac p s).length - 1)
def facRun (p : Int) : Nat → FacSt → FacSt
  | 0, s => s
  | k + 1, s => if 1 < s.1.length then facRun p k (facStep p s) else s
/-- by the length, then as tuples -/
def leLW (a b : Wrd) : Bool := decide (a.length < b.length) || (decide (a.length = b.length) && decide (a ≤ b))
def insBy (le : Wrd → Wrd → Bool) (x : Wrd) : List Wrd → List Wrd
  | [] => [x]
  | y :: r => if le x y then x :: y :: r else y :: insBy le x r
def sortBy (le : Wrd → Wrd → Bool) : List Wrd → List Wrd
  | [] => []
  | x :: r => insBy le x (sortBy le r)
def factors (p : Int) (n : Nat) : List (Wrd × Int) := let f := (facRun p 14 (unitPoly p n, [], 1)).2.1
  (sortBy leLW (f.map (·.1))).map fun w => (w, getC f w)
/-- longer, layer -/
def divLayer (p : Int) (fac : Wrd) (st : List Wrd × List Wrd) : List Wrd × List Wrd := (st.1 ++ st.2.map (fun r => times r fac p), st.2.map fun r => times r fac p)
def divWide (p : Int) (found : List Wrd) (e : Wrd × Int) : List Wrd := ((List.range e.2.toNat).foldl (fun st _ => divLayer p e.1 st) (found, found)).1
def divisors (p : Int) (n : Nat) : List Wrd := sortBy leLW ((factors p n).foldl (divWide p) [[1]])
def shiftW (w : Wrd) : Wrd := w.drop (w.length - 1) ++ w.take (w.length - 1)

/-- a code: p, n, rows, pivots -/
structure Cd where
  p : Int
  n : Nat
  rows : List Wrd
  piv : List Int
def mkCode (p : Int) (n : Nat) (rows : List Wrd) : Cd := ⟨p, n, (reduced rows n p).1, (reduced rows n p).2⟩
def holdStep (c : Cd) (r : Wrd) (k : Nat) : Wrd := addw r (scaled (c.rows.getD k []) (-(r.getD (c.piv.getD k 0).toNat 0)) c.p) c.p
def holdRun (c : Cd) (w : Wrd) : Wrd := (List.range c.rows.length).foldl (holdStep c) w
def holds (c : Cd) (w : Wrd) : Bool := holdRun c w == List.replicate c.n 0
def leW (a b : Wrd) : Bool := decide (a ≤ b)
def wordsStep (p : Int) (found : List Wrd) (row : Wrd) : List Wrd := found.flatMap fun w => (List.range p.toNat).map fun a => addw w (scaled row ((a : Nat) : Int) p) p
def wordsRaw (c : Cd) : List Wrd := c.rows.foldl (wordsStep c.p) [List.replicate c.n 0]
def isCyclic (c : Cd) : Bool := decide (1 ≤ c.n) && c.rows.all fun r => holds c (shiftW r)
def isDivisor (unit g : Wrd) (p : Int) : Bool := !(g.length == 0) && g.all (fun x => decide (0 ≤ x) && decide (x < p)) && (g.getLastD 0 == 1) && ((rem unit g p).length == 0)
def genRows (n : Nat) (g : Wrd) : List Wrd := (List.range (n + 1 - g.length)).map fun i => List.replicate i 0 ++ g ++ List.replicate (n + 1 - g.length - 1 - i) 0
def cyclicCode (p : Int) (n : Nat) (g : Wrd) : Cd := mkCode p n (genRows n g)
def genPoly (c : Cd) : Wrd := c.rows.foldl (fun f row => commonDivisor f (trimmed row) c.p) (unitPoly c.p c.n)
def checkPoly (c : Cd) : Wrd := (divided (unitPoly c.p c.n) (genPoly c) c.p).1

/-! the law's own -/
def putW (l : List Wrd) (k : Wrd) : List Wrd := if l.any (fun e => e == k) then l else l ++ [k]
def spanRow (p : Int) (found : List Wrd) (row : Wrd) : List Wrd := found.foldl (fun wide w => (List.range p.toNat).foldl (fun wide a => putW wide (addw w (scaled row ((a : Nat) : Int) p) p)) wide) []
def spanKeys (rows : List Wrd) (n : Nat) (p : Int) : List Wrd := rows.foldl (spanRow p) [List.replicate n 0]
def due (p : Int) (n : Nat) : List Wrd := (List.range (n + 1)).foldl (fun d k => d ++ (monics k p).filter fun row => (rem (unitPoly p n) row p).length == 0) []
end Wk
set_option maxRecDepth 10000
namespace Wk
theorem emod_bd {p : Int} (hp : Pr p) (x : Int) : 0 ≤ x % p ∧ x % p < p := ⟨Int.emod_nonneg _ (by have := hp.pos; omega), Int.emod_lt_of_pos _ hp.pos.1⟩
theorem addw_wd {p : Int} (hp : Pr p) (a b : Wrd) : Wd p (addw a b p) := by
  intro x hx
  unfold addw at hx
  rw [List.mem_iff_getElem?] at hx
  obtain ⟨i, hi⟩ := hx
  rw [List.getElem?_zipWith] at hi
  split at hi
  · obtain rfl := Option.some.inj hi
    exact emod_bd hp _
  · cases hi
theorem addw_len (a b : Wrd) (p : Int) (h : b.length = a.length) : (addw a b p).length = a.length := by
  unfold addw
  rw [List.length_zipWith]; omega
theorem scaled_wd {p : Int} (hp : Pr p) (a : Wrd) (c : Int) : Wd p (scaled a c p) := by
  intro x hx
  obtain ⟨y, _, rfl⟩ := List.mem_map.mp hx
  exact emod_bd hp _
theorem scaled_len (a : Wrd) (c p : Int) : (scaled a c p).length = a.length := by
  unfold scaled
  rw [List.length_map]
theorem cleared_wn {p : Int} {n : Nat} (hp : Pr p) {a h : Wrd} (ha : Wn p n a) (hh : Wn p n h) (i : Nat) : Wn p n (cleared a h i p) := by
  refine ⟨?_, addw_wd hp _ _⟩
  unfold cleared
  rw [addw_len _ _ _ (by rw [scaled_len, hh.1, ha.1])]
  exact ha.1
theorem scaled_wn {p : Int} {n : Nat} (hp : Pr p) {a : Wrd} (ha : Wn p n a) (c : Int) : Wn p n (scaled a c p) := ⟨by rw [scaled_len]; exact ha.1, scaled_wd hp _ _⟩
theorem inv_ex {p x : Int} (hp : Pr p) (h0 : 0 ≤ x) (h1 : x < p) (hx : x ≠ 0) : ∃ i : Nat, i < (p - 1).toNat ∧ x * (1 + (i : Int)) % p = 1 := by
  have key : ∀ p' : Int, p' ∈ [2, 3, 5, 7] → ∀ y ∈ List.range 7, (1 : Int) ≤ (y : Nat) → ((y : Nat) : Int) < p' → ∃ i ∈ List.range 6, (i : Nat) < (p' - 1).toNat ∧ ((y : Nat) : Int) * (1 + ((i : Nat) : Int)) % p' = 1 := by decide
  have hp7 := hp.pos
  obtain ⟨i, _, h2, h3⟩ := key p (by rcases hp with rfl | rfl | rfl | rfl <;> decide) x.toNat (by rw [List.mem_range]; omega) (by omega) (by omega)
  refine ⟨i, h2, ?_⟩
  rw [show ((x.toNat : Nat) : Int) = x by omega] at h3
  exact h3
/-- what holds behind each step -/
structure RI (p : Int) (n m k : Nat) (st : RedSt) : Prop where
  rest : ∀ r ∈ st.1, Wn p n r
  found : ∀ r ∈ st.2.1, Wn p n r
  len : st.1.length ≤ m
  flen : st.2.1.length ≤ k
  plen : st.2.2.length = st.2.1.length
theorem redStep_ri {p : Int} {n m k : Nat} (hp : Pr p) {st : RedSt} (h : RI p n m k st) (hk : k < n) : RI p n m (k + 1) (redStep p st k) := by
  unfold redStep
  split
  · exact ⟨h.rest, h.found, h.len, Nat.le_succ_of_le h.flen, h.plen⟩
  · rename_i hd tl e
    have hmem : hd ∈ st.1 := by
      have : hd ∈ st.1.filter (fun r => r.getD k 0 != 0) := by rw [e]; exact List.mem_cons_self
      exact (List.mem_filter.mp this).1
    have hh := scaled_wn hp (h.rest hd hmem) (inv (hd.getD k 0) p)
    refine ⟨fun r hr => ?_, fun r hr => ?_, ?_, ?_, ?_⟩
    · obtain ⟨y, hy, rfl⟩ := List.mem_map.mp hr
      exact cleared_wn hp (h.rest y (List.mem_of_mem_erase hy)) hh k
    · rcases List.mem_append.mp hr with hr | hr
      · obtain ⟨y, hy, rfl⟩ := List.mem_map.mp hr
        exact cleared_wn hp (h.found y hy) hh k
      · rw [List.mem_singleton.mp hr]; exact hh
    · show List.length (List.map _ _) ≤ m
      rw [List.length_map]
      exact Nat.le_trans (List.length_erase_le) h.len
    · show List.length (_ ++ _) ≤ k + 1
      rw [List.length_append, List.length_map, List.length_singleton]
      exact Nat.succ_le_succ h.flen
    · show List.length (_ ++ _) = List.length (_ ++ _)
      rw [List.length_append, List.length_append, List.length_map, List.length_singleton, List.length_singleton, h.plen]
theorem redRun_ri {p : Int} {n : Nat} (hp : Pr p) {rows : List Wrd} (h : ∀ r ∈ rows, Wn p n r) : ∀ k, k ≤ n → RI p n rows.length k ((List.range k).foldl (redStep p) (rows, [], []))
  | 0, _ => ⟨h, fun r hr => (by cases hr), Nat.le_refl _, Nat.le_refl _, rfl⟩
  | k + 1, hk => by
    rw [List.range_succ, List.foldl_append]
    exact redStep_ri hp (redRun_ri hp h k (by omega)) hk
end Wk
set_option maxRecDepth 100000
set_option maxHeartbeats 4000000
namespace Wk
open PySem L2
def top (i : Nat) : Stmt := PySem.Challenge.pw_weightkeepers_k35_whole_cyclic_codes.main.body.getD i (.Pass ⟨0, 0, 0, 0⟩)


/-! ### heaps -/
end Wk
namespace L2
open PySem
theorem Same.put {H H' : Hp} {a : Addr} {o : HO} (s : Same H H') (h : H' a = none) : Same H (upd H' a o) := fun b u q => by
  rw [upd_ne (ne_of_none (s b u q) h)]
  exact s b u q
/-- a new object of ours is changed -/
theorem Same.own {H H' : Hp} {a : Addr} {o : HO} (s : Same H H') (h : H a = none) : Same H (upd H' a o) := fun b u q => by
  rw [upd_ne (ne_of_none q h)]
  exact s b u q
theorem Same.seqT {K : PySem.W.Frag} {H H' : Hp} {a : Addr} {xs : List V} (e : Same H H') (h : SqT K H a xs) : SqT K H' a xs := by
  rcases h with (h | ⟨o, h⟩) | h
  · exact .inl (.inl (e _ _ h))
  · exact .inl (.inr ⟨o, e _ _ h⟩)
  · exact .inr h
theorem Same.none_ne {H H' : Hp} {a b : Addr} {o : HO} (s : Same H H') (h : H b = some o) (n : H' a = none) : b ≠ a := ne_of_none (s _ _ h) n
end L2
namespace Wk
open PySem L2
/-! ### what stands where -/
def Tp (H : Hp) (v : V) (w : List Int) : Prop := ∃ a, v = .ref a ∧ H a = some (.tup (w.map V.int))
theorem Tp.mono {H H' : Hp} {v : V} {w : List Int} (s : Same H H') (h : Tp H v w) : Tp H' v w := by
  obtain ⟨a, e, q⟩ := h
  exact ⟨a, e, s _ _ q⟩
theorem Tp.new {H : Hp} {a : Addr} {w : List Int} : Tp (upd H a (.tup (w.map V.int))) (.ref a) w := ⟨a, rfl, upd_same⟩
/-- values that are words -/
abbrev Tps (H : Hp) (vs : List V) (ws : List (List Int)) : Prop := Paired (fun v w => Tp H v w) vs ws
theorem Tps.mono {H H' : Hp} {vs : List V} {ws : List (List Int)} (s : Same H H') (h : Tps H vs ws) : Tps H' vs ws := Paired.mapP h fun _ _ q => q.mono s
theorem pget {α β : Type} {F : α → β → Prop} : ∀ {xs : List α} {ys : List β} {i : Nat} {x : α}, Paired F xs ys → xs[i]? = some x → ∃ y, ys[i]? = some y ∧ F x y
  | _, _, _, _, .nil, e => by simp at e
  | _, _, 0, _, .cons r _, e => by simp at e; subst e; exact ⟨_, rfl, r⟩
  | _, _, i + 1, x, .cons _ t, e => by
    obtain ⟨u, h1, h2⟩ := pget (i := i) (x := x) t (by simpa using e)
    exact ⟨u, by simpa using h1, h2⟩
theorem pget2 {α β : Type} {F : α → β → Prop} : ∀ {xs : List α} {ys : List β} {i : Nat} {y : β}, Paired F xs ys → ys[i]? = some y → ∃ x, xs[i]? = some x ∧ F x y
  | _, _, _, _, .nil, e => by simp at e
  | _, _, 0, _, .cons r _, e => by simp at e; subst e; exact ⟨_, rfl, r⟩
  | _, _, i + 1, x, .cons _ t, e => by
    obtain ⟨u, h1, h2⟩ := pget2 (i := i) (y := x) t (by simpa using e)
    exact ⟨u, by simpa using h1, h2⟩
theorem plen {α β : Type} {F : α → β → Prop} {xs : List α} {ys : List β} (h : Paired F xs ys) : xs.length = ys.length := Paired.length h
theorem papp {α β : Type} {F : α → β → Prop} : ∀ {xs xs' : List α} {ys ys' : List β}, Paired F xs ys → Paired F xs' ys' → Paired F (xs ++ xs') (ys ++ ys')
  | _, _, _, _, .nil, s => s
  | _, _, _, _, .cons r t, s => .cons r (papp t s)
theorem pmem {α β : Type} {F : α → β → Prop} {xs : List α} {ys : List β} (h : Paired F xs ys) {x : α} (hx : x ∈ xs) : ∃ y ∈ ys, F x y := by
  obtain ⟨i, hi⟩ := List.getElem?_of_mem hx
  obtain ⟨y, h1, h2⟩ := pget h hi
  exact ⟨y, List.mem_of_getElem? h1, h2⟩

/-! ### comprehensions that only make new objects -/
/-- J hands out n items, the i-th as Px says, as long as H1 stands -/
def Walks (J : It) (H1 : Hp) (n : Nat) (Px : Nat → V → Hp → Prop) : Prop := ∀ H, Same H1 H → (∀ i, i < n → J.go i H ∧ ∀ x H', J.yld i H x H' → H' = H ∧ Px i x H) ∧ J.stop n H
abbrev At (xs : List V) : Nat → V → Hp → Prop := fun i x _ => xs[i]? = some x
theorem walks_list {K : PySem.W.Frag} {a : Addr} {H1 : Hp} {xs : List V} (h : SqL K H1 a xs) : Walks (Itl K a) H1 xs.length (At xs) := fun H s => by
  have q := s.seq h
  exact ⟨fun i hi => ⟨⟨xs, xs[i], q, by simp [hi]⟩, fun x H' y => ⟨y.1, y.2 xs q⟩⟩, xs, q, Nat.le_refl _⟩
theorem walks_tup {K : PySem.W.Frag} {a : Addr} {H1 : Hp} {xs : List V} (h : SqT K H1 a xs) : Walks (Itt K a) H1 xs.length (At xs) := fun H s => by
  have q := Same.seqT s h
  exact ⟨fun i hi => ⟨⟨xs, xs[i], q, by simp [hi]⟩, fun x H' y => ⟨y.1, y.2 xs q⟩⟩, xs, q, Nat.le_refl _⟩
theorem walks_range {lo : Int} {n : Nat} {H1 : Hp} : Walks (Itr lo n) H1 n (fun i x _ => x = V.int (lo + (i : Nat))) := fun H s =>
  ⟨fun i hi => ⟨hi, fun x H' y => ⟨y.1, y.2⟩⟩, Nat.le_refl _⟩

/-- all but the object at D stands; at D there is a list -/
def But (D : Addr) (H H' : Hp) : Prop := (∃ l, H D = some (.lst l)) ∧ ∀ c o, c ≠ D → H c = some o → H' c = some o
theorem But.of {D : Addr} {H H' : Hp} {l : List V} (h : H D = some (.lst l)) (s : Same H H') : But D H H' := ⟨⟨l, h⟩, fun c o _ q => s c o q⟩
theorem But.upd {D : Addr} {H : Hp} {l : List V} {o : HO} (h : H D = some (.lst l)) : But D H (upd H D o) := ⟨⟨l, h⟩, fun c u n q => by rw [upd_ne n]; exact q⟩
theorem But.tup {D : Addr} {H H' : Hp} (b : But D H H') {a : Addr} {xs : List V} (h : H a = some (.tup xs)) : H' a = some (.tup xs) := by
  obtain ⟨⟨l, hl⟩, k⟩ := b
  exact k a _ (ne_of h hl (by intro q; cases q)) h
theorem Tp.but {D : Addr} {H H' : Hp} {v : V} {w : List Int} (b : But D H H') (h : Tp H v w) : Tp H' v w := by
  obtain ⟨a, e, q⟩ := h
  exact ⟨a, e, b.tup q⟩

theorem lc_gen {J : It} {H1 : Hp} {n : Nat} {Px : Nat → V → Hp → Prop} {α β : Type} (zs : List α) (f : α → Option β) (R : Hp → V → β → Prop) {i0 : Nat} {tt : TT} {te : TE} {σ : St} {D : Addr} {Qd : Hp → Prop} (hw : Walks J H1 n Px) (hl : n = zs.length) (hz : n < sizeLine) (hD : H1 D = none)
    (mono : ∀ H H' v b, But D H H' → R H v b → R H' v b)
    (hs : ∀ (i : Nat) (x : V) (z : α) (H : Hp) (Q : V → Hp → Prop) (Qn : Hp → Prop), Px i x H → zs[i]? = some z → Same H1 H → (∃ l, H D = some (.lst l)) → (f z = none → ∀ H', Same H H' → Qn H') → (∀ y, f z = some y → ∀ v H', Same H H' → R H' v y → Q v H') →
      tt ((σ.set i0 none).set i0 (some x)) H fun b H3 => if b = true then te ((σ.set i0 none).set i0 (some x)) H3 Q else Qn H3)
    (hd : ∀ H ys, Same H1 H → H D = some (.lst ys) → Paired (fun v b => R H v b) ys (zs.filterMap f) → Qd H) :
    ∃ W : Nat → Nat → Hp → Prop, (∃ m, W 0 m (upd H1 D (.lst []))) ∧ ∀ i m H, W i m H →
      (J.stop i H ∧ Qd H) ∨ (J.go i H ∧ ∃ Nx : Hp → Prop, (∀ H', Nx H' → ∃ m', m' < m ∧ W (i + 1) m' H') ∧ ∀ x H', J.yld i H x H' → gName i0 x (wipe σ [i0]) H' fun σ2 H2 => wipe σ2 [i0] = wipe σ [i0] ∧ tt σ2 H2 fun b H3 =>
        if b = true then te σ2 H3 fun y H4 => ∃ acc, H4 D = some (.lst acc) ∧ acc.length < sizeLine ∧ Nx (upd H4 D (.lst (acc ++ [y]))) else Nx H3) := by
  have pmono : ∀ {H H' : Hp} {ys : List V} {bs : List β}, But D H H' → Paired (fun v b => R H v b) ys bs → Paired (fun v b => R H' v b) ys bs := fun s h => Paired.mapP h fun a b q => mono _ _ _ _ s q
  refine ⟨fun i m H => m = n - i ∧ i ≤ n ∧ Same H1 H ∧ ∃ ys, H D = some (.lst ys) ∧ ys.length ≤ i ∧ Paired (fun v b => R H v b) ys ((zs.take i).filterMap f), ⟨n, by simp, Nat.zero_le _, Same.put (Same.refl H1) hD, [], upd_same, Nat.zero_le _, .nil⟩, ?_⟩
  rintro i m H ⟨rfl, hi, s, ys, hy, hly, hp⟩
  obtain ⟨w1, w2⟩ := hw H s
  by_cases hlt : i < n
  · obtain ⟨g1, g2⟩ := w1 i hlt
    refine .inr ⟨g1, fun H' => Same H1 H' ∧ ∃ ys, H' D = some (.lst ys) ∧ ys.length ≤ i + 1 ∧ Paired (fun v b => R H' v b) ys ((zs.take (i + 1)).filterMap f), fun H' p => ⟨n - (i + 1), by omega, rfl, hlt, p⟩, fun x H' hyl => ?_⟩
    obtain ⟨rfl, hx⟩ := g2 x H' hyl
    have hzi : i < zs.length := by omega
    have hzz : zs[i]? = some zs[i] := List.getElem?_eq_getElem hzi
    have etk : (zs.take (i + 1)).filterMap f = (zs.take i).filterMap f ++ (f zs[i]).toList := by
      rw [List.take_add_one, List.filterMap_append, hzz]
      cases hf : f zs[i] <;> simp [hf]
    show wipe _ [i0] = wipe σ [i0] ∧ _
    refine ⟨by simp [wipe, List.set_set], ?_⟩
    refine hs i x zs[i] H' _ _ hx hzz s ⟨ys, hy⟩ (fun hf H3 s3 => ?_) (fun y hf v H4 s4 r4 => ?_)
    · refine ⟨s.trans s3, ys, s3 _ _ hy, by omega, ?_⟩
      rw [etk, hf]
      simpa using pmono (But.of hy s3) hp
    · have b4 : But D H4 (upd H4 D (.lst (ys ++ [v]))) := But.upd (s4 _ _ hy)
      refine ⟨ys, s4 _ _ hy, by omega, Same.own (s.trans s4) hD, ys ++ [v], upd_same, by simp; omega, ?_⟩
      rw [etk, hf]
      exact Paired.snoc (pmono b4 (pmono (But.of hy s4) hp)) (mono _ _ _ _ b4 r4)
  · have e : i = n := by omega
    subst e
    refine .inl ⟨w2, hd H ys s hy ?_⟩
    rw [show zs.take i = zs by rw [hl, List.take_length]] at hp
    exact hp
/-- without a test -/
theorem lc_map {J : It} {H1 : Hp} {n : Nat} {Px : Nat → V → Hp → Prop} {α β : Type} (zs : List α) (f : α → β) (R : Hp → V → β → Prop) {i0 : Nat} {te : TE} {σ : St} {D : Addr} {Qd : Hp → Prop} (hw : Walks J H1 n Px) (hl : n = zs.length) (hz : n < sizeLine) (hD : H1 D = none)
    (mono : ∀ H H' v b, But D H H' → R H v b → R H' v b)
    (hs : ∀ (i : Nat) (x : V) (z : α) (H : Hp) (Q : V → Hp → Prop), Px i x H → zs[i]? = some z → Same H1 H → (∃ l, H D = some (.lst l)) → (∀ v H', Same H H' → R H' v (f z) → Q v H') → te ((σ.set i0 none).set i0 (some x)) H Q)
    (hd : ∀ H ys, Same H1 H → H D = some (.lst ys) → Paired (fun v b => R H v b) ys (zs.map f) → Qd H) :
    ∃ W : Nat → Nat → Hp → Prop, (∃ m, W 0 m (upd H1 D (.lst []))) ∧ ∀ i m H, W i m H →
      (J.stop i H ∧ Qd H) ∨ (J.go i H ∧ ∃ Nx : Hp → Prop, (∀ H', Nx H' → ∃ m', m' < m ∧ W (i + 1) m' H') ∧ ∀ x H', J.yld i H x H' → gName i0 x (wipe σ [i0]) H' fun σ2 H2 => wipe σ2 [i0] = wipe σ [i0] ∧ tYes σ2 H2 fun b H3 =>
        if b = true then te σ2 H3 fun y H4 => ∃ acc, H4 D = some (.lst acc) ∧ acc.length < sizeLine ∧ Nx (upd H4 D (.lst (acc ++ [y]))) else Nx H3) :=
  lc_gen zs (fun z => some (f z)) R hw hl hz hD mono (fun i x z H Q Qn hx hzz s hDl _ q => iteT (B := Qn H) (hs i x z H Q hx hzz s hDl (q _ rfl)))
    fun H ys s hDl hp => hd H ys s hDl (by
      have e : zs.filterMap (fun z => some (f z)) = zs.map f := by simp
      rw [← e]; exact hp)
/-- a value that is a whole number -/
abbrev Ri : Hp → V → Int → Prop := fun _ v b => v = V.int b
theorem Ri.mono {D : Addr} : ∀ H H' v b, But D H H' → Ri H v b → Ri H' v b := fun _ _ _ _ _ h => h
theorem Tp.monoD {D : Addr} : ∀ H H' v b, But D H H' → Tp H v b → Tp H' v b := fun _ _ _ _ b h => h.but b
theorem paired_int {H : Hp} {ys : List V} {ns : List Int} (h : Paired (fun v b => Ri H v b) ys ns) : ys = ns.map V.int := by
  induction h with
  | nil => rfl
  | cons e _ ih => rw [e, ih]; rfl
theorem map_int {w : List Int} {i : Nat} {x : V} {z : Int} (hx : (w.map V.int)[i]? = some x) (hz : w[i]? = some z) : x = V.int z := by
  rw [List.getElem?_map, hz] at hx
  exact (Option.some.inj hx).symm
theorem map_int' {w : List Int} {i : Nat} {z : Int} (hz : w[i]? = some z) : (w.map V.int)[i]? = some (V.int z) := by
  rw [List.getElem?_map, hz]; rfl
theorem range_at {n i z : Nat} (h : (List.range n)[i]? = some z) : z = i ∧ i < n := by
  obtain ⟨h1, h2⟩ := List.getElem?_eq_some_iff.mp h
  rw [List.getElem_range] at h2
  exact ⟨h2.symm, by simpa using h1⟩
/-- an item of a list of ints at a place -/
theorem getD_some {w : List Int} {i : Nat} (h : i < w.length) : w[i]? = some (w.getD i 0) := by
  rw [List.getD_eq_getElem?_getD, List.getElem?_eq_getElem h]; rfl
theorem atI_get {w : List Int} {i : Nat} (h : i < w.length) : atI (w.map V.int) ((i : Nat) : Int) = some (V.int (w.getD i 0)) := atI_nat (map_int' (getD_some h))
theorem last_eq {w : List Int} (h : w ≠ []) : w = w.dropLast ++ [w.getLastD 0] := by
  cases w with
  | nil => exact absurd rfl h
  | cons a r =>
    have e : (a :: r).getLastD 0 = (a :: r).getLast h := by simp [List.getLastD]
    rw [e, List.dropLast_concat_getLast]
theorem atI_getL {w : List Int} (h : w ≠ []) : atI (w.map V.int) (-1) = some (V.int (w.getLastD 0)) := by
  have e : w.map V.int = w.dropLast.map V.int ++ [V.int (w.getLastD 0)] := by
    conv => lhs; rw [last_eq h]
    rw [List.map_append]; rfl
  rw [e]
  exact atI_last _ _
theorem getD_mem {p : Int} {w : List Int} {i : Nat} (h : Wd p w) (hi : i < w.length) : 0 ≤ w.getD i 0 ∧ w.getD i 0 < p := by
  rw [List.getD_eq_getElem?_getD, List.getElem?_eq_getElem hi]
  exact h _ (List.getElem_mem hi)
theorem last_mem {p : Int} {w : List Int} (h : Wd p w) (hi : w ≠ []) : 0 ≤ w.getLastD 0 ∧ w.getLastD 0 < p := by
  have e : w.getLastD 0 = w.getLast hi := by
    cases w with
    | nil => exact absurd rfl hi
    | cons a r => simp [List.getLastD]
  rw [e]
  exact h _ (List.getLast_mem hi)

theorem hu64 {A : Around} {k : Nat} (hr : Room k A) : A.units + 64 < cLine := hr.units
theorem hu65 {A : Around} {k : Nat} (hr : Room k A) : A.units + 65 < cLine := by
  have := hr.un
  omega
structure Txt (K : PySem.W.Frag) (mg : Str → Option Value) : Prop where
  len : mg "len" = none
  tuple : mg "tuple" = none
  range : mg "range" = none
  list : mg "list" = none
  int : mg "int" = none
  bool : mg "bool" = none
  abs : mg "abs" = none
  max : mg "max" = none
  sorted : mg "sorted" = none
  isinstance : mg "isinstance" = none
  tupleT : mg "tuple" = none
  gL : ∃ u, mg "MOST_LENGTH" = some u ∧ RelV (.int 12) u
  gW : ∃ u, mg "MOST_WORDS" = some u ∧ RelV (.int 4096) u
end Wk
/-! Rules by values: with K said, and those that the layer lacks. -/
namespace Wk
open PySem PySem.Spec PyProof.Rows L2
section
variable {X : Cx}
theorem ix_tupK (K : PySem.W.Frag) (h : X.K = K := by rfl) : IxR X (rIxT K) := h ▸ ix_tup
theorem ix_listK (K : PySem.W.Frag) (h : X.K = K := by rfl) : IxR X (rIxL K) := h ▸ ix_list
theorem sl_listK (K : PySem.W.Frag) (h : X.K = K := by rfl) : SlR X (rSlL K) := h ▸ sl_list
theorem sl_tupAK (K : PySem.W.Frag) (h : X.K = K := by rfl) : SlR X (rSlA K) := h ▸ sl_tupA
theorem op_catAK (K : PySem.W.Frag) (h : X.K = K := by rfl) : OpR X (binaryOp .Add) (rCatA K) := h ▸ op_catA
theorem op_eqDK (K : PySem.W.Frag) (hu : X.A.units + 64 < cLine) (h : X.K = K := by rfl) : OpR X (compareOp .Eq) (rEqD K) := h ▸ op_eqD hu
theorem op_neDK (K : PySem.W.Frag) (hu : X.A.units + 64 < cLine) (h : X.K = K := by rfl) : OpR X (compareOp .NotEq) (rNeD K) := h ▸ op_neD hu
theorem op_inDK (K : PySem.W.Frag) (hu : X.A.units + 65 < cLine) (h : X.K = K := by rfl) : OpR X (compareOp .In) (rInD K) := h ▸ op_inD hu
theorem op_notInDK (K : PySem.W.Frag) (hu : X.A.units + 65 < cLine) (h : X.K = K := by rfl) : OpR X (compareOp .NotIn) (rNotInD K) := h ▸ op_notInD hu
theorem op_notInSK (K : PySem.W.Frag) (h : X.K = K := by rfl) : OpR X (compareOp .NotIn) (rIn K true) := h ▸ op_notIn_seq
def rLenS (K : PySem.W.Frag) : List V → Hp → VK → Prop := fun xs H Q => ∃ p ys, xs = [.ref p] ∧ (SqL K H p ys ∨ SqT K H p ys) ∧ Q (.int ys.length) H
theorem call_lenK (K : PySem.W.Frag) (h : X.K = K := by rfl) : CallR X (.builtin "len") (rLenS K) := h ▸ call_len_seq
def rListOf (K : PySem.W.Frag) : List V → Hp → VK → Prop := fun xs H Q => ∃ p ys, xs = [.ref p] ∧ (SqL K H p ys ∨ SqT K H p ys) ∧ ∀ l, H l = none → Q (.ref l) (upd H l (.lst ys))
theorem call_listK (K : PySem.W.Frag) (h : X.K = K := by rfl) : CallR X (.type "list") (rListOf K) := h ▸ call_list_of
def rTupOf (K : PySem.W.Frag) : List V → Hp → VK → Prop := fun xs H Q => ∃ p ys, xs = [.ref p] ∧ ((SqL K H p ys ∧ ∀ l, H l = none → Q (.ref l) (upd H l (.tup ys))) ∨ (SqT K H p ys ∧ Q (.ref p) H))
theorem call_tupK (K : PySem.W.Frag) (h : X.K = K := by rfl) : CallR X (.type "tuple") (rTupOf K) := h ▸ call_tuple_of
theorem mt_indexDK (K : PySem.W.Frag) (hu : X.A.units + 65 < cLine) (h : X.K = K := by rfl) : MtR X "list.index" (rIndexD K) := h ▸ mt_indexD hu
end

/-! ### list.remove of data -/
theorem remove_at (l : Addr) (items : Array Value) (n : Nat) (x : Value) (e : Value → Bool) (j : Nat) (hj : j < items.size) (hit : e items[j] = true) (k : Nat) (hs1 : items.size ≤ sizeLine) :
    ∀ i : Nat, j - i = k → i ≤ j → (∀ m (hm : m < items.size), i ≤ m → m < j → e items[m] = false) → Meets (Builtin.«list.remove.loop» ⟨[.ref l, x, rawInt i], []⟩)
      (fun A R s => s.heap.get? l = some { cls := .type "list", dict := none, data := .seq items n, slots := #[] } ∧ (∀ y, y ∈ items → SeqAt.EqAt A.in1 s y x (e y)) ∧
        R (.ok (.ret .none)) { s with heap := s.heap.update l (Obj.mapSeq fun xs => xs.eraseIdxIfInBounds j) }) := by
  induction k with
  | zero =>
    intro i hk hij hno prog w A R s h
    obtain ⟨hp, g, d, tk, os⟩ := s
    obtain ⟨hl, he, h⟩ := h
    obtain rfl : i = j := by omega
    wp_walk using wpAny_loadPart' hl
    rw [show items[((i : Nat) : Int).toNat]? = some items[i] by simp [hj]]
    refine wpAny_bind (he _ (Array.getElem_mem hj) prog w _ _ ?_)
    rw [hit]
    have hz2 : (items.eraseIdxIfInBounds i).size ≤ sizeLine + 1 := by
      have : (items.eraseIdxIfInBounds i).size ≤ items.size := by
        unfold Array.eraseIdxIfInBounds
        rw [dif_pos hj, Array.size_eraseIdx]
        omega
      omega
    wp_walk using (wpAny_updateSeq hl rfl (hz := hs1) (_hz' := hz2)), wpAny_loadPart' hl
    simpa using h
  | succ k ih =>
    intro i hk hij hno prog w A R s h
    obtain ⟨hp, g, d, tk, os⟩ := s
    obtain ⟨hl, he, h⟩ := h
    have hlt : i < items.size := by omega
    wp_walk using wpAny_loadPart' hl
    rw [show items[((i : Nat) : Int).toNat]? = some items[i] by simp [hlt]]
    refine wpAny_bind (he _ (Array.getElem_mem hlt) prog w _ _ ?_)
    rw [hno i hlt (Nat.le_refl _) (by omega)]
    wp_walk
    rw [show ((i : Int) + 1) = ((i + 1 : Nat) : Int) by push_cast; rfl]
    exact ⟨plainId_quiet MeetsSeq.plain_remove_loop _, codeAny_builtin MeetsSeq.entry_remove_loop (by
      rw [Around.under_plainId MeetsSeq.plain_remove_loop _]
      exact ih (i + 1) (by omega) (by omega) (fun m hm h1 h2 => hno m hm (by omega) h2) prog w A R _ ⟨hl, he, h⟩)⟩
theorem list_removeD (l : Addr) (items : Array Value) (n : Nat) (x : Value) (e : Value → Bool) (j : Nat) (hj : j < items.size) (hit : e items[j] = true) (hno : ∀ m (hm : m < items.size), m < j → e items[m] = false) (hs1 : items.size ≤ sizeLine) :
    Meets (Builtin.«list.remove» ⟨[.ref l, x], []⟩)
      (fun A R s => s.heap.get? l = some { cls := .type "list", dict := none, data := .seq items n, slots := #[] } ∧ (∀ y, y ∈ items → SeqAt.EqAt A.in1 s y x (e y)) ∧
        R (.ok (.ret .none)) { s with heap := s.heap.update l (Obj.mapSeq fun xs => xs.eraseIdxIfInBounds j) }) := by
  intro prog w A R s h
  obtain ⟨hp, g, d, tk, os⟩ := s
  obtain ⟨hl, he, h⟩ := h
  wp_walk using wpAny_loadPart' hl
  exact ⟨plainId_quiet MeetsSeq.plain_remove_loop _, codeAny_builtin MeetsSeq.entry_remove_loop (by
    rw [Around.under_plainId MeetsSeq.plain_remove_loop _]
    exact remove_at l items n x e j hj hit _ hs1 0 rfl (Nat.zero_le _) (fun m hm _ h2 => hno m hm h2) prog w A R _ ⟨hl, he, h⟩)⟩

theorem Vals.eraseIdx : ∀ {xs : List V} {us : List Value} (j : Nat), Vals xs us → Vals (xs.eraseIdx j) (us.eraseIdx j)
  | _, _, _, .nil => .nil
  | _, _, 0, .cons _ t => t
  | _, _, j + 1, .cons r t => .cons r (Vals.eraseIdx j t)
section
variable {X : Cx}
def rRemD (K : PySem.W.Frag) : V → List V → Hp → VK → Prop := fun x xs H Q => ∃ (l : Addr) (ys : List V) (y : V) (d : PyData) (ds : List PyData) (j : Nat) (z : PyData), x = V.ref l ∧ xs = [y] ∧ H l = some (.lst ys) ∧ DpAll K H ys ds ∧ Dp K H y d ∧
  SeqAt.shaped (.list ds) = true ∧ SeqAt.shaped d = true ∧ ds[j]? = some z ∧ PyData.eqv z d = true ∧ (∀ (m : Nat) (z' : PyData), m < j → ds[m]? = some z' → PyData.eqv z' d = false) ∧ Q .non (upd H l (.lst (ys.eraseIdx j)))
theorem mt_removeDK (K : PySem.W.Frag) (hu : X.A.units + 65 < cLine) (hK : X.K = K := by rfl) : MtR X "list.remove" (rRemD K) := by
  subst hK
  intro pins s σ H x xs v us Q I rx rxs h
  obtain ⟨l, ys, y, d, ds, j, z, rfl, rfl, hH, ha, hy, sl, sd, hz, hzj, hno, q⟩ := h
  cases rx
  cases rxs with
  | cons ry rt =>
    rename_i uy ut
    cases rt
    obtain ⟨bs, r1⟩ := Dp.reads I d y uy hy ry
    have hxs : PyData.canLayAll0 ds = true := SeqAt.canLay_of_shaped sl
    have hroom : X.A.units + 1 + min (PyData.depthAll ds) d.depth < cLine := room_in_shaped sd hu
    obtain ⟨hlen, its, n, rv, e1, ho⟩ := I.lstM hH
    obtain ⟨as, h4⟩ := Dp.readsAll I ds _ its ha rv
    have hn : its.length = ds.length := SeqAt.ReadsAll.length ds its as h4
    have hmap : its.map (SeqAt.readOf s.heap) = ds := SeqAt.readsAll_map ds its as hxs h4
    obtain ⟨hjd, _⟩ := List.getElem?_eq_some_iff.mp hz
    have hjl : j < its.length := by omega
    have at_ : ∀ (m : Nat) (hm : m < its.toArray.size) (z' : PyData), ds[m]? = some z' → SeqAt.readOf s.heap its.toArray[m] = z' := by
      intro m hm z' hz'
      have hml : m < its.length := by simpa using hm
      rw [← hmap, List.getElem?_map, List.getElem?_eq_getElem hml] at hz'
      have e2 : SeqAt.readOf s.heap its[m] = z' := Option.some.inj (show some (SeqAt.readOf s.heap its[m]) = some z' from hz')
      simpa using e2
    refine call_meets PySem.F.slot_list_remove ⟨_, ho, rfl⟩ PySem.F.entry_list_remove (PySem.F.args_list_remove_2 _ _)
      (list_removeD l its.toArray n uy (fun u => PyData.eqv (SeqAt.readOf s.heap u) d) j (by simpa using hjl) ?_ ?_ (by simpa using (show its.length ≤ sizeLine by omega))) ⟨ho, SeqAt.items_eqAt (vs := its.toArray) (show ReadsAll s.heap its.toArray.toList ds as from h4) r1 hxs (SeqAt.canLay_of_shaped sd) hroom, ?_⟩
    · show PyData.eqv (SeqAt.readOf s.heap its.toArray[j]) d = true
      rw [at_ j (by simpa using hjl) z hz]
      exact hzj
    · intro m hm hmj
      have hmd : m < ds.length := by omega
      show PyData.eqv (SeqAt.readOf s.heap its.toArray[m]) d = false
      rw [at_ m hm _ (List.getElem?_eq_getElem hmd)]
      exact hno m _ hmj (List.getElem?_eq_getElem hmd)
    · refine ⟨.non, _, I.lset (its' := its.eraseIdx j) hH ho ?_ (Vals.eraseIdx j rv) ?_, rfl, q⟩
      · show its.toArray.eraseIdxIfInBounds j = (its.eraseIdx j).toArray
        rw [List.eraseIdxIfInBounds_toArray]
      · have := List.length_eraseIdx_le ys j
        omega
/-! ### sorted of data -/
def rSortD (K : PySem.W.Frag) (u : Nat) : List V → Hp → VK → Prop := fun vs H Q => ∃ (β : Type) (a : Addr) (xs : List V) (bs : List β) (enc : β → PyData) (F : V → β → Prop), vs = [V.ref a] ∧ SqL K H a xs ∧ Paired F xs bs ∧ (∀ v b, F v b → Dp K H v (enc b)) ∧
  PySem.W.AllAlike (bs.map enc) ∧ PySem.W.Sortable (bs.map enc) ∧ (∀ b, b ∈ bs → (enc b).depth ≤ 60) ∧ ∀ ys p, Paired F ys (bs.mergeSort (PySem.W.dataLe false enc)) → H p = none → Q (.ref p) (upd H p (.lst ys))
theorem each_of_paired {β : Type} {enc : β → PyData} {R : Value → β → Prop} {F : V → β → Prop} (h : ∀ v u b, RelV v u → F v b → R u b) : ∀ {xs : List V} {us : List Value} {bs : List β}, Vals xs us → Paired F xs bs → PySem.W.EachIs R us bs
  | _, _, _, .nil, .nil => .nil
  | _, _, _, .cons r t, .cons q s => .cons (h _ _ _ r q) (each_of_paired (enc := enc) h t s)
theorem paired_of_each {β : Type} {F : V → β → Prop} : ∀ {us : List Value} {bs : List β}, PySem.W.EachIs (fun u b => ∃ v, RelV v u ∧ F v b) us bs → ∃ ys, Vals ys us ∧ Paired F ys bs
  | _, _, .nil => ⟨[], .nil, .nil⟩
  | _, _, .cons ⟨v, r, q⟩ t => by
    obtain ⟨ys, h1, h2⟩ := paired_of_each t
    exact ⟨v :: ys, .cons r h1, .cons q h2⟩
theorem paired_mem {β : Type} {F : V → β → Prop} : ∀ {xs : List V} {bs : List β}, Paired F xs bs → Paired (fun v b => v ∈ xs ∧ F v b) xs bs := fun {xs bs} h => by
  have go : ∀ {ys : List V} {cs : List β}, (∀ y ∈ ys, y ∈ xs) → Paired F ys cs → Paired (fun v b => v ∈ xs ∧ F v b) ys cs := fun hy hp => by
    induction hp with
    | nil => exact .nil
    | cons r t ih => exact .cons ⟨hy _ List.mem_cons_self, r⟩ (ih fun y m => hy y (List.mem_cons_of_mem _ m))
  exact go (fun _ m => m) h
theorem cr_sortedDK (K : PySem.W.Frag) (hu : X.A.units + 64 < cLine) (hK : X.K = K := by rfl) : CallR X (.builtin "sorted") (rSortD K 0) := by
  subst hK
  intro pins s σ H vs us Q I r h
  obtain ⟨β, a, xs, bs, enc, F, rfl, hs, hp, hF, hal, hk, hd, q⟩ := h
  obtain ⟨its, rv, hl, hz⟩ := I.list hs
  rw [Vals.ref1 r]
  have hlen := plen hp
  have e1 : PySem.W.EachIs (fun u b => ∃ v, RelV v u ∧ F v b) its bs := each_of_paired (enc := enc) (fun v u b rr f => ⟨v, rr, f⟩) rv hp
  have e2 : PySem.W.EachIs (fun u b => ∃ as, Reads s.heap u (enc b) as) its bs := each_of_paired (enc := enc) (fun v u b rr f => Dp.reads I (enc b) v u (hF v b f) rr) rv hp
  refine PySem.W.sorted_data (enc := enc) hl.isList e1 e2 hal hk (by omega) (fun b hb => ?_) fun out ho eo => ?_
  · have := hd b hb
    omega
  · obtain ⟨ys, v1, v2⟩ := paired_of_each eo
    obtain ⟨ep, he'⟩ := PyProof.Rows.sortedAll_at s.heap its out.toArray
    have hl2 : ys.length ≤ sizeLine := by
      have := plen v2
      rw [List.length_mergeSort] at this
      omega
    exact ⟨.ref _, upd H (s.heap.objs.size + 1) (.lst ys), I.laid (t' := s.toks) (fun _ _ => PyProof.Rows.sortedAll_old) (Nat.le_succ _) ⟨hl2, out, ep, v1, he'⟩, rfl, q _ _ v2 (I.hok.fresh (Nat.le_succ _))⟩
end
end Wk
namespace Wk
open PySem PySem.Spec PyProof.Rows L2
/-! ### tuple * 0, tuple * 1 -/
theorem tuple_mul1 (l : Addr) (items : Array Value) (n : Nat) (dd : Option Addr) (sl : Array (Option Value)) (u : Tok) :
    Meets (Builtin.«tuple.__mul__» ⟨[.ref l, .int 1 u], []⟩) (fun _ R s => s.heap.get? l = some { cls := .type "tuple", dict := dd, data := .seq items n, slots := sl } ∧ R (.ok (.ret (Value.ref l))) s) :=
  .of_wp fun prog w A R s h => by
    obtain ⟨hp, g, d, tk, os⟩ := s
    obtain ⟨hl, h⟩ := h
    have f1 := AutoSeq1.idx_int
    wp_walk using wpAny_loadPart' hl
    repeat (first
      | (refine wpAny_ite_true (by simp) ?_; wp_walk using wpAny_loadPart' hl)
      | (refine wpAny_ite_false (by simp) ?_; wp_walk using wpAny_loadPart' hl))
    exact ⟨_, rfl, h⟩
theorem tuple_mul0 (l : Addr) (items : Array Value) (n : Nat) (dd : Option Addr) (sl : Array (Option Value)) (u : Tok) (hne : items.isEmpty = false) :
    Meets (Builtin.«tuple.__mul__» ⟨[.ref l, .int 0 u], []⟩) (fun _ R s => s.heap.get? l = some { cls := .type "tuple", dict := dd, data := .seq items n, slots := sl } ∧
      R (.ok (.ret (Value.ref s.heap.objs.size))) { s with heap := s.heap.push { cls := Value.type "tuple", data := Data.seq #[] }, toks := s.toks }) :=
  .of_wp fun prog w A R s h => by
    obtain ⟨hp, g, d, tk, os⟩ := s
    obtain ⟨hl, h⟩ := h
    have f1 := AutoSeq1.idx_int
    wp_walk using wpAny_loadPart' hl
    repeat (first
      | (refine wpAny_ite_false (by simp [hne]) ?_; wp_walk using wpAny_loadPart' hl)
      | (refine wpAny_ite_true (by simp) ?_; wp_walk using wpAny_loadPart' hl))
    exact ⟨_, rfl, h⟩
/-- (x, ..) * k for k from 0 on -/
def rRepTA (K : PySem.W.Frag) : R2 := fun x y H Q => ∃ l k xs, x = .ref l ∧ y = .int k ∧ SqT K H l xs ∧ xs ≠ [] ∧ 0 ≤ k ∧ k ≤ 1000 ∧ xs.length ≤ 1000 ∧ (k = 1 → Q (.ref l) H) ∧ (k ≠ 1 → ∀ p, H p = none → Q (.ref p) (upd H p (.tup (List.replicate k.toNat xs).flatten)))
section
variable {X : Cx}
theorem op_repTAK (K : PySem.W.Frag) (hK : X.K = K := by rfl) : OpR X (binaryOp .Mult) (rRepTA K) := by
  subst hK
  intro pins s σ H x y v u Q I rx ry h
  obtain ⟨l, k, xs, rfl, rfl, hT, hne, h1, h2, hz, q1, q⟩ := h
  by_cases hk : 2 ≤ k
  · exact op_repT pins s σ H _ _ v u Q I rx ry ⟨l, k, xs, rfl, rfl, hT, hne, hk, h2, hz, q (by omega)⟩
  · cases rx
    obtain ⟨t, rfl⟩ := ry
    obtain ⟨its, r, ⟨⟨cls, dd, data, sl⟩, ho, hc, n, hd⟩, hs⟩ := I.tuple hT
    simp only at hc hd
    subst hc hd
    have hle : its.length = xs.length := r.length.symm
    have hi : its.toArray.isEmpty = false := by
      cases its with
      | nil => exact absurd (List.eq_nil_of_length_eq_zero hle.symm) hne
      | cons a b => rfl
    have road : ∀ {Q' : Value → Shared → Prop}, wpAny (model X.prog X.w) X.A (call (.builtin "tuple.__mul__") [.ref l, .int k t]) Q' X.xe s → wpAny (model X.prog X.w) X.A (binaryOp .Mult (.ref l) (.int k t)) Q' X.xe s := fun hq =>
      wpAny_binaryOp_repeat_ref (T := "tuple") (U := "int") (by decide) ⟨_, ho, rfl⟩ (fun s' => typeIs_int s' k t) noFill_tuple_mul F.fills_int_mul F.slot_int_rmul repeat_tuple F.slot_int_index.lookup
        (call_meets F.slot_int_rmul (typeIs_int s k t) F.entry_int_rmul (F.args_int_rmul_2 _ _) (int_rmul_tuple k t l its.toArray n dd sl) ⟨ho, rfl, ⟨_, ho, rfl⟩, hq⟩)
    rcases (show k = 0 ∨ k = 1 by omega) with rfl | rfl
    · refine road (call_meets F.slot_tuple_mul ⟨_, ho, rfl⟩ F.entry_tuple_mul (F.args_tuple_mul_2 _ _) (tuple_mul0 l its.toArray n dd sl t hi) ⟨ho, ?_⟩)
      refine ⟨.ref s.heap.objs.size, _, I.laid (t' := s.toks) (o := .tup (List.replicate (0 : Int).toNat xs).flatten) (fun b ob q => Heap.get?_push_of_some _ q) (Nat.le_refl _) ?_, rfl, q (by decide) _ (I.hok.fresh (Nat.le_refl _))⟩
      exact ⟨Nat.zero_le _, [], .nil, IsTup.new _ _⟩
    · exact road (call_meets F.slot_tuple_mul ⟨_, ho, rfl⟩ F.entry_tuple_mul (F.args_tuple_mul_2 _ _) (tuple_mul1 l its.toArray n dd sl t) ⟨ho, ⟨.ref l, H, I, rfl, q1 rfl⟩⟩)
end
end Wk
namespace Wk
open PySem L2
open C8 (Cal Met Mak pe_c pe_mk pe_mt pe_mt0)
section
variable {P : Program} {w : World} {K : PySem.W.Frag} {mg : Str → Option Value} {base : Heap}
/-! ### scaled -/
abbrev s_scaled : Stmt := top 12
theorem sc_scaled : FnScope ["v", "a", "p", "item"] ["v", "a", "p"] (defScope s_scaled) := ⟨rfl, rfl, rfl, by decide +kernel, rfl, by decide +kernel, by decide +kernel⟩
def sp_scaled : Sp := fun vs H Q _ => ∃ v w a p, vs = [v, .int a, .int p] ∧ Tp H v w ∧ Pr p ∧ Wd p w ∧ w.length ≤ 100 ∧ ∀ r H', Same H H' → Tp H' r (scaled w a p) → Q r H'
theorem ok_scaled {f : Addr} {fd : FuncData} (F : Fun K "scaled" "scaled" s_scaled f fd) (T : Txt K mg)   : FnOk P w K mg base CX0 1 f fd ["v", "a", "p"] sp_scaled := by
  refine F.ok sc_scaled (fun vs H Q E h => ?_) (fun cdv A outer s H vs Q E hr h => ?_)
  · obtain ⟨v, w, a, p, rfl, _⟩ := h
    rfl
  · obtain ⟨v, w, a, p, rfl, ⟨t, rfl, ht⟩, hp, hw, hl, k⟩ := h
    refine ⟨_, (pss_one (ps_ret (pe_callTy (call_tupK K) (by rfl) T.tuple (by decide +kernel) (pa_cons (pe_lc (own := [("item", 3)]) (g := gName 3) (tt := tYes) rfl sc_scaled.nd (pi_tup (pv 0)) (blkOk_by (N := ["v", "a", "p", "item"]) (sc := defScope s_scaled) (by decide +kernel)) (fun _ _ _ _ _ => (pg_name (i := 3) sc_scaled.nd rfl (Or.inl rfl))) (fun _ _ _ _ _ => pts_nil) (fun _ _ _ _ _ => (pe_op op_mod (pe_op op_mul (pv 3) (pv 1)) (pv 2)))) pa_nil)))), ?_⟩
    refine ⟨_, rfl, t, rfl, ⟨_, SqT.of ht⟩, fun D hD => lc_map w (fun x => x * a % p) Ri (walks_tup (SqT.of ht)) (by simp) (by rw [List.length_map]; exact small1000 (by omega)) hD Ri.mono ?_ ?_⟩
    · rintro i x z H1 Q1 hx hz s1 - q
      obtain rfl := map_int hx hz
      have hz0 := hw z (List.mem_of_getElem? hz)
      have hp7 := hp.pos
      exact ⟨_, rfl, _, rfl, _, _, rfl, rfl, .inl (by omega), _, rfl, _, _, rfl, rfl, hp7.1, q _ _ (Same.refl _) rfl⟩
    · intro H1 ys s1 hD1 hp
      obtain rfl := paired_int hp
      exact ⟨_, _, rfl, .inl ⟨SqL.of hD1, fun l hl => k _ _ (s1.put hl) Tp.new⟩⟩
/-! ### add -/
abbrev s_add : Stmt := top 11
theorem sc_add : FnScope ["v", "w", "p", "k"] ["v", "w", "p"] (defScope s_add) := ⟨rfl, rfl, rfl, by decide +kernel, rfl, by decide +kernel, by decide +kernel⟩
def sp_add : Sp := fun vs H Q _ => ∃ v w a b p, vs = [v, w, .int p] ∧ Tp H v a ∧ Tp H w b ∧ Pr p ∧ b.length = a.length ∧ a.length ≤ 100 ∧ ∀ r H', Same H H' → Tp H' r (addw a b p) → Q r H'
theorem zip_range (a b : List Int) (p : Int) (h : b.length = a.length) : (List.range a.length).map (fun i => (a.getD i 0 + b.getD i 0) % p) = addw a b p := by
  apply List.ext_getElem?
  intro i
  unfold addw
  rw [List.getElem?_map, List.getElem?_zipWith]
  by_cases hi : i < a.length
  · rw [List.getElem?_range hi, getD_some hi, getD_some (show i < b.length by omega)]; rfl
  · rw [List.getElem?_eq_none (by simpa using hi), List.getElem?_eq_none (by omega)]; rfl
theorem ok_add {f : Addr} {fd : FuncData} (F : Fun K "add" "add" s_add f fd) (T : Txt K mg)   : FnOk P w K mg base CX0 1 f fd ["v", "w", "p"] sp_add := by
  refine F.ok sc_add (fun vs H Q E h => ?_) (fun cdv A outer s H vs Q E hr h => ?_)
  · obtain ⟨v, w, a, b, p, rfl, _⟩ := h
    rfl
  · obtain ⟨v, w, a, b, p, rfl, ⟨t, rfl, ht⟩, ⟨u, rfl, hu⟩, hp, hab, hl, k⟩ := h
    refine ⟨_, (pss_one (ps_ret (pe_callTy (call_tupK K) (by rfl) T.tuple (by decide +kernel) (pa_cons (pe_lc (own := [("k", 3)]) (g := gName 3) (tt := tYes) rfl sc_add.nd (pi_range1 rfl T.range (pa_cons (pe_callB (call_lenK K) (by rfl) T.len PySem.boot_len (pa_cons (pv 0) pa_nil)) pa_nil)) (blkOk_by (N := ["v", "w", "p", "k"]) (sc := defScope s_add) (by decide +kernel)) (fun _ _ _ _ _ => (pg_name (i := 3) sc_add.nd rfl (Or.inl rfl))) (fun _ _ _ _ _ => pts_nil) (fun _ _ _ _ _ => (pe_op op_mod (pe_op op_add (pe_ix (ix_tupK K) (pv 0) (pv 3) (fun _ _ => rfl)) (pe_ix (ix_tupK K) (pv 1) (pv 3) (fun _ _ => rfl))) (pv 2)))) pa_nil)))), ?_⟩
    have hp7 := hp.pos
    refine ⟨_, rfl, t, _, rfl, .inr (SqT.of ht), _, rfl, by rw [List.length_map]; omega, by rw [List.length_map]; omega, fun D hD => lc_map (List.range a.length) (fun i => (a.getD i 0 + b.getD i 0) % p) Ri (n := a.length) (by rw [List.length_map]; exact walks_range) (by simp) (small1000 (by omega)) hD Ri.mono ?_ ?_⟩
    · rintro i x z H1 Q1 rfl hz s1 - q
      obtain ⟨rfl, hi⟩ := range_at hz
      rw [Int.zero_add]
      exact ⟨_, rfl, _, rfl, t, _, _, _, rfl, rfl, SqT.of (s1 _ _ ht), atI_get hi, _, rfl, _, rfl, u, _, _, _, rfl, rfl, SqT.of (s1 _ _ hu), atI_get (by omega), _, _, rfl, rfl, _, rfl, _, _, rfl, rfl, hp7.1, q _ _ (Same.refl _) rfl⟩
    · intro H1 ys s1 hD1 hp
      obtain rfl := paired_int hp
      rw [zip_range a b p hab] at hD1
      exact ⟨_, _, rfl, .inl ⟨SqL.of hD1, fun l hl => k _ _ (s1.put hl) Tp.new⟩⟩
/-! ### cleared -/
abbrev s_cleared : Stmt := top 14
theorem sc_cleared : FnScope ["row", "head", "at", "p"] ["row", "head", "at", "p"] (defScope s_cleared) := ⟨rfl, rfl, rfl, by decide +kernel, rfl, by decide +kernel, by decide +kernel⟩
def sp_cleared : Sp := fun vs H Q _ => ∃ v w a b i p, vs = [v, w, .int ((i : Nat) : Int), .int p] ∧ Tp H v a ∧ Tp H w b ∧ Pr p ∧ Wd p b ∧ b.length = a.length ∧ i < a.length ∧ a.length ≤ 100 ∧ ∀ r H', Same H H' → Tp H' r (cleared a b i p) → Q r H'
theorem ok_cleared {f : Addr} {fd : FuncData} (F : Fun K "cleared" "cleared" s_cleared f fd) (T : Txt K mg) (c_add : Cal P w K mg base 1 "add" sp_add []) (c_scaled : Cal P w K mg base 1 "scaled" sp_scaled [])  : FnOk P w K mg base CX0 2 f fd ["row", "head", "at", "p"] sp_cleared := by
  refine F.ok sc_cleared (fun vs H Q E h => ?_) (fun cdv A outer s H vs Q E hr h => ?_)
  · obtain ⟨v, w, a, b, i, p, rfl, _⟩ := h
    rfl
  · obtain ⟨v, w, a, b, i, p, rfl, ⟨t, rfl, ht⟩, ⟨u, rfl, hu⟩, hp, hb, hab, hi, hl, k⟩ := h
    refine ⟨_, (pss_one (ps_ret (pe_c c_add hr (by decide) rfl (pa_cons (pv 0) (pa_cons (pe_c c_scaled hr (by decide) rfl (pa_cons (pv 1) (pa_cons (pe_un un_neg (pe_ix (ix_tupK K) (pv 0) (pv 2) (fun _ _ => rfl))) (pa_cons (pv 3) pa_nil)))) (pa_cons (pv 3) pa_nil)))))), ?_⟩
    refine ⟨_, rfl, _, rfl, _, rfl, _, rfl, t, _, _, _, rfl, rfl, SqT.of ht, atI_get hi, _, rfl, _, rfl, ⟨_, b, _, p, rfl, ⟨u, rfl, hu⟩, hp, hb, by omega, fun r1 H1 s1 h1 => ?_⟩⟩
    exact ⟨_, rfl, _, _, a, _, p, rfl, ⟨t, rfl, s1 _ _ ht⟩, h1, hp, by simp [scaled]; omega, hl, fun r2 H2 s2 h2 => k r2 H2 (s1.trans s2) h2⟩
end
end Wk
namespace Wk
open PySem L2
open C8 (Cal Met Mak pe_c pe_mk pe_mt pe_mt0)
section
variable {P : Program} {w : World} {K : PySem.W.Frag} {mg : Str → Option Value} {base : Heap}
/-! ### inverse -/
def InvOk (a p : Int) : Prop := ∃ i : Nat, i < (p - 1).toNat ∧ a * (1 + (i : Int)) % p = 1
theorem inv_first {a p : Int} {i : Nat} (hi : i < (p - 1).toNat) (h : a * (1 + (i : Int)) % p = 1) (hno : ∀ j : Nat, j < i → a * (1 + (j : Int)) % p ≠ 1) : inv a p = 1 + (i : Int) := by
  unfold inv
  have e : (List.range (p - 1).toNat).find? (fun i => a * (1 + (i : Nat)) % p == 1) = some i := by
    rw [List.find?_range_eq_some]
    exact ⟨by simpa using h, by simpa using hi, fun j hj => by simpa using hno j hj⟩
  rw [e]
abbrev s_inverse : Stmt := top 7
theorem sc_inverse : FnScope ["a", "p", "k"] ["a", "p"] (defScope s_inverse) := ⟨rfl, rfl, rfl, by decide +kernel, rfl, by decide +kernel, by decide +kernel⟩
def sp_inverse : Sp := fun vs H Q _ => ∃ a p, vs = [.int a, .int p] ∧ Pr p ∧ InvOk a p ∧ Q (.int (inv a p)) H
theorem ok_inverse {f : Addr} {fd : FuncData} (F : Fun K "inverse" "inverse" s_inverse f fd) (T : Txt K mg)   : FnOk P w K mg base CX0 1 f fd ["a", "p"] sp_inverse := by
  refine F.ok sc_inverse (fun vs H Q E h => ?_) (fun cdv A outer s H vs Q E hr h => ?_)
  · obtain ⟨a, p, rfl, _⟩ := h
    rfl
  · obtain ⟨a, p, rfl, hp, ⟨i0, hi0, h0⟩, k⟩ := h
    refine ⟨_, (pss_cons (ps_for PassesOwn.never rfl (pi_range2 rfl T.range (pa_cons pe_int (pa_cons (pv 1) pa_nil))) (pg_name (i := 2) sc_inverse.nd rfl (Or.inl rfl))
      (pss_one (ps_if (pt_cmpR op_eq (pe_op op_mod (pe_op op_mul (pv 0) (pv 2)) (pv 1)) pe_int (nomark _)) (pss_one (ps_ret (pv 2))) pss_nil)))
      (pss_one ps_never)), ?_⟩
    have hp7 := hp.pos
    refine ⟨_, rfl, 1, p, rfl, by omega, for_range (lo := 1) (n := (p - 1).toNat) (fun i σ H' => (∃ v, σ = [some (.int a), some (.int p), v]) ∧ H' = H ∧ ∀ j : Nat, j < i → a * (1 + (j : Int)) % p ≠ 1) ⟨⟨_, rfl⟩, rfl, fun j hj => absurd hj (Nat.not_lt_zero _)⟩ ?_ ?_⟩
    · rintro i σ H' hi ⟨⟨v, rfl⟩, rfl, hno⟩
      refine ⟨_, rfl, _, rfl, _, _, rfl, rfl, .inr (by omega), _, rfl, _, _, rfl, rfl, hp7.1, rfl, _, rfl, ite2 (fun c => ?_) (fun c => ?_)⟩
      · have c' : a * (1 + (i : Int)) % p = 1 := by simpa using c
        refine ⟨_, rfl, ?_⟩
        rw [← inv_first hi c' hno]
        exact k
      · have c' : a * (1 + (i : Int)) % p ≠ 1 := by simpa using c
        refine ⟨⟨_, rfl⟩, rfl, fun j hj => ?_⟩
        rcases Nat.lt_succ_iff_lt_or_eq.mp hj with q | q
        · exact hno j q
        · rw [q]; exact c'
    · rintro σ H' ⟨_, _, hno⟩
      exact absurd h0 (hno i0 hi0)
/-! ### power -/
abbrev s_power : Stmt := top 8
theorem sc_power : FnScope ["a", "k", "total", "_"] ["a", "k"] (defScope s_power) := ⟨rfl, rfl, rfl, by decide +kernel, rfl, by decide +kernel, by decide +kernel⟩
def powI (a : Int) : Nat → Int
  | 0 => 1
  | k + 1 => powI a k * a
def sp_power : Sp := fun vs H Q _ => ∃ a k, vs = [.int a, .int ((k : Nat) : Int)] ∧ 0 ≤ a ∧ a ≤ 7 ∧ k ≤ 100 ∧ Q (.int (powI a k)) H
theorem ok_power {f : Addr} {fd : FuncData} (F : Fun K "power" "power" s_power f fd) (T : Txt K mg)   : FnOk P w K mg base CX0 1 f fd ["a", "k"] sp_power := by
  refine F.ok sc_power (fun vs H Q E h => ?_) (fun cdv A outer s H vs Q E hr h => ?_)
  · obtain ⟨a, k, rfl, _⟩ := h
    rfl
  · obtain ⟨a, m, rfl, h0, h7, hm, k⟩ := h
    refine ⟨_, (pss_cons (ps_set (i := 2) sc_power.nd rfl (Or.inl rfl) pe_int)
      (pss_cons (ps_for PassesOwn.never rfl (pi_range1 rfl T.range (pa_cons (pv 1) pa_nil)) (pg_name (i := 3) sc_power.nd rfl (Or.inl rfl))
      (pss_one (ps_set (i := 2) sc_power.nd rfl (Or.inl rfl) (pe_op op_mul (pv 2) (pv 0)))))
      (pss_one (ps_ret (pv 2))))), ?_⟩
    refine ⟨_, rfl, _, rfl, by omega, by omega, for_range (lo := 0) (n := m) (fun i σ H' => (∃ v, σ = [some (.int a), some (.int ((m : Nat) : Int)), some (.int (powI a i)), v]) ∧ H' = H) ⟨⟨_, rfl⟩, rfl⟩ ?_ ?_⟩
    · rintro i σ H' hi ⟨⟨v, rfl⟩, rfl⟩
      exact ⟨_, rfl, _, rfl, _, _, rfl, rfl, .inr (by omega), ⟨_, rfl⟩, rfl⟩
    · rintro σ H' ⟨⟨v, rfl⟩, rfl⟩
      exact ⟨_, rfl, k⟩
/-! ### trimmed -/
abbrev s_trimmed : Stmt := top 25
theorem sc_trimmed : FnScope ["row"] ["row"] (defScope s_trimmed) := ⟨rfl, rfl, rfl, by decide +kernel, rfl, by decide +kernel, by decide +kernel⟩
/-- a list or a tuple of whole numbers -/
def TL (H : Hp) (v : V) (w : List Int) : Prop := ∃ a, v = .ref a ∧ (H a = some (.tup (w.map V.int)) ∨ H a = some (.lst (w.map V.int)))
theorem Tp.tl {H : Hp} {v : V} {w : List Int} (h : Tp H v w) : TL H v w := by
  obtain ⟨a, e, q⟩ := h
  exact ⟨a, e, .inl q⟩
def sp_trimmed : Sp := fun vs H Q _ => ∃ v w, vs = [v] ∧ TL H v w ∧ w.length ≤ 100 ∧ ∀ r H', Same H H' → Tp H' r (trimmed w) → Q r H'
theorem trimmed_zero {w : List Int} (h : w ≠ []) (hz : w.getLastD 0 = 0) : trimmed w = trimmed w.dropLast := by
  unfold trimmed
  conv => lhs; rw [last_eq h, hz, List.reverse_append]
  rfl
theorem trimmed_stop {w : List Int} (h : w = [] ∨ w.getLastD 0 ≠ 0) : trimmed w = w := by
  by_cases e : w = []
  · rw [e]; rfl
  · have hz : w.getLastD 0 ≠ 0 := by
      rcases h with h | h
      · exact absurd h e
      · exact h
    unfold trimmed
    have e2 : w.reverse = w.getLastD 0 :: w.dropLast.reverse := by
      conv => lhs; rw [last_eq e, List.reverse_append]
      rfl
    rw [e2, List.dropWhile_cons_of_neg (by simpa using hz), ← e2, List.reverse_reverse]
theorem ok_trimmed {f : Addr} {fd : FuncData} (F : Fun K "trimmed" "trimmed" s_trimmed f fd) (T : Txt K mg)   : FnOk P w K mg base CX0 1 f fd ["row"] sp_trimmed := by
  refine F.ok sc_trimmed (fun vs H Q E h => ?_) (fun cdv A outer s H vs Q E hr h => ?_)
  · obtain ⟨v, w, rfl, _⟩ := h
    rfl
  · obtain ⟨v, w, rfl, ⟨t, rfl, ht⟩, hl, k⟩ := h
    refine ⟨_, (pss_cons (ps_set (i := 0) sc_trimmed.nd rfl (Or.inl rfl) (pe_callTy (call_listK K) (by rfl) T.list (by decide +kernel) (pa_cons (pv 0) pa_nil)))
      (pss_cons (ps_while PassesOwn.never (PW.pt (pw_and (pt_cmpR op_gt (pe_callB (call_lenK K) (by rfl) T.len PySem.boot_len (pa_cons (pv 0) pa_nil)) pe_int (nomark _)) (pw_and1 (pt_cmpR op_eq (pe_ix (ix_listK K) (pv 0) (pe_un un_neg pe_int) (fun _ _ => rfl)) pe_int (nomark _)))))
      (pss_one (ps_expr (pe_bm0 PySem.F.plainAttrs_list PySem.F.slot_list_pop PySem.F.type_list_pop mt_pop (pv 0)))))
      (pss_one (ps_ret (pe_callTy (call_tupK K) (by rfl) T.tuple (by decide +kernel) (pa_cons (pv 0) pa_nil)))))), ?_⟩
    have hs : SqL K H t (w.map V.int) ∨ SqT K H t (w.map V.int) := ht.elim (fun q => .inr (SqT.of q)) fun q => .inl (SqL.of q)
    refine ⟨_, rfl, t, _, rfl, hs, fun l hln => ?_⟩
    refine ⟨fun m σ H' => ∃ u, σ = [some (.ref l)] ∧ Same H H' ∧ H' l = some (.lst (u.map V.int)) ∧ u.length ≤ 100 ∧ trimmed u = trimmed w ∧ m = u.length, ⟨_, w, rfl, (Same.refl H).put hln, upd_same, hl, rfl, rfl⟩, ?_⟩
    rintro m σ H' ⟨u, rfl, s1, h1, hu, he, rfl⟩
    have hdone : ∀ (h : u = [] ∨ u.getLastD 0 ≠ 0), ∃ v, [some (V.ref l)][0]? = some (some v) ∧ rTupOf K [v] H' Q := fun h => by
      refine ⟨_, rfl, l, _, rfl, .inl ⟨SqL.of h1, fun q hq => k _ _ (s1.put hq) ?_⟩⟩
      rw [← he, trimmed_stop h]
      exact Tp.new
    refine ⟨_, rfl, l, _, rfl, .inl (SqL.of h1), _, _, rfl, rfl, _, rfl, ite2 (fun c => ?_) (fun c => ?_)⟩
    · have hne : u ≠ [] := by
        rintro rfl
        simp at c
      refine ⟨_, rfl, _, rfl, l, _, _, _, rfl, rfl, SqL.of h1, atI_getL hne, rfl, _, rfl, ite2 (fun c2 => ?_) (fun c2 => ?_)⟩
      · have hz : u.getLastD 0 = 0 := by simpa using c2
        refine ⟨fun σ' H2 => ∃ m', m' < u.length ∧ ∃ u', σ' = [some (.ref l)] ∧ Same H H2 ∧ H2 l = some (.lst (u'.map V.int)) ∧ u'.length ≤ 100 ∧ trimmed u' = trimmed w ∧ m' = u'.length, fun _ _ q => q, ?_⟩
        refine ⟨_, rfl, .inl ⟨rfl, _, SqL.of h1⟩, l, _, V.int (u.getLastD 0), rfl, rfl, h1, ?_, ?_⟩
        · conv => lhs; rw [last_eq hne]
          simp
        · have hlt : u.dropLast.length < u.length := by
            have := List.length_pos_iff.mpr hne
            rw [List.length_dropLast]; omega
          refine ⟨_, hlt, u.dropLast, rfl, Same.own s1 hln, ?_, by omega, by rw [← he, trimmed_zero hne hz], rfl⟩
          rw [upd_same, List.map_dropLast]
      · exact hdone (.inr (by simpa using c2))
    · have he0 : u = [] := by
        cases u with
        | nil => rfl
        | cons a r => simp at c
      exact hdone (.inl he0)
end
end Wk
namespace Wk
open PySem L2
open C8 (Cal Met Mak pe_c pe_mk pe_mt pe_mt0)
section
variable {P : Program} {w : World} {K : PySem.W.Frag} {mg : Str → Option Value} {base : Heap}
theorem ixN_nat {n j : Nat} (h : j < n) : ixN n ((j : Nat) : Int) = some j := by
  unfold ixN
  rw [if_pos (by omega), if_pos (by omega)]; simp
theorem map_seti (t : List Int) (i : Nat) (v : Int) : (t.map V.int).set i (.int v) = (t.set i v).map V.int := by
  rw [List.map_set]
theorem foldl_range_succ {α : Type} (f : α → Nat → α) (a : α) (n : Nat) : (List.range (n + 1)).foldl f a = f ((List.range n).foldl f a) n := by
  rw [List.range_succ, List.foldl_append]; rfl
theorem foldl_inv {α β : Type} (I : α → Prop) (f : α → β → α) (hf : ∀ a b, I a → I (f a b)) : ∀ (l : List β) (a : α), I a → I (l.foldl f a)
  | [], _, h => h
  | b :: r, a, h => foldl_inv I f hf r (f a b) (hf a b h)
theorem rep_flat (n : Nat) : (List.replicate n [V.int 0]).flatten = (List.replicate n (0 : Int)).map V.int := by
  induction n with
  | zero => rfl
  | succ n ih => rw [List.replicate_succ, List.flatten_cons, ih, List.replicate_succ]; rfl
theorem timesRow_len (a b : List Int) (p : Int) (t : List Int) (i : Nat) : (timesRow a b p t i).length = t.length :=
  foldl_inv (fun u : List Int => u.length = t.length) _ (fun u j h => by show (u.set _ _).length = _; rw [List.length_set]; exact h) _ _ rfl
theorem timesIns_len (a b : List Int) (p : Int) (t : List Int) (i m : Nat) : ((List.range m).foldl (timesIn a b p i) t).length = t.length :=
  foldl_inv (fun u : List Int => u.length = t.length) _ (fun u j h => by show (u.set _ _).length = _; rw [List.length_set]; exact h) _ _ rfl
theorem timesRows_len (a b : List Int) (p : Int) (t : List Int) (m : Nat) : ((List.range m).foldl (timesRow a b p) t).length = t.length :=
  foldl_inv (fun u : List Int => u.length = t.length) _ (fun u j h => by rw [timesRow_len]; exact h) _ _ rfl
/-! ### times -/
abbrev s_times : Stmt := top 26
theorem sc_times : FnScope ["a", "b", "p", "total", "i", "j"] ["a", "b", "p"] (defScope s_times) := ⟨rfl, rfl, rfl, by decide +kernel, rfl, by decide +kernel, by decide +kernel⟩
def sp_times : Sp := fun vs H Q _ => ∃ v w a b p, vs = [v, w, .int p] ∧ Tp H v a ∧ Tp H w b ∧ Pr p ∧ Wd p a ∧ a.length ≤ 40 ∧ b.length ≤ 40 ∧ ∀ r H', Same H H' → Tp H' r (times a b p) → Q r H'
theorem ok_times {f : Addr} {fd : FuncData} (F : Fun K "times" "times" s_times f fd) (T : Txt K mg) (c_trimmed : Cal P w K mg base 1 "trimmed" sp_trimmed [])  : FnOk P w K mg base CX0 2 f fd ["a", "b", "p"] sp_times := by
  refine F.ok sc_times (fun vs H Q E h => ?_) (fun cdv A outer s H vs Q E hr h => ?_)
  · obtain ⟨v, w, a, b, p, rfl, _⟩ := h
    rfl
  · obtain ⟨v, w, a, b, p, rfl, ⟨t, rfl, ht⟩, ⟨u, rfl, hu⟩, hp, ha, hal, hbl, k⟩ := h
    refine ⟨_, (pss_cons (ps_set (i := 3) sc_times.nd rfl (Or.inl rfl) (pe_op op_rep (pe_lst (pa_cons pe_int pa_nil)) (pe_op op_add (pe_callB (call_lenK K) (by rfl) T.len PySem.boot_len (pa_cons (pv 0) pa_nil)) (pe_callB (call_lenK K) (by rfl) T.len PySem.boot_len (pa_cons (pv 1) pa_nil)))))
      (pss_cons (ps_for PassesOwn.never rfl (pi_range1 rfl T.range (pa_cons (pe_callB (call_lenK K) (by rfl) T.len PySem.boot_len (pa_cons (pv 0) pa_nil)) pa_nil)) (pg_name (i := 4) sc_times.nd rfl (Or.inl rfl))
      (pss_one (ps_for PassesOwn.never rfl (pi_range1 rfl T.range (pa_cons (pe_callB (call_lenK K) (by rfl) T.len PySem.boot_len (pa_cons (pv 1) pa_nil)) pa_nil)) (pg_name (i := 5) sc_times.nd rfl (Or.inl rfl))
      (pss_one (ps_asg (pe_op op_mod (pe_op op_add (pe_ix (ix_listK K) (pv 3) (pe_op op_add (pv 4) (pv 5)) (fun _ _ => rfl)) (pe_op op_mul (pe_ix (ix_tupK K) (pv 0) (pv 4) (fun _ _ => rfl)) (pe_ix (ix_tupK K) (pv 1) (pv 5) (fun _ _ => rfl)))) (pv 2)) (pg_sub (pv 3) (pe_op op_add (pv 4) (pv 5)) set_list))))))
      (pss_one (ps_ret (pe_c c_trimmed hr (by decide) rfl (pa_cons (pv 3) pa_nil)))))), ?_⟩
    have hp7 := hp.pos
    refine ⟨by decide, fun l0 hl0 => ?_⟩
    have s0 : Same H (upd H l0 (.lst [.int 0])) := (Same.refl H).put hl0
    refine ⟨_, rfl, t, _, rfl, .inr (SqT.of (s0 _ _ ht)), _, rfl, u, _, rfl, .inr (SqT.of (s0 _ _ hu)), _, _, rfl, rfl, l0, _, _, rfl, rfl, upd_same, by omega, by rw [List.length_map, List.length_map]; omega, ?_, fun l hl => ?_⟩
    · rw [List.length_map, List.length_map]
      exact Nat.le_of_lt (small1000 (by simp; omega))
    · rw [List.length_map, List.length_map]
      have en : (((a.length : Nat) : Int) + ((b.length : Nat) : Int)).toNat = a.length + b.length := by omega
      rw [en, rep_flat]
      have s1 := s0.put hl (o := .lst ((List.replicate (a.length + b.length) (0 : Int)).map V.int))
      have hln : H l = none := s0.free hl
      refine ⟨_, rfl, t, _, rfl, .inr (SqT.of (s1 _ _ ht)), _, rfl, by rw [List.length_map]; omega, by rw [List.length_map]; omega, ?_⟩
      rw [List.length_map]
      refine for_range (lo := 0) (n := a.length) (fun i σ H' => (∃ x y, σ = [some (.ref t), some (.ref u), some (.int p), some (.ref l), x, y]) ∧ Same H H' ∧ H' l = some (.lst (((List.range i).foldl (timesRow a b p) (List.replicate (a.length + b.length) 0)).map V.int))) ⟨⟨_, _, rfl⟩, s1, upd_same⟩ ?_ ?_
      · rintro i σ H' hi ⟨⟨x, y, rfl⟩, s2, h2⟩
        rw [Int.zero_add]
        refine ⟨_, rfl, u, _, rfl, .inr (SqT.of (s2 _ _ hu)), _, rfl, by rw [List.length_map]; omega, by rw [List.length_map]; omega, ?_⟩
        rw [List.length_map]
        refine for_range (lo := 0) (n := b.length) (fun j σ H' => (∃ y, σ = [some (.ref t), some (.ref u), some (.int p), some (.ref l), some (.int ((i : Nat) : Int)), y]) ∧ Same H H' ∧
          H' l = some (.lst (((List.range j).foldl (timesIn a b p i) ((List.range i).foldl (timesRow a b p) (List.replicate (a.length + b.length) 0))).map V.int))) ⟨⟨_, rfl⟩, s2, h2⟩ ?_ ?_
        · rintro j σ H' hj ⟨⟨y, rfl⟩, s3, h3⟩
          rw [Int.zero_add]
          have hll : i + j < ((List.range j).foldl (timesIn a b p i) ((List.range i).foldl (timesRow a b p) (List.replicate (a.length + b.length) 0))).length := by
            rw [timesIns_len, timesRows_len, List.length_replicate]; omega
          have hai := getD_mem ha hi
          refine ⟨_, rfl, _, rfl, _, rfl, _, _, rfl, rfl, l, _, _, _, rfl, rfl, SqL.of h3, atI_get (i := i + j) hll, _, rfl, _, rfl, t, _, _, _, rfl, rfl, SqT.of (s3 _ _ ht), atI_get hi, _, rfl, _, rfl, u, _, _, _, rfl, rfl, SqT.of (s3 _ _ hu), atI_get hj, _, _, rfl, rfl, .inl (by omega), _, _, rfl, rfl, _, rfl, _, _, rfl, rfl, hp7.1, ?_⟩
          refine ⟨_, rfl, _, rfl, _, rfl, _, _, rfl, rfl, l, _, _, i + j, rfl, rfl, h3, ixN_nat (by rw [List.length_map]; exact hll), ⟨_, rfl⟩, Same.own s3 hln, ?_⟩
          rw [upd_same, map_seti, foldl_range_succ]
          rfl
        · rintro σ H' ⟨⟨y, rfl⟩, s3, h3⟩
          refine ⟨⟨_, _, rfl⟩, s3, ?_⟩
          rw [h3, foldl_range_succ]
          rfl
      · rintro σ H' ⟨⟨x, y, rfl⟩, s2, h2⟩
        exact ⟨_, rfl, _, _, rfl, ⟨l, rfl, .inr h2⟩, by rw [timesRows_len, List.length_replicate]; omega, fun r H2 s3 q => k r H2 (s2.trans s3) q⟩
end
end Wk
namespace Wk
open PySem L2
open C8 (Cal Met Mak pe_c pe_mk pe_mt pe_mt0)
section
variable {P : Program} {w : World} {K : PySem.W.Frag} {mg : Str → Option Value} {base : Heap}
theorem InvOk.bd {a p : Int} (hp : Pr p) (h : InvOk a p) : 1 ≤ inv a p ∧ inv a p < p := by
  obtain ⟨i, hi, e⟩ := h
  have key : ∀ n : Nat, n < (p - 1).toNat → a * (1 + (n : Int)) % p = 1 → 1 ≤ inv a p ∧ inv a p < p := by
    intro n
    induction n using Nat.strongRecOn with
    | ind n ih =>
      intro hn he
      by_cases c : ∃ j, j < n ∧ a * (1 + (j : Int)) % p = 1
      · obtain ⟨j, hj, hje⟩ := c
        exact ih j hj (by omega) hje
      · rw [inv_first hn he fun j hj hje => c ⟨j, hj, hje⟩]
        have := hp.pos
        omega
  exact key i hi e
theorem divIns_len (b : List Int) (p f : Int) (at_ m : Nat) (r : List Int) : ((List.range m).foldl (divIn b p f at_) r).length = r.length :=
  foldl_inv (fun u : List Int => u.length = r.length) _ (fun u j h => by show (u.set _ _).length = _; rw [List.length_set]; exact h) _ _ rfl
theorem divSteps_len (b : List Int) (p hd : Int) (m n : Nat) (st : List Int × List Int) : ((List.range n).foldl (divStep b p hd m) st).1.length = st.1.length ∧ ((List.range n).foldl (divStep b p hd m) st).2.length = st.2.length :=
  foldl_inv (fun u : List Int × List Int => u.1.length = st.1.length ∧ u.2.length = st.2.length) _ (fun u j h => ⟨by show (List.length (List.foldl _ _ _)) = _; rw [divIns_len]; exact h.1, by show (u.2.set _ _).length = _; rw [List.length_set]; exact h.2⟩) _ _ ⟨rfl, rfl⟩
theorem divRaw_len (a b : List Int) (p : Int) : (divRaw a b p).1.length = a.length ∧ (divRaw a b p).2.length = a.length + 1 - b.length := by
  have h := divSteps_len b p (inv (b.getLastD 0) p) (a.length + 1 - b.length) (a.length + 1 - b.length) (a, List.replicate (a.length + 1 - b.length) 0)
  rw [List.length_replicate] at h
  exact h
theorem maxI (la lb : Nat) : (if (0 : Int) > ((la : Nat) : Int) - ((lb : Nat) : Int) + 1 then (0 : Int) else ((la : Nat) : Int) - ((lb : Nat) : Int) + 1) = ((la + 1 - lb : Nat) : Int) := by
  split <;> omega
/-- a pair of words -/
def Pw (H : Hp) (v : V) (x y : List Int) : Prop := ∃ a b c, v = .ref a ∧ H a = some (.tup [.ref b, .ref c]) ∧ H b = some (.tup (x.map V.int)) ∧ H c = some (.tup (y.map V.int))
/-! ### divided -/
abbrev s_divided : Stmt := top 27
theorem sc_divided : FnScope ["a", "b", "p", "rest", "quotient", "head", "at", "factor", "k"] ["a", "b", "p"] (defScope s_divided) := ⟨rfl, rfl, rfl, by decide +kernel, rfl, by decide +kernel, by decide +kernel⟩
def DivPre (a b : List Int) (p : Int) : Prop := Pr p ∧ b ≠ [] ∧ InvOk (b.getLastD 0) p ∧ a.length ≤ 40 ∧ b.length ≤ 40
def sp_divided : Sp := fun vs H Q _ => ∃ v w a b p, vs = [v, w, .int p] ∧ Tp H v a ∧ Tp H w b ∧ DivPre a b p ∧ ∀ r H', Same H H' → Pw H' r (divided a b p).1 (divided a b p).2 → Q r H'
theorem ok_divided {f : Addr} {fd : FuncData} (F : Fun K "divided" "divided" s_divided f fd) (T : Txt K mg) (c_inverse : Cal P w K mg base 1 "inverse" sp_inverse []) (c_trimmed : Cal P w K mg base 1 "trimmed" sp_trimmed [])  : FnOk P w K mg base CX0 2 f fd ["a", "b", "p"] sp_divided := by
  refine F.ok sc_divided (fun vs H Q E h => ?_) (fun cdv A outer s H vs Q E hr h => ?_)
  · obtain ⟨v, w, a, b, p, rfl, _⟩ := h
    rfl
  · obtain ⟨v, w, a, b, p, rfl, ⟨t, rfl, ht⟩, ⟨u, rfl, hu⟩, ⟨hp, hb, hi, hal, hbl⟩, k⟩ := h
    refine ⟨_, (pss_cons (ps_if (pt_cmpR op_eq (pe_callB (call_lenK K) (by rfl) T.len PySem.boot_len (pa_cons (pv 1) pa_nil)) pe_int (nomark _)) (pss_one ps_never) pss_nil)
      (pss_cons (ps_set (i := 3) sc_divided.nd rfl (Or.inl rfl) (pe_callTy (call_listK K) (by rfl) T.list (by decide +kernel) (pa_cons (pv 0) pa_nil)))
      (pss_cons (ps_set (i := 4) sc_divided.nd rfl (Or.inl rfl) (pe_op op_rep (pe_lst (pa_cons pe_int pa_nil)) (pe_callB (call_max2 rfl) (by rfl) T.max (by decide +kernel) (pa_cons (pe_op op_add (pe_op op_sub (pe_callB (call_lenK K) (by rfl) T.len PySem.boot_len (pa_cons (pv 0) pa_nil)) (pe_callB (call_lenK K) (by rfl) T.len PySem.boot_len (pa_cons (pv 1) pa_nil))) pe_int) (pa_cons pe_int pa_nil)))))
      (pss_cons (ps_set (i := 5) sc_divided.nd rfl (Or.inl rfl) (pe_c c_inverse hr (by decide) rfl (pa_cons (pe_ix (ix_tupK K) (pv 1) (pe_un un_neg pe_int) (fun _ _ => rfl)) (pa_cons (pv 2) pa_nil))))
      (pss_cons (ps_for PassesOwn.never rfl (pi_range3 rfl T.range (pa_cons (pe_op op_sub (pe_callB (call_lenK K) (by rfl) T.len PySem.boot_len (pa_cons (pv 4) pa_nil)) pe_int) (pa_cons (pe_un un_neg pe_int) (pa_cons (pe_un un_neg pe_int) pa_nil)))) (pg_name (i := 6) sc_divided.nd rfl (Or.inl rfl))
      (pss_cons (ps_set (i := 7) sc_divided.nd rfl (Or.inl rfl) (pe_op op_mod (pe_op op_mul (pe_ix (ix_listK K) (pv 3) (pe_op op_sub (pe_op op_add (pv 6) (pe_callB (call_lenK K) (by rfl) T.len PySem.boot_len (pa_cons (pv 1) pa_nil))) pe_int) (fun _ _ => rfl)) (pv 5)) (pv 2)))
      (pss_cons (ps_asg (pv 7) (pg_sub (pv 4) (pv 6) set_list))
      (pss_one (ps_for PassesOwn.never rfl (pi_range1 rfl T.range (pa_cons (pe_callB (call_lenK K) (by rfl) T.len PySem.boot_len (pa_cons (pv 1) pa_nil)) pa_nil)) (pg_name (i := 8) sc_divided.nd rfl (Or.inl rfl))
      (pss_one (ps_asg (pe_op op_mod (pe_op op_sub (pe_ix (ix_listK K) (pv 3) (pe_op op_add (pv 6) (pv 8)) (fun _ _ => rfl)) (pe_op op_mul (pv 7) (pe_ix (ix_tupK K) (pv 1) (pv 8) (fun _ _ => rfl)))) (pv 2)) (pg_sub (pv 3) (pe_op op_add (pv 6) (pv 8)) set_list))))))))
      (pss_one (ps_ret (pe_tup (pa_cons (pe_c c_trimmed hr (by decide) rfl (pa_cons (pv 4) pa_nil)) (pa_cons (pe_c c_trimmed hr (by decide) rfl (pa_cons (pv 3) pa_nil)) pa_nil)))))))))), ?_⟩
    have hp7 := hp.pos
    have hb1 : 1 ≤ b.length := List.length_pos_iff.mpr hb
    have hinv := hi.bd hp
    refine ⟨_, rfl, u, _, rfl, .inr (SqT.of hu), rfl, _, rfl, ite2 (fun c => ?_) (fun _ => ?_)⟩
    · simp at c
      exact absurd c hb
    refine ⟨_, rfl, t, _, rfl, .inr (SqT.of ht), fun l hl => ?_⟩
    have s1 : Same H (upd H l (.lst (a.map V.int))) := (Same.refl H).put hl
    refine ⟨by decide, fun l0 hl0 => ?_⟩
    have s2 := s1.put hl0 (o := .lst [.int 0])
    refine ⟨_, rfl, t, _, rfl, .inr (SqT.of (s2 _ _ ht)), _, rfl, u, _, rfl, .inr (SqT.of (s2 _ _ hu)), _, _, rfl, rfl, _, _, rfl, rfl, _, _, rfl, ?_⟩
    rw [List.length_map, List.length_map, maxI]
    have hnl0 : l ≠ l0 := ne_of_none upd_same hl0
    refine ⟨l0, _, _, rfl, rfl, upd_same, by omega, by omega, ?_, fun l2 hl2 => ?_⟩
    · exact Nat.le_of_lt (small1000 (by simp; omega))
    have en : (((a.length + 1 - b.length : Nat) : Int)).toNat = a.length + 1 - b.length := by omega
    rw [en, rep_flat]
    have s3 := s2.put hl2 (o := .lst ((List.replicate (a.length + 1 - b.length) (0 : Int)).map V.int))
    have hln : H l = none := hl
    have hln2 : H l2 = none := s2.free hl2
    have hnl2 : l ≠ l2 := ne_of_none (by rw [upd_ne hnl0, upd_same]) hl2
    have hl3 : upd (upd (upd H l (.lst (a.map V.int))) l0 (.lst [.int 0])) l2 (.lst ((List.replicate (a.length + 1 - b.length) (0 : Int)).map V.int)) l = some (.lst (a.map V.int)) := by
      rw [upd_ne hnl2, upd_ne hnl0, upd_same]
    refine ⟨_, rfl, _, rfl, u, _, _, _, rfl, rfl, SqT.of (s3 _ _ hu), atI_getL hb, _, rfl, _, p, rfl, hp, hi, ?_⟩
    refine ⟨_, rfl, l2, _, rfl, .inl (SqL.of upd_same), _, _, rfl, rfl, _, rfl, _, rfl, _, _, _, _, rfl, RgC.neg (by rw [List.length_map, List.length_replicate]; omega) (by rw [List.length_map, List.length_replicate]; omega) (by omega) (by omega), ?_⟩
    rw [List.length_map, List.length_replicate]
    have en2 : (((a.length + 1 - b.length : Nat) : Int) - 1 - -1).toNat = a.length + 1 - b.length := by omega
    rw [en2]
    refine for_rangeC (fun i σ H' => (∃ x y z, σ = [some (.ref t), some (.ref u), some (.int p), some (.ref l), some (.ref l2), some (.int (inv (b.getLastD 0) p)), x, y, z]) ∧ Same H H' ∧
      H' l = some (.lst (((List.range i).foldl (divStep b p (inv (b.getLastD 0) p) (a.length + 1 - b.length)) (a, List.replicate (a.length + 1 - b.length) 0)).1.map V.int)) ∧
      H' l2 = some (.lst (((List.range i).foldl (divStep b p (inv (b.getLastD 0) p) (a.length + 1 - b.length)) (a, List.replicate (a.length + 1 - b.length) 0)).2.map V.int))) ⟨⟨_, _, _, rfl⟩, s3, hl3, upd_same⟩ ?_ ?_
    · rintro i σ H' hi2 ⟨⟨x, y, z, rfl⟩, s4, h4, h5⟩
      have lens := divSteps_len b p (inv (b.getLastD 0) p) (a.length + 1 - b.length) i (a, List.replicate (a.length + 1 - b.length) 0)
      generalize hst : (List.range i).foldl (divStep b p (inv (b.getLastD 0) p) (a.length + 1 - b.length)) (a, List.replicate (a.length + 1 - b.length) 0) = st at h4 h5 lens
      rw [List.length_replicate] at lens
      have eat : ((a.length + 1 - b.length : Nat) : Int) - 1 + ((i : Nat) : Int) * -1 = ((a.length + 1 - b.length - 1 - i : Nat) : Int) := by omega
      rw [eat]
      generalize hat : a.length + 1 - b.length - 1 - i = at_
      have e1 : ((at_ : Nat) : Int) + ((b.length : Nat) : Int) - 1 = ((at_ + b.length - 1 : Nat) : Int) := by omega
      refine ⟨_, rfl, _, rfl, _, rfl, u, _, rfl, .inr (SqT.of (s4 _ _ hu)), _, _, rfl, rfl, _, _, rfl, rfl, l, _, _, _, rfl, rfl, SqL.of h4, (by rw [List.length_map, e1]; exact atI_get (by rw [lens.1]; show _ < a.length; omega)), _, rfl, _, _, rfl, rfl, .inr (by omega), _, rfl, _, _, rfl, rfl, hp7.1, ?_⟩
      have hfac : 0 ≤ divFac b p (inv (b.getLastD 0) p) st.1 at_ ∧ divFac b p (inv (b.getLastD 0) p) st.1 at_ < p := ⟨Int.emod_nonneg _ (by omega), Int.emod_lt_of_pos _ hp7.1⟩
      show tSeq _ _ _ ((((_ : List (Option V)).set 6 (some (V.int ((at_ : Nat) : Int)))).set 7 (some (V.int (divFac b p (inv (b.getLastD 0) p) st.1 at_))))) H'
      generalize hfe : divFac b p (inv (b.getLastD 0) p) st.1 at_ = fac at hfac
      refine ⟨_, rfl, _, rfl, _, rfl, l2, _, _, at_, rfl, rfl, h5, ixN_nat (by rw [List.length_map, lens.2]; omega), ?_⟩
      rw [map_seti]
      have s5 : Same H (upd H' l2 (.lst ((st.2.set at_ fac).map V.int))) := Same.own s4 hln2
      refine ⟨_, rfl, u, _, rfl, .inr (SqT.of (s5 _ _ hu)), _, rfl, by rw [List.length_map]; omega, by rw [List.length_map]; omega, ?_⟩
      rw [List.length_map]
      refine for_range (lo := 0) (n := b.length) (fun j σ H' => (∃ z, σ = [some (.ref t), some (.ref u), some (.int p), some (.ref l), some (.ref l2), some (.int (inv (b.getLastD 0) p)), some (.int ((at_ : Nat) : Int)), some (.int fac), z]) ∧ Same H H' ∧
        H' l = some (.lst (((List.range j).foldl (divIn b p fac at_) st.1).map V.int)) ∧ H' l2 = some (.lst ((st.2.set at_ fac).map V.int))) ⟨⟨_, rfl⟩, s5, by rw [upd_ne hnl2]; exact h4, upd_same⟩ ?_ ?_
      · rintro j σ H2 hj ⟨⟨z, rfl⟩, s6, h6, h7⟩
        rw [Int.zero_add]
        have hll : at_ + j < ((List.range j).foldl (divIn b p fac at_) st.1).length := by
          rw [divIns_len, lens.1]; show _ < a.length; omega
        refine ⟨_, rfl, _, rfl, _, rfl, _, _, rfl, rfl, l, _, _, _, rfl, rfl, SqL.of h6, atI_get (i := at_ + j) hll, _, rfl, _, rfl, _, rfl, u, _, _, _, rfl, rfl, SqT.of (s6 _ _ hu), atI_get hj, _, _, rfl, rfl, .inl (by omega), _, _, rfl, rfl, _, rfl, _, _, rfl, rfl, hp7.1, ?_⟩
        refine ⟨_, rfl, _, rfl, _, rfl, _, _, rfl, rfl, l, _, _, at_ + j, rfl, rfl, h6, ixN_nat (by rw [List.length_map]; exact hll), ⟨_, rfl⟩, Same.own s6 hln, ?_, by rw [upd_ne (Ne.symm hnl2)]; exact h7⟩
        rw [upd_same, map_seti, foldl_range_succ]
        rfl
      · rintro σ H2 ⟨⟨z, rfl⟩, s6, h6, h7⟩
        have est : divStep b p (inv (b.getLastD 0) p) (a.length + 1 - b.length) st i = ((List.range b.length).foldl (divIn b p fac at_) st.1, st.2.set at_ fac) := by
          unfold divStep
          rw [hat, hfe]
        refine ⟨⟨_, _, _, rfl⟩, s6, ?_, ?_⟩
        · rw [foldl_range_succ, hst, est]; exact h6
        · rw [foldl_range_succ, hst, est]; exact h7
    · rintro σ H' ⟨⟨x, y, z, rfl⟩, s4, h4, h5⟩
      have lens := divRaw_len a b p
      refine ⟨_, rfl, _, _, rfl, ⟨l2, rfl, .inr h5⟩, by rw [show (List.foldl _ _ _ : List Int × List Int) = divRaw a b p from rfl, lens.2]; omega, fun r1 H1 s5 q1 => ?_⟩
      refine ⟨_, rfl, _, _, rfl, ⟨l, rfl, .inr (s5 _ _ h4)⟩, by rw [show (List.foldl _ _ _ : List Int × List Int) = divRaw a b p from rfl, lens.1]; omega, fun r2 H2 s6 q2 => ?_⟩
      obtain ⟨b1, rfl, q1⟩ := q1
      obtain ⟨b2, rfl, q2⟩ := q2
      refine ⟨by show 2 ≤ sizeLine; decide, fun pr hpr => k _ _ (((s4.trans s5).trans s6).put hpr) ⟨pr, b1, b2, rfl, upd_same, ?_, ?_⟩⟩
      · exact (Same.put (s6) hpr) _ _ q1
      · exact (Same.put (Same.refl H2) hpr) _ _ q2
end
end Wk
namespace Wk
open PySem L2
open C8 (Cal Met Mak pe_c pe_mk pe_mt pe_mt0)
theorem call_isiKK {X : Cx} (K : PySem.W.Frag) (h : X.K = K := by rfl) : CallR X (.builtin "isinstance") (rIsi K) := h ▸ call_isi
/-- w[lo:hi] -/
def cutI (w : List Int) (lo hi : Option Int) : List Int := (w.drop (HT.sIx w.length 0 lo)).take (HT.sIx w.length w.length hi - HT.sIx w.length 0 lo)
theorem cutV_int (w : List Int) (lo hi : Option Int) : cutV (w.map V.int) lo hi = (cutI w lo hi).map V.int := by
  unfold cutV cutI
  rw [List.length_map, ← List.map_drop, ← List.map_take]
theorem slice_tp {K : PySem.W.Frag} {H : Hp} {v : V} {w : List Int} {lo hi : Option Int} {Q : VK} (h : Tp H v w) (k : ∀ r H', Same H H' → Tp H' r (cutI w lo hi) → Q r H') : rSlA K v lo hi H Q := by
  obtain ⟨a, rfl, ha⟩ := h
  refine ⟨a, _, rfl, SqT.of ha, fun hw => k _ _ (Same.refl H) ⟨a, rfl, ?_⟩, fun _ p hp => ?_⟩
  · rw [ha]
    have e : cutI w lo hi = w := by
      unfold cutI
      rw [List.length_map] at hw
      rw [hw.1, hw.2]
      simp
    rw [e]
  · rw [cutV_int]
    exact k _ _ ((Same.refl H).put hp) Tp.new
theorem cat_tp {K : PySem.W.Frag} {H : Hp} {x y : V} {a b : List Int} {Q : VK} (hx : Tp H x a) (hy : Tp H y b) (hl : a.length + b.length ≤ 1000) (k : ∀ r H', Same H H' → Tp H' r (a ++ b) → Q r H') : rCatA K x y H Q := by
  obtain ⟨p, rfl, hp⟩ := hx
  obtain ⟨q, rfl, hq⟩ := hy
  refine ⟨p, q, _, _, rfl, rfl, SqT.of hp, SqT.of hq, ?_, fun e => ?_, fun _ e => ?_, fun _ _ r hr => ?_⟩
  · rw [List.length_map, List.length_map]
    exact Nat.le_of_lt (small1000 hl)
  · have e' : a = [] := by simpa using e
    rw [e'] at k
    exact k _ _ (Same.refl H) ⟨q, rfl, by simpa using hq⟩
  · have e' : b = [] := by simpa using e
    rw [e'] at k
    exact k _ _ (Same.refl H) ⟨p, rfl, by simpa using hp⟩
  · rw [← List.map_append]
    exact k _ _ ((Same.refl H).put hr) Tp.new
theorem rep_tp {K : PySem.W.Frag} {H : Hp} {x : V} {n : Nat} {Q : VK} (hx : Tp H x [0]) (hn : n ≤ 1000) (k : ∀ r H', Same H H' → Tp H' r (List.replicate n 0) → Q r H') : rRepTA K x (.int ((n : Nat) : Int)) H Q := by
  obtain ⟨p, rfl, hp⟩ := hx
  refine ⟨p, _, _, rfl, rfl, SqT.of hp, by simp, by omega, by omega, by simp, fun e => ?_, fun _ q hq => ?_⟩
  · have e' : n = 1 := by omega
    subst e'
    exact k _ _ (Same.refl H) ⟨p, rfl, hp⟩
  · have en : ((n : Nat) : Int).toNat = n := by omega
    rw [en]
    show Q (.ref q) (upd H q (.tup (List.replicate n [V.int 0]).flatten))
    rw [rep_flat]
    exact k _ _ ((Same.refl H).put hq) Tp.new
section
variable {P : Program} {w : World} {K : PySem.W.Frag} {mg : Str → Option Value} {base : Heap}
/-! ### made_monic -/
abbrev s_made_monic : Stmt := top 28
theorem sc_made_monic : FnScope ["a", "p", "head", "item"] ["a", "p"] (defScope s_made_monic) := ⟨rfl, rfl, rfl, by decide +kernel, rfl, by decide +kernel, by decide +kernel⟩
def MonPre (a : List Int) (p : Int) : Prop := Pr p ∧ a.length ≤ 40 ∧ Wd p a ∧ (a ≠ [] → InvOk (a.getLastD 0) p)
def sp_made_monic : Sp := fun vs H Q _ => ∃ v a p, vs = [v, .int p] ∧ Tp H v a ∧ MonPre a p ∧ ∀ r H', Same H H' → Tp H' r (madeMonic a p) → Q r H'
theorem ok_made_monic {f : Addr} {fd : FuncData} (F : Fun K "made_monic" "made_monic" s_made_monic f fd) (T : Txt K mg) (c_inverse : Cal P w K mg base 1 "inverse" sp_inverse [])  : FnOk P w K mg base CX0 2 f fd ["a", "p"] sp_made_monic := by
  refine F.ok sc_made_monic (fun vs H Q E h => ?_) (fun cdv A outer s H vs Q E hr h => ?_)
  · obtain ⟨v, a, p, rfl, _⟩ := h
    rfl
  · obtain ⟨v, a, p, rfl, ⟨t, rfl, ht⟩, ⟨hp, hal, ha, hi⟩, k⟩ := h
    refine ⟨_, (pss_cons (ps_if (pt_cmpR op_eq (pe_callB (call_lenK K) (by rfl) T.len PySem.boot_len (pa_cons (pv 0) pa_nil)) pe_int (nomark _)) (pss_one (ps_ret (pe_tup pa_nil))) pss_nil)
      (pss_cons (ps_set (i := 2) sc_made_monic.nd rfl (Or.inr rfl) (pe_c c_inverse hr (by decide) rfl (pa_cons (pe_ix (ix_tupK K) (pv 0) (pe_un un_neg pe_int) (fun _ _ => rfl)) (pa_cons (pv 1) pa_nil))))
      (pss_one (ps_ret (pe_callTy (call_tupK K) (by rfl) T.tuple (by decide +kernel) (pa_cons (pe_lc (own := [("item", 3)]) (g := gName 3) (tt := tYes) rfl sc_made_monic.nd (pi_tup (pv 0)) (blkOk_by (N := ["a", "p", "head", "item"]) (sc := defScope s_made_monic) (by decide +kernel)) (fun _ _ _ _ _ => (pg_name (i := 3) sc_made_monic.nd rfl (Or.inl rfl))) (fun _ _ _ _ _ => pts_nil) (fun _ _ _ _ _ => (pe_op op_mod (pe_op op_mul (pv 3) (pv 2)) (pv 1)))) pa_nil)))))), ?_⟩
    have hp7 := hp.pos
    refine ⟨_, rfl, t, _, rfl, .inr (SqT.of ht), rfl, _, rfl, ite2 (fun c => ?_) (fun c => ?_)⟩
    · have e : a = [] := by simpa using c
      subst e
      exact ⟨Nat.zero_le _, fun q hq => k _ _ ((Same.refl H).put hq) ⟨q, rfl, upd_same⟩⟩
    · have e : a ≠ [] := by
        rintro rfl
        simp at c
      have em : madeMonic a p = a.map fun x => x * inv (a.getLastD 0) p % p := by
        unfold madeMonic
        rw [if_neg (by simpa using e)]
      rw [em] at k
      have hb := (hi e).bd hp
      refine ⟨_, rfl, _, rfl, t, _, _, _, rfl, rfl, SqT.of ht, atI_getL e, _, rfl, _, p, rfl, hp, hi e, ?_⟩
      refine ⟨_, rfl, t, rfl, ⟨_, SqT.of ht⟩, fun D hD => lc_map a (fun x => x * inv (a.getLastD 0) p % p) Ri (walks_tup (SqT.of ht)) (by simp) (by rw [List.length_map]; exact small1000 (by omega)) hD Ri.mono ?_ ?_⟩
      · rintro i x z H1 Q1 hx hz s1 - q
        obtain rfl := map_int hx hz
        exact ⟨_, rfl, _, rfl, _, _, rfl, rfl, .inr (by omega), _, rfl, _, _, rfl, rfl, hp7.1, q _ _ (Same.refl _) rfl⟩
      · intro H1 ys s1 hD1 hp1
        obtain rfl := paired_int hp1
        exact ⟨_, _, rfl, .inl ⟨SqL.of hD1, fun l hl => k _ _ (s1.put hl) Tp.new⟩⟩
/-! ### common_divisor -/
abbrev s_common_divisor : Stmt := top 29
theorem sc_common_divisor : FnScope ["a", "b", "p"] ["a", "b", "p"] (defScope s_common_divisor) := ⟨rfl, rfl, rfl, by decide +kernel, rfl, by decide +kernel, by decide +kernel⟩
def GcdPre (p : Int) : Nat → List Int × List Int → Prop
  | 0, s => s.2 = [] ∧ MonPre s.1 p
  | k + 1, s => (s.2 = [] ∧ MonPre s.1 p) ∨ (s.2 ≠ [] ∧ DivPre s.1 s.2 p ∧ GcdPre p k (gcdStep p s))
def sp_common_divisor : Sp := fun vs H Q _ => ∃ v w a b p, vs = [v, w, .int p] ∧ Tp H v a ∧ Tp H w b ∧ GcdPre p 14 (a, b) ∧ ∀ r H', Same H H' → Tp H' r (commonDivisor a b p) → Q r H'
theorem Pw.snd {H : Hp} {r : V} {x y : List Int} (h : Pw H r x y) : ∃ a b c, r = .ref a ∧ H a = some (.tup [.ref b, .ref c]) ∧ Tp H (.ref c) y := by
  obtain ⟨a, b, c, e, h1, h2, h3⟩ := h
  exact ⟨a, b, c, e, h1, c, rfl, h3⟩
theorem ok_common_divisor {f : Addr} {fd : FuncData} (F : Fun K "common_divisor" "common_divisor" s_common_divisor f fd) (T : Txt K mg) (c_divided : Cal P w K mg base 2 "divided" sp_divided []) (c_made_monic : Cal P w K mg base 2 "made_monic" sp_made_monic [])  : FnOk P w K mg base CX0 3 f fd ["a", "b", "p"] sp_common_divisor := by
  refine F.ok sc_common_divisor (fun vs H Q E h => ?_) (fun cdv A outer s H vs Q E hr h => ?_)
  · obtain ⟨v, w, a, b, p, rfl, _⟩ := h
    rfl
  · obtain ⟨v, w, a, b, p, rfl, hv, hw, hg, k⟩ := h
    refine ⟨_, (pss_cons (ps_while PassesOwn.never (pt_cmpR op_gt (pe_callB (call_lenK K) (by rfl) T.len PySem.boot_len (pa_cons (pv 1) pa_nil)) pe_int (nomark _))
      (pss_one (ps_par (i := 0) (j := 1) (by rfl) sc_common_divisor.nd rfl rfl (by decide) rfl rfl (pa_cons (pv 1) (pa_cons (pe_ix (ix_tupK K) (pe_c c_divided hr (by decide) rfl (pa_cons (pv 0) (pa_cons (pv 1) (pa_cons (pv 2) pa_nil)))) pe_int (fun _ _ => rfl)) pa_nil)) (by rfl))))
      (pss_one (ps_ret (pe_c c_made_monic hr (by decide) rfl (pa_cons (pv 0) (pa_cons (pv 2) pa_nil)))))), ?_⟩
    refine ⟨fun m σ H' => ∃ va vb x y, σ = [some va, some vb, some (.int p)] ∧ Same H H' ∧ Tp H' va x ∧ Tp H' vb y ∧ GcdPre p m (x, y) ∧ gcdRun p m (x, y) = gcdRun p 14 (a, b), ⟨14, v, w, a, b, rfl, Same.refl H, hv, hw, hg, rfl⟩, ?_⟩
    rintro m σ H' ⟨va, vb, x, y, rfl, s1, ⟨ta, rfl, hta⟩, ⟨tb, rfl, htb⟩, hg1, he⟩
    refine ⟨_, rfl, tb, _, rfl, .inr (SqT.of htb), _, _, rfl, rfl, _, rfl, ite2 (fun c => ?_) (fun c => ?_)⟩
    · have hy : y ≠ [] := by
        rintro rfl
        simp at c
      cases m with
      | zero => exact absurd hg1.1 hy
      | succ m =>
        rcases hg1 with ⟨h0, _⟩ | ⟨_, hd, hg2⟩
        · exact absurd h0 hy
        · refine ⟨fun σ' H2 => ∃ m', m' < m + 1 ∧ ∃ va vb x y, σ' = [some va, some vb, some (.int p)] ∧ Same H H2 ∧ Tp H2 va x ∧ Tp H2 vb y ∧ GcdPre p m' (x, y) ∧ gcdRun p m' (x, y) = gcdRun p 14 (a, b), fun _ _ q => q, ?_⟩
          refine ⟨_, rfl, _, rfl, _, rfl, _, rfl, _, _, x, y, p, rfl, ⟨ta, rfl, hta⟩, ⟨tb, rfl, htb⟩, hd, fun r H2 s2 hq => ?_⟩
          obtain ⟨q1, q2, q3, rfl, e1, e2⟩ := hq.snd
          refine ⟨q1, _, 1, _, rfl, rfl, SqT.of e1, rfl, ?_⟩
          refine ⟨_, _, rfl, m, Nat.lt_succ_self m, _, _, y, rem x y p, rfl, s1.trans s2, ⟨tb, rfl, s2 _ _ htb⟩, e2, hg2, ?_⟩
          rw [← he]
          show gcdRun p m (gcdStep p (x, y)) = if y.length = 0 then (x, y) else gcdRun p m (gcdStep p (x, y))
          rw [if_neg (by simpa using hy)]
    · have hy : y = [] := by
        cases y with
        | nil => rfl
        | cons a r => simp at c
      subst hy
      have hm : MonPre x p := by
        cases m with
        | zero => exact hg1.2
        | succ m =>
          rcases hg1 with ⟨_, h⟩ | ⟨h, _⟩
          · exact h
          · exact absurd rfl h
      have e : (gcdRun p 14 (a, b)).1 = x := by
        rw [← he]
        cases m <;> rfl
      refine ⟨_, rfl, _, rfl, _, x, p, rfl, ⟨ta, rfl, hta⟩, hm, fun r H2 s2 q => k r H2 (s1.trans s2) ?_⟩
      unfold commonDivisor
      rw [e]
      exact q
/-! ### shifted -/
abbrev s_shifted : Stmt := top 36
theorem sc_shifted : FnScope ["word"] ["word"] (defScope s_shifted) := ⟨rfl, rfl, rfl, by decide +kernel, rfl, by decide +kernel, by decide +kernel⟩
theorem cut_shift (w : List Int) (h : w ≠ []) : cutI w (some (-1)) none ++ cutI w none (some (-1)) = shiftW w := by
  have hl := List.length_pos_iff.mpr h
  unfold cutI shiftW
  have e1 : HT.sIx w.length 0 (some (-1)) = w.length - 1 := by
    unfold HT.sIx
    dsimp only
    rw [if_pos (by decide)]; omega
  have e2 : HT.sIx w.length w.length (some (-1)) = w.length - 1 := by
    unfold HT.sIx
    dsimp only
    rw [if_pos (by decide)]; omega
  rw [e1, e2, HT.sIx_none, HT.sIx_none]
  simp only [List.drop_zero, Nat.sub_zero]
  have e3 : (w.drop (w.length - 1)).take (w.length - (w.length - 1)) = w.drop (w.length - 1) := List.take_of_length_le (by rw [List.length_drop]; exact Nat.le_refl _)
  rw [e3]
theorem cutI_len (w : List Int) (lo hi : Option Int) : (cutI w lo hi).length ≤ w.length := by
  unfold cutI
  rw [List.length_take, List.length_drop]; omega
def sp_shifted : Sp := fun vs H Q _ => ∃ v a, vs = [v] ∧ Tp H v a ∧ a ≠ [] ∧ a.length ≤ 100 ∧ ∀ r H', Same H H' → Tp H' r (shiftW a) → Q r H'
theorem ok_shifted {f : Addr} {fd : FuncData} (F : Fun K "shifted" "shifted" s_shifted f fd) (T : Txt K mg)   : FnOk P w K mg base CX0 1 f fd ["word"] sp_shifted := by
  refine F.ok sc_shifted (fun vs H Q E h => ?_) (fun cdv A outer s H vs Q E hr h => ?_)
  · obtain ⟨v, a, rfl, _⟩ := h
    rfl
  · obtain ⟨v, a, rfl, hv, ha, hal, k⟩ := h
    refine ⟨_, (pss_one (ps_ret (pe_op (op_catAK K) (pe_slice (sl_tupAK K) (pv 0) (po_some (pe_un un_neg pe_int)) po_none) (pe_slice (sl_tupAK K) (pv 0) po_none (po_some (pe_un un_neg pe_int)))))), ?_⟩
    have l1 := cutI_len a (some (-1)) none
    have l2 := cutI_len a none (some (-1))
    refine ⟨_, rfl, _, rfl, _, rfl, ?_⟩
    dsimp only [tNoPart]
    refine slice_tp hv fun r1 H1 s1 q1 => ⟨_, rfl, _, rfl, _, rfl, ?_⟩
    refine slice_tp (hv.mono s1) fun r2 H2 s2 q2 => ?_
    exact cat_tp (q1.mono s2) q2 (by omega) fun r3 H3 s3 q3 => k r3 H3 ((s1.trans s2).trans s3) (by rw [← cut_shift a ha]; exact q3)
abbrev s__law_shift : Stmt := top 58
theorem sc__law_shift : FnScope ["_law_word_here"] ["_law_word_here"] (defScope s__law_shift) := ⟨rfl, rfl, rfl, by decide +kernel, rfl, by decide +kernel, by decide +kernel⟩
def sp__law_shift : Sp := sp_shifted
theorem ok__law_shift {f : Addr} {fd : FuncData} (F : Fun K "_law_shift" "_law_shift" s__law_shift f fd) (T : Txt K mg)   : FnOk P w K mg base CX0 1 f fd ["_law_word_here"] sp__law_shift := by
  refine F.ok sc__law_shift (fun vs H Q E h => ?_) (fun cdv A outer s H vs Q E hr h => ?_)
  · obtain ⟨v, a, rfl, _⟩ := h
    rfl
  · obtain ⟨v, a, rfl, hv, ha, hal, k⟩ := h
    refine ⟨_, (pss_one (ps_ret (pe_op (op_catAK K) (pe_slice (sl_tupAK K) (pv 0) (po_some (pe_un un_neg pe_int)) po_none) (pe_slice (sl_tupAK K) (pv 0) po_none (po_some (pe_un un_neg pe_int)))))), ?_⟩
    have l1 := cutI_len a (some (-1)) none
    have l2 := cutI_len a none (some (-1))
    refine ⟨_, rfl, _, rfl, _, rfl, ?_⟩
    dsimp only [tNoPart]
    refine slice_tp hv fun r1 H1 s1 q1 => ⟨_, rfl, _, rfl, _, rfl, ?_⟩
    refine slice_tp (hv.mono s1) fun r2 H2 s2 q2 => ?_
    exact cat_tp (q1.mono s2) q2 (by omega) fun r3 H3 s3 q3 => k r3 H3 ((s1.trans s2).trans s3) (by rw [← cut_shift a ha]; exact q3)
end
end Wk
namespace Wk
open PySem L2
open C8 (Cal Met Mak pe_c pe_mk pe_mt pe_mt0)
section
variable {P : Program} {w : World} {K : PySem.W.Frag} {mg : Str → Option Value} {base : Heap}
theorem kit_int_int {K : PySem.W.Frag} : PySem.W.kitOne K (.type "int") (.type "int") = some true := kit_ty (by decide +kernel)
theorem kit_int_bool {K : PySem.W.Frag} : PySem.W.kitOne K (.type "int") (.type "bool") = some false := kit_ty (by decide +kernel)
theorem kit_bool_int {K : PySem.W.Frag} : PySem.W.kitOne K (.type "bool") (.type "int") = some true := kit_ty (by decide +kernel)
theorem kit_bool_bool {K : PySem.W.Frag} : PySem.W.kitOne K (.type "bool") (.type "bool") = some true := kit_ty (by decide +kernel)
theorem kit_tup_tup {K : PySem.W.Frag} : PySem.W.kitOne K (.type "tuple") (.type "tuple") = some true := kit_ty (by decide +kernel)
theorem kit_lst_tup {K : PySem.W.Frag} : PySem.W.kitOne K (.type "list") (.type "tuple") = some false := kit_ty (by decide +kernel)
theorem kit_non_tup {K : PySem.W.Frag} : PySem.W.kitOne K (.type "NoneType") (.type "tuple") = some false := kit_ty (by decide +kernel)
/-! ### is_integer -/
abbrev s_is_integer : Stmt := top 6
theorem sc_is_integer : FnScope ["value"] ["value"] (defScope s_is_integer) := ⟨rfl, rfl, rfl, by decide +kernel, rfl, by decide +kernel, by decide +kernel⟩
inductive IntV : V → Bool → Prop
  | int (i : Int) : IntV (.int i) true
  | bl (b : Bool) : IntV (.bl b) false
def sp_is_integer : Sp := fun vs H Q _ => ∃ v b, vs = [v] ∧ IntV v b ∧ Q (.bl b) H
theorem ok_is_integer {f : Addr} {fd : FuncData} (F : Fun K "is_integer" "is_integer" s_is_integer f fd) (T : Txt K mg)   : FnOk P w K mg base CX0 1 f fd ["value"] sp_is_integer := by
  refine F.ok sc_is_integer (fun vs H Q E h => ?_) (fun cdv A outer s H vs Q E hr h => ?_)
  · obtain ⟨v, b, rfl, _⟩ := h
    rfl
  · obtain ⟨v, b, rfl, hv, k⟩ := h
    refine ⟨_, (pss_one (ps_ret (pe_and (pe_callB (call_isiKK K) (by rfl) T.isinstance (by decide +kernel) (pa_cons (pv 0) (pa_cons (pe_bltn (v := .ty "int") (u := .type "int") (by rfl) T.int (by decide +kernel) rfl) pa_nil))) (pe_one (pe_not (pe_callB (call_isiKK K) (by rfl) T.isinstance (by decide +kernel) (pa_cons (pv 0) (pa_cons (pe_bltn (v := .ty "bool") (u := .type "bool") (by rfl) T.bool (by decide +kernel) rfl) pa_nil)))))))), ?_⟩
    cases hv with
    | int i => exact ⟨_, rfl, _, _, _, _, _, rfl, .ty "int", .base (.int i), kit_int_int, true, rfl, iteT ⟨_, rfl, _, _, _, _, _, rfl, .ty "bool", .base (.int i), kit_int_bool, false, rfl, k⟩⟩
    | bl b => exact ⟨_, rfl, _, _, _, _, _, rfl, .ty "int", .base (.bl b), kit_bool_int, true, rfl, iteT ⟨_, rfl, _, _, _, _, _, rfl, .ty "bool", .base (.bl b), kit_bool_bool, true, rfl, k⟩⟩
/-! ### is_word (of a word) -/
abbrev s_is_word : Stmt := top 10
theorem sc_is_word : FnScope ["value", "p", "n", "item"] ["value", "p", "n"] (defScope s_is_word) := ⟨rfl, rfl, rfl, by decide +kernel, rfl, by decide +kernel, by decide +kernel⟩
def sp_is_word : Sp := fun vs H Q _ => ∃ v a p, vs = [v, .int p, .int ((a.length : Nat) : Int)] ∧ Tp H v a ∧ Wd p a ∧ Q (.bl true) H
theorem ok_is_word {f : Addr} {fd : FuncData} (F : Fun K "is_word" "is_word" s_is_word f fd) (T : Txt K mg) (c_is_integer : Cal P w K mg base 1 "is_integer" sp_is_integer [])  : FnOk P w K mg base CX0 2 f fd ["value", "p", "n"] sp_is_word := by
  refine F.ok sc_is_word (fun vs H Q E h => ?_) (fun cdv A outer s H vs Q E hr h => ?_)
  · obtain ⟨v, a, p, rfl, _⟩ := h
    rfl
  · obtain ⟨v, a, p, rfl, ⟨t, rfl, ht⟩, ha, k⟩ := h
    refine ⟨_, (pss_cons (ps_if (PW.pt (pw_or (pt_not (pt_val (pe_callB (call_isiKK K) (by rfl) T.isinstance (by decide +kernel) (pa_cons (pv 0) (pa_cons (pe_bltn (v := .ty "tuple") (u := .type "tuple") (by rfl) T.tuple (by decide +kernel) rfl) pa_nil))))) (pw_or1 (pt_cmpR op_ne (pe_callB (call_lenK K) (by rfl) T.len PySem.boot_len (pa_cons (pv 0) pa_nil)) (pv 2) (nomark _))))) (pss_one (ps_ret pe_bl)) pss_nil)
      (pss_cons (ps_for PassesOwn.never rfl (pi_tup (pv 0)) (pg_name (i := 3) sc_is_word.nd rfl (Or.inl rfl))
      (pss_one (ps_if (PW.pt (pw_or (pt_not (pt_val (pe_c c_is_integer hr (by decide) rfl (pa_cons (pv 3) pa_nil)))) (pw_or (pt_cmpR op_lt (pv 3) pe_int (nomark _)) (pw_or1 (pt_cmpR op_ge (pv 3) (pv 1) (nomark _)))))) (pss_one (ps_ret pe_bl)) pss_nil)))
      (pss_one (ps_ret pe_bl)))), ?_⟩
    refine ⟨_, rfl, _, _, _, _, _, rfl, .ty "tuple", .base (.tup ht), kit_tup_tup, true, rfl, iteF ⟨_, rfl, t, _, rfl, .inr (SqT.of ht), _, rfl, rfl, _, rfl, ite2 (fun c => ?_) (fun _ => ?_)⟩⟩
    · simp at c
    · refine ⟨_, rfl, t, rfl, ⟨_, SqT.of ht⟩, for_tup (K := K) (a := t) (xs := a.map V.int) (fun i σ H' => (∃ y, σ = [some (.ref t), some (.int p), some (.int ((a.length : Nat) : Int)), y]) ∧ H' = H) ⟨⟨_, rfl⟩, rfl⟩ (fun i σ H' _ q => q.2 ▸ SqT.of ht) ?_ ?_⟩
      · rintro i x σ H' hx ⟨⟨y, rfl⟩, rfl⟩
        obtain ⟨z, hz⟩ : ∃ z, a[i]? = some z := by
          rw [List.getElem?_map] at hx
          cases e : a[i]? with
          | none => rw [e] at hx; cases hx
          | some z => exact ⟨z, rfl⟩
        obtain rfl := map_int hx hz
        have hb := ha z (List.mem_of_getElem? hz)
        refine ⟨_, rfl, _, true, rfl, .int z, true, rfl, iteF ⟨_, rfl, _, _, rfl, rfl, _, rfl, ite2 (fun c => ?_) (fun _ => ⟨_, rfl, _, rfl, _, _, rfl, rfl, _, rfl, ite2 (fun c => ?_) (fun _ => ⟨⟨_, rfl⟩, rfl⟩)⟩)⟩⟩
        · have c' : z < 0 := by simpa using c
          omega
        · have c' : p ≤ z := by simpa using c
          omega
      · rintro σ H' ⟨⟨y, rfl⟩, rfl⟩
        exact k
/-! ### check_prime, check_length -/
abbrev s_check_prime : Stmt := top 22
theorem sc_check_prime : FnScope ["p"] ["p"] (defScope s_check_prime) := ⟨rfl, rfl, rfl, by decide +kernel, rfl, by decide +kernel, by decide +kernel⟩
def sp_check_prime : Sp := fun vs H Q _ => ∃ p, vs = [.int p] ∧ Pr p ∧ Q .non H
theorem inV_prime {p : Int} (h : Pr p) : inV (.int p) [.int 2, .int 3, .int 5, .int 7] = true := by
  rcases h with rfl | rfl | rfl | rfl <;> decide +kernel
theorem ok_check_prime {f : Addr} {fd : FuncData} (F : Fun K "check_prime" "check_prime" s_check_prime f fd) (T : Txt K mg) (c_is_integer : Cal P w K mg base 1 "is_integer" sp_is_integer []) {pA : Addr} (gP : mg "PRIMES" = some (.ref pA)) (hP : ∀ H, SqT K H pA [.int 2, .int 3, .int 5, .int 7]) : FnOk P w K mg base CX0 2 f fd ["p"] sp_check_prime := by
  refine F.ok sc_check_prime (fun vs H Q E h => ?_) (fun cdv A outer s H vs Q E hr h => ?_)
  · obtain ⟨p, rfl, _⟩ := h
    rfl
  · obtain ⟨p, rfl, hp, k⟩ := h
    refine ⟨_, (pss_one (ps_if (PW.pt (pw_or (pt_not (pt_val (pe_c c_is_integer hr (by decide) rfl (pa_cons (pv 0) pa_nil)))) (pw_or1 (pt_cmpR (op_notInSK K) (pv 0) (pe_glob (v := .ref pA) rfl gP rfl) (by rfl))))) (pss_one ps_never) pss_nil)), ?_⟩
    refine ⟨_, rfl, _, true, rfl, .int p, true, rfl, iteF ⟨_, rfl, pA, _, rfl, .inr (hP H), rfl, by decide +kernel, _, rfl, ?_⟩⟩
    rw [inV_prime hp]
    exact iteF k
abbrev s_check_length : Stmt := top 30
theorem sc_check_length : FnScope ["p", "n"] ["p", "n"] (defScope s_check_length) := ⟨rfl, rfl, rfl, by decide +kernel, rfl, by decide +kernel, by decide +kernel⟩
def sp_check_length : Sp := fun vs H Q _ => ∃ p n, vs = [.int p, .int ((n : Nat) : Int)] ∧ Pr p ∧ 1 ≤ n ∧ n ≤ 12 ∧ Q .non H
theorem ok_check_length {f : Addr} {fd : FuncData} (F : Fun K "check_length" "check_length" s_check_length f fd) (T : Txt K mg) (c_check_prime : Cal P w K mg base 2 "check_prime" sp_check_prime []) (c_is_integer : Cal P w K mg base 1 "is_integer" sp_is_integer [])  : FnOk P w K mg base CX0 3 f fd ["p", "n"] sp_check_length := by
  refine F.ok sc_check_length (fun vs H Q E h => ?_) (fun cdv A outer s H vs Q E hr h => ?_)
  · obtain ⟨p, n, rfl, _⟩ := h
    rfl
  · obtain ⟨p, n, rfl, hp, h1, h2, k⟩ := h
    refine ⟨_, (pss_cons (ps_expr (pe_c c_check_prime hr (by decide) rfl (pa_cons (pv 0) pa_nil)))
      (pss_cons (ps_if (PW.pt (pw_or (pt_not (pt_val (pe_c c_is_integer hr (by decide) rfl (pa_cons (pv 1) pa_nil)))) (pw_or1 (pt_cmpR op_lt (pv 1) pe_int (nomark _))))) (pss_one ps_never) pss_nil)
      (pss_one (ps_if (pt_cmpR op_gt (pv 1) (C8.pe_gc rfl T.gL) (nomark _)) (pss_one ps_never) pss_nil)))), ?_⟩
    refine ⟨_, rfl, p, rfl, hp, _, rfl, _, true, rfl, .int _, true, rfl, iteF ⟨_, rfl, _, _, rfl, rfl, _, rfl, ite2 (fun c => ?_) (fun _ => ⟨_, rfl, _, _, rfl, rfl, _, rfl, ite2 (fun c => ?_) (fun _ => k)⟩)⟩⟩
    · have c' : ((n : Nat) : Int) < 1 := by simpa using c
      omega
    · have c' : (12 : Int) < ((n : Nat) : Int) := by simpa using c
      omega
/-! ### unit_polynomial -/
abbrev s_unit_polynomial : Stmt := top 31
theorem sc_unit_polynomial : FnScope ["p", "n"] ["p", "n"] (defScope s_unit_polynomial) := ⟨rfl, rfl, rfl, by decide +kernel, rfl, by decide +kernel, by decide +kernel⟩
def sp_unit_polynomial : Sp := fun vs H Q _ => ∃ p n, vs = [.int p, .int ((n : Nat) : Int)] ∧ Pr p ∧ 1 ≤ n ∧ n ≤ 12 ∧ ∀ r H', Same H H' → Tp H' r (unitPoly p n) → Q r H'
theorem ok_unit_polynomial {f : Addr} {fd : FuncData} (F : Fun K "unit_polynomial" "unit_polynomial" s_unit_polynomial f fd) (T : Txt K mg) (c_check_length : Cal P w K mg base 3 "check_length" sp_check_length [])  : FnOk P w K mg base CX0 4 f fd ["p", "n"] sp_unit_polynomial := by
  refine F.ok sc_unit_polynomial (fun vs H Q E h => ?_) (fun cdv A outer s H vs Q E hr h => ?_)
  · obtain ⟨p, n, rfl, _⟩ := h
    rfl
  · obtain ⟨p, n, rfl, hp, h1, h2, k⟩ := h
    refine ⟨_, (pss_cons (ps_expr (pe_c c_check_length hr (by decide) rfl (pa_cons (pv 0) (pa_cons (pv 1) pa_nil))))
      (pss_one (ps_ret (pe_op (op_catAK K) (pe_op (op_catAK K) (pe_tup (pa_cons (pe_op op_sub (pv 0) pe_int) pa_nil)) (pe_op (op_repTAK K) (pe_tup (pa_cons pe_int pa_nil)) (pe_op op_sub (pv 1) pe_int))) (pe_tup (pa_cons pe_int pa_nil)))))), ?_⟩
    refine ⟨_, rfl, _, rfl, p, n, rfl, hp, h1, h2, _, rfl, _, _, rfl, rfl, (by show 1 ≤ sizeLine; decide), fun t1 ht1 => ⟨by decide, fun t2 ht2 => ⟨_, rfl, _, _, rfl, rfl, ?_⟩⟩⟩
    have s1 : Same H (upd H t1 (.tup [.int (p - 1)])) := (Same.refl H).put ht1
    have s2 : Same (upd H t1 (.tup [.int (p - 1)])) _ := (Same.refl _).put ht2 (o := .tup [.int 0])
    have en : ((n : Nat) : Int) - 1 = ((n - 1 : Nat) : Int) := by omega
    show rRepTA K (V.ref t2) (.int (((n : Nat) : Int) - 1)) _ _
    rw [en]
    refine rep_tp ⟨t2, rfl, upd_same⟩ (by omega) fun r3 H3 s3 q3 => ?_
    refine cat_tp (a := [p - 1]) ⟨t1, rfl, s3 _ _ (s2 _ _ upd_same)⟩ q3 (by simp; omega) fun r4 H4 s4 q4 => ⟨by decide, fun t5 ht5 => ?_⟩
    have s5 : Same H4 (upd H4 t5 (.tup [.int 1])) := (Same.refl _).put ht5
    refine cat_tp (q4.mono s5) (b := [1]) ⟨t5, rfl, upd_same⟩ (by simp; omega) fun r6 H6 s6 q6 => k _ _ (((((s1.trans s2).trans s3).trans s4).trans s5).trans s6) ?_
    exact q6
/-! ### is_divisor -/
abbrev s_is_divisor : Stmt := top 39
theorem sc_is_divisor : FnScope ["unit", "g", "p", "item"] ["unit", "g", "p"] (defScope s_is_divisor) := ⟨rfl, rfl, rfl, by decide +kernel, rfl, by decide +kernel, by decide +kernel⟩
def DArg (H : Hp) (v : V) (u : List Int) (p : Int) (b : Bool) : Prop := (∃ g, Tp H v g ∧ g.length ≤ 40 ∧ b = isDivisor u g p) ∨
  (b = false ∧ (v = .non ∨ (∃ a xs, v = .ref a ∧ H a = some (.lst xs)) ∨ (∃ a, v = .ref a ∧ H a = some (.tup [.bl true]))))
def sp_is_divisor : Sp := fun vs H Q _ => ∃ vu vg u p b, vs = [vu, vg, .int p] ∧ Tp H vu u ∧ Pr p ∧ u.length ≤ 40 ∧ DArg H vg u p b ∧ ∀ H', Same H H' → Q (.bl b) H'
theorem inv_one {p : Int} (h : Pr p) : InvOk 1 p := ⟨0, by rcases h with rfl | rfl | rfl | rfl <;> decide, by rcases h with rfl | rfl | rfl | rfl <;> decide⟩
theorem ok_is_divisor {f : Addr} {fd : FuncData} (F : Fun K "is_divisor" "is_divisor" s_is_divisor f fd) (T : Txt K mg) (c_divided : Cal P w K mg base 2 "divided" sp_divided []) (c_is_integer : Cal P w K mg base 1 "is_integer" sp_is_integer [])  : FnOk P w K mg base CX0 3 f fd ["unit", "g", "p"] sp_is_divisor := by
  refine F.ok sc_is_divisor (fun vs H Q E h => ?_) (fun cdv A outer s H vs Q E hr h => ?_)
  · obtain ⟨vu, vg, u, p, b, rfl, _⟩ := h
    rfl
  · obtain ⟨vu, vg, u, p, b, rfl, hu, hp, hul, hg, k⟩ := h
    refine ⟨_, (pss_cons (ps_if (PW.pt (pw_or (pt_not (pt_val (pe_callB (call_isiKK K) (by rfl) T.isinstance (by decide +kernel) (pa_cons (pv 1) (pa_cons (pe_bltn (v := .ty "tuple") (u := .type "tuple") (by rfl) T.tuple (by decide +kernel) rfl) pa_nil))))) (pw_or1 (pt_cmpR op_eq (pe_callB (call_lenK K) (by rfl) T.len PySem.boot_len (pa_cons (pv 1) pa_nil)) pe_int (nomark _))))) (pss_one (ps_ret pe_bl)) pss_nil)
      (pss_cons (ps_for PassesOwn.never rfl (pi_tup (pv 1)) (pg_name (i := 3) sc_is_divisor.nd rfl (Or.inl rfl))
      (pss_one (ps_if (PW.pt (pw_or (pt_not (pt_val (pe_c c_is_integer hr (by decide) rfl (pa_cons (pv 3) pa_nil)))) (pw_or (pt_cmpR op_lt (pv 3) pe_int (nomark _)) (pw_or1 (pt_cmpR op_ge (pv 3) (pv 2) (nomark _)))))) (pss_one (ps_ret pe_bl)) pss_nil)))
      (pss_one (ps_ret (pe_and (pe_cmpR op_eq (pe_ix (ix_tupK K) (pv 1) (pe_un un_neg pe_int) (fun _ _ => rfl)) pe_int (nomark _)) (pe_one (pe_cmpR op_eq (pe_callB (call_lenK K) (by rfl) T.len PySem.boot_len (pa_cons (pe_ix (ix_tupK K) (pe_c c_divided hr (by decide) rfl (pa_cons (pv 0) (pa_cons (pv 1) (pa_cons (pv 2) pa_nil)))) pe_int (fun _ _ => rfl)) pa_nil)) pe_int (nomark _)))))))), ?_⟩
    rcases hg with ⟨g, ⟨t, rfl, ht⟩, hgl, rfl⟩ | ⟨rfl, hno⟩
    · refine ⟨_, rfl, _, _, _, _, _, rfl, .ty "tuple", .base (.tup ht), kit_tup_tup, true, rfl, iteF ⟨_, rfl, t, _, rfl, .inr (SqT.of ht), rfl, _, rfl, ite2 (fun c => ?_) (fun c => ?_)⟩⟩
      · have e : g = [] := by simpa using c
        subst e
        exact k H (Same.refl H)
      · have hne : g ≠ [] := by
          rintro rfl
          simp at c
        refine ⟨_, rfl, t, rfl, ⟨_, SqT.of ht⟩, for_tup (K := K) (a := t) (xs := g.map V.int) (fun i σ H' => (∃ y, σ = [some vu, some (.ref t), some (.int p), y]) ∧ H' = H ∧ ∀ x ∈ g.take i, 0 ≤ x ∧ x < p) ⟨⟨_, rfl⟩, rfl, fun x hx => by simp at hx⟩ (fun i σ H' _ q => q.2.1 ▸ SqT.of ht) ?_ ?_⟩
        · rintro i x σ H' hx ⟨⟨y, rfl⟩, rfl, hal⟩
          obtain ⟨z, hz⟩ : ∃ z, g[i]? = some z := by
            rw [List.getElem?_map] at hx
            cases e : g[i]? with
            | none => rw [e] at hx; cases hx
            | some z => exact ⟨z, rfl⟩
          obtain rfl := map_int hx hz
          have hmem := List.mem_of_getElem? hz
          have bad : ¬ (0 ≤ z ∧ z < p) → isDivisor u g p = false := fun hb => by
            unfold isDivisor
            have e1 : g.all (fun x => decide (0 ≤ x) && decide (x < p)) = false := by
              rw [List.all_eq_false]
              exact ⟨z, hmem, by simpa using hb⟩
            rw [e1]
            simp
          refine ⟨_, rfl, _, true, rfl, .int z, true, rfl, iteF ⟨_, rfl, _, _, rfl, rfl, _, rfl, ite2 (fun c => ?_) (fun c1 => ⟨_, rfl, _, rfl, _, _, rfl, rfl, _, rfl, ite2 (fun c => ?_) (fun c2 => ⟨⟨_, rfl⟩, rfl, fun x hx => ?_⟩)⟩)⟩⟩
          · have c' : z < 0 := by simpa using c
            have q := k H' (Same.refl H')
            rw [bad (by omega)] at q
            exact q
          · have c' : p ≤ z := by simpa using c
            have q := k H' (Same.refl H')
            rw [bad (by omega)] at q
            exact q
          · rw [List.take_add_one, hz] at hx
            have c1' : ¬ z < 0 := by simpa using c1
            have c2' : ¬ p ≤ z := by simpa using c2
            rcases List.mem_append.mp hx with q | q
            · exact hal x q
            · have : x = z := by simpa using q
              omega
        · rintro σ H' ⟨⟨y, rfl⟩, rfl, hal⟩
          rw [List.length_map, List.take_length] at hal
          have e1 : g.all (fun x => decide (0 ≤ x) && decide (x < p)) = true := by
            rw [List.all_eq_true]
            exact fun x hx => by simpa using hal x hx
          have e2 : isDivisor u g p = ((g.getLastD 0 == 1) && ((rem u g p).length == 0)) := by
            unfold isDivisor
            rw [e1]
            have : (g.length == 0) = false := by simpa using hne
            rw [this]
            rfl
          refine ⟨_, rfl, _, rfl, t, _, _, _, rfl, rfl, SqT.of ht, atI_getL hne, rfl, _, rfl, ite2 (fun c => ?_) (fun c => ?_)⟩
          · have c' : g.getLastD 0 = 1 := by simpa using c
            refine ⟨_, rfl, _, rfl, _, rfl, _, _, u, g, p, rfl, hu, ⟨t, rfl, ht⟩, ⟨hp, hne, by rw [c']; exact inv_one hp, hul, hgl⟩, fun r H2 s2 hq => ?_⟩
            obtain ⟨q1, q2, q3, rfl, e3, q4, e5, e4⟩ := hq.snd
            cases e5
            refine ⟨q1, _, 1, _, rfl, rfl, SqT.of e3, rfl, q3, _, rfl, .inr (SqT.of e4), rfl, ?_⟩
            have q := k H2 s2
            rw [e2, c'] at q
            have e6 : decide (V.int (((List.map V.int (divided u g p).2).length : Nat) : Int) = V.int 0) = ((rem u g p).length == 0) := by
              show _ = ((divided u g p).2.length == 0)
              rw [List.length_map, Bool.eq_iff_iff]
              simp
            show Q (.bl (decide (V.int (((List.map V.int (divided u g p).2).length : Nat) : Int) = V.int 0))) H2
            rw [e6]
            exact q
          · have c' : ¬ g.getLastD 0 = 1 := by simpa using c
            have q := k H' (Same.refl H')
            have e3 : (g.getLastD 0 == 1) = false := by simpa using c'
            rw [e2, e3] at q
            exact q
    · rcases hno with rfl | ⟨a, xs, rfl, ha⟩ | ⟨a, rfl, ha⟩
      · exact ⟨_, rfl, _, _, _, _, _, rfl, .ty "tuple", .base .non, kit_non_tup, false, rfl, iteT (k H (Same.refl H))⟩
      · exact ⟨_, rfl, _, _, _, _, _, rfl, .ty "tuple", .base (.lst ha), kit_lst_tup, false, rfl, iteT (k H (Same.refl H))⟩
      · refine ⟨_, rfl, _, _, _, _, _, rfl, .ty "tuple", .base (.tup ha), kit_tup_tup, true, rfl, iteF ⟨_, rfl, a, _, rfl, .inr (SqT.of ha), rfl, _, rfl, iteF ?_⟩⟩
        refine ⟨_, rfl, a, rfl, ⟨_, SqT.of ha⟩, for_tup (K := K) (a := a) (xs := [V.bl true]) (fun i σ H' => (i = 0 ∧ ∃ y, σ = [some vu, some (.ref a), some (.int p), y]) ∧ H' = H) ⟨⟨rfl, _, rfl⟩, rfl⟩ (fun i σ H' _ q => q.2 ▸ SqT.of ha) ?_ ?_⟩
        · rintro i x σ H' hx ⟨⟨rfl, y, rfl⟩, rfl⟩
          obtain rfl : V.bl true = x := Option.some.inj hx
          exact ⟨_, rfl, _, false, rfl, .bl true, false, rfl, iteT (k H' (Same.refl H'))⟩
        · rintro σ H' ⟨⟨e, _⟩, _⟩
          exact absurd e (by decide)
end
end Wk
namespace Wk
open PySem L2
open C8 (Cal Met Mak pe_c pe_mk pe_mt pe_mt0)
theorem atI_0 {α : Type} {x : α} {xs : List α} : atI (x :: xs) 0 = some x := atI_nat (j := 0) rfl
/-! ### data of words -/
def wD (w : List Int) : PyData := .tuple (w.map .int)
theorem dp_ints {K : PySem.W.Frag} {H : Hp} : ∀ w : List Int, DpAll K H (w.map V.int) (w.map PyData.int)
  | [] => .nil
  | x :: r => .cons (.int x) (dp_ints r)
theorem Tp.dp {K : PySem.W.Frag} {H : Hp} {v : V} {w : List Int} (h : Tp H v w) : Dp K H v (wD w) := by
  obtain ⟨a, rfl, ha⟩ := h
  exact .tup (SqT.of ha) (dp_ints w)
theorem Tps.dp {K : PySem.W.Frag} {H : Hp} {vs : List V} {ws : List (List Int)} (h : Tps H vs ws) : DpAll K H vs (ws.map wD) := by
  induction h with
  | nil => exact .nil
  | cons r t ih => exact .cons r.dp ih
theorem lay_ints : ∀ w : List Int, PyData.canLayAll0 (w.map PyData.int) = true
  | [] => by simp [PyData.canLayAll0]
  | x :: r => by simp [PyData.canLayAll0, PyData.canLay0, lay_ints r]
theorem depth_intsD : ∀ w : List Int, PyData.depthAll (w.map PyData.int) = 0
  | [] => by simp [PyData.depthAll]
  | x :: r => by simp [PyData.depthAll, PyData.depth, depth_intsD r]
theorem wD_lay (w : List Int) : (wD w).canLay0 = true := by
  unfold wD
  rw [PyData.canLay0]
  exact lay_ints w
theorem wD_depth (w : List Int) : (wD w).depth ≤ 1 := by
  unfold wD
  rw [PyData.depth, depth_intsD]
  omega
theorem wD_shaped (w : List Int) : SeqAt.shaped (wD w) = true := by
  have := wD_depth w
  show ((wD w).canLay0 && decide ((wD w).depth ≤ 64)) = true
  rw [wD_lay, decide_eq_true (by omega)]; rfl
theorem wDs_lay : ∀ ws : List (List Int), PyData.canLayAll0 (ws.map wD) = true
  | [] => by simp [PyData.canLayAll0]
  | w :: r => by simp [PyData.canLayAll0, wD_lay w, wDs_lay r]
theorem wDs_depth : ∀ ws : List (List Int), PyData.depthAll (ws.map wD) ≤ 1
  | [] => by simp [PyData.depthAll]
  | w :: r => by
    have h1 := wD_depth w
    have h2 := wDs_depth r
    simp only [List.map_cons, PyData.depthAll]
    omega
theorem wDl_shaped (ws : List (List Int)) : SeqAt.shaped (.list (ws.map wD)) = true := by
  have h1 := wDs_depth ws
  show (PyData.canLay0 (.list (ws.map wD)) && decide (PyData.depth (.list (ws.map wD)) ≤ 64)) = true
  rw [PyData.canLay0, wDs_lay, PyData.depth, decide_eq_true (by omega)]; rfl
theorem eqv_ints : ∀ a b : List Int, PyData.eqvAll (a.map PyData.int) (b.map PyData.int) = decide (a = b)
  | [], [] => by simp [PyData.eqvAll]
  | [], _ :: _ => by simp [PyData.eqvAll]
  | _ :: _, [] => by simp [PyData.eqvAll]
  | x :: a, y :: b => by
    rw [List.map_cons, List.map_cons, PyData.eqvAll, eqv_ints a b, PyData.eqv]
    by_cases h : x = y <;> simp [h]
theorem eqv_wD (a b : List Int) : PyData.eqv (wD a) (wD b) = decide (a = b) := by
  unfold wD
  rw [PyData.eqv]
  exact eqv_ints a b
theorem first_at2 : ∀ {ws : List (List Int)} {k : List Int}, k ∈ ws → ∃ j, j < ws.length ∧ ws[j]? = some k ∧ (∀ i, i < j → ws[i]? ≠ some k) ∧ ws.eraseIdx j = ws.erase k
  | [], k, h => absurd h (by simp)
  | a :: r, k, h => by
    by_cases e : a = k
    · exact ⟨0, Nat.succ_pos _, by rw [e]; rfl, fun i hi => absurd hi (Nat.not_lt_zero _), by rw [e, List.erase_cons_head]; rfl⟩
    · have hr : k ∈ r := by
        rcases List.mem_cons.mp h with z | z
        · exact absurd z.symm e
        · exact z
      obtain ⟨j, h1, h2, h3, h4⟩ := first_at2 hr
      refine ⟨j + 1, Nat.succ_lt_succ h1, h2, fun i hi => ?_, ?_⟩
      · cases i with
        | zero => exact fun z => e (Option.some.inj z)
        | succ i => exact h3 i (Nat.lt_of_succ_lt_succ hi)
      · rw [List.erase_cons_tail (by rw [beq_iff_eq]; exact e), ← h4]; rfl
theorem Tps.erase {H : Hp} : ∀ {vs : List V} {ws : List (List Int)} (j : Nat), Tps H vs ws → Tps H (vs.eraseIdx j) (ws.eraseIdx j)
  | _, _, _, .nil => .nil
  | _, _, 0, .cons _ t => t
  | _, _, j + 1, .cons r t => .cons r (Tps.erase j t)
/-- xs.remove(x) of words -/
theorem rem_tps {K : PySem.W.Frag} {H : Hp} {l : Addr} {vs : List V} {ws : List (List Int)} {v : V} {k : List Int} {Q : VK} (h : H l = some (.lst vs)) (hv : Tps H vs ws) (hk : Tp H v k) (hm : k ∈ ws)
    (q : ∀ us, Tps H us (ws.erase k) → Q .non (upd H l (.lst us))) : rRemD K (.ref l) [v] H Q := by
  obtain ⟨j, h1, h2, h3, h4⟩ := first_at2 hm
  refine ⟨l, vs, v, wD k, ws.map wD, j, wD k, rfl, rfl, h, hv.dp, hk.dp, wDl_shaped ws, wD_shaped k, by rw [List.getElem?_map, h2]; rfl, by rw [eqv_wD]; simp, fun m z hm2 hz => ?_, q _ ?_⟩
  · rw [List.getElem?_map] at hz
    cases e : ws[m]? with
    | none => rw [e] at hz; cases hz
    | some u =>
      rw [e] at hz
      obtain rfl := Option.some.inj hz
      rw [eqv_wD]
      refine decide_eq_false fun c => h3 m hm2 ?_
      rw [e, c]
  · rw [← h4]
    exact hv.erase j
/-- a list, or a tuple, of words -/
def LTw (H : Hp) (v : V) (ws : List (List Int)) : Prop := ∃ a vs, v = .ref a ∧ (H a = some (.lst vs) ∨ H a = some (.tup vs)) ∧ Tps H vs ws
/-- a reduced table with its pivots -/
def RedV (H : Hp) (v : V) (t : List (List Int) × List Int) : Prop := ∃ a b c vs, v = .ref a ∧ H a = some (.tup [.ref b, .ref c]) ∧ H b = some (.tup vs) ∧ Tps H vs t.1 ∧ H c = some (.tup (t.2.map V.int))
section
variable {P : Program} {w : World} {K : PySem.W.Frag} {mg : Str → Option Value} {base : Heap}
theorem filt_eq (ws : List (List Int)) (i : Nat) : ws.filterMap (fun r => if r.getD i 0 != 0 then some r else none) = ws.filter (fun r => r.getD i 0 != 0) := by
  induction ws with
  | nil => rfl
  | cons a r ih =>
    rw [List.filterMap_cons, List.filter_cons, ih]
    split <;> rename_i h <;> split at h <;> simp_all
/-! ### reduced -/
abbrev s_reduced : Stmt := top 13
theorem sc_reduced : FnScope ["rows", "width", "p", "rest", "found", "pivots", "at", "heads", "head", "row"] ["rows", "width", "p"] (defScope s_reduced) := ⟨rfl, rfl, rfl, by decide +kernel, rfl, by decide +kernel, by decide +kernel⟩
def sp_reduced : Sp := fun vs H Q _ => ∃ v rows n p, vs = [v, .int ((n : Nat) : Int), .int p] ∧ LTw H v rows ∧ Pr p ∧ n ≤ 12 ∧ rows.length ≤ 1000 ∧ (∀ r ∈ rows, Wn p n r) ∧ ∀ r H', Same H H' → RedV H' r (reduced rows n p) → Q r H'
theorem ok_reduced {f : Addr} {fd : FuncData} (F : Fun K "reduced" "reduced" s_reduced f fd) (T : Txt K mg) (c_cleared : Cal P w K mg base 2 "cleared" sp_cleared []) (c_inverse : Cal P w K mg base 1 "inverse" sp_inverse []) (c_scaled : Cal P w K mg base 1 "scaled" sp_scaled [])  : FnOk P w K mg base CX0 3 f fd ["rows", "width", "p"] sp_reduced := by
  refine F.ok sc_reduced (fun vs H Q E h => ?_) (fun cdv A outer s H vs Q E hr h => ?_)
  · obtain ⟨v, rows, n, p, rfl, _⟩ := h
    rfl
  · obtain ⟨v, rows, n, p, rfl, ⟨t, vs, rfl, ht, hps⟩, hp, hn, hrl, hrows, k⟩ := h
    have hlen := plen hps
    rcases ht with ht | ht
    · refine ⟨_, (pss_cons (ps_setLc (i := 3) (own := [("row", 9)]) (g := gName 9) (tt := tYes) rfl sc_reduced.nd rfl rfl (sw_true rfl rfl rfl (by decide +kernel)) (pi_list (pv 0)) (blkOk_by (N := ["rows", "width", "p", "rest", "found", "pivots", "at", "heads", "head", "row"]) (sc := defScope s_reduced) (by decide +kernel)) (fun _ _ _ _ _ => (pg_name (i := 9) sc_reduced.nd rfl (Or.inl rfl))) (fun _ _ _ _ _ => pts_nil) (fun _ _ _ _ _ => (pe_callTy (call_tupK K) (by rfl) T.tuple (by decide +kernel) (pa_cons (pv 9) pa_nil))))
      (pss_cons (ps_set (i := 4) sc_reduced.nd rfl (Or.inl rfl) (pe_lst pa_nil))
      (pss_cons (ps_set (i := 5) sc_reduced.nd rfl (Or.inl rfl) (pe_lst pa_nil))
      (pss_cons (ps_for PassesOwn.never rfl (pi_range1 rfl T.range (pa_cons (pv 1) pa_nil)) (pg_name (i := 6) sc_reduced.nd rfl (Or.inr rfl))
      (pss_cons (ps_setLc (i := 7) (own := [("row", 9)]) (g := gName 9) rfl sc_reduced.nd rfl rfl (sw_true rfl rfl rfl (by decide +kernel)) (pi_list (pv 3)) (blkOk_by (N := ["rows", "width", "p", "rest", "found", "pivots", "at", "heads", "head", "row"]) (sc := defScope s_reduced) (by decide +kernel)) (fun _ _ _ _ _ => (pg_name (i := 9) sc_reduced.nd rfl (Or.inl rfl))) (fun _ _ _ _ _ => pts_one (pt_cmpR op_ne (pe_ix (ix_tupK K) (pv 9) (pv 6) (fun _ _ => rfl)) pe_int (nomark _))) (fun _ _ _ _ _ => (pv 9)))
      (pss_one (ps_if (pt_cmpR op_gt (pe_callB (call_lenK K) (by rfl) T.len PySem.boot_len (pa_cons (pv 7) pa_nil)) pe_int (nomark _)) (pss_cons (ps_set (i := 8) sc_reduced.nd rfl (Or.inr rfl) (pe_c c_scaled hr (by decide) rfl (pa_cons (pe_ix (ix_listK K) (pv 7) pe_int (fun _ _ => rfl)) (pa_cons (pe_c c_inverse hr (by decide) rfl (pa_cons (pe_ix (ix_tupK K) (pe_ix (ix_listK K) (pv 7) pe_int (fun _ _ => rfl)) (pv 6) (fun _ _ => rfl)) (pa_cons (pv 2) pa_nil))) (pa_cons (pv 2) pa_nil)))))
      (pss_cons (ps_expr (pe_bm PySem.F.plainAttrs_list PySem.F.slot_list_remove PySem.F.type_list_remove (mt_removeDK K (hu65 hr)) (pv 3) (pa_cons (pe_ix (ix_listK K) (pv 7) pe_int (fun _ _ => rfl)) pa_nil)))
      (pss_cons (ps_setLc (i := 3) (own := [("row", 9)]) (g := gName 9) (tt := tYes) rfl sc_reduced.nd rfl rfl (sw_true rfl rfl rfl (by decide +kernel)) (pi_list (pv 3)) (blkOk_by (N := ["rows", "width", "p", "rest", "found", "pivots", "at", "heads", "head", "row"]) (sc := defScope s_reduced) (by decide +kernel)) (fun _ _ _ _ _ => (pg_name (i := 9) sc_reduced.nd rfl (Or.inl rfl))) (fun _ _ _ _ _ => pts_nil) (fun _ _ _ _ _ => (pe_c c_cleared hr (by decide) rfl (pa_cons (pv 9) (pa_cons (pv 8) (pa_cons (pv 6) (pa_cons (pv 2) pa_nil)))))))
      (pss_cons (ps_set (i := 4) sc_reduced.nd rfl (Or.inl rfl) (pe_op op_cat (pe_lc (own := [("row", 9)]) (g := gName 9) (tt := tYes) rfl sc_reduced.nd (pi_list (pv 4)) (blkOk_by (N := ["rows", "width", "p", "rest", "found", "pivots", "at", "heads", "head", "row"]) (sc := defScope s_reduced) (by decide +kernel)) (fun _ _ _ _ _ => (pg_name (i := 9) sc_reduced.nd rfl (Or.inl rfl))) (fun _ _ _ _ _ => pts_nil) (fun _ _ _ _ _ => (pe_c c_cleared hr (by decide) rfl (pa_cons (pv 9) (pa_cons (pv 8) (pa_cons (pv 6) (pa_cons (pv 2) pa_nil))))))) (pe_lst (pa_cons (pv 8) pa_nil))))
      (pss_one (ps_expr (pe_bm PySem.F.plainAttrs_list PySem.F.slot_list_append PySem.F.type_list_append mt_append (pv 5) (pa_cons (pv 6) pa_nil)))))))) pss_nil))))
      (pss_one (ps_ret (pe_tup (pa_cons (pe_callTy (call_tupK K) (by rfl) T.tuple (by decide +kernel) (pa_cons (pv 4) pa_nil)) (pa_cons (pe_callTy (call_tupK K) (by rfl) T.tuple (by decide +kernel) (pa_cons (pv 5) pa_nil)) pa_nil))))))))), ?_⟩
      refine ⟨_, rfl, t, rfl, ⟨_, SqL.of ht⟩, fun D hD => lc_map rows (fun r => r) Tp (walks_list (SqL.of ht)) hlen (small1000 (by omega)) hD Tp.monoD (fun i x z H1 Q1 hx hz s1 _ q => ?_) (fun H1 ys s1 hD1 hp1 => ?_)⟩
      · obtain ⟨z', hz', tz⟩ := pget hps hx
        obtain rfl : z' = z := by rw [hz'] at hz; exact Option.some.inj hz
        obtain ⟨b, rfl, hb⟩ := tz.mono s1
        exact ⟨_, rfl, b, _, rfl, .inr ⟨SqT.of hb, q _ _ (Same.refl H1) ⟨b, rfl, hb⟩⟩⟩
      rw [List.map_id'] at hp1
      have hlen1 := plen hp1
      refine ⟨Nat.zero_le _, fun lf hlf => ⟨Nat.zero_le _, fun lp hlp => ⟨_, rfl, _, rfl, by omega, by omega, ?_⟩⟩⟩
      have hDn : H D = none := hD
      have s2 : Same H1 (upd H1 lf (.lst [])) := (Same.refl H1).put hlf
      have s3 : Same (upd H1 lf (.lst [])) (upd (upd H1 lf (.lst [])) lp (.lst [])) := (Same.refl _).put hlp
      have hlfn : H lf = none := s1.free hlf
      have hlpn : H lp = none := (s1.trans s2).free hlp
      have nfp : lf ≠ lp := ne_of_none upd_same hlp
      have ndf : D ≠ lf := ne_of_none hD1 hlf
      have ndp : D ≠ lp := ne_of_none (s2 _ _ hD1) hlp
      have eN : (((n : Nat) : Int)).toNat = n := by omega
      rw [eN]
      refine for_range (lo := 0) (n := n) (fun i σ H' => ∃ lr lf vr vf y1 y2 y3 y4, σ = [some (.ref t), some (.int ((n : Nat) : Int)), some (.int p), some (.ref lr), some (.ref lf), some (.ref lp), y1, y2, y3, y4] ∧ Same H H' ∧ H lr = none ∧ H lf = none ∧ lr ≠ lf ∧ lr ≠ lp ∧ lf ≠ lp ∧
        H' lr = some (.lst vr) ∧ H' lf = some (.lst vf) ∧ H' lp = some (.lst (((List.range i).foldl (redStep p) (rows, [], [])).2.2.map V.int)) ∧ Tps H' vr ((List.range i).foldl (redStep p) (rows, [], [])).1 ∧ Tps H' vf ((List.range i).foldl (redStep p) (rows, [], [])).2.1)
        ⟨D, lf, ys, [], _, _, _, _, rfl, (s1.trans s2).trans s3, hDn, hlfn, ndf, ndp, nfp, s3 _ _ (s2 _ _ hD1), s3 _ _ upd_same, upd_same, Tps.mono (s2.trans s3) hp1, .nil⟩ ?_ ?_
      · rintro i σ H' hi ⟨lr, lf, vr, vf, y1, y2, y3, y4, rfl, s4, nlr, nlf, hrf, hrp, hfp, e1, e2, e3, t1, t2⟩
        rw [Int.zero_add]
        have ri := redRun_ri hp hrows i (by omega)
        rw [foldl_range_succ]
        generalize (List.range i).foldl (redStep p) (rows, [], []) = st at e3 t1 t2 ri
        have lr1 := plen t1
        have lf1 := plen t2
        have hri := ri.len
        have hrf1 := ri.flen
        refine ⟨_, rfl, lr, rfl, ⟨_, SqL.of e1⟩, fun D2 hD2 => lc_gen st.1 (fun r => if r.getD i 0 != 0 then some r else none) Tp (walks_list (SqL.of e1)) lr1 (small1000 (by omega)) hD2 Tp.monoD ?_ ?_⟩
        · rintro j x z H2 Q1 Qn hx hz s5 - hn hs
          obtain ⟨z', hz', tz⟩ := pget t1 hx
          obtain rfl : z' = z := by rw [hz'] at hz; exact Option.some.inj hz
          have hwz := ri.rest z' (List.mem_of_getElem? hz')
          obtain ⟨b, rfl, hb⟩ := tz.mono s5
          refine ⟨_, rfl, _, rfl, b, _, _, _, rfl, rfl, SqT.of hb, atI_get (i := i) (by rw [hwz.1]; exact hi), rfl, _, rfl, ite2 (fun c => ?_) (fun c => ?_)⟩
          · have c' : (z'.getD i 0 != 0) = true := by simpa using c
            exact ⟨_, rfl, hs z' (by rw [if_pos c']) _ _ (Same.refl H2) ⟨b, rfl, hb⟩⟩
          · have c' : ¬ (z'.getD i 0 != 0) = true := by simpa using c
            exact hn (by rw [if_neg c']) _ (Same.refl H2)
        · intro H2 hs s5 eD2 t3
          rw [filt_eq] at t3
          refine ⟨_, rfl, D2, _, rfl, .inl (SqL.of eD2), _, _, rfl, rfl, _, rfl, ite2 (fun c => ?_) (fun c => ?_)⟩
          · have hne : st.1.filter (fun r => r.getD i 0 != 0) ≠ [] := by
              intro e
              rw [e] at t3
              cases t3
              simp at c
            obtain ⟨hd, tl, ef⟩ := List.exists_cons_of_ne_nil hne
            rw [ef] at t3
            cases t3 with
            | @cons v0 _ vt _ th tt =>
              have hm2 : hd ∈ st.1.filter (fun r => r.getD i 0 != 0) := by rw [ef]; exact List.mem_cons_self
              obtain ⟨hm, hnz⟩ := List.mem_filter.mp hm2
              have hwd := ri.rest hd hm
              have hnz' : hd.getD i 0 ≠ 0 := by simpa using hnz
              have hbd := getD_mem hwd.2 (show i < hd.length by rw [hwd.1]; exact hi)
              have hio : InvOk (hd.getD i 0) p := inv_ex hp hbd.1 hbd.2 hnz'
              have est : redStep p st i = ((st.1.erase hd).map (fun r => cleared r (scaled hd (inv (hd.getD i 0) p) p) i p), st.2.1.map (fun r => cleared r (scaled hd (inv (hd.getD i 0) p) p) i p) ++ [scaled hd (inv (hd.getD i 0) p) p], st.2.2 ++ [((i : Nat) : Int)]) := by
                unfold redStep
                rw [ef]
              rw [est]
              have hwh := scaled_wn hp hwd (inv (hd.getD i 0) p)
              generalize hhead : scaled hd (inv (hd.getD i 0) p) p = head at hwh
              have s6 := s4.trans s5
              obtain ⟨b0, rfl, hb0⟩ := th
              refine ⟨_, rfl, D2, _, 0, _, rfl, rfl, SqL.of eD2, atI_0, _, rfl, D2, _, 0, _, rfl, rfl, SqL.of eD2, atI_0, _, rfl, b0, _, _, _, rfl, rfl, SqT.of hb0, atI_get (i := i) (by rw [hwd.1]; exact hi), _, rfl, _, p, rfl, hp, hio, _, rfl, ?_⟩
              refine ⟨_, hd, _, p, rfl, ⟨b0, rfl, hb0⟩, hp, hwd.2, by rw [hwd.1]; omega, ?_⟩
              intro rh H3 s7 thd
              rw [hhead] at thd
              have s8 := s6.trans s7
              have e1' := (s5.trans s7) _ _ e1
              have e2' := (s5.trans s7) _ _ e2
              have e3' := (s5.trans s7) _ _ e3
              have nD2r : D2 ≠ lr := Ne.symm (ne_of_none e1 hD2)
              have nD2f : D2 ≠ lf := Ne.symm (ne_of_none e2 hD2)
              refine ⟨_, rfl, .inl ⟨rfl, _, SqL.of e1'⟩, _, rfl, D2, _, 0, _, rfl, rfl, SqL.of (s7 _ _ eD2), atI_0, ?_⟩
              dsimp only [tNil]
              refine rem_tps e1' (Tps.mono (s5.trans s7) t1) ⟨b0, rfl, s7 _ _ hb0⟩ hm fun us tus => ?_
              have b9 : But lr H3 (upd H3 lr (.lst us)) := But.upd e1'
              have s9 : Same H (upd H3 lr (.lst us)) := Same.own s8 nlr
              have thd9 : Tp (upd H3 lr (.lst us)) rh head := thd.but b9
              have tus9 : Tps (upd H3 lr (.lst us)) us (st.1.erase hd) := Paired.mapP tus fun _ _ q => q.but b9
              have t29 : Tps (upd H3 lr (.lst us)) vf st.2.1 := Paired.mapP (Tps.mono (s5.trans s7) t2) fun _ _ q => q.but b9
              have e29 : upd H3 lr (.lst us) lf = some (.lst vf) := by rw [upd_ne (Ne.symm hrf)]; exact e2'
              have e39 : upd H3 lr (.lst us) lp = some (.lst (st.2.2.map V.int)) := by rw [upd_ne (Ne.symm hrp)]; exact e3'
              have e19 : upd H3 lr (.lst us) lr = some (.lst us) := upd_same
              have ele : (st.1.erase hd).length ≤ 1000 := Nat.le_trans List.length_erase_le (by omega)
              show tSeq _ _ _ _ (upd H3 lr (.lst us))
              generalize upd H3 lr (.lst us) = H9 at s9 thd9 tus9 t29 e29 e39 e19
              have lus := plen tus9
              refine ⟨_, rfl, lr, rfl, ⟨_, SqL.of e19⟩, fun D3 hD3 => lc_map (st.1.erase hd) (fun r => cleared r head i p) Tp (walks_list (SqL.of e19)) lus (small1000 (by omega)) hD3 Tp.monoD ?_ ?_⟩
              · rintro j x z H2' Q1 hx hz s10 - q
                obtain ⟨z', hz', tz⟩ := pget tus9 hx
                obtain rfl : z' = z := by rw [hz'] at hz; exact Option.some.inj hz
                have hwz := ri.rest z' (List.mem_of_mem_erase (List.mem_of_getElem? hz'))
                exact ⟨_, rfl, _, rfl, _, rfl, _, rfl, _, _, z', head, i, p, rfl, tz.mono s10, thd9.mono s10, hp, hwh.2, by rw [hwh.1, hwz.1], by rw [hwz.1]; exact hi, by rw [hwz.1]; omega, fun r H' s q' => q r H' s q'⟩
              · intro H10 zs s10 eD3 t10
                have s11 := s9.trans s10
                have hD3n : H D3 = none := s9.free hD3
                refine ⟨_, rfl, lf, rfl, ⟨_, SqL.of (s10 _ _ e29)⟩, fun D4 hD4 => lc_map st.2.1 (fun r => cleared r head i p) Tp (walks_list (SqL.of (s10 _ _ e29))) lf1 (small1000 (by omega)) hD4 Tp.monoD ?_ ?_⟩
                · rintro j x z H2' Q1 hx hz s12 - q
                  obtain ⟨z', hz', tz⟩ := pget (Tps.mono s10 t29) hx
                  obtain rfl : z' = z := by rw [hz'] at hz; exact Option.some.inj hz
                  have hwz := ri.found z' (List.mem_of_getElem? hz')
                  exact ⟨_, rfl, _, rfl, _, rfl, _, rfl, _, _, z', head, i, p, rfl, tz.mono s12, thd9.mono (s10.trans s12), hp, hwh.2, by rw [hwh.1, hwz.1], by rw [hwz.1]; exact hi, by rw [hwz.1]; omega, fun r H' s q' => q r H' s q'⟩
                · intro H12 fs s12 eD4 t12
                  refine ⟨_, rfl, (by show 1 ≤ sizeLine; decide), fun l5 hl5 => ⟨D4, l5, fs, [rh], rfl, rfl, ?_, upd_same, ?_, fun l6 hl6 => ?_⟩⟩
                  · rw [upd_ne (ne_of_none eD4 hl5)]; exact eD4
                  · have := plen t12
                    rw [List.length_map] at this
                    exact Nat.le_of_lt (small1000 (by simp; omega))
                  · have s13 : Same H12 (upd H12 l5 (.lst [rh])) := (Same.refl _).put hl5
                    have s14 := s13.put hl6 (o := .lst (fs ++ [rh]))
                    have s15 := (s10.trans s12).trans s14
                    have e15 := s15 _ _ e39
                    have hl6n : H l6 = none := (s9.trans ((s10.trans s12).trans s13)).free hl6
                    have nl6p : l6 ≠ lp := Ne.symm (ne_of_none (((s10.trans s12).trans s13) _ _ e39) hl6)
                    have nD3p : D3 ≠ lp := Ne.symm (ne_of_none e39 hD3)
                    have nD36 : D3 ≠ l6 := ne_of_none ((s12.trans s13) _ _ eD3) hl6
                    refine ⟨_, rfl, .inl ⟨rfl, _, SqL.of e15⟩, _, rfl, lp, _, _, rfl, rfl, e15, ?_, ?_⟩
                    · rw [List.length_map, ri.plen]; exact small1000 (by omega)
                    have b16 : But lp (upd (upd H12 l5 (.lst [rh])) l6 (.lst (fs ++ [rh]))) (upd (upd (upd H12 l5 (.lst [rh])) l6 (.lst (fs ++ [rh]))) lp (.lst (st.2.2.map V.int ++ [V.int ((i : Nat) : Int)]))) := But.upd e15
                    refine ⟨D3, l6, zs, fs ++ [rh], _, _, _, _, rfl, Same.own (s9.trans s15) hlpn, hD3n, hl6n, nD36, nD3p, nl6p, ?_, ?_, ?_, ?_, ?_⟩
                    · rw [upd_ne nD3p]; exact (s12.trans s14) _ _ eD3
                    · rw [upd_ne nl6p]; exact upd_same
                    · rw [upd_same, List.map_append]; rfl
                    · exact Paired.mapP (Tps.mono (s12.trans s14) t10) fun _ _ q => q.but b16
                    · refine papp (Paired.mapP (Tps.mono s14 t12) fun _ _ q => q.but b16) (.cons ?_ .nil)
                      exact ((thd9.mono s15)).but b16
          · have hnil : st.1.filter (fun r => r.getD i 0 != 0) = [] := by
              cases e : st.1.filter (fun r => r.getD i 0 != 0) with
              | nil => rfl
              | cons a r =>
                rw [e] at t3
                cases t3
                simp at c
            have est : redStep p st i = st := by
              unfold redStep
              rw [hnil]
            rw [est]
            exact ⟨lr, lf, vr, vf, _, _, _, _, rfl, s4.trans s5, nlr, nlf, hrf, hrp, hfp, s5 _ _ e1, s5 _ _ e2, s5 _ _ e3, Tps.mono s5 t1, Tps.mono s5 t2⟩
      · rintro σ H' ⟨lr, lf, vr, vf, y1, y2, y3, y4, rfl, s4, nlr, nlf, hrf, hrp, hfp, e1, e2, e3, t1, t2⟩
        refine ⟨_, rfl, lf, _, rfl, .inl ⟨SqL.of e2, fun p1 hp1 => ?_⟩⟩
        have s5 : Same H' (upd H' p1 (.tup vf)) := (Same.refl _).put hp1
        refine ⟨_, rfl, lp, _, rfl, .inl ⟨SqL.of (s5 _ _ e3), fun p2 hp2 => ?_⟩⟩
        have s6 := s5.put hp2 (o := .tup (((List.range n).foldl (redStep p) (rows, [], [])).2.2.map V.int))
        refine ⟨by show 2 ≤ sizeLine; decide, fun p3 hp3 => ?_⟩
        have s7 := s6.put hp3 (o := .tup [.ref p1, .ref p2])
        refine k _ _ (s4.trans s7) ⟨p3, p1, p2, vf, rfl, upd_same, ?_, Tps.mono s7 t2, ?_⟩
        · rw [upd_ne (ne_of_none (by rw [upd_ne (ne_of_none upd_same hp2)]; exact upd_same) hp3), upd_ne (ne_of_none upd_same hp2), upd_same]
        · rw [upd_ne (ne_of_none upd_same hp3), upd_same]; rfl
    · refine ⟨_, (pss_cons (ps_setLc (i := 3) (own := [("row", 9)]) (g := gName 9) (tt := tYes) rfl sc_reduced.nd rfl rfl (sw_true rfl rfl rfl (by decide +kernel)) (pi_tup (pv 0)) (blkOk_by (N := ["rows", "width", "p", "rest", "found", "pivots", "at", "heads", "head", "row"]) (sc := defScope s_reduced) (by decide +kernel)) (fun _ _ _ _ _ => (pg_name (i := 9) sc_reduced.nd rfl (Or.inl rfl))) (fun _ _ _ _ _ => pts_nil) (fun _ _ _ _ _ => (pe_callTy (call_tupK K) (by rfl) T.tuple (by decide +kernel) (pa_cons (pv 9) pa_nil))))
      (pss_cons (ps_set (i := 4) sc_reduced.nd rfl (Or.inl rfl) (pe_lst pa_nil))
      (pss_cons (ps_set (i := 5) sc_reduced.nd rfl (Or.inl rfl) (pe_lst pa_nil))
      (pss_cons (ps_for PassesOwn.never rfl (pi_range1 rfl T.range (pa_cons (pv 1) pa_nil)) (pg_name (i := 6) sc_reduced.nd rfl (Or.inr rfl))
      (pss_cons (ps_setLc (i := 7) (own := [("row", 9)]) (g := gName 9) rfl sc_reduced.nd rfl rfl (sw_true rfl rfl rfl (by decide +kernel)) (pi_list (pv 3)) (blkOk_by (N := ["rows", "width", "p", "rest", "found", "pivots", "at", "heads", "head", "row"]) (sc := defScope s_reduced) (by decide +kernel)) (fun _ _ _ _ _ => (pg_name (i := 9) sc_reduced.nd rfl (Or.inl rfl))) (fun _ _ _ _ _ => pts_one (pt_cmpR op_ne (pe_ix (ix_tupK K) (pv 9) (pv 6) (fun _ _ => rfl)) pe_int (nomark _))) (fun _ _ _ _ _ => (pv 9)))
      (pss_one (ps_if (pt_cmpR op_gt (pe_callB (call_lenK K) (by rfl) T.len PySem.boot_len (pa_cons (pv 7) pa_nil)) pe_int (nomark _)) (pss_cons (ps_set (i := 8) sc_reduced.nd rfl (Or.inr rfl) (pe_c c_scaled hr (by decide) rfl (pa_cons (pe_ix (ix_listK K) (pv 7) pe_int (fun _ _ => rfl)) (pa_cons (pe_c c_inverse hr (by decide) rfl (pa_cons (pe_ix (ix_tupK K) (pe_ix (ix_listK K) (pv 7) pe_int (fun _ _ => rfl)) (pv 6) (fun _ _ => rfl)) (pa_cons (pv 2) pa_nil))) (pa_cons (pv 2) pa_nil)))))
      (pss_cons (ps_expr (pe_bm PySem.F.plainAttrs_list PySem.F.slot_list_remove PySem.F.type_list_remove (mt_removeDK K (hu65 hr)) (pv 3) (pa_cons (pe_ix (ix_listK K) (pv 7) pe_int (fun _ _ => rfl)) pa_nil)))
      (pss_cons (ps_setLc (i := 3) (own := [("row", 9)]) (g := gName 9) (tt := tYes) rfl sc_reduced.nd rfl rfl (sw_true rfl rfl rfl (by decide +kernel)) (pi_list (pv 3)) (blkOk_by (N := ["rows", "width", "p", "rest", "found", "pivots", "at", "heads", "head", "row"]) (sc := defScope s_reduced) (by decide +kernel)) (fun _ _ _ _ _ => (pg_name (i := 9) sc_reduced.nd rfl (Or.inl rfl))) (fun _ _ _ _ _ => pts_nil) (fun _ _ _ _ _ => (pe_c c_cleared hr (by decide) rfl (pa_cons (pv 9) (pa_cons (pv 8) (pa_cons (pv 6) (pa_cons (pv 2) pa_nil)))))))
      (pss_cons (ps_set (i := 4) sc_reduced.nd rfl (Or.inl rfl) (pe_op op_cat (pe_lc (own := [("row", 9)]) (g := gName 9) (tt := tYes) rfl sc_reduced.nd (pi_list (pv 4)) (blkOk_by (N := ["rows", "width", "p", "rest", "found", "pivots", "at", "heads", "head", "row"]) (sc := defScope s_reduced) (by decide +kernel)) (fun _ _ _ _ _ => (pg_name (i := 9) sc_reduced.nd rfl (Or.inl rfl))) (fun _ _ _ _ _ => pts_nil) (fun _ _ _ _ _ => (pe_c c_cleared hr (by decide) rfl (pa_cons (pv 9) (pa_cons (pv 8) (pa_cons (pv 6) (pa_cons (pv 2) pa_nil))))))) (pe_lst (pa_cons (pv 8) pa_nil))))
      (pss_one (ps_expr (pe_bm PySem.F.plainAttrs_list PySem.F.slot_list_append PySem.F.type_list_append mt_append (pv 5) (pa_cons (pv 6) pa_nil)))))))) pss_nil))))
      (pss_one (ps_ret (pe_tup (pa_cons (pe_callTy (call_tupK K) (by rfl) T.tuple (by decide +kernel) (pa_cons (pv 4) pa_nil)) (pa_cons (pe_callTy (call_tupK K) (by rfl) T.tuple (by decide +kernel) (pa_cons (pv 5) pa_nil)) pa_nil))))))))), ?_⟩
      refine ⟨_, rfl, t, rfl, ⟨_, SqT.of ht⟩, fun D hD => lc_map rows (fun r => r) Tp (walks_tup (SqT.of ht)) hlen (small1000 (by omega)) hD Tp.monoD (fun i x z H1 Q1 hx hz s1 _ q => ?_) (fun H1 ys s1 hD1 hp1 => ?_)⟩
      · obtain ⟨z', hz', tz⟩ := pget hps hx
        obtain rfl : z' = z := by rw [hz'] at hz; exact Option.some.inj hz
        obtain ⟨b, rfl, hb⟩ := tz.mono s1
        exact ⟨_, rfl, b, _, rfl, .inr ⟨SqT.of hb, q _ _ (Same.refl H1) ⟨b, rfl, hb⟩⟩⟩
      rw [List.map_id'] at hp1
      have hlen1 := plen hp1
      refine ⟨Nat.zero_le _, fun lf hlf => ⟨Nat.zero_le _, fun lp hlp => ⟨_, rfl, _, rfl, by omega, by omega, ?_⟩⟩⟩
      have hDn : H D = none := hD
      have s2 : Same H1 (upd H1 lf (.lst [])) := (Same.refl H1).put hlf
      have s3 : Same (upd H1 lf (.lst [])) (upd (upd H1 lf (.lst [])) lp (.lst [])) := (Same.refl _).put hlp
      have hlfn : H lf = none := s1.free hlf
      have hlpn : H lp = none := (s1.trans s2).free hlp
      have nfp : lf ≠ lp := ne_of_none upd_same hlp
      have ndf : D ≠ lf := ne_of_none hD1 hlf
      have ndp : D ≠ lp := ne_of_none (s2 _ _ hD1) hlp
      have eN : (((n : Nat) : Int)).toNat = n := by omega
      rw [eN]
      refine for_range (lo := 0) (n := n) (fun i σ H' => ∃ lr lf vr vf y1 y2 y3 y4, σ = [some (.ref t), some (.int ((n : Nat) : Int)), some (.int p), some (.ref lr), some (.ref lf), some (.ref lp), y1, y2, y3, y4] ∧ Same H H' ∧ H lr = none ∧ H lf = none ∧ lr ≠ lf ∧ lr ≠ lp ∧ lf ≠ lp ∧
        H' lr = some (.lst vr) ∧ H' lf = some (.lst vf) ∧ H' lp = some (.lst (((List.range i).foldl (redStep p) (rows, [], [])).2.2.map V.int)) ∧ Tps H' vr ((List.range i).foldl (redStep p) (rows, [], [])).1 ∧ Tps H' vf ((List.range i).foldl (redStep p) (rows, [], [])).2.1)
        ⟨D, lf, ys, [], _, _, _, _, rfl, (s1.trans s2).trans s3, hDn, hlfn, ndf, ndp, nfp, s3 _ _ (s2 _ _ hD1), s3 _ _ upd_same, upd_same, Tps.mono (s2.trans s3) hp1, .nil⟩ ?_ ?_
      · rintro i σ H' hi ⟨lr, lf, vr, vf, y1, y2, y3, y4, rfl, s4, nlr, nlf, hrf, hrp, hfp, e1, e2, e3, t1, t2⟩
        rw [Int.zero_add]
        have ri := redRun_ri hp hrows i (by omega)
        rw [foldl_range_succ]
        generalize (List.range i).foldl (redStep p) (rows, [], []) = st at e3 t1 t2 ri
        have lr1 := plen t1
        have lf1 := plen t2
        have hri := ri.len
        have hrf1 := ri.flen
        refine ⟨_, rfl, lr, rfl, ⟨_, SqL.of e1⟩, fun D2 hD2 => lc_gen st.1 (fun r => if r.getD i 0 != 0 then some r else none) Tp (walks_list (SqL.of e1)) lr1 (small1000 (by omega)) hD2 Tp.monoD ?_ ?_⟩
        · rintro j x z H2 Q1 Qn hx hz s5 - hn hs
          obtain ⟨z', hz', tz⟩ := pget t1 hx
          obtain rfl : z' = z := by rw [hz'] at hz; exact Option.some.inj hz
          have hwz := ri.rest z' (List.mem_of_getElem? hz')
          obtain ⟨b, rfl, hb⟩ := tz.mono s5
          refine ⟨_, rfl, _, rfl, b, _, _, _, rfl, rfl, SqT.of hb, atI_get (i := i) (by rw [hwz.1]; exact hi), rfl, _, rfl, ite2 (fun c => ?_) (fun c => ?_)⟩
          · have c' : (z'.getD i 0 != 0) = true := by simpa using c
            exact ⟨_, rfl, hs z' (by rw [if_pos c']) _ _ (Same.refl H2) ⟨b, rfl, hb⟩⟩
          · have c' : ¬ (z'.getD i 0 != 0) = true := by simpa using c
            exact hn (by rw [if_neg c']) _ (Same.refl H2)
        · intro H2 hs s5 eD2 t3
          rw [filt_eq] at t3
          refine ⟨_, rfl, D2, _, rfl, .inl (SqL.of eD2), _, _, rfl, rfl, _, rfl, ite2 (fun c => ?_) (fun c => ?_)⟩
          · have hne : st.1.filter (fun r => r.getD i 0 != 0) ≠ [] := by
              intro e
              rw [e] at t3
              cases t3
              simp at c
            obtain ⟨hd, tl, ef⟩ := List.exists_cons_of_ne_nil hne
            rw [ef] at t3
            cases t3 with
            | @cons v0 _ vt _ th tt =>
              have hm2 : hd ∈ st.1.filter (fun r => r.getD i 0 != 0) := by rw [ef]; exact List.mem_cons_self
              obtain ⟨hm, hnz⟩ := List.mem_filter.mp hm2
              have hwd := ri.rest hd hm
              have hnz' : hd.getD i 0 ≠ 0 := by simpa using hnz
              have hbd := getD_mem hwd.2 (show i < hd.length by rw [hwd.1]; exact hi)
              have hio : InvOk (hd.getD i 0) p := inv_ex hp hbd.1 hbd.2 hnz'
              have est : redStep p st i = ((st.1.erase hd).map (fun r => cleared r (scaled hd (inv (hd.getD i 0) p) p) i p), st.2.1.map (fun r => cleared r (scaled hd (inv (hd.getD i 0) p) p) i p) ++ [scaled hd (inv (hd.getD i 0) p) p], st.2.2 ++ [((i : Nat) : Int)]) := by
                unfold redStep
                rw [ef]
              rw [est]
              have hwh := scaled_wn hp hwd (inv (hd.getD i 0) p)
              generalize hhead : scaled hd (inv (hd.getD i 0) p) p = head at hwh
              have s6 := s4.trans s5
              obtain ⟨b0, rfl, hb0⟩ := th
              refine ⟨_, rfl, D2, _, 0, _, rfl, rfl, SqL.of eD2, atI_0, _, rfl, D2, _, 0, _, rfl, rfl, SqL.of eD2, atI_0, _, rfl, b0, _, _, _, rfl, rfl, SqT.of hb0, atI_get (i := i) (by rw [hwd.1]; exact hi), _, rfl, _, p, rfl, hp, hio, _, rfl, ?_⟩
              refine ⟨_, hd, _, p, rfl, ⟨b0, rfl, hb0⟩, hp, hwd.2, by rw [hwd.1]; omega, ?_⟩
              intro rh H3 s7 thd
              rw [hhead] at thd
              have s8 := s6.trans s7
              have e1' := (s5.trans s7) _ _ e1
              have e2' := (s5.trans s7) _ _ e2
              have e3' := (s5.trans s7) _ _ e3
              have nD2r : D2 ≠ lr := Ne.symm (ne_of_none e1 hD2)
              have nD2f : D2 ≠ lf := Ne.symm (ne_of_none e2 hD2)
              refine ⟨_, rfl, .inl ⟨rfl, _, SqL.of e1'⟩, _, rfl, D2, _, 0, _, rfl, rfl, SqL.of (s7 _ _ eD2), atI_0, ?_⟩
              dsimp only [tNil]
              refine rem_tps e1' (Tps.mono (s5.trans s7) t1) ⟨b0, rfl, s7 _ _ hb0⟩ hm fun us tus => ?_
              have b9 : But lr H3 (upd H3 lr (.lst us)) := But.upd e1'
              have s9 : Same H (upd H3 lr (.lst us)) := Same.own s8 nlr
              have thd9 : Tp (upd H3 lr (.lst us)) rh head := thd.but b9
              have tus9 : Tps (upd H3 lr (.lst us)) us (st.1.erase hd) := Paired.mapP tus fun _ _ q => q.but b9
              have t29 : Tps (upd H3 lr (.lst us)) vf st.2.1 := Paired.mapP (Tps.mono (s5.trans s7) t2) fun _ _ q => q.but b9
              have e29 : upd H3 lr (.lst us) lf = some (.lst vf) := by rw [upd_ne (Ne.symm hrf)]; exact e2'
              have e39 : upd H3 lr (.lst us) lp = some (.lst (st.2.2.map V.int)) := by rw [upd_ne (Ne.symm hrp)]; exact e3'
              have e19 : upd H3 lr (.lst us) lr = some (.lst us) := upd_same
              have ele : (st.1.erase hd).length ≤ 1000 := Nat.le_trans List.length_erase_le (by omega)
              show tSeq _ _ _ _ (upd H3 lr (.lst us))
              generalize upd H3 lr (.lst us) = H9 at s9 thd9 tus9 t29 e29 e39 e19
              have lus := plen tus9
              refine ⟨_, rfl, lr, rfl, ⟨_, SqL.of e19⟩, fun D3 hD3 => lc_map (st.1.erase hd) (fun r => cleared r head i p) Tp (walks_list (SqL.of e19)) lus (small1000 (by omega)) hD3 Tp.monoD ?_ ?_⟩
              · rintro j x z H2' Q1 hx hz s10 - q
                obtain ⟨z', hz', tz⟩ := pget tus9 hx
                obtain rfl : z' = z := by rw [hz'] at hz; exact Option.some.inj hz
                have hwz := ri.rest z' (List.mem_of_mem_erase (List.mem_of_getElem? hz'))
                exact ⟨_, rfl, _, rfl, _, rfl, _, rfl, _, _, z', head, i, p, rfl, tz.mono s10, thd9.mono s10, hp, hwh.2, by rw [hwh.1, hwz.1], by rw [hwz.1]; exact hi, by rw [hwz.1]; omega, fun r H' s q' => q r H' s q'⟩
              · intro H10 zs s10 eD3 t10
                have s11 := s9.trans s10
                have hD3n : H D3 = none := s9.free hD3
                refine ⟨_, rfl, lf, rfl, ⟨_, SqL.of (s10 _ _ e29)⟩, fun D4 hD4 => lc_map st.2.1 (fun r => cleared r head i p) Tp (walks_list (SqL.of (s10 _ _ e29))) lf1 (small1000 (by omega)) hD4 Tp.monoD ?_ ?_⟩
                · rintro j x z H2' Q1 hx hz s12 - q
                  obtain ⟨z', hz', tz⟩ := pget (Tps.mono s10 t29) hx
                  obtain rfl : z' = z := by rw [hz'] at hz; exact Option.some.inj hz
                  have hwz := ri.found z' (List.mem_of_getElem? hz')
                  exact ⟨_, rfl, _, rfl, _, rfl, _, rfl, _, _, z', head, i, p, rfl, tz.mono s12, thd9.mono (s10.trans s12), hp, hwh.2, by rw [hwh.1, hwz.1], by rw [hwz.1]; exact hi, by rw [hwz.1]; omega, fun r H' s q' => q r H' s q'⟩
                · intro H12 fs s12 eD4 t12
                  refine ⟨_, rfl, (by show 1 ≤ sizeLine; decide), fun l5 hl5 => ⟨D4, l5, fs, [rh], rfl, rfl, ?_, upd_same, ?_, fun l6 hl6 => ?_⟩⟩
                  · rw [upd_ne (ne_of_none eD4 hl5)]; exact eD4
                  · have := plen t12
                    rw [List.length_map] at this
                    exact Nat.le_of_lt (small1000 (by simp; omega))
                  · have s13 : Same H12 (upd H12 l5 (.lst [rh])) := (Same.refl _).put hl5
                    have s14 := s13.put hl6 (o := .lst (fs ++ [rh]))
                    have s15 := (s10.trans s12).trans s14
                    have e15 := s15 _ _ e39
                    have hl6n : H l6 = none := (s9.trans ((s10.trans s12).trans s13)).free hl6
                    have nl6p : l6 ≠ lp := Ne.symm (ne_of_none (((s10.trans s12).trans s13) _ _ e39) hl6)
                    have nD3p : D3 ≠ lp := Ne.symm (ne_of_none e39 hD3)
                    have nD36 : D3 ≠ l6 := ne_of_none ((s12.trans s13) _ _ eD3) hl6
                    refine ⟨_, rfl, .inl ⟨rfl, _, SqL.of e15⟩, _, rfl, lp, _, _, rfl, rfl, e15, ?_, ?_⟩
                    · rw [List.length_map, ri.plen]; exact small1000 (by omega)
                    have b16 : But lp (upd (upd H12 l5 (.lst [rh])) l6 (.lst (fs ++ [rh]))) (upd (upd (upd H12 l5 (.lst [rh])) l6 (.lst (fs ++ [rh]))) lp (.lst (st.2.2.map V.int ++ [V.int ((i : Nat) : Int)]))) := But.upd e15
                    refine ⟨D3, l6, zs, fs ++ [rh], _, _, _, _, rfl, Same.own (s9.trans s15) hlpn, hD3n, hl6n, nD36, nD3p, nl6p, ?_, ?_, ?_, ?_, ?_⟩
                    · rw [upd_ne nD3p]; exact (s12.trans s14) _ _ eD3
                    · rw [upd_ne nl6p]; exact upd_same
                    · rw [upd_same, List.map_append]; rfl
                    · exact Paired.mapP (Tps.mono (s12.trans s14) t10) fun _ _ q => q.but b16
                    · refine papp (Paired.mapP (Tps.mono s14 t12) fun _ _ q => q.but b16) (.cons ?_ .nil)
                      exact ((thd9.mono s15)).but b16
          · have hnil : st.1.filter (fun r => r.getD i 0 != 0) = [] := by
              cases e : st.1.filter (fun r => r.getD i 0 != 0) with
              | nil => rfl
              | cons a r =>
                rw [e] at t3
                cases t3
                simp at c
            have est : redStep p st i = st := by
              unfold redStep
              rw [hnil]
            rw [est]
            exact ⟨lr, lf, vr, vf, _, _, _, _, rfl, s4.trans s5, nlr, nlf, hrf, hrp, hfp, s5 _ _ e1, s5 _ _ e2, s5 _ _ e3, Tps.mono s5 t1, Tps.mono s5 t2⟩
      · rintro σ H' ⟨lr, lf, vr, vf, y1, y2, y3, y4, rfl, s4, nlr, nlf, hrf, hrp, hfp, e1, e2, e3, t1, t2⟩
        refine ⟨_, rfl, lf, _, rfl, .inl ⟨SqL.of e2, fun p1 hp1 => ?_⟩⟩
        have s5 : Same H' (upd H' p1 (.tup vf)) := (Same.refl _).put hp1
        refine ⟨_, rfl, lp, _, rfl, .inl ⟨SqL.of (s5 _ _ e3), fun p2 hp2 => ?_⟩⟩
        have s6 := s5.put hp2 (o := .tup (((List.range n).foldl (redStep p) (rows, [], [])).2.2.map V.int))
        refine ⟨by show 2 ≤ sizeLine; decide, fun p3 hp3 => ?_⟩
        have s7 := s6.put hp3 (o := .tup [.ref p1, .ref p2])
        refine k _ _ (s4.trans s7) ⟨p3, p1, p2, vf, rfl, upd_same, ?_, Tps.mono s7 t2, ?_⟩
        · rw [upd_ne (ne_of_none (by rw [upd_ne (ne_of_none upd_same hp2)]; exact upd_same) hp3), upd_ne (ne_of_none upd_same hp2), upd_same]
        · rw [upd_ne (ne_of_none upd_same hp3), upd_same]; rfl
end
end Wk
namespace Wk
open PySem L2
open C8 (Cal Met Mak pe_c pe_mk pe_mt pe_mt0)
section
variable {P : Program} {w : World} {K : PySem.W.Frag} {mg : Str → Option Value} {base : Heap}
/-! ### the law's sum and multiple -/
abbrev s__law_scaled : Stmt := top 47
theorem sc__law_scaled : FnScope ["_law_v", "_law_a", "_law_p", "_law_x"] ["_law_v", "_law_a", "_law_p"] (defScope s__law_scaled) := ⟨rfl, rfl, rfl, by decide +kernel, rfl, by decide +kernel, by decide +kernel⟩
def sp__law_scaled : Sp := sp_scaled
theorem ok__law_scaled {f : Addr} {fd : FuncData} (F : Fun K "_law_scaled" "_law_scaled" s__law_scaled f fd) (T : Txt K mg)   : FnOk P w K mg base CX0 1 f fd ["_law_v", "_law_a", "_law_p"] sp__law_scaled := by
  refine F.ok sc__law_scaled (fun vs H Q E h => ?_) (fun cdv A outer s H vs Q E hr h => ?_)
  · obtain ⟨v, w, a, p, rfl, _⟩ := h
    rfl
  · obtain ⟨v, w, a, p, rfl, ⟨t, rfl, ht⟩, hp, hw, hl, k⟩ := h
    refine ⟨_, (pss_one (ps_ret (pe_callTy (call_tupK K) (by rfl) T.tuple (by decide +kernel) (pa_cons (pe_lc (own := [("_law_x", 3)]) (g := gName 3) (tt := tYes) rfl sc__law_scaled.nd (pi_tup (pv 0)) (blkOk_by (N := ["_law_v", "_law_a", "_law_p", "_law_x"]) (sc := defScope s__law_scaled) (by decide +kernel)) (fun _ _ _ _ _ => (pg_name (i := 3) sc__law_scaled.nd rfl (Or.inl rfl))) (fun _ _ _ _ _ => pts_nil) (fun _ _ _ _ _ => (pe_op op_mod (pe_callTy call_int1 (by rfl) T.int (by decide +kernel) (pa_cons (pe_op op_mul (pv 3) (pv 1)) pa_nil)) (pv 2)))) pa_nil)))), ?_⟩
    refine ⟨_, rfl, t, rfl, ⟨_, SqT.of ht⟩, fun D hD => lc_map w (fun x => x * a % p) Ri (walks_tup (SqT.of ht)) (by simp) (by rw [List.length_map]; exact small1000 (by omega)) hD Ri.mono ?_ ?_⟩
    · rintro i x z H1 Q1 hx hz s1 - q
      obtain rfl := map_int hx hz
      have hz0 := hw z (List.mem_of_getElem? hz)
      have hp7 := hp.pos
      exact ⟨_, rfl, _, rfl, _, _, rfl, rfl, .inl (by omega), .inl ⟨_, rfl, _, rfl, _, _, rfl, rfl, hp7.1, q _ _ (Same.refl _) rfl⟩⟩
    · intro H1 ys s1 hD1 hp
      obtain rfl := paired_int hp
      exact ⟨_, _, rfl, .inl ⟨SqL.of hD1, fun l hl => k _ _ (s1.put hl) Tp.new⟩⟩
abbrev s__law_sum : Stmt := top 46
theorem sc__law_sum : FnScope ["_law_v", "_law_w", "_law_p", "_law_k"] ["_law_v", "_law_w", "_law_p"] (defScope s__law_sum) := ⟨rfl, rfl, rfl, by decide +kernel, rfl, by decide +kernel, by decide +kernel⟩
def sp__law_sum : Sp := sp_add
theorem ok__law_sum {f : Addr} {fd : FuncData} (F : Fun K "_law_sum" "_law_sum" s__law_sum f fd) (T : Txt K mg)   : FnOk P w K mg base CX0 1 f fd ["_law_v", "_law_w", "_law_p"] sp__law_sum := by
  refine F.ok sc__law_sum (fun vs H Q E h => ?_) (fun cdv A outer s H vs Q E hr h => ?_)
  · obtain ⟨v, w, a, b, p, rfl, _⟩ := h
    rfl
  · obtain ⟨v, w, a, b, p, rfl, ⟨t, rfl, ht⟩, ⟨u, rfl, hu⟩, hp, hab, hl, k⟩ := h
    refine ⟨_, (pss_one (ps_ret (pe_callTy (call_tupK K) (by rfl) T.tuple (by decide +kernel) (pa_cons (pe_lc (own := [("_law_k", 3)]) (g := gName 3) (tt := tYes) rfl sc__law_sum.nd (pi_range1 rfl T.range (pa_cons (pe_callB (call_lenK K) (by rfl) T.len PySem.boot_len (pa_cons (pv 0) pa_nil)) pa_nil)) (blkOk_by (N := ["_law_v", "_law_w", "_law_p", "_law_k"]) (sc := defScope s__law_sum) (by decide +kernel)) (fun _ _ _ _ _ => (pg_name (i := 3) sc__law_sum.nd rfl (Or.inl rfl))) (fun _ _ _ _ _ => pts_nil) (fun _ _ _ _ _ => (pe_op op_mod (pe_callTy call_int1 (by rfl) T.int (by decide +kernel) (pa_cons (pe_op op_add (pe_ix (ix_tupK K) (pv 0) (pv 3) (fun _ _ => rfl)) (pe_ix (ix_tupK K) (pv 1) (pv 3) (fun _ _ => rfl))) pa_nil)) (pv 2)))) pa_nil)))), ?_⟩
    have hp7 := hp.pos
    refine ⟨_, rfl, t, _, rfl, .inr (SqT.of ht), _, rfl, by rw [List.length_map]; omega, by rw [List.length_map]; omega, fun D hD => lc_map (List.range a.length) (fun i => (a.getD i 0 + b.getD i 0) % p) Ri (n := a.length) (by rw [List.length_map]; exact walks_range) (by simp) (small1000 (by omega)) hD Ri.mono ?_ ?_⟩
    · rintro i x z H1 Q1 rfl hz s1 - q
      obtain ⟨rfl, hi⟩ := range_at hz
      rw [Int.zero_add]
      exact ⟨_, rfl, _, rfl, t, _, _, _, rfl, rfl, SqT.of (s1 _ _ ht), atI_get hi, _, rfl, _, rfl, u, _, _, _, rfl, rfl, SqT.of (s1 _ _ hu), atI_get (by omega), _, _, rfl, rfl, .inl ⟨_, rfl, _, rfl, _, _, rfl, rfl, hp7.1, q _ _ (Same.refl _) rfl⟩⟩
    · intro H1 ys s1 hD1 hp
      obtain rfl := paired_int hp
      rw [zip_range a b p hab] at hD1
      exact ⟨_, _, rfl, .inl ⟨SqL.of hD1, fun l hl => k _ _ (s1.put hl) Tp.new⟩⟩
/-! ### the law's trimmed -/
abbrev s__law_trimmed : Stmt := top 53
theorem sc__law_trimmed : FnScope ["_law_row", "_law_out", "_law_k"] ["_law_row"] (defScope s__law_trimmed) := ⟨rfl, rfl, rfl, by decide +kernel, rfl, by decide +kernel, by decide +kernel⟩
def sp__law_trimmed : Sp := sp_trimmed
theorem ok__law_trimmed {f : Addr} {fd : FuncData} (F : Fun K "_law_trimmed" "_law_trimmed" s__law_trimmed f fd) (T : Txt K mg)   : FnOk P w K mg base CX0 1 f fd ["_law_row"] sp__law_trimmed := by
  refine F.ok sc__law_trimmed (fun vs H Q E h => ?_) (fun cdv A outer s H vs Q E hr h => ?_)
  · obtain ⟨v, w, rfl, _⟩ := h
    rfl
  · obtain ⟨v, w, rfl, ⟨t, rfl, ht⟩, hl, k⟩ := h
    refine ⟨_, (pss_cons (ps_set (i := 1) sc__law_trimmed.nd rfl (Or.inl rfl) (pe_callTy (call_listK K) (by rfl) T.list (by decide +kernel) (pa_cons (pv 0) pa_nil)))
      (pss_cons (ps_for PassesOwn.never rfl (pi_range1 rfl T.range (pa_cons (pe_callB (call_lenK K) (by rfl) T.len PySem.boot_len (pa_cons (pv 0) pa_nil)) pa_nil)) (pg_name (i := 2) sc__law_trimmed.nd rfl (Or.inl rfl))
      (pss_one (ps_if (PW.pt (pw_and (pt_cmpR op_gt (pe_callB (call_lenK K) (by rfl) T.len PySem.boot_len (pa_cons (pv 1) pa_nil)) pe_int (nomark _)) (pw_and1 (pt_cmpR op_eq (pe_ix (ix_listK K) (pv 1) (pe_un un_neg pe_int) (fun _ _ => rfl)) pe_int (nomark _))))) (pss_one (ps_set (i := 1) sc__law_trimmed.nd rfl (Or.inl rfl) (pe_slice (sl_listK K) (pv 1) po_none (po_some (pe_un un_neg pe_int))))) pss_nil)))
      (pss_one (ps_ret (pe_callTy (call_tupK K) (by rfl) T.tuple (by decide +kernel) (pa_cons (pv 1) pa_nil)))))), ?_⟩
    have hs : ∀ {H' : Hp}, Same H H' → SqL K H' t (w.map V.int) ∨ SqT K H' t (w.map V.int) := fun s => ht.elim (fun q => .inr (SqT.of (s _ _ q))) fun q => .inl (SqL.of (s _ _ q))
    refine ⟨_, rfl, t, _, rfl, hs (Same.refl H), fun l hln => ?_⟩
    have s1 : Same H (upd H l (.lst (w.map V.int))) := (Same.refl H).put hln
    refine ⟨_, rfl, t, _, rfl, hs s1, _, rfl, by rw [List.length_map]; omega, by rw [List.length_map]; omega, ?_⟩
    rw [List.length_map]
    refine for_range (lo := 0) (n := w.length) (fun i σ H' => ∃ l' u y, σ = [some (.ref t), some (.ref l'), y] ∧ Same H H' ∧ H' l' = some (.lst (u.map V.int)) ∧ u.length ≤ 100 ∧ trimmed u = trimmed w ∧ ((u = [] ∨ u.getLastD 0 ≠ 0) ∨ u.length + i ≤ w.length)) ⟨l, w, _, rfl, s1, upd_same, hl, rfl, .inr (Nat.le_refl _)⟩ ?_ ?_
    · rintro i σ H' hi ⟨l', u, y, rfl, s2, h2, hu, he, hor⟩
      refine ⟨_, rfl, l', _, rfl, .inl (SqL.of h2), _, _, rfl, rfl, _, rfl, ite2 (fun c => ?_) (fun c => ?_)⟩
      · have hne : u ≠ [] := by
          rintro rfl
          simp at c
        refine ⟨_, rfl, _, rfl, l', _, _, _, rfl, rfl, SqL.of h2, atI_getL hne, rfl, _, rfl, ite2 (fun c2 => ?_) (fun c2 => ?_)⟩
        · have hz : u.getLastD 0 = 0 := by simpa using c2
          refine ⟨_, rfl, ?_⟩
          dsimp only [tNoPart]
          refine ⟨_, rfl, _, rfl, l', _, rfl, SqL.of h2, fun q hq => ⟨q, u.dropLast, _, rfl, s2.put hq, ?_, ?_, by rw [← he, trimmed_zero hne hz], .inr ?_⟩⟩
          · rw [upd_same, cutV_int]
            have ec : cutI u none (some (-1)) = u.dropLast := by
              unfold cutI
              rw [HT.sIx_none]
              have e2 : HT.sIx u.length u.length (some (-1)) = u.length - 1 := by
                have := List.length_pos_iff.mpr hne
                unfold HT.sIx
                dsimp only
                rw [if_pos (by decide)]; omega
              rw [e2, List.dropLast_eq_take]
              rfl
            rw [ec]
          · rw [List.length_dropLast]; omega
          · have hp := List.length_pos_iff.mpr hne
            rw [List.length_dropLast]
            rcases hor with (h | h) | h
            · exact absurd h hne
            · exact absurd hz h
            · omega
        · exact ⟨l', u, _, rfl, s2, h2, hu, he, .inl (.inr (by simpa using c2))⟩
      · have he0 : u = [] := by
          cases u with
          | nil => rfl
          | cons a r => simp at c
        exact ⟨l', u, _, rfl, s2, h2, hu, he, .inl (.inl he0)⟩
    · rintro σ H' ⟨l', u, y, rfl, s2, h2, hu, he, hor⟩
      refine ⟨_, rfl, l', _, rfl, .inl ⟨SqL.of h2, fun q hq => k _ _ (s2.put hq) ?_⟩⟩
      have hst : u = [] ∨ u.getLastD 0 ≠ 0 := by
        rcases hor with h | h
        · exact h
        · exact .inl (List.eq_nil_of_length_eq_zero (by omega))
      rw [← he, trimmed_stop hst]
      exact Tp.new
/-! ### the law's product -/
abbrev s__law_times : Stmt := top 54
theorem sc__law_times : FnScope ["_law_a", "_law_b", "_law_p", "_law_out", "_law_i", "_law_j", "_law_k"] ["_law_a", "_law_b", "_law_p"] (defScope s__law_times) := ⟨rfl, rfl, rfl, by decide +kernel, rfl, by decide +kernel, by decide +kernel⟩
def sp__law_times : Sp := sp_times
theorem ok__law_times {f : Addr} {fd : FuncData} (F : Fun K "_law_times" "_law_times" s__law_times f fd) (T : Txt K mg) (c__law_trimmed : Cal P w K mg base 1 "_law_trimmed" sp__law_trimmed [])  : FnOk P w K mg base CX0 2 f fd ["_law_a", "_law_b", "_law_p"] sp__law_times := by
  refine F.ok sc__law_times (fun vs H Q E h => ?_) (fun cdv A outer s H vs Q E hr h => ?_)
  · obtain ⟨v, w, a, b, p, rfl, _⟩ := h
    rfl
  · obtain ⟨v, w, a, b, p, rfl, ⟨t, rfl, ht⟩, ⟨u, rfl, hu⟩, hp, ha, hal, hbl, k⟩ := h
    refine ⟨_, (pss_cons (ps_setLc (i := 3) (own := [("_law_k", 6)]) (g := gName 6) (tt := tYes) rfl sc__law_times.nd rfl rfl (sw_true rfl rfl rfl (by decide +kernel)) (pi_range1 rfl T.range (pa_cons (pe_op op_add (pe_callB (call_lenK K) (by rfl) T.len PySem.boot_len (pa_cons (pv 0) pa_nil)) (pe_callB (call_lenK K) (by rfl) T.len PySem.boot_len (pa_cons (pv 1) pa_nil))) pa_nil)) (blkOk_by (N := ["_law_a", "_law_b", "_law_p", "_law_out", "_law_i", "_law_j", "_law_k"]) (sc := defScope s__law_times) (by decide +kernel)) (fun _ _ _ _ _ => (pg_name (i := 6) sc__law_times.nd rfl (Or.inl rfl))) (fun _ _ _ _ _ => pts_nil) (fun _ _ _ _ _ => pe_int))
      (pss_cons (ps_for PassesOwn.never rfl (pi_range1 rfl T.range (pa_cons (pe_callB (call_lenK K) (by rfl) T.len PySem.boot_len (pa_cons (pv 0) pa_nil)) pa_nil)) (pg_name (i := 4) sc__law_times.nd rfl (Or.inl rfl))
      (pss_one (ps_for PassesOwn.never rfl (pi_range1 rfl T.range (pa_cons (pe_callB (call_lenK K) (by rfl) T.len PySem.boot_len (pa_cons (pv 1) pa_nil)) pa_nil)) (pg_name (i := 5) sc__law_times.nd rfl (Or.inl rfl))
      (pss_one (ps_asg (pe_op op_mod (pe_callTy call_int1 (by rfl) T.int (by decide +kernel) (pa_cons (pe_op op_add (pe_ix (ix_listK K) (pv 3) (pe_op op_add (pv 4) (pv 5)) (fun _ _ => rfl)) (pe_op op_mul (pe_ix (ix_tupK K) (pv 0) (pv 4) (fun _ _ => rfl)) (pe_ix (ix_tupK K) (pv 1) (pv 5) (fun _ _ => rfl)))) pa_nil)) (pv 2)) (pg_sub (pv 3) (pe_op op_add (pv 4) (pv 5)) set_list))))))
      (pss_one (ps_ret (pe_c c__law_trimmed hr (by decide) rfl (pa_cons (pv 3) pa_nil)))))), ?_⟩
    have hp7 := hp.pos
    refine ⟨_, rfl, t, _, rfl, .inr (SqT.of ht), _, rfl, u, _, rfl, .inr (SqT.of hu), _, _, rfl, rfl, _, rfl, by rw [List.length_map, List.length_map]; omega, by rw [List.length_map, List.length_map]; omega, ?_⟩
    rw [List.length_map, List.length_map]
    have en : (((a.length : Nat) : Int) + ((b.length : Nat) : Int)).toNat = a.length + b.length := by omega
    rw [en]
    refine fun l hln => lc_map (List.range (a.length + b.length)) (fun _ => (0 : Int)) Ri walks_range (by simp) (small1000 (by omega)) hln Ri.mono (fun i x z H1 Q1 hx hz s1 _ q => q _ _ (Same.refl _) rfl) fun H1 ys s1 e1 hp1 => ?_
    have e0 : (List.range (a.length + b.length)).map (fun _ => (0 : Int)) = List.replicate (a.length + b.length) 0 := by
      rw [List.map_const', List.length_range]
    rw [e0] at hp1
    obtain rfl := paired_int hp1
    have hln' : H l = none := hln
    refine ⟨_, rfl, t, _, rfl, .inr (SqT.of (s1 _ _ ht)), _, rfl, by rw [List.length_map]; omega, by rw [List.length_map]; omega, ?_⟩
    rw [List.length_map]
    refine for_range (lo := 0) (n := a.length) (fun i σ H' => (∃ x y z, σ = [some (.ref t), some (.ref u), some (.int p), some (.ref l), x, y, z]) ∧ Same H H' ∧ H' l = some (.lst (((List.range i).foldl (timesRow a b p) (List.replicate (a.length + b.length) 0)).map V.int))) ⟨⟨_, _, _, rfl⟩, s1, e1⟩ ?_ ?_
    · rintro i σ H' hi ⟨⟨x, y, zz, rfl⟩, s2, h2⟩
      rw [Int.zero_add]
      refine ⟨_, rfl, u, _, rfl, .inr (SqT.of (s2 _ _ hu)), _, rfl, by rw [List.length_map]; omega, by rw [List.length_map]; omega, ?_⟩
      rw [List.length_map]
      refine for_range (lo := 0) (n := b.length) (fun j σ H' => (∃ y zz, σ = [some (.ref t), some (.ref u), some (.int p), some (.ref l), some (.int ((i : Nat) : Int)), y, zz]) ∧ Same H H' ∧
        H' l = some (.lst (((List.range j).foldl (timesIn a b p i) ((List.range i).foldl (timesRow a b p) (List.replicate (a.length + b.length) 0))).map V.int))) ⟨⟨_, _, rfl⟩, s2, h2⟩ ?_ ?_
      · rintro j σ H' hj ⟨⟨y, zz, rfl⟩, s3, h3⟩
        rw [Int.zero_add]
        have hll : i + j < ((List.range j).foldl (timesIn a b p i) ((List.range i).foldl (timesRow a b p) (List.replicate (a.length + b.length) 0))).length := by
          rw [timesIns_len, timesRows_len, List.length_replicate]; omega
        have hai := getD_mem ha hi
        refine ⟨_, rfl, _, rfl, _, rfl, _, _, rfl, rfl, l, _, _, _, rfl, rfl, SqL.of h3, atI_get (i := i + j) hll, _, rfl, _, rfl, t, _, _, _, rfl, rfl, SqT.of (s3 _ _ ht), atI_get hi, _, rfl, _, rfl, u, _, _, _, rfl, rfl, SqT.of (s3 _ _ hu), atI_get hj, _, _, rfl, rfl, .inl (by omega), _, _, rfl, rfl, .inl ⟨_, rfl, _, rfl, _, _, rfl, rfl, hp7.1, ?_⟩⟩
        refine ⟨_, rfl, _, rfl, _, rfl, _, _, rfl, rfl, l, _, _, i + j, rfl, rfl, h3, ixN_nat (by rw [List.length_map]; exact hll), ⟨_, _, rfl⟩, Same.own s3 hln', ?_⟩
        rw [upd_same, map_seti, foldl_range_succ]
        rfl
      · rintro σ H' ⟨⟨y, zz, rfl⟩, s3, h3⟩
        refine ⟨⟨_, _, _, rfl⟩, s3, ?_⟩
        rw [h3, foldl_range_succ]
        rfl
    · rintro σ H' ⟨⟨x, y, zz, rfl⟩, s2, h2⟩
      exact ⟨_, rfl, _, _, rfl, ⟨l, rfl, .inr h2⟩, by rw [timesRows_len, List.length_replicate]; omega, fun r H2 s3 q => k r H2 (s2.trans s3) q⟩
/-! ### the law's unit -/
abbrev s__law_unit : Stmt := top 55
theorem sc__law_unit : FnScope ["_law_p", "_law_n", "_law_k"] ["_law_p", "_law_n"] (defScope s__law_unit) := ⟨rfl, rfl, rfl, by decide +kernel, rfl, by decide +kernel, by decide +kernel⟩
def sp__law_unit : Sp := sp_unit_polynomial
theorem ok__law_unit {f : Addr} {fd : FuncData} (F : Fun K "_law_unit" "_law_unit" s__law_unit f fd) (T : Txt K mg)   : FnOk P w K mg base CX0 1 f fd ["_law_p", "_law_n"] sp__law_unit := by
  refine F.ok sc__law_unit (fun vs H Q E h => ?_) (fun cdv A outer s H vs Q E hr h => ?_)
  · obtain ⟨p, n, rfl, _⟩ := h
    rfl
  · obtain ⟨p, n, rfl, hp, h1, h2, k⟩ := h
    refine ⟨_, (pss_one (ps_ret (pe_op (op_catAK K) (pe_op (op_catAK K) (pe_tup (pa_cons (pe_op op_sub (pv 0) pe_int) pa_nil)) (pe_callTy (call_tupK K) (by rfl) T.tuple (by decide +kernel) (pa_cons (pe_lc (own := [("_law_k", 2)]) (g := gName 2) (tt := tYes) rfl sc__law_unit.nd (pi_range1 rfl T.range (pa_cons (pe_op op_sub (pv 1) pe_int) pa_nil)) (blkOk_by (N := ["_law_p", "_law_n", "_law_k"]) (sc := defScope s__law_unit) (by decide +kernel)) (fun _ _ _ _ _ => (pg_name (i := 2) sc__law_unit.nd rfl (Or.inl rfl))) (fun _ _ _ _ _ => pts_nil) (fun _ _ _ _ _ => pe_int)) pa_nil))) (pe_tup (pa_cons pe_int pa_nil))))), ?_⟩
    refine ⟨_, rfl, _, _, rfl, rfl, (by show 1 ≤ sizeLine; decide), fun t1 ht1 => ⟨_, rfl, _, _, rfl, rfl, _, rfl, by omega, by omega, fun D hD => ?_⟩⟩
    have s1 : Same H (upd H t1 (.tup [.int (p - 1)])) := (Same.refl H).put ht1
    have en : (((n : Nat) : Int) - 1).toNat = n - 1 := by omega
    rw [en]
    refine lc_map (List.range (n - 1)) (fun _ => (0 : Int)) Ri walks_range (by simp) (small1000 (by omega)) hD Ri.mono (fun i x z H1 Q1 hx hz s1 _ q => q _ _ (Same.refl _) rfl) fun H1 ys s2 e1 hp1 => ?_
    have e0 : (List.range (n - 1)).map (fun _ => (0 : Int)) = List.replicate (n - 1) 0 := by
      rw [List.map_const', List.length_range]
    rw [e0] at hp1
    obtain rfl := paired_int hp1
    refine ⟨_, _, rfl, .inl ⟨SqL.of e1, fun q hq => ?_⟩⟩
    have s3 : Same H1 (upd H1 q (.tup ((List.replicate (n - 1) 0).map V.int))) := (Same.refl _).put hq
    refine cat_tp (a := [p - 1]) ⟨t1, rfl, (s2.trans s3) _ _ upd_same⟩ (Tp.new (w := List.replicate (n - 1) 0)) (by simp; omega) fun r4 H4 s4 q4 => ⟨by decide, fun t5 ht5 => ?_⟩
    have s5 : Same H4 (upd H4 t5 (.tup [.int 1])) := (Same.refl _).put ht5
    refine cat_tp (q4.mono s5) (b := [1]) ⟨t5, rfl, upd_same⟩ (by simp; omega) fun r6 H6 s6 q6 => k _ _ (((((s1.trans s2).trans s3).trans s4).trans s5).trans s6) ?_
    exact q6
end
end Wk
namespace Wk
open PySem L2
open C8 (Cal Met Mak pe_c pe_mk pe_mt pe_mt0)
section
variable {P : Program} {w : World} {K : PySem.W.Frag} {mg : Str → Option Value} {base : Heap}
/-! ### tables -/
theorem tuplesOf_len (p : Int) : ∀ k, (tuplesOf p k).length = p.toNat ^ k
  | 0 => rfl
  | k + 1 => by
    have e : (tuplesOf p (k + 1)).length = ((tuplesOf p k).map fun _ => p.toNat).sum := by
      show ((tuplesOf p k).flatMap _).length = _
      rw [List.length_flatMap]
      congr 1
      simp
    rw [e, List.map_const', List.sum_replicate_nat, tuplesOf_len p k, Nat.pow_succ]
theorem tuplesOf_word {p : Int} : ∀ {k : Nat} {r : List Int}, r ∈ tuplesOf p k → r.length = k
  | 0, r, h => by
    have : r = [] := by simpa [tuplesOf] using h
    rw [this]; rfl
  | k + 1, r, h => by
    have h : r ∈ (tuplesOf p k).flatMap fun row => (List.range p.toNat).map fun a => row ++ [((a : Nat) : Int)] := h
    obtain ⟨row, h1, h2⟩ := List.mem_flatMap.mp h
    obtain ⟨a, _, rfl⟩ := List.mem_map.mp h2
    rw [List.length_append, tuplesOf_word h1]; rfl
def TabPre (n : Nat) (p : Int) : Prop := Pr p ∧ n ≤ 6 ∧ p.toNat ^ n ≤ 1000
theorem TabPre.pow {n : Nat} {p : Int} (h : TabPre n p) {i : Nat} (hi : i ≤ n) : p.toNat ^ i ≤ 1000 := Nat.le_trans (Nat.pow_le_pow_right (by have := h.1.pos; omega) hi) h.2.2
theorem wideRow_len (p : Int) (l : List (List Int)) : (l.flatMap fun row => (List.range p.toNat).map fun a => row ++ [((a : Nat) : Int)]).length = l.length * p.toNat := by
  rw [List.length_flatMap]
  simp [List.map_const', List.sum_replicate_nat]
/-! ### the law's table of all words -/
abbrev s__law_all : Stmt := top 49
theorem sc__law_all : FnScope ["_law_n", "_law_p", "_law_out", "_law_k", "_law_longer", "_law_word_here", "_law_a"] ["_law_n", "_law_p"] (defScope s__law_all) := ⟨rfl, rfl, rfl, by decide +kernel, rfl, by decide +kernel, by decide +kernel⟩
def sp__law_all : Sp := fun vs H Q _ => ∃ (n : Nat) (p : Int), vs = [.int n, .int p] ∧ TabPre n p ∧ ∀ l H' ws, Same H H' → H l = none → H' l = some (.lst ws) → Tps H' ws (tuplesOf p n) → Q (.ref l) H'
theorem ok__law_all {f : Addr} {fd : FuncData} (F : Fun K "_law_all" "_law_all" s__law_all f fd) (T : Txt K mg)   : FnOk P w K mg base CX0 1 f fd ["_law_n", "_law_p"] sp__law_all := by
  refine F.ok sc__law_all (fun vs H Q E h => ?_) (fun cdv A outer s H vs Q E hr h => ?_)
  · obtain ⟨n, p, rfl, _⟩ := h
    rfl
  · obtain ⟨n, p, rfl, hpre, k⟩ := h
    have hp7 := hpre.1.pos
    have hn6 := hpre.2.1
    refine ⟨_, (pss_cons (ps_set (i := 2) sc__law_all.nd rfl (Or.inl rfl) (pe_lst (pa_cons (pe_tup pa_nil) pa_nil)))
      (pss_cons (ps_for PassesOwn.never rfl (pi_range1 rfl T.range (pa_cons (pv 0) pa_nil)) (pg_name (i := 3) sc__law_all.nd rfl (Or.inl rfl))
      (pss_cons (ps_set (i := 4) sc__law_all.nd rfl (Or.inl rfl) (pe_lst pa_nil))
      (pss_cons (ps_for PassesOwn.never rfl (pi_list (pe_callTy (call_listK K) (by rfl) T.list (by decide +kernel) (pa_cons (pv 2) pa_nil))) (pg_name (i := 5) sc__law_all.nd rfl (Or.inr rfl))
      (pss_one (ps_set (i := 4) sc__law_all.nd rfl (Or.inl rfl) (pe_op op_cat (pv 4) (pe_lc (own := [("_law_a", 6)]) (g := gName 6) (tt := tYes) rfl sc__law_all.nd (pi_range1 rfl T.range (pa_cons (pv 1) pa_nil)) (blkOk_by (N := ["_law_n", "_law_p", "_law_out", "_law_k", "_law_longer", "_law_word_here", "_law_a"]) (sc := defScope s__law_all) (by decide +kernel)) (fun _ _ _ _ _ => (pg_name (i := 6) sc__law_all.nd rfl (Or.inl rfl))) (fun _ _ _ _ _ => pts_nil) (fun _ _ _ _ _ => (pe_op (op_catAK K) (pv 5) (pe_tup (pa_cons (pv 6) pa_nil)))))))))
      (pss_one (ps_set (i := 2) sc__law_all.nd rfl (Or.inl rfl) (pv 4))))))
      (pss_one (ps_ret (pv 2))))), ?_⟩
    refine ⟨by show 0 ≤ sizeLine; decide, fun e0 he0 => ⟨by show 1 ≤ sizeLine; decide, fun l hl => ?_⟩⟩
    have s1 : Same H (upd H e0 (.tup [])) := (Same.refl H).put he0
    have s2 := s1.put hl (o := .lst [.ref e0])
    refine ⟨_, rfl, _, rfl, by omega, by omega, ?_⟩
    have en : ((n : Nat) : Int).toNat = n := by omega
    rw [en]
    refine for_range (lo := 0) (n := n) (fun i σ H' => ∃ l' ws x y z u, σ = [some (.int n), some (.int p), some (.ref l'), x, y, z, u] ∧ Same H H' ∧ H l' = none ∧ H' l' = some (.lst ws) ∧ Tps H' ws (tuplesOf p i)) ⟨l, [.ref e0], _, _, _, _, rfl, s2, s1.free hl, upd_same, .cons ⟨e0, rfl, ?_⟩ .nil⟩ ?_ ?_
    · rw [upd_ne (ne_of_none upd_same hl), upd_same]; rfl
    · rintro i σ H' hi ⟨l', ws, x, y, z, u, rfl, s3, hl', h1, h2⟩
      have hlw : ws.length = p.toNat ^ i := by rw [plen h2, tuplesOf_len]
      have hpi := hpre.pow (Nat.le_of_lt hi)
      have hpi1 := hpre.pow (Nat.succ_le_of_lt hi)
      rw [Nat.pow_succ] at hpi1
      refine ⟨by show 0 ≤ sizeLine; decide, fun m hm => ?_⟩
      have s4 := s3.put hm (o := .lst [])
      have hml : l' ≠ m := ne_of_none h1 hm
      refine ⟨_, rfl, l', _, rfl, .inl (SqL.of (by rw [upd_ne hml]; exact h1)), fun c hc => ?_⟩
      have hmc : m ≠ c := ne_of_none upd_same hc
      refine ⟨c, rfl, ⟨ws, SqL.of upd_same⟩, for_list (xs := ws) (fun j σ H2 => ∃ m' us y z u, σ = [some (.int n), some (.int p), some (.ref l'), some (.int (0 + (i : Nat))), some (.ref m'), y, u] ∧ z = () ∧ Same H H2 ∧ Same H' H2 ∧ H2 c = some (.lst ws) ∧ H m' = none ∧ H2 m' = some (.lst us) ∧ Tps H2 us (((tuplesOf p i).take j).flatMap fun row => (List.range p.toNat).map fun a => row ++ [((a : Nat) : Int)])) ?_ ?_ ?_ ?_⟩
      · exact ⟨m, [], _, (), _, rfl, rfl, s4.put hc, ((Same.refl H').put hm).put hc, upd_same, s3.free hm, by rw [upd_ne hmc, upd_same], .nil⟩
      · rintro j σ H2 _ ⟨m', us, y, z, u, rfl, _, _, _, h3, _⟩
        exact SqL.of h3
      · rintro j v σ H2 hv ⟨m', us, y, z, u, rfl, _, s5, s6, h3, hm', h4, h5⟩
        obtain ⟨row, hrow, hvr⟩ := pget (Tps.mono s6 h2) hv
        have hjl : j < (tuplesOf p i).length := (List.getElem?_eq_some_iff.mp hrow).1
        have hus : us.length = j * p.toNat := by
          rw [plen h5, wideRow_len, List.length_take]
          congr 1
          omega
        have hbnd : (j + 1) * p.toNat ≤ 1000 := by
          refine Nat.le_trans (Nat.mul_le_mul_right _ (Nat.succ_le_of_lt hjl)) ?_
          rw [tuplesOf_len]; exact hpi1
        have hrl : row.length = i := tuplesOf_word (List.mem_of_getElem? hrow)
        refine ⟨_, rfl, _, rfl, _, rfl, by omega, by omega, ?_⟩
        refine fun D hD => lc_map (List.range p.toNat) (fun a => row ++ [((a : Nat) : Int)]) Tp walks_range (by simp) (small1000 (by omega)) hD Tp.monoD ?_ ?_
        · rintro b xb zb H3 Q1 rfl hzb s7 - q
          obtain ⟨rfl, hb⟩ := range_at hzb
          have e0 : (0 : Int) + ((zb : Nat) : Int) = ((zb : Nat) : Int) := Int.zero_add _
          refine ⟨_, rfl, _, rfl, by show 1 ≤ sizeLine; decide, fun t ht => ?_⟩
          have s8 := (Same.refl H3).put ht (o := .tup [.int (0 + ((zb : Nat) : Int))])
          refine cat_tp (a := row) (b := [((zb : Nat) : Int)]) ((hvr.mono s7).mono s8) ⟨t, rfl, by rw [upd_same, e0]; rfl⟩ (by rw [hrl]; simp; omega) fun r H4 s9 h => q r H4 (s8.trans s9) h
        · intro H3 ys s7 hD3 hys
          have hyl : ys.length = p.toNat := by rw [plen hys]; simp
          refine ⟨m', D, us, ys, rfl, rfl, s7 _ _ h4, hD3, ?_, fun q hq => ?_⟩
          · refine Nat.le_of_lt (small1000 ?_)
            rw [hus, hyl]
            have e : (j + 1) * p.toNat = j * p.toNat + p.toNat := by rw [Nat.succ_mul]
            omega
          · have s8 := (s5.trans s7).put hq (o := .lst (us ++ ys))
            have s9 : Same H2 (upd H3 q (.lst (us ++ ys))) := s7.put hq
            refine ⟨q, us ++ ys, _, (), _, rfl, rfl, s8, (s6.trans s9), s9 _ _ h3, (s5.trans s7).free hq, upd_same, ?_⟩
            have e : (tuplesOf p i).take (j + 1) = (tuplesOf p i).take j ++ [row] := by rw [List.take_add_one, hrow]; rfl
            rw [e, List.flatMap_append]
            refine papp (Tps.mono s9 h5) ?_
            simp only [List.flatMap_cons, List.flatMap_nil, List.append_nil]
            exact Tps.mono ((Same.refl H3).put hq) hys
      · rintro σ H2 ⟨m', us, y, z, u, rfl, _, s5, s6, h3, hm', h4, h5⟩
        have el : ws.length = (tuplesOf p i).length := plen h2
        rw [el, List.take_length] at h5
        exact ⟨_, rfl, m', us, _, _, _, _, rfl, s5, hm', h4, h5⟩
    · rintro σ H' ⟨l', ws, x, y, z, u, rfl, s3, hl', h1, h2⟩
      exact ⟨_, rfl, k l' H' ws s3 hl' h1 h2⟩
/-! ### the law's monics -/
abbrev s__law_monics : Stmt := top 57
theorem sc__law_monics : FnScope ["_law_degree", "_law_p", "_law_word_here"] ["_law_degree", "_law_p"] (defScope s__law_monics) := ⟨rfl, rfl, rfl, by decide +kernel, rfl, by decide +kernel, by decide +kernel⟩
def sp__law_monics : Sp := fun vs H Q _ => ∃ (n : Nat) (p : Int), vs = [.int n, .int p] ∧ TabPre n p ∧ ∀ l H' ws, Same H H' → H l = none → H' l = some (.lst ws) → Tps H' ws (monics n p) → Q (.ref l) H'
theorem ok__law_monics {f : Addr} {fd : FuncData} (F : Fun K "_law_monics" "_law_monics" s__law_monics f fd) (T : Txt K mg) (c__law_all : Cal P w K mg base 1 "_law_all" sp__law_all [])  : FnOk P w K mg base CX0 2 f fd ["_law_degree", "_law_p"] sp__law_monics := by
  refine F.ok sc__law_monics (fun vs H Q E h => ?_) (fun cdv A outer s H vs Q E hr h => ?_)
  · obtain ⟨n, p, rfl, _⟩ := h
    rfl
  · obtain ⟨n, p, rfl, hpre, k⟩ := h
    refine ⟨_, (pss_one (ps_ret (pe_lc (own := [("_law_word_here", 2)]) (g := gName 2) (tt := tYes) rfl sc__law_monics.nd (pi_list (pe_c c__law_all hr (by decide) rfl (pa_cons (pv 0) (pa_cons (pv 1) pa_nil)))) (blkOk_by (N := ["_law_degree", "_law_p", "_law_word_here"]) (sc := defScope s__law_monics) (by decide +kernel)) (fun _ _ _ _ _ => (pg_name (i := 2) sc__law_monics.nd rfl (Or.inl rfl))) (fun _ _ _ _ _ => pts_nil) (fun _ _ _ _ _ => (pe_op (op_catAK K) (pv 2) (pe_tup (pa_cons pe_int pa_nil))))))), ?_⟩
    refine ⟨_, rfl, _, rfl, ⟨n, p, rfl, hpre, fun l H1 ws s1 hl h1 h2 => ?_⟩⟩
    refine ⟨l, rfl, ⟨ws, SqL.of h1⟩, fun D hD => lc_map (tuplesOf p n) (· ++ [1]) Tp (walks_list (SqL.of h1)) (plen h2) (small1000 (by rw [plen h2, tuplesOf_len]; exact hpre.2.2)) hD Tp.monoD ?_ ?_⟩
    · rintro i x z H2 Q1 hx hz s2 - q
      obtain ⟨y, hy, ht⟩ := pget (Tps.mono s2 h2) hx
      rw [hz] at hy
      cases hy
      have hzl : z.length = n := tuplesOf_word (List.mem_of_getElem? hz)
      have hn6 := hpre.2.1
      refine ⟨_, rfl, by show 1 ≤ sizeLine; decide, fun t htn => ?_⟩
      have s8 := (Same.refl H2).put htn (o := .tup [.int 1])
      exact cat_tp (a := z) (b := [1]) (ht.mono s8) ⟨t, rfl, upd_same⟩ (by rw [hzl]; simp; omega) fun r H4 s9 h => q r H4 (s8.trans s9) h
    · intro H2 ys s2 hD2 hp
      exact k D H2 ys (s1.trans s2) (s1.free hD) hD2 hp
/-! ### the law's remainder -/
theorem inv_head {a p : Int} (h : InvOk a p) : ∃ r, (List.range (p - 1).toNat).filterMap (fun i : Nat => if (1 + (i : Int)) * a % p = 1 then some (1 + (i : Int)) else none) = inv a p :: r := by
  obtain ⟨i0, hi0, e0⟩ := h
  have key : ∀ (n m : Nat), n + m = (p - 1).toNat → (∀ j, j < n → a * (1 + (j : Int)) % p ≠ 1) → n ≤ i0 → ∃ r, ((List.range (p - 1).toNat).drop n).filterMap (fun i : Nat => if (1 + (i : Int)) * a % p = 1 then some (1 + (i : Int)) else none) = inv a p :: r := by
    intro n m
    induction m generalizing n with
    | zero => intro h1 h2 h3; omega
    | succ m ih =>
      intro h1 h2 h3
      have hn : n < (p - 1).toNat := by omega
      have ed : (List.range (p - 1).toNat).drop n = n :: (List.range (p - 1).toNat).drop (n + 1) := by
        rw [List.drop_eq_getElem_cons (by simpa using hn)]; simp
      rw [ed]
      by_cases c : a * (1 + (n : Int)) % p = 1
      · have c' : (1 + (n : Int)) * a % p = 1 := by rw [Int.mul_comm]; exact c
        rw [List.filterMap_cons, if_pos c', inv_first hn c h2]
        exact ⟨_, rfl⟩
      · have c' : ¬ (1 + (n : Int)) * a % p = 1 := by rw [Int.mul_comm]; exact c
        rw [List.filterMap_cons, if_neg c']
        have hne : n ≠ i0 := fun e => c (e ▸ e0)
        exact ih (n + 1) (by omega) (fun j hj => by
          rcases Nat.lt_or_eq_of_le (Nat.le_of_lt_succ hj) with z | z
          · exact h2 j z
          · rw [z]; exact c) (by omega)
  have := key 0 (p - 1).toNat (by omega) (fun j hj => absurd hj (Nat.not_lt_zero _)) (Nat.zero_le _)
  simpa using this
abbrev s__law_rest : Stmt := top 56
theorem sc__law_rest : FnScope ["_law_a", "_law_b", "_law_p", "_law_rest_here", "_law_head", "_law_at", "_law_factor", "_law_k"] ["_law_a", "_law_b", "_law_p"] (defScope s__law_rest) := ⟨rfl, rfl, rfl, by decide +kernel, rfl, by decide +kernel, by decide +kernel⟩
def sp__law_rest : Sp := fun vs H Q _ => ∃ v w a b p, vs = [v, w, .int p] ∧ Tp H v a ∧ Tp H w b ∧ DivPre a b p ∧ ∀ r H', Same H H' → Tp H' r (rem a b p) → Q r H'
theorem ok__law_rest {f : Addr} {fd : FuncData} (F : Fun K "_law_rest" "_law_rest" s__law_rest f fd) (T : Txt K mg) (c__law_trimmed : Cal P w K mg base 1 "_law_trimmed" sp__law_trimmed [])  : FnOk P w K mg base CX0 2 f fd ["_law_a", "_law_b", "_law_p"] sp__law_rest := by
  refine F.ok sc__law_rest (fun vs H Q E h => ?_) (fun cdv A outer s H vs Q E hr h => ?_)
  · obtain ⟨v, w, a, b, p, rfl, _⟩ := h
    rfl
  · obtain ⟨v, w, a, b, p, rfl, ⟨t, rfl, ht⟩, ⟨u, rfl, hu⟩, ⟨hp, hb, hi, hal, hbl⟩, k⟩ := h
    refine ⟨_, (pss_cons (ps_set (i := 3) sc__law_rest.nd rfl (Or.inl rfl) (pe_callTy (call_listK K) (by rfl) T.list (by decide +kernel) (pa_cons (pv 0) pa_nil)))
      (pss_cons (ps_set (i := 4) sc__law_rest.nd rfl (Or.inl rfl) (pe_ix (ix_listK K) (pe_lc (own := [("_law_k", 7)]) (g := gName 7) rfl sc__law_rest.nd (pi_range2 rfl T.range (pa_cons pe_int (pa_cons (pv 2) pa_nil))) (blkOk_by (N := ["_law_a", "_law_b", "_law_p", "_law_rest_here", "_law_head", "_law_at", "_law_factor", "_law_k"]) (sc := defScope s__law_rest) (by decide +kernel)) (fun _ _ _ _ _ => (pg_name (i := 7) sc__law_rest.nd rfl (Or.inl rfl))) (fun _ _ _ _ _ => pts_one (pt_cmpR op_eq (pe_op op_mod (pe_callTy call_int1 (by rfl) T.int (by decide +kernel) (pa_cons (pe_op op_mul (pv 7) (pe_ix (ix_tupK K) (pv 1) (pe_un un_neg pe_int) (fun _ _ => rfl))) pa_nil)) (pv 2)) pe_int (nomark _))) (fun _ _ _ _ _ => (pv 7))) pe_int (fun _ _ => rfl)))
      (pss_cons (ps_for PassesOwn.never rfl (pi_range3 rfl T.range (pa_cons (pe_op op_sub (pe_callB (call_lenK K) (by rfl) T.len PySem.boot_len (pa_cons (pv 0) pa_nil)) (pe_callB (call_lenK K) (by rfl) T.len PySem.boot_len (pa_cons (pv 1) pa_nil))) (pa_cons (pe_un un_neg pe_int) (pa_cons (pe_un un_neg pe_int) pa_nil)))) (pg_name (i := 5) sc__law_rest.nd rfl (Or.inl rfl))
      (pss_cons (ps_set (i := 6) sc__law_rest.nd rfl (Or.inl rfl) (pe_op op_mod (pe_callTy call_int1 (by rfl) T.int (by decide +kernel) (pa_cons (pe_op op_mul (pe_ix (ix_listK K) (pv 3) (pe_op op_sub (pe_op op_add (pv 5) (pe_callB (call_lenK K) (by rfl) T.len PySem.boot_len (pa_cons (pv 1) pa_nil))) pe_int) (fun _ _ => rfl)) (pv 4)) pa_nil)) (pv 2)))
      (pss_one (ps_for PassesOwn.never rfl (pi_range1 rfl T.range (pa_cons (pe_callB (call_lenK K) (by rfl) T.len PySem.boot_len (pa_cons (pv 1) pa_nil)) pa_nil)) (pg_name (i := 7) sc__law_rest.nd rfl (Or.inl rfl))
      (pss_one (ps_asg (pe_op op_mod (pe_callTy call_int1 (by rfl) T.int (by decide +kernel) (pa_cons (pe_op op_sub (pe_ix (ix_listK K) (pv 3) (pe_op op_add (pv 5) (pv 7)) (fun _ _ => rfl)) (pe_op op_mul (pv 6) (pe_ix (ix_tupK K) (pv 1) (pv 7) (fun _ _ => rfl)))) pa_nil)) (pv 2)) (pg_sub (pv 3) (pe_op op_add (pv 5) (pv 7)) set_list)))))))
      (pss_one (ps_ret (pe_c c__law_trimmed hr (by decide) rfl (pa_cons (pv 3) pa_nil))))))), ?_⟩
    have hp7 := hp.pos
    have hb1 : 1 ≤ b.length := List.length_pos_iff.mpr hb
    have hinv := hi.bd hp
    refine ⟨_, rfl, t, _, rfl, .inr (SqT.of ht), fun l hl => ?_⟩
    have s1 : Same H (upd H l (.lst (a.map V.int))) := (Same.refl H).put hl
    refine ⟨_, rfl, _, _, rfl, ⟨by omega, by omega, by omega, by omega⟩, fun D hD => lc_gen (List.range (p - 1).toNat) (fun i : Nat => if (1 + (i : Int)) * b.getLastD 0 % p = 1 then some (1 + (i : Int)) else none) Ri walks_range (by simp) (small1000 (by omega)) hD Ri.mono ?_ ?_⟩
    · rintro i x z H2 Q1 Qn rfl hz s2 - qn q
      obtain ⟨rfl, hi2⟩ := range_at hz
      refine ⟨_, rfl, _, rfl, _, rfl, u, _, _, _, rfl, rfl, SqT.of ((s1.trans s2) _ _ hu), atI_getL hb, _, _, rfl, rfl, .inl (by omega), .inl ⟨_, rfl, _, rfl, _, _, rfl, rfl, hp7.1, rfl, _, rfl, ite2 (fun c => ?_) (fun c => ?_)⟩⟩
      · have c' : (1 + ((z : Nat) : Int)) * b.getLastD 0 % p = 1 := by simpa using c
        exact ⟨_, rfl, q _ (by rw [if_pos c']) _ _ (Same.refl H2) rfl⟩
      · have c' : ¬ (1 + ((z : Nat) : Int)) * b.getLastD 0 % p = 1 := by simpa using c
        exact qn (by rw [if_neg c']) _ (Same.refl H2)
    · intro H2 ys s2 hD2 hys
      obtain rfl := paired_int hys
      obtain ⟨r, er⟩ := inv_head hi
      rw [er] at hD2
      refine ⟨D, _, _, _, rfl, rfl, SqL.of hD2, atI_nat (j := 0) rfl, ?_⟩
      have hln : H l = none := hl
      have s3 : Same H H2 := s1.trans s2
      have h2 : H2 l = some (.lst (a.map V.int)) := s2 _ _ upd_same
      refine ⟨_, rfl, t, _, rfl, .inr (SqT.of (s3 _ _ ht)), _, rfl, u, _, rfl, .inr (SqT.of (s3 _ _ hu)), _, _, rfl, rfl, _, rfl, _, rfl, _, _, _, _, rfl, RgC.neg (by rw [List.length_map, List.length_map]; omega) (by rw [List.length_map, List.length_map]; omega) (by omega) (by omega), ?_⟩
      rw [List.length_map, List.length_map]
      have en2 : (((a.length : Nat) : Int) - ((b.length : Nat) : Int) - -1).toNat = a.length + 1 - b.length := by omega
      rw [en2]
      refine for_rangeC (fun i σ H' => (∃ x y z, σ = [some (.ref t), some (.ref u), some (.int p), some (.ref l), some (.int (inv (b.getLastD 0) p)), x, y, z]) ∧ Same H H' ∧
        H' l = some (.lst (((List.range i).foldl (divStep b p (inv (b.getLastD 0) p) (a.length + 1 - b.length)) (a, List.replicate (a.length + 1 - b.length) 0)).1.map V.int))) ⟨⟨_, _, _, rfl⟩, s3, h2⟩ ?_ ?_
      · rintro i σ H' hi2 ⟨⟨x, y, z, rfl⟩, s4, h4⟩
        have lens := divSteps_len b p (inv (b.getLastD 0) p) (a.length + 1 - b.length) i (a, List.replicate (a.length + 1 - b.length) 0)
        generalize hst : (List.range i).foldl (divStep b p (inv (b.getLastD 0) p) (a.length + 1 - b.length)) (a, List.replicate (a.length + 1 - b.length) 0) = st at h4 lens
        rw [List.length_replicate] at lens
        have eat : ((a.length : Nat) : Int) - ((b.length : Nat) : Int) + ((i : Nat) : Int) * -1 = ((a.length + 1 - b.length - 1 - i : Nat) : Int) := by omega
        rw [eat]
        generalize hat : a.length + 1 - b.length - 1 - i = at_
        have e1 : ((at_ : Nat) : Int) + ((b.length : Nat) : Int) - 1 = ((at_ + b.length - 1 : Nat) : Int) := by omega
        refine ⟨_, rfl, _, rfl, _, rfl, u, _, rfl, .inr (SqT.of (s4 _ _ hu)), _, _, rfl, rfl, _, _, rfl, rfl, l, _, _, _, rfl, rfl, SqL.of h4, (by rw [List.length_map, e1]; exact atI_get (by rw [lens.1]; show _ < a.length; omega)), _, rfl, _, _, rfl, rfl, .inr (by omega), .inl ⟨_, rfl, _, rfl, _, _, rfl, rfl, hp7.1, ?_⟩⟩
        have hfac : 0 ≤ divFac b p (inv (b.getLastD 0) p) st.1 at_ ∧ divFac b p (inv (b.getLastD 0) p) st.1 at_ < p := ⟨Int.emod_nonneg _ (by omega), Int.emod_lt_of_pos _ hp7.1⟩
        dsimp only [gName]
        generalize hfe : divFac b p (inv (b.getLastD 0) p) st.1 at_ = fac at hfac
        have efac : List.getD st.fst (at_ + b.length - 1) 0 * inv (b.getLastD 0) p % p = fac := hfe
        rw [efac]
        refine ⟨_, rfl, u, _, rfl, .inr (SqT.of (s4 _ _ hu)), _, rfl, by rw [List.length_map]; omega, by rw [List.length_map]; omega, ?_⟩
        rw [List.length_map]
        refine for_range (lo := 0) (n := b.length) (fun j σ H' => (∃ z, σ = [some (.ref t), some (.ref u), some (.int p), some (.ref l), some (.int (inv (b.getLastD 0) p)), some (.int ((at_ : Nat) : Int)), some (.int fac), z]) ∧ Same H H' ∧
          H' l = some (.lst (((List.range j).foldl (divIn b p fac at_) st.1).map V.int))) ⟨⟨_, rfl⟩, s4, h4⟩ ?_ ?_
        · rintro j σ H3 hj ⟨⟨z, rfl⟩, s6, h6⟩
          rw [Int.zero_add]
          have hll : at_ + j < ((List.range j).foldl (divIn b p fac at_) st.1).length := by
            rw [divIns_len, lens.1]; show _ < a.length; omega
          refine ⟨_, rfl, _, rfl, _, rfl, _, _, rfl, rfl, l, _, _, _, rfl, rfl, SqL.of h6, atI_get (i := at_ + j) hll, _, rfl, _, rfl, _, rfl, u, _, _, _, rfl, rfl, SqT.of (s6 _ _ hu), atI_get hj, _, _, rfl, rfl, .inl (by omega), _, _, rfl, rfl, .inl ⟨_, rfl, _, rfl, _, _, rfl, rfl, hp7.1, ?_⟩⟩
          refine ⟨_, rfl, _, rfl, _, rfl, _, _, rfl, rfl, l, _, _, at_ + j, rfl, rfl, h6, ixN_nat (by rw [List.length_map]; exact hll), ⟨_, rfl⟩, Same.own s6 hln, ?_⟩
          rw [upd_same, map_seti, foldl_range_succ]
          rfl
        · rintro σ H3 ⟨⟨z, rfl⟩, s6, h6⟩
          have est : divStep b p (inv (b.getLastD 0) p) (a.length + 1 - b.length) st i = ((List.range b.length).foldl (divIn b p fac at_) st.1, st.2.set at_ fac) := by
            unfold divStep
            rw [hat, hfe]
          refine ⟨⟨_, _, _, rfl⟩, s6, ?_⟩
          rw [foldl_range_succ, hst, est]; exact h6
      · rintro σ H' ⟨⟨x, y, z, rfl⟩, s4, h4⟩
        have lens := divRaw_len a b p
        exact ⟨_, rfl, _, _, rfl, ⟨l, rfl, .inr h4⟩, by rw [show (List.foldl _ _ _ : List Int × List Int) = divRaw a b p from rfl, lens.1]; omega, fun r H2 s5 q => k r H2 (s4.trans s5) q⟩
end
end Wk
set_option maxRecDepth 512
set_option maxHeartbeats 200000
/-! sorting, in plain Lean -/
namespace Wk
theorem leW_total (a b : Wrd) : (leW a b || leW b a) = true := by
  unfold leW
  rcases List.le_total a b with h | h <;> simp [h]
theorem leW_trans {a b c : Wrd} (h : leW a b = true) (h' : leW b c = true) : leW a c = true := by
  unfold leW at *
  rw [decide_eq_true_eq] at *
  exact List.le_trans h h'
theorem leW_anti {a b : Wrd} (h : leW a b = true) (h' : leW b a = true) : a = b := by
  unfold leW at *
  rw [decide_eq_true_eq] at *
  exact List.le_antisymm h h'
theorem leLW_total (a b : Wrd) : (leLW a b || leLW b a) = true := by
  unfold leLW
  rcases Nat.lt_trichotomy a.length b.length with h | h | h
  · simp [h]
  · rcases List.le_total a b with h2 | h2 <;> simp [h, h2]
  · simp [h]
theorem leLW_trans {a b c : Wrd} (h : leLW a b = true) (h' : leLW b c = true) : leLW a c = true := by
  unfold leLW at *
  simp only [Bool.or_eq_true, Bool.and_eq_true, decide_eq_true_eq] at *
  rcases h with h | ⟨h, g⟩ <;> rcases h' with h' | ⟨h', g'⟩
  · exact .inl (by omega)
  · exact .inl (by omega)
  · exact .inl (by omega)
  · exact .inr ⟨by omega, List.le_trans g g'⟩
theorem leLW_anti {a b : Wrd} (h : leLW a b = true) (h' : leLW b a = true) : a = b := by
  unfold leLW at *
  simp only [Bool.or_eq_true, Bool.and_eq_true, decide_eq_true_eq] at *
  rcases h with h | ⟨h, g⟩ <;> rcases h' with h' | ⟨h', g'⟩
  · omega
  · omega
  · omega
  · exact List.le_antisymm g g'
theorem insBy_perm (le : Wrd → Wrd → Bool) (x : Wrd) : ∀ l : List Wrd, (insBy le x l).Perm (x :: l)
  | [] => .refl _
  | y :: r => by
    unfold insBy
    split
    · exact .refl _
    · exact ((insBy_perm le x r).cons y).trans (.swap x y r)
theorem sortBy_perm (le : Wrd → Wrd → Bool) : ∀ l : List Wrd, (sortBy le l).Perm l
  | [] => .refl _
  | x :: r => (insBy_perm le x (sortBy le r)).trans ((sortBy_perm le r).cons x)
structure Ord (le : Wrd → Wrd → Bool) : Prop where
  total : ∀ a b, (le a b || le b a) = true
  trans : ∀ {a b c}, le a b = true → le b c = true → le a c = true
  anti : ∀ {a b}, le a b = true → le b a = true → a = b
theorem ordW : Ord leW := ⟨leW_total, leW_trans, leW_anti⟩
theorem ordLW : Ord leLW := ⟨leLW_total, leLW_trans, leLW_anti⟩
section
variable {le : Wrd → Wrd → Bool} (o : Ord le)
include o
theorem insBy_sorted (x : Wrd) : ∀ l : List Wrd, l.Pairwise (fun a b => le a b = true) → (insBy le x l).Pairwise (fun a b => le a b = true)
  | [], _ => by simp [insBy]
  | y :: r, h => by
    unfold insBy
    rw [List.pairwise_cons] at h
    split
    · rename_i hxy
      refine List.pairwise_cons.mpr ⟨fun z hz => ?_, List.pairwise_cons.mpr h⟩
      rcases List.mem_cons.mp hz with rfl | hz
      · exact hxy
      · exact o.trans hxy (h.1 z hz)
    · rename_i hxy
      have hyx : le y x = true := by
        have := o.total x y
        simp only [Bool.or_eq_true] at this
        rcases this with z | z
        · exact absurd z hxy
        · exact z
      refine List.pairwise_cons.mpr ⟨fun z hz => ?_, insBy_sorted x r h.2⟩
      rcases List.mem_cons.mp ((insBy_perm le x r).mem_iff.mp hz) with rfl | hz
      · exact hyx
      · exact h.1 z hz
theorem sortBy_sorted : ∀ l : List Wrd, (sortBy le l).Pairwise (fun a b => le a b = true)
  | [] => by simp [sortBy]
  | x :: r => insBy_sorted o x _ (sortBy_sorted r)
theorem sort_eq {l l' : List Wrd} (h : l.Perm l') (h1 : l.Pairwise (fun a b => le a b = true)) (h2 : l'.Pairwise (fun a b => le a b = true)) : l = l' :=
  List.Perm.eq_of_pairwise (le := fun a b => le a b = true) (fun _ _ _ _ z z' => o.anti z z') h1 h2 h
theorem mergeSort_eq (l : List Wrd) : l.mergeSort le = sortBy le l :=
  sort_eq o ((List.mergeSort_perm l le).trans (sortBy_perm le l).symm) (List.pairwise_mergeSort (le := le) (fun _ _ _ => o.trans) o.total l) (sortBy_sorted o l)
theorem sortBy_perm_eq {l l' : List Wrd} (h : l.Perm l') : sortBy le l = sortBy le l' :=
  sort_eq o ((sortBy_perm le l).trans (h.trans (sortBy_perm le l').symm)) (sortBy_sorted o l) (sortBy_sorted o l')
end
theorem putW_nodup {l : List Wrd} {k : Wrd} (h : l.Nodup) : (putW l k).Nodup := by
  unfold putW
  split
  · exact h
  · rename_i hn
    rw [List.nodup_append]
    refine ⟨h, by simp, fun a ha b hb => ?_⟩
    rintro rfl
    have : a = k := by simpa using hb
    subst this
    exact hn (List.any_eq_true.mpr ⟨a, ha, by simp⟩)
theorem putW_mem {l : List Wrd} {k x : Wrd} : x ∈ putW l k ↔ x ∈ l ∨ x = k := by
  unfold putW
  split
  · rename_i h
    obtain ⟨e, he, hk⟩ := List.any_eq_true.mp h
    have : e = k := by simpa using hk
    subst this
    exact ⟨.inl, fun z => z.elim id fun z => z ▸ he⟩
  · simp
end Wk
set_option maxRecDepth 100000
set_option maxHeartbeats 4000000
namespace Wk
open PySem L2 PyProof.Rows
section
variable {X : Cx} {k v : Expr} {pos : Pos} {tk tv : TE}
/-- {k: v}, k a tuple -/
def tDisp1T (tk tv : TE) : TE := fun σ H Q => ∀ p, H p = none → tk σ (upd H p (.dT [])) fun x H1 => tv σ H1 fun y H2 => ∃ b ks, x = .ref b ∧ H2 b = some (.tup (ks.map kV)) ∧ H2 p = some (.dT []) ∧ Q (.ref p) (upd H2 p (.dT [(ks, y)]))
theorem pe_disp1T (hu : X.A.units + 1 < cLine) (hk : PE X k tk) (hv : PE X v tv) : PE X (.Dict [some k] [v] pos) (tDisp1T tk tv) := by
  refine ⟨fun pins s σ H Q I q => ?_⟩
  have hn := I.hok.fresh (Nat.le_refl s.heap.objs.size)
  have I1 := I.laid (a := s.heap.objs.size) (o := .dT []) (h' := s.heap.push { cls := .type "dict", data := .dict #[] }) (t' := s.toks) (fun _ _ q => Heap.get?_push_of_some _ q) (Nat.le_refl _) (dt_empty s.heap I.big)
  have hroom : (tupleKind (mixKind X.prog X.w)).room X.A := (Nat.lt_of_succ_lt hu : X.A.units < cLine)
  rw [arm_eval_Dict, zip_pairTrees [some k] [v] X.env pos rfl rfl, dictDisplay_pairs (pairTrees [some k] [v] X.env pos) (by simp [pairTrees]) (by simp [pairTrees])]
  refine wpAny_bind (wpAny_standAt (wpAny_bind (wpAny_subDictH (knd := tupleKind (mixKind X.prog X.w)) hroom (by simp [pairTrees]) ?_)))
  refine pairTrees_cons_walk (thn (hk.run pins _ σ _ _ I1 (q _ hn)) fun kv s1 ⟨x, H1, I2, rx, q1⟩ => thn (hv.run pins s1 σ H1 _ I2 q1) fun vv s2 ⟨y, H2, I3, ry, b, ks, ex, hb, hp, q2⟩ => pairTrees_nil_walk ?_)
  subst ex
  obtain rfl : kv = Value.ref b := rx
  obtain ⟨z, hd, xs, rel, dd⟩ := dt_of I3.hok hp
  cases rel
  refine ⟨[(ks, b, vv)], ⟨rfl, rfl, key_of I3.hok hb, True.intro⟩, dd, fun h' tk dd' hs => wpAny_pure ⟨.ref s.heap.objs.size, _, ?_, rfl, q2⟩⟩
  obtain ⟨q, es, ep, hq, h2, h3, h4, _, h5⟩ := dd'
  refine d_write I3 (by rw [hp]; exact True.intro) hs ⟨q, hq⟩ ⟨by show 1 ≤ sizeLine; decide, hd, [(ks, b, vv)], .cons ⟨rfl, ?_, ry⟩ .nil, q, es, ep, hq, h2, h3, h4, h5⟩
  rw [upd_ne (ne_of hb hp (fun z => nomatch z))]
  exact hb
end
end Wk
namespace Wk
open PySem L2
open C8 (Cal Met Mak pe_c pe_mk pe_mt pe_mt0)
section
variable {P : Program} {w : World} {K : PySem.W.Frag} {mg : Str → Option Value} {base : Heap}
/-! ### words as keys -/
def kW (w : List Int) : List L2.Key := w.map .inl
theorem kW_v (w : List Int) : (kW w).map kV = w.map V.int := by
  unfold kW
  rw [List.map_map]
  rfl
theorem kW_inj {a b : List Int} (h : kW a = kW b) : a = b := by
  unfold kW at h
  exact List.map_inj_right (fun _ _ e => Sum.inl.inj e) |>.mp h
def kvW (ws : List (List Int)) : List (List L2.Key × V) := ws.map fun w => (kW w, .bl true)
theorem kvW_any (ws : List (List Int)) (k : List Int) : ((kvW ws).any fun kv => decide (kv.1 = kW k)) = ws.any (fun e => e == k) := by
  unfold kvW
  rw [List.any_map]
  congr 1
  funext e
  show decide (kW e = kW k) = (e == k)
  by_cases h : e = k
  · subst h; simp
  · have h2 : ¬ kW e = kW k := fun z => h (kW_inj z)
    simp [h, h2]
theorem kvW_put (ws : List (List Int)) (k : List Int) : putK (kvW ws) (kW k) (.bl true) = kvW (putW ws k) := by
  unfold putK putW
  rw [kvW_any]
  split
  · unfold kvW
    rw [List.map_map]
    apply List.map_congr_left
    intro e _
    show (if kW e = kW k then (kW e, V.bl true) else (kW e, .bl true)) = _
    split <;> rfl
  · unfold kvW
    rw [List.map_append]
    rfl
structure Keys (p : Int) (n : Nat) (ws : List (List Int)) : Prop where
  nd : ws.Nodup
  wn : ∀ w ∈ ws, Wn p n w
theorem tuplesOf_mem {p : Int} (hp : Pr p) : ∀ {k : Nat} {r : List Int}, Wn p k r → r ∈ tuplesOf p k
  | 0, r, h => by
    have : r = [] := List.eq_nil_of_length_eq_zero h.1
    rw [this]; exact List.mem_singleton.mpr rfl
  | k + 1, r, h => by
    have hne : r ≠ [] := fun e => by have := h.1; rw [e] at this; cases this
    have hl := last_mem h.2 hne
    have hp7 := hp.pos
    have e := last_eq hne
    show r ∈ (tuplesOf p k).flatMap fun row => (List.range p.toNat).map fun a => row ++ [((a : Nat) : Int)]
    rw [List.mem_flatMap]
    refine ⟨r.dropLast, tuplesOf_mem hp ⟨by rw [List.length_dropLast, h.1]; rfl, fun x hx => h.2 x (List.dropLast_subset _ hx)⟩, ?_⟩
    rw [List.mem_map]
    refine ⟨(r.getLastD 0).toNat, List.mem_range.mpr (by omega), ?_⟩
    have e2 : (((r.getLastD 0).toNat : Nat) : Int) = r.getLastD 0 := by omega
    rw [e2]
    exact e.symm
theorem Keys.len {p : Int} {n : Nat} {ws : List (List Int)} (hp : Pr p) (h : Keys p n ws) : ws.length ≤ p.toNat ^ n := by
  rw [← tuplesOf_len]
  exact List.Nodup.length_le_of_subset h.nd fun w hw => tuplesOf_mem hp (h.wn w hw)
theorem Keys.put {p : Int} {n : Nat} {ws : List (List Int)} {k : List Int} (h : Keys p n ws) (hk : Wn p n k) : Keys p n (putW ws k) :=
  ⟨putW_nodup h.nd, fun w hw => (putW_mem.mp hw).elim (h.wn w) fun e => e ▸ hk⟩
theorem Keys.nil {p : Int} {n : Nat} : Keys p n [] := ⟨.nil, fun _ h => by cases h⟩
theorem wDs_alike (ks : List (List Int)) : PySem.W.AllAlike (ks.map wD) := PySem.W.AllAlike.of fun b b' => by
  show PySem.W.alike (.tuple (b.map .int)) (.tuple (b'.map .int)) = true
  rw [PySem.W.alike]
  exact PySem.W.alike_ints b b'
theorem wDs_ne {ks : List (List Int)} (h : ∀ w ∈ ks, w ≠ []) : ∀ d, d ∈ ks.map wD → ∃ x r, d = PyData.tuple (x :: r) := fun d hd => by
  obtain ⟨w, hw, rfl⟩ := List.mem_map.mp hd
  cases w with
  | nil => exact absurd rfl (h _ hw)
  | cons x r => exact ⟨_, _, rfl⟩
theorem dataLe_wD : PySem.W.dataLe false wD = leW := by
  have h := PySem.W.dataLe_rows (fun b : List Int => b)
  exact h
theorem dt_lt {ws : List (List Int)} {p : Int} {n : Nat} (hpre : TabPre n p) (h : Keys p n ws) : (kvW ws).length < sizeLine := by
  unfold kvW
  rw [List.length_map]
  exact small1000 (Nat.le_trans (h.len hpre.1) hpre.2.2)
theorem isKeys_tps {H : Hp} : ∀ {ws : List (List Int)} {bs : List Addr}, IsKeys H (kvW ws) bs → Tps H (bs.map V.ref) ws
  | [], _, h => by cases h; exact .nil
  | w :: r, _, h => by
    cases h with
    | @cons p b _ bs q t =>
      have q : H b = some (.tup ((kW w).map kV)) := q
      rw [kW_v] at q
      exact .cons ⟨b, rfl, q⟩ (isKeys_tps t)
/-! ### the law's span -/
abbrev s__law_span : Stmt := top 48
theorem sc__law_span : FnScope ["_law_rows_here", "_law_n", "_law_p", "_law_found", "_law_row", "_law_wider", "_law_word_here", "_law_a", "_law_k"] ["_law_rows_here", "_law_n", "_law_p"] (defScope s__law_span) := ⟨rfl, rfl, rfl, by decide +kernel, rfl, by decide +kernel, by decide +kernel⟩
def sp__law_span : Sp := fun vs H Q _ => ∃ (a : Addr) (us : List V) (rows : List (List Int)) (n : Nat) (p : Int), vs = [.ref a, .int n, .int p] ∧ H a = some (.lst us) ∧ Tps H us rows ∧ (∀ r ∈ rows, Wn p n r) ∧ 1 ≤ n ∧ TabPre n p ∧
  ∀ l H' ws, Same H H' → H l = none → H' l = some (.lst ws) → Tps H' ws (sortBy leW (spanKeys rows n p)) → Q (.ref l) H'
theorem spanIn_keys {p : Int} {n : Nat} (hp : Pr p) {w row : List Int} (hw : Wn p n w) (hr : Wn p n row) (m : Nat) {ws : List (List Int)} (h : Keys p n ws) : Keys p n ((List.range m).foldl (fun wide a => putW wide (addw w (scaled row ((a : Nat) : Int) p) p)) ws) :=
  foldl_inv (Keys p n) _ (fun u a h => h.put ⟨by rw [addw_len _ _ _ (by rw [scaled_len, hr.1, hw.1])]; exact hw.1, addw_wd hp _ _⟩) _ _ h
theorem spanRow_keys' {p : Int} {n : Nat} (hp : Pr p) {row : List Int} (hr : Wn p n row) : ∀ (found : List (List Int)) (ws : List (List Int)), (∀ w ∈ found, Wn p n w) → Keys p n ws → Keys p n (found.foldl (fun wide w => (List.range p.toNat).foldl (fun wide a => putW wide (addw w (scaled row ((a : Nat) : Int) p) p)) wide) ws)
  | [], _, _, h => h
  | w :: r, ws, hf, h => spanRow_keys' hp hr r _ (fun v hv => hf v (List.mem_cons_of_mem _ hv)) (spanIn_keys hp (hf w List.mem_cons_self) hr _ h)
theorem spanRow_keys {p : Int} {n : Nat} (hp : Pr p) {row : List Int} (hr : Wn p n row) {found : List (List Int)} (h : Keys p n found) : Keys p n (spanRow p found row) := spanRow_keys' hp hr found [] h.wn .nil
theorem spanKeys_keys' {p : Int} {n : Nat} (hp : Pr p) : ∀ (rows found : List (List Int)), (∀ r ∈ rows, Wn p n r) → Keys p n found → Keys p n (rows.foldl (spanRow p) found)
  | [], _, _, h => h
  | r :: t, _, hr, h => spanKeys_keys' hp t _ (fun v hv => hr v (List.mem_cons_of_mem _ hv)) (spanRow_keys hp (hr r List.mem_cons_self) h)
theorem zeros_wn {p : Int} (hp : Pr p) (n : Nat) : Wn p n (List.replicate n 0) := ⟨List.length_replicate, fun x hx => by
  have := hp.pos
  rw [(List.mem_replicate.mp hx).2]; omega⟩
theorem keys_one {p : Int} (hp : Pr p) (n : Nat) : Keys p n [List.replicate n 0] := ⟨by simp, fun w hw => by rw [List.mem_singleton.mp hw]; exact zeros_wn hp n⟩
theorem spanKeys_keys {p : Int} {n : Nat} (hp : Pr p) {rows : List (List Int)} (hr : ∀ r ∈ rows, Wn p n r) : Keys p n (spanKeys rows n p) := spanKeys_keys' hp rows _ hr (keys_one hp n)
theorem ok__law_span {f : Addr} {fd : FuncData} (F : Fun K "_law_span" "_law_span" s__law_span f fd) (T : Txt K mg) (c__law_scaled : Cal P w K mg base 1 "_law_scaled" sp__law_scaled []) (c__law_sum : Cal P w K mg base 1 "_law_sum" sp__law_sum [])  : FnOk P w K mg base CX0 2 f fd ["_law_rows_here", "_law_n", "_law_p"] sp__law_span := by
  refine F.ok sc__law_span (fun vs H Q E h => ?_) (fun cdv A outer s H vs Q E hr h => ?_)
  · obtain ⟨a, us, rows, n, p, rfl, _⟩ := h
    rfl
  · obtain ⟨a, us, rows, n, p, rfl, ha, hrows, hwn, hn1, hpre, k⟩ := h
    have hp := hpre.1
    have hp7 := hp.pos
    have hn6 := hpre.2.1
    refine ⟨_, (pss_cons (ps_set (i := 3) sc__law_span.nd rfl (Or.inl rfl) (pe_disp1T (hu_of hr) (pe_callTy (call_tupK K) (by rfl) T.tuple (by decide +kernel) (pa_cons (pe_lc (own := [("_law_k", 8)]) (g := gName 8) (tt := tYes) rfl sc__law_span.nd (pi_range1 rfl T.range (pa_cons (pv 1) pa_nil)) (blkOk_by (N := ["_law_rows_here", "_law_n", "_law_p", "_law_found", "_law_row", "_law_wider", "_law_word_here", "_law_a", "_law_k"]) (sc := defScope s__law_span) (by decide +kernel)) (fun _ _ _ _ _ => (pg_name (i := 8) sc__law_span.nd rfl (Or.inl rfl))) (fun _ _ _ _ _ => pts_nil) (fun _ _ _ _ _ => pe_int)) pa_nil)) pe_bl))
      (pss_cons (ps_for PassesOwn.never rfl (pi_list (pv 0)) (pg_name (i := 4) sc__law_span.nd rfl (Or.inl rfl))
      (pss_cons (ps_set (i := 5) sc__law_span.nd rfl (Or.inl rfl) pe_dnewT)
      (pss_cons (ps_for PassesOwn.never rfl (pi_list (pe_callTy (call_list_dT rfl) (by rfl) T.list (by decide +kernel) (pa_cons (pv 3) pa_nil))) (pg_name (i := 6) sc__law_span.nd rfl (Or.inl rfl))
      (pss_one (ps_for PassesOwn.never rfl (pi_range1 rfl T.range (pa_cons (pv 2) pa_nil)) (pg_name (i := 7) sc__law_span.nd rfl (Or.inl rfl))
      (pss_one (ps_dput (hu_of hr) (pv 5) (pe_c c__law_sum hr (by decide) rfl (pa_cons (pv 6) (pa_cons (pe_c c__law_scaled hr (by decide) rfl (pa_cons (pv 4) (pa_cons (pv 7) (pa_cons (pv 2) pa_nil)))) (pa_cons (pv 2) pa_nil)))) pe_bl rfl)))))
      (pss_one (ps_set (i := 3) sc__law_span.nd rfl (Or.inl rfl) (pv 5))))))
      (pss_one (ps_ret (pe_callB (cr_sortedDK K (hu64 hr)) (by rfl) T.sorted (by decide +kernel) (pa_cons (pe_lock (pe_lc (own := [("_law_word_here", 6)]) (g := gName 6) (tt := tYes) rfl sc__law_span.nd (pi_keys (pv 3)) (blkOk_by (N := ["_law_rows_here", "_law_n", "_law_p", "_law_found", "_law_row", "_law_wider", "_law_word_here", "_law_a", "_law_k"]) (sc := defScope s__law_span) (by decide +kernel)) (fun _ _ _ _ _ => (pg_name (i := 6) sc__law_span.nd rfl (Or.inl rfl))) (fun _ _ _ _ _ => pts_nil) (fun _ _ _ _ _ => (pv 6)))) pa_nil)))))), ?_⟩
    intro d hd
    have s0 : Same H (upd H d (.dT [])) := (Same.refl H).put hd
    refine ⟨_, rfl, _, rfl, by omega, by omega, ?_⟩
    have en : ((n : Nat) : Int).toNat = n := by omega
    rw [en]
    refine fun l hl => lc_map (List.range n) (fun _ => (0 : Int)) Ri walks_range (by simp) (small1000 (by omega)) hl Ri.mono (fun i x z H1 Q1 hx hz s1 _ q => q _ _ (Same.refl _) rfl) fun H1 ys s1 e1 hp1 => ?_
    rw [List.map_const', List.length_range] at hp1
    obtain rfl := paired_int hp1
    refine ⟨_, _, rfl, .inl ⟨SqL.of e1, fun t ht => ?_⟩⟩
    have s2 := (s0.trans s1).put ht (o := .tup ((List.replicate n (0 : Int)).map V.int))
    have hd1 : H1 d = some (.dT []) := s1 _ _ upd_same
    have hdt : d ≠ t := ne_of_none hd1 ht
    refine ⟨t, kW (List.replicate n 0), rfl, by rw [upd_same, kW_v], by rw [upd_ne hdt]; exact hd1, ?_⟩
    have s3 : Same H (upd (upd H1 t (.tup ((List.replicate n (0 : Int)).map V.int))) d (.dT [(kW (List.replicate n 0), .bl true)])) := Same.own s2 hd
    refine ⟨_, rfl, a, rfl, ⟨us, SqL.of (s3 _ _ ha)⟩, for_list (xs := us) (fun i σ H' => ∃ d' x y z u v, σ = [some (.ref a), some (.int n), some (.int p), some (.ref d'), x, y, z, u, v] ∧ Same H H' ∧ H d' = none ∧ H' d' = some (.dT (kvW ((rows.take i).foldl (spanRow p) [List.replicate n 0])))) ?_ ?_ ?_ ?_⟩
    · exact ⟨d, _, _, _, _, _, rfl, s3, hd, upd_same⟩
    · rintro i σ H' _ ⟨d', x, y, z, u, v, rfl, s4, _, _⟩
      exact SqL.of (s4 _ _ ha)
    · rintro i xv σ H' hxv ⟨d', x, y, z, u, v, rfl, s4, hd', h4⟩
      obtain ⟨row, hrow, hvr⟩ := pget hrows hxv
      have hrw := hwn row (List.mem_of_getElem? hrow)
      generalize hfd : (rows.take i).foldl (spanRow p) [List.replicate n 0] = found at h4
      have hfk : Keys p n found := by
        rw [← hfd]
        exact spanKeys_keys' hp _ _ (fun r hr => hwn r (List.mem_of_mem_take hr)) (keys_one hp n)
      refine fun m hm => ?_
      have s5 := s4.put hm (o := .dT [])
      have hdm : d' ≠ m := ne_of_none h4 hm
      refine ⟨_, rfl, d', _, rfl, .inl (by rw [upd_ne hdm]; exact h4), fun c bs hc hbs => ?_⟩
      have htp : Tps (upd H' m (.dT [])) (bs.map V.ref) found := isKeys_tps hbs
      have hmc : m ≠ c := ne_of_none upd_same hc
      have s6 := s5.put hc (o := .lst (bs.map V.ref))
      have s46 : Same (upd H' m (.dT [])) (upd (upd H' m (.dT [])) c (.lst (bs.map V.ref))) := (Same.refl _).put hc
      have hmn : H m = none := s4.free hm
      refine ⟨c, rfl, ⟨bs.map V.ref, SqL.of upd_same⟩, for_list (xs := bs.map V.ref) (fun j σ H2 => ∃ y z u v, σ = [some (.ref a), some (.int n), some (.int p), some (.ref d'), some xv, some (.ref m), y, z, v] ∧ u = () ∧ Same H H2 ∧ H2 c = some (.lst (bs.map V.ref)) ∧ Tps H2 (bs.map V.ref) found ∧
        H2 m = some (.dT (kvW ((found.take j).foldl (fun wide w => (List.range p.toNat).foldl (fun wide a => putW wide (addw w (scaled row ((a : Nat) : Int) p) p)) wide) [])))) ?_ ?_ ?_ ?_⟩
      · exact ⟨_, _, (), _, rfl, rfl, s6, upd_same, Tps.mono s46 htp, by rw [upd_ne hmc, upd_same]; rfl⟩
      · rintro j σ H2 _ ⟨y, z, u, v, rfl, _, _, h6, _⟩
        exact SqL.of h6
      · rintro j wv σ H2 hwv ⟨y, z, u, v, rfl, _, s7, h6, h7, h8⟩
        obtain ⟨fw, hfw, hvw⟩ := pget h7 hwv
        have hfwn := hfk.wn fw (List.mem_of_getElem? hfw)
        generalize hwd : (found.take j).foldl (fun wide w => (List.range p.toNat).foldl (fun wide a => putW wide (addw w (scaled row ((a : Nat) : Int) p) p)) wide) [] = wide at h8
        have hwk : Keys p n wide := by
          rw [← hwd]
          exact spanRow_keys' hp hrw _ [] (fun w hw => hfk.wn w (List.mem_of_mem_take hw)) .nil
        refine ⟨_, rfl, _, rfl, by omega, by omega, ?_⟩
        refine for_range (lo := 0) (n := p.toNat) (fun b σ H3 => ∃ z v, σ = [some (.ref a), some (.int n), some (.int p), some (.ref d'), some xv, some (.ref m), some wv, z, v] ∧ Same H H3 ∧ H3 c = some (.lst (bs.map V.ref)) ∧ Tps H3 (bs.map V.ref) found ∧
          H3 m = some (.dT (kvW ((List.range b).foldl (fun wide a => putW wide (addw fw (scaled row ((a : Nat) : Int) p) p)) wide)))) ⟨_, _, rfl, s7, h6, h7, h8⟩ ?_ ?_
        · rintro b σ H3 hb ⟨z, v, rfl, s8, g6, g7, g8⟩
          rw [Int.zero_add]
          have hk8 := spanIn_keys hp hfwn hrw b hwk
          have hvr8 : Tp H3 xv row := hvr.mono s8
          obtain ⟨fw', hfw', hvw8⟩ := pget g7 hwv
          rw [hfw] at hfw'
          cases hfw'
          refine ⟨_, rfl, _, rfl, _, rfl, _, rfl, _, rfl, xv, row, ((b : Nat) : Int), p, rfl, hvr8, hp, hrw.2, by rw [hrw.1]; omega, fun r1 H4 s9 q1 => ?_⟩
          refine ⟨_, rfl, wv, r1, fw, scaled row ((b : Nat) : Int) p, p, rfl, hvw8.mono s9, q1, hp, by rw [scaled_len, hrw.1, hfwn.1], by rw [hfwn.1]; omega, fun r2 H5 s10 q2 => ?_⟩
          obtain ⟨b2, rfl, q2⟩ := q2
          have hm5 := s10 _ _ (s9 _ _ g8)
          refine ⟨m, _, rfl, DPut.t hm5 (k := kW (addw fw (scaled row ((b : Nat) : Int) p) p)) (by rw [kW_v]; exact q2) (dt_lt hpre hk8), ?_⟩
          rw [kvW_put]
          have hcm : c ≠ m := Ne.symm hmc
          have sm5 : Same H (upd H5 m (.dT (kvW (putW ((List.range b).foldl (fun wide a => putW wide (addw fw (scaled row ((a : Nat) : Int) p) p)) wide) (addw fw (scaled row ((b : Nat) : Int) p) p))))) := Same.own ((s8.trans s9).trans s10) hmn
          refine ⟨_, _, rfl, sm5, by rw [upd_ne hcm]; exact s10 _ _ (s9 _ _ g6), Paired.mapP g7 fun v z hvz => ?_, by rw [upd_same, foldl_range_succ]⟩
          obtain ⟨e, rfl, he⟩ := hvz
          refine ⟨e, rfl, ?_⟩
          have he5 := s10 _ _ (s9 _ _ he)
          rw [upd_ne (ne_of he5 hm5 (fun z => nomatch z))]
          exact he5
        · rintro σ H3 ⟨z, v, rfl, s8, g6, g7, g8⟩
          refine ⟨_, _, (), _, rfl, rfl, s8, g6, g7, ?_⟩
          have e : found.take (j + 1) = found.take j ++ [fw] := by rw [List.take_add_one, hfw]; rfl
          rw [g8, e, List.foldl_append, hwd]
          rfl
      · rintro σ H2 ⟨y, z, u, v, rfl, _, s7, h6, h7, h8⟩
        have el : (bs.map V.ref).length = found.length := plen htp
        rw [el, List.take_length] at h8
        refine ⟨_, rfl, m, _, _, _, _, _, rfl, s7, hmn, ?_⟩
        have e : rows.take (i + 1) = rows.take i ++ [row] := by rw [List.take_add_one, hrow]; rfl
        rw [h8, e, List.foldl_append, hfd]
        rfl
    · rintro σ H' ⟨d', x, y, z, u, v, rfl, s4, hd', h4⟩
      have elr : us.length = rows.length := plen hrows
      rw [elr, List.take_length] at h4
      have h4 : H' d' = some (.dT (kvW (spanKeys rows n p))) := h4
      generalize hks : spanKeys rows n p = ks at h4
      have hkk : Keys p n ks := by rw [← hks]; exact spanKeys_keys hp hwn
      refine ⟨d', _, h4, trivial, fun od => ⟨_, rfl, d', od, rfl, .inr ⟨_, upd_same, fun D hD => ?_⟩⟩⟩
      have hw : Walks (Itkt d' od (kvW ks)) (upd H' d' (.frz od (.dT (kvW ks)))) ks.length (fun i x H2 => ∃ w, ks[i]? = some w ∧ Tp H2 x w) := fun H2 sm => by
        have hz := sm _ _ (upd_same (a := d') (o := HO.frz od (.dT (kvW ks))))
        refine ⟨fun i hi => ⟨⟨hz, by unfold kvW; rw [List.length_map]; exact hi⟩, fun x H3 hy => ?_⟩, hz, by unfold kvW; rw [List.length_map]; exact Nat.le_refl _⟩
        obtain ⟨rfl, k0, v0, q, e1, rfl, e3⟩ := hy
        refine ⟨rfl, ks[i], List.getElem?_eq_getElem hi, q, rfl, ?_⟩
        unfold kvW at e1
        rw [List.getElem?_map, List.getElem?_eq_getElem hi] at e1
        cases e1
        rw [kW_v] at e3
        exact e3
      refine lc_map ks id Tp hw rfl (by have := dt_lt hpre hkk; unfold kvW at this; rwa [List.length_map] at this) hD Tp.monoD ?_ ?_
      · rintro i x z H2 Q1 ⟨w1, hw1, htw⟩ hz s5 - q
        rw [hz] at hw1
        cases hw1
        exact ⟨_, rfl, q _ _ (Same.refl _) htw⟩
      · intro H2 ys s5 hD2 hys
        rw [List.map_id] at hys
        have hfz : H2 d' = some (.frz od (.dT (kvW ks))) := s5 _ _ upd_same
        refine ⟨hfz, ?_⟩
        have hne : ∀ b o, H2 b = some o → o ≠ .frz od (.dT (kvW ks)) → b ≠ d' := fun b o e n z => by
          rw [z, hfz] at e
          exact n (Option.some.inj e).symm
        have sH : Same H (upd H2 d' (.dT (kvW ks))) := fun b o e => by
          have hb : b ≠ d' := fun z => by rw [z, hd'] at e; cases e
          rw [upd_ne hb]
          refine s5 _ _ ?_
          rw [upd_ne hb]
          exact s4 _ _ e
        have hDd : D ≠ d' := hne D _ hD2 (fun z => nomatch z)
        have hys2 : Tps (upd H2 d' (.dT (kvW ks))) ys ks := Paired.mapP hys fun v z hvz => by
          obtain ⟨e, rfl, he⟩ := hvz
          exact ⟨e, rfl, by rw [upd_ne (hne e _ he (fun z => nomatch z))]; exact he⟩
        refine ⟨List Int, D, ys, ks, wD, Tp (upd H2 d' (.dT (kvW ks))), rfl, SqL.of (by rw [upd_ne hDd]; exact hD2), hys2, fun v b h => h.dp, ?_, ?_, fun b _ => Nat.le_trans (wD_depth b) (by omega), fun zs q hzs hq => ?_⟩
        · exact wDs_alike ks
        · exact .inl (wDs_ne fun w hw => by
            have := (hkk.wn w hw).1
            rintro rfl
            simp at this
            omega)
        · rw [dataLe_wD, mergeSort_eq ordW] at hzs
          subst hks
          exact k q _ zs (sH.put hq) (sH.free hq) upd_same (Tps.mono ((Same.refl _).put hq) hzs)
/-! ### the law's multiples -/
abbrev s__law_multiples_of : Stmt := top 59
theorem sc__law_multiples_of : FnScope ["_law_g", "_law_n", "_law_p", "_law_rows_here", "_law_k", "_law_i"] ["_law_g", "_law_n", "_law_p"] (defScope s__law_multiples_of) := ⟨rfl, rfl, rfl, by decide +kernel, rfl, by decide +kernel, by decide +kernel⟩
def sp__law_multiples_of : Sp := fun vs H Q _ => ∃ (v : V) (g : List Int) (n : Nat) (p : Int), vs = [v, .int n, .int p] ∧ Tp H v g ∧ Wd p g ∧ 1 ≤ g.length ∧ g.length ≤ n + 1 ∧ 1 ≤ n ∧ TabPre n p ∧
  ∀ l H' ws, Same H H' → H l = none → H' l = some (.lst ws) → Tps H' ws (sortBy leW (spanKeys (genRows n g) n p)) → Q (.ref l) H'
theorem genRow_wn {p : Int} (hp : Pr p) {n : Nat} {g : List Int} (hg : Wd p g) (hl : 1 ≤ g.length) {i : Nat} (hi : i < n + 1 - g.length) : Wn p n (List.replicate i 0 ++ g ++ List.replicate (n + 1 - g.length - 1 - i) 0) := by
  refine ⟨by simp only [List.length_append, List.length_replicate]; omega, fun x hx => ?_⟩
  have hp7 := hp.pos
  rcases List.mem_append.mp hx with hx | hx
  · rcases List.mem_append.mp hx with hx | hx
    · rw [(List.mem_replicate.mp hx).2]; omega
    · exact hg x hx
  · rw [(List.mem_replicate.mp hx).2]; omega
theorem genRows_wn {p : Int} (hp : Pr p) {n : Nat} {g : List Int} (hg : Wd p g) (hl : 1 ≤ g.length) : ∀ r ∈ genRows n g, Wn p n r := fun r hr => by
  obtain ⟨i, hi, rfl⟩ := List.mem_map.mp hr
  exact genRow_wn hp hg hl (List.mem_range.mp hi)
theorem ok__law_multiples_of {f : Addr} {fd : FuncData} (F : Fun K "_law_multiples_of" "_law_multiples_of" s__law_multiples_of f fd) (T : Txt K mg) (c__law_span : Cal P w K mg base 2 "_law_span" sp__law_span [])  : FnOk P w K mg base CX0 3 f fd ["_law_g", "_law_n", "_law_p"] sp__law_multiples_of := by
  refine F.ok sc__law_multiples_of (fun vs H Q E h => ?_) (fun cdv A outer s H vs Q E hr h => ?_)
  · obtain ⟨v, g, n, p, rfl, _⟩ := h
    rfl
  · obtain ⟨v, g, n, p, rfl, ⟨t, rfl, ht⟩, hg, hg1, hg2, hn1, hpre, k⟩ := h
    have hp := hpre.1
    have hp7 := hp.pos
    have hn6 := hpre.2.1
    refine ⟨_, (pss_cons (ps_set (i := 3) sc__law_multiples_of.nd rfl (Or.inl rfl) (pe_lst pa_nil))
      (pss_cons (ps_for PassesOwn.never rfl (pi_range1 rfl T.range (pa_cons (pe_op op_sub (pe_op op_add (pv 1) pe_int) (pe_callB (call_lenK K) (by rfl) T.len PySem.boot_len (pa_cons (pv 0) pa_nil))) pa_nil)) (pg_name (i := 4) sc__law_multiples_of.nd rfl (Or.inl rfl))
      (pss_one (ps_expr (pe_bm PySem.F.plainAttrs_list PySem.F.slot_list_append PySem.F.type_list_append mt_append (pv 3) (pa_cons (pe_op (op_catAK K) (pe_op (op_catAK K) (pe_callTy (call_tupK K) (by rfl) T.tuple (by decide +kernel) (pa_cons (pe_lc (own := [("_law_i", 5)]) (g := gName 5) (tt := tYes) rfl sc__law_multiples_of.nd (pi_range1 rfl T.range (pa_cons (pv 4) pa_nil)) (blkOk_by (N := ["_law_g", "_law_n", "_law_p", "_law_rows_here", "_law_k", "_law_i"]) (sc := defScope s__law_multiples_of) (by decide +kernel)) (fun _ _ _ _ _ => (pg_name (i := 5) sc__law_multiples_of.nd rfl (Or.inl rfl))) (fun _ _ _ _ _ => pts_nil) (fun _ _ _ _ _ => pe_int)) pa_nil)) (pv 0)) (pe_callTy (call_tupK K) (by rfl) T.tuple (by decide +kernel) (pa_cons (pe_lc (own := [("_law_i", 5)]) (g := gName 5) (tt := tYes) rfl sc__law_multiples_of.nd (pi_range1 rfl T.range (pa_cons (pe_op op_sub (pe_op op_sub (pv 1) (pv 4)) (pe_callB (call_lenK K) (by rfl) T.len PySem.boot_len (pa_cons (pv 0) pa_nil))) pa_nil)) (blkOk_by (N := ["_law_g", "_law_n", "_law_p", "_law_rows_here", "_law_k", "_law_i"]) (sc := defScope s__law_multiples_of) (by decide +kernel)) (fun _ _ _ _ _ => (pg_name (i := 5) sc__law_multiples_of.nd rfl (Or.inl rfl))) (fun _ _ _ _ _ => pts_nil) (fun _ _ _ _ _ => pe_int)) pa_nil))) pa_nil)))))
      (pss_one (ps_ret (pe_c c__law_span hr (by decide) rfl (pa_cons (pv 3) (pa_cons (pv 1) (pa_cons (pv 2) pa_nil)))))))), ?_⟩
    refine ⟨by show 0 ≤ sizeLine; decide, fun l hl => ?_⟩
    have s1 := (Same.refl H).put hl (o := .lst [])
    have hln : H l = none := hl
    refine ⟨_, rfl, _, _, rfl, rfl, _, rfl, t, _, rfl, .inr (SqT.of (s1 _ _ ht)), _, _, rfl, rfl, _, rfl, by rw [List.length_map]; omega, by rw [List.length_map]; omega, ?_⟩
    rw [List.length_map]
    have en : ((n : Nat) : Int) + 1 - ((g.length : Nat) : Int) = ((n + 1 - g.length : Nat) : Int) := by omega
    rw [en]
    have en2 : (((n + 1 - g.length : Nat) : Int)).toNat = n + 1 - g.length := by omega
    rw [en2]
    refine for_range (lo := 0) (n := n + 1 - g.length) (fun i σ H' => ∃ us x y, σ = [some (.ref t), some (.int n), some (.int p), some (.ref l), x, y] ∧ Same H H' ∧ H' l = some (.lst us) ∧ Tps H' us ((List.range i).map fun i => List.replicate i 0 ++ g ++ List.replicate (n + 1 - g.length - 1 - i) 0)) ⟨[], _, _, rfl, s1, upd_same, .nil⟩ ?_ ?_
    · rintro i σ H' hi ⟨us, x, y, rfl, s2, h2, h3⟩
      have hul : us.length = i := by have := plen h3; rw [List.length_map, List.length_range] at this; exact this
      rw [Int.zero_add]
      refine ⟨_, rfl, .inl ⟨rfl, _, SqL.of h2⟩, _, rfl, _, rfl, by omega, by omega, ?_⟩
      have ei : ((i : Nat) : Int).toNat = i := by omega
      rw [ei]
      refine fun D hD => lc_map (List.range i) (fun _ => (0 : Int)) Ri walks_range (by simp) (small1000 (by omega)) hD Ri.mono (fun j x z H1 Q1 hx hz s3 _ q => q _ _ (Same.refl _) rfl) fun H1 ys s3 e1 hp1 => ?_
      rw [List.map_const', List.length_range] at hp1
      obtain rfl := paired_int hp1
      refine ⟨_, _, rfl, .inl ⟨SqL.of e1, fun z1 hz1 => ?_⟩⟩
      have s4 := (s2.trans s3).put hz1 (o := .tup ((List.replicate i (0 : Int)).map V.int))
      refine ⟨_, rfl, cat_tp (a := List.replicate i 0) (b := g) ⟨z1, rfl, upd_same⟩ ⟨t, rfl, s4 _ _ ht⟩ (by rw [List.length_replicate]; omega) fun r2 H2 s5 q2 => ?_⟩
      refine ⟨_, rfl, _, rfl, _, _, rfl, rfl, _, rfl, t, _, rfl, .inr (SqT.of ((s4.trans s5) _ _ ht)), _, _, rfl, rfl, _, rfl, by rw [List.length_map]; omega, by rw [List.length_map]; omega, ?_⟩
      rw [List.length_map]
      have ej : (((n : Nat) : Int) - ((i : Nat) : Int) - ((g.length : Nat) : Int)).toNat = n + 1 - g.length - 1 - i := by omega
      rw [ej]
      refine fun D2 hD2 => lc_map (List.range (n + 1 - g.length - 1 - i)) (fun _ => (0 : Int)) Ri walks_range (by simp) (small1000 (by omega)) hD2 Ri.mono (fun j x z H1 Q1 hx hz s3 _ q => q _ _ (Same.refl _) rfl) fun H3 ys s6 e3 hp3 => ?_
      rw [List.map_const', List.length_range] at hp3
      obtain rfl := paired_int hp3
      refine ⟨_, _, rfl, .inl ⟨SqL.of e3, fun z2 hz2 => ?_⟩⟩
      have s7 := (Same.refl H3).put hz2 (o := .tup ((List.replicate (n + 1 - g.length - 1 - i) (0 : Int)).map V.int))
      refine cat_tp (a := List.replicate i 0 ++ g) (b := List.replicate (n + 1 - g.length - 1 - i) 0) ((q2.mono s6).mono s7) ⟨z2, rfl, upd_same⟩ (by simp only [List.length_append, List.length_replicate]; omega) fun r3 H4 s8 q3 => ?_
      have s14 : Same H' H4 := ((((s3.put hz1).trans s5).trans s6).trans s7).trans s8
      refine ⟨l, us, r3, rfl, rfl, s14 _ _ h2, small1000 (by omega), us ++ [r3], _, _, rfl, Same.own (s2.trans s14) hln, upd_same, ?_⟩
      have hl4 := s14 _ _ h2
      have mv : ∀ v z, Tp H4 v z → Tp (upd H4 l (.lst (us ++ [r3]))) v z := fun v z hvz => by
        obtain ⟨e, rfl, he⟩ := hvz
        exact ⟨e, rfl, by rw [upd_ne (ne_of he hl4 (fun z => nomatch z))]; exact he⟩
      rw [List.range_succ, List.map_append]
      exact papp (Paired.mapP h3 fun v z hvz => mv v z (hvz.mono s14)) (.cons (mv _ _ q3) .nil)
    · rintro σ H' ⟨us, x, y, rfl, s2, h2, h3⟩
      refine ⟨_, rfl, _, rfl, _, rfl, l, us, genRows n g, n, p, rfl, h2, h3, genRows_wn hp hg hg1, hn1, hpre, fun l2 H2 ws s3 hl2 e2 q2 => k l2 H2 ws (s2.trans s3) (s2.free hl2) e2 q2⟩
end
end Wk
namespace Wk
open PySem L2
open C8 (Cal Met Mak pe_c pe_mk pe_mt pe_mt0)
section
variable {P : Program} {w : World} {K : PySem.W.Frag} {mg : Str → Option Value} {base : Heap}
/-! ### the law's state -/
/-- the two numbers -/
def StV (x y : Int) : Prop := 0 ≤ x ∧ 0 ≤ y ∧ y < 2147483647
def stL (x y : Int) : HO := .lst [.int x, .int y]
theorem no_part {σ : L2.St} {H : Hp} {Q : Option Int → Hp → Prop} (h : Q none H) : tNoPart σ H Q := h
abbrev s__law_state : Stmt := top 44
theorem sc__law_state : FnScope ["_law_script", "_law_seed", "_law_total", "_law_cell"] ["_law_script"] (defScope s__law_state) := ⟨rfl, rfl, rfl, by decide +kernel, rfl, by decide +kernel, by decide +kernel⟩
def sp__law_state (K : PySem.W.Frag) : Sp := fun vs H Q _ => ∃ (a : Addr) (ns : List Int), vs = [.ref a] ∧ SqL K H a (ns.map V.int) ∧ ∀ l x y H', Same H H' → H l = none → H' l = some (stL x y) → StV x y → Q (.ref l) H'
theorem take63 (ns : List Int) : cutI ns none (some 63) = ns.take 63 := by
  unfold cutI
  rw [HT.sIx_none]
  have e : HT.sIx ns.length ns.length (some 63) = min 63 ns.length := by
    unfold HT.sIx
    dsimp only
    rw [if_neg (by decide)]
    omega
  rw [e]
  simp [List.take_eq_take_iff]
theorem ok__law_state {f : Addr} {fd : FuncData} (F : Fun K "_law_state" "_law_state" s__law_state f fd) (T : Txt K mg)   : FnOk P w K mg base CX0 1 f fd ["_law_script"] (sp__law_state K) := by
  refine F.ok sc__law_state (fun vs H Q E h => ?_) (fun cdv A outer s H vs Q E hr h => ?_)
  · obtain ⟨a, ns, rfl, _⟩ := h
    rfl
  · obtain ⟨a, ns, rfl, ha, k⟩ := h
    refine ⟨_, (pss_cons (ps_set (i := 1) sc__law_state.nd rfl (Or.inl rfl) pe_int)
      (pss_cons (ps_set (i := 2) sc__law_state.nd rfl (Or.inl rfl) pe_int)
      (pss_cons (ps_for PassesOwn.never rfl (pi_list (pe_slice (sl_listK K) (pv 0) po_none (po_some pe_int))) (pg_name (i := 3) sc__law_state.nd rfl (Or.inl rfl))
      (pss_cons (ps_set (i := 1) sc__law_state.nd rfl (Or.inl rfl) (pe_op op_add (pe_op op_mul (pv 1) pe_int) (pe_callB call_abs (by rfl) T.abs (by decide +kernel) (pa_cons (pv 3) pa_nil))))
      (pss_one (ps_set (i := 2) sc__law_state.nd rfl (Or.inl rfl) (pe_op op_mod (pe_callTy call_int1 (by rfl) T.int (by decide +kernel) (pa_cons (pe_op op_add (pe_op op_mul (pv 2) pe_int) (pv 3)) pa_nil)) pe_int)))))
      (pss_one (ps_ret (pe_lst (pa_cons (pv 1) (pa_cons (pv 2) pa_nil)))))))), ?_⟩
    refine ⟨_, rfl, ?_⟩
    refine no_part ?_
    refine ⟨_, rfl, a, _, rfl, ha, fun l hl => ?_⟩
    have s1 := (Same.refl H).put hl (o := .lst (cutV (ns.map V.int) none (some 63)))
    rw [cutV_int] at s1 ⊢
    generalize cutI ns none (some 63) = ms at s1 ⊢
    refine ⟨l, rfl, ⟨_, SqL.of upd_same⟩, for_list (xs := ms.map V.int) (fun i σ H' => ∃ x y z, σ = [some (.ref a), some (.int x), some (.int y), z] ∧ StV x y ∧ H' = upd H l (.lst (ms.map V.int))) ?_ ?_ ?_ ?_⟩
    · exact ⟨0, 1, _, rfl, ⟨by omega, by omega, by omega⟩, rfl⟩
    · rintro i σ H' _ ⟨x, y, z, rfl, _, rfl⟩
      exact SqL.of upd_same
    · rintro i v σ H' hv ⟨x, y, z, rfl, ⟨h1, h2, h3⟩, rfl⟩
      obtain ⟨c, hc⟩ : ∃ c, v = V.int c := by
        rw [List.getElem?_map] at hv
        cases e : ms[i]? with
        | none => rw [e] at hv; cases hv
        | some c => rw [e] at hv; cases hv; exact ⟨c, rfl⟩
      subst hc
      refine ⟨_, rfl, _, _, rfl, rfl, .inr (by omega), _, rfl, _, rfl, _, _, rfl, rfl, ?_⟩
      refine ⟨_, rfl, _, _, rfl, rfl, .inr (by omega), _, rfl, _, _, rfl, rfl, .inl ⟨_, rfl, _, _, rfl, rfl, by omega, ?_⟩⟩
      refine ⟨_, _, _, rfl, ⟨?_, Int.emod_nonneg _ (by omega), Int.emod_lt_of_pos _ (by omega)⟩, rfl⟩
      have hc0 : 0 ≤ (if c < 0 then -c else c) := by split <;> omega
      omega
    · rintro σ H' ⟨x, y, z, rfl, hst, rfl⟩
      exact ⟨_, rfl, _, rfl, by show 2 ≤ sizeLine; decide, fun q hq => k q x y _ (s1.put hq) (s1.free hq) upd_same hst⟩
/-! ### a draw -/
abbrev s__law_take : Stmt := top 45
theorem sc__law_take : FnScope ["_law_state_here", "_law_m", "_law_value"] ["_law_state_here", "_law_m"] (defScope s__law_take) := ⟨rfl, rfl, rfl, by decide +kernel, rfl, by decide +kernel, by decide +kernel⟩
def sp__law_take : Sp := fun vs H Q _ => ∃ (a : Addr) (x y m : Int), vs = [.ref a, .int m] ∧ H a = some (stL x y) ∧ StV x y ∧ 0 < m ∧ m < 1000000 ∧ ∀ v x' y', 0 ≤ v → v < m → StV x' y' → Q (.int v) (upd H a (stL x' y'))
theorem ok__law_take {f : Addr} {fd : FuncData} (F : Fun K "_law_take" "_law_take" s__law_take f fd) (T : Txt K mg)   : FnOk P w K mg base CX0 1 f fd ["_law_state_here", "_law_m"] sp__law_take := by
  refine F.ok sc__law_take (fun vs H Q E h => ?_) (fun cdv A outer s H vs Q E hr h => ?_)
  · obtain ⟨a, x, y, m, rfl, _⟩ := h
    rfl
  · obtain ⟨a, x, y, m, rfl, ha, ⟨h1, h2, h3⟩, hm0, hm1, k⟩ := h
    refine ⟨_, (pss_cons (ps_if (pt_cmpR op_gt (pe_ix (ix_listK K) (pv 0) pe_int (fun _ _ => rfl)) pe_int (nomark _)) (pss_cons (ps_set (i := 2) sc__law_take.nd rfl (Or.inl rfl) (pe_op op_mod (pe_callTy call_int1 (by rfl) T.int (by decide +kernel) (pa_cons (pe_ix (ix_listK K) (pv 0) pe_int (fun _ _ => rfl)) pa_nil)) (pv 1)))
      (pss_cons (ps_asg (pe_op op_fdiv (pe_ix (ix_listK K) (pv 0) pe_int (fun _ _ => rfl)) (pv 1)) (pg_sub (pv 0) pe_int set_list))
      (pss_one (ps_ret (pv 2))))) pss_nil)
      (pss_cons (ps_asg (pe_op op_mod (pe_callTy call_int1 (by rfl) T.int (by decide +kernel) (pa_cons (pe_op op_add (pe_op op_mul (pe_ix (ix_listK K) (pv 0) pe_int (fun _ _ => rfl)) pe_int) pe_int) pa_nil)) pe_int) (pg_sub (pv 0) pe_int set_list))
      (pss_one (ps_ret (pe_op op_mod (pe_callTy call_int1 (by rfl) T.int (by decide +kernel) (pa_cons (pe_op op_fdiv (pe_ix (ix_listK K) (pv 0) pe_int (fun _ _ => rfl)) pe_int) pa_nil)) (pv 1)))))), ?_⟩
    have i0 : atI [V.int x, V.int y] 0 = some (V.int x) := atI_nat (j := 0) rfl
    have i1 : atI [V.int x, V.int y] 1 = some (V.int y) := atI_nat (j := 1) rfl
    refine ⟨_, rfl, a, _, _, _, rfl, rfl, SqL.of ha, i0, _, _, rfl, rfl, _, rfl, ite2 (fun c => ?_) (fun c => ?_)⟩
    · refine ⟨_, rfl, a, _, _, _, rfl, rfl, SqL.of ha, i0, .inl ⟨_, rfl, _, rfl, _, _, rfl, rfl, hm0, ?_⟩⟩
      refine ⟨_, rfl, a, _, _, _, rfl, rfl, SqL.of ha, i0, _, rfl, _, _, rfl, rfl, ⟨hm0, by omega⟩, ?_⟩
      refine ⟨_, rfl, a, _, _, 0, rfl, rfl, ha, ixN_nat (by show 0 < 2; decide), ?_⟩
      exact ⟨_, rfl, k _ _ _ (Int.emod_nonneg _ (by omega)) (Int.emod_lt_of_pos _ hm0) ⟨Int.ediv_nonneg h1 (by omega), h2, h3⟩⟩
    · refine ⟨_, rfl, a, _, _, _, rfl, rfl, SqL.of ha, i1, _, _, rfl, rfl, .inr (by omega), _, _, rfl, rfl, .inl ⟨_, rfl, _, _, rfl, rfl, by omega, ?_⟩⟩
      refine ⟨_, rfl, a, _, _, 1, rfl, rfl, ha, ixN_nat (by show 1 < 2; decide), ?_⟩
      have hy : StV x ((y * 48271 + 11) % 2147483647) := ⟨h1, Int.emod_nonneg _ (by omega), Int.emod_lt_of_pos _ (by omega)⟩
      refine ⟨_, rfl, a, [V.int x, V.int ((y * 48271 + 11) % 2147483647)], _, _, rfl, rfl, SqL.of upd_same, atI_nat (j := 1) rfl, _, _, rfl, rfl, ⟨by omega, by omega⟩, .inl ⟨_, rfl, _, rfl, _, _, rfl, rfl, hm0, ?_⟩⟩
      exact k _ _ _ (Int.emod_nonneg _ (by omega)) (Int.emod_lt_of_pos _ hm0) hy
/-! ### a word drawn -/
/-- the state's list alone has changed -/
theorem but_refl {a : Addr} {H : Hp} {l : List V} (h : H a = some (.lst l)) : But a H H := ⟨⟨l, h⟩, fun _ _ _ q => q⟩
theorem But.trans' {a : Addr} {H H1 H2 : Hp} (b : But a H H1) (c : But a H1 H2) : But a H H2 := ⟨b.1, fun d o n q => c.2 d o n (b.2 d o n q)⟩
theorem But.same {a : Addr} {H H1 H2 : Hp} (b : But a H H1) (s : Same H1 H2) : But a H H2 := ⟨b.1, fun d o n q => s d o (b.2 d o n q)⟩
theorem But.free {a b : Addr} {H H' : Hp} (x : But a H H') (h : H' b = none) (ha : ∃ l, H' a = some (.lst l)) : H b = none := by
  cases e : H b with
  | none => rfl
  | some o =>
    by_cases n : b = a
    · obtain ⟨l, hl⟩ := ha
      rw [n, hl] at h; cases h
    · rw [x.2 b o n e] at h; cases h
theorem Tps.but {D : Addr} {H H' : Hp} {vs : List V} {ws : List (List Int)} (b : But D H H') (h : Tps H vs ws) : Tps H' vs ws := Paired.mapP h fun _ _ q => q.but b
abbrev s__law_word : Stmt := top 50
theorem sc__law_word : FnScope ["_law_state_here", "_law_n", "_law_p", "_law_k"] ["_law_state_here", "_law_n", "_law_p"] (defScope s__law_word) := ⟨rfl, rfl, rfl, by decide +kernel, rfl, by decide +kernel, by decide +kernel⟩
def sp__law_word : Sp := fun vs H Q _ => ∃ (a : Addr) (x y : Int) (n : Nat) (p : Int), vs = [.ref a, .int n, .int p] ∧ H a = some (stL x y) ∧ StV x y ∧ Pr p ∧ n ≤ 6 ∧
  ∀ r H' wd x' y', But a H H' → H' a = some (stL x' y') → StV x' y' → Wn p n wd → Tp H' r wd → Q r H'
theorem ok__law_word {f : Addr} {fd : FuncData} (F : Fun K "_law_word" "_law_word" s__law_word f fd) (T : Txt K mg) (c__law_take : Cal P w K mg base 1 "_law_take" sp__law_take [])  : FnOk P w K mg base CX0 2 f fd ["_law_state_here", "_law_n", "_law_p"] sp__law_word := by
  refine F.ok sc__law_word (fun vs H Q E h => ?_) (fun cdv A outer s H vs Q E hr h => ?_)
  · obtain ⟨a, x, y, n, p, rfl, _⟩ := h
    rfl
  · obtain ⟨a, x, y, n, p, rfl, ha, hst, hp, hn, k⟩ := h
    have hp7 := hp.pos
    refine ⟨_, (pss_one (ps_ret (pe_callTy (call_tupK K) (by rfl) T.tuple (by decide +kernel) (pa_cons (pe_lc (own := [("_law_k", 3)]) (g := gName 3) (tt := tYes) rfl sc__law_word.nd (pi_range1 rfl T.range (pa_cons (pv 1) pa_nil)) (blkOk_by (N := ["_law_state_here", "_law_n", "_law_p", "_law_k"]) (sc := defScope s__law_word) (by decide +kernel)) (fun _ _ _ _ _ => (pg_name (i := 3) sc__law_word.nd rfl (Or.inl rfl))) (fun _ _ _ _ _ => pts_nil) (fun _ _ _ _ _ => (pe_c c__law_take hr (by decide) rfl (pa_cons (pv 0) (pa_cons (pv 2) pa_nil))))) pa_nil)))), ?_⟩
    refine ⟨_, rfl, _, rfl, by omega, by omega, ?_⟩
    have en : ((n : Nat) : Int).toNat = n := by omega
    rw [en]
    refine fun D hD => ?_
    have hDa : D ≠ a := fun e => by
      have hD : H D = none := hD
      rw [e, ha] at hD; cases hD
    refine lc_range (lo := 0) (n := n) (fun i H' => ∃ x y wd, But a H H' ∧ H' a = some (stL x y) ∧ StV x y ∧ H' D = some (.lst (wd.map V.int)) ∧ Wn p i wd) ?_ ?_ ?_
    · refine ⟨x, y, [], ⟨⟨_, ha⟩, fun c o hc q => ?_⟩, by rw [upd_ne (Ne.symm hDa)]; exact ha, hst, upd_same, rfl, fun _ h => by cases h⟩
      have hcD : c ≠ D := fun z => by
        have hD : H D = none := hD
        rw [z, hD] at q; cases q
      rw [upd_ne hcD]; exact q
    · rintro i H' hi ⟨x1, y1, wd, hb, h1, h2, h3, h4⟩
      refine ⟨rfl, iteT (B := True) ?_⟩
      refine ⟨_, rfl, _, rfl, a, x1, y1, p, rfl, h1, h2, hp7.1, by omega, fun v x2 y2 hv0 hv1 hst2 => ?_⟩
      have e : (upd H' a (stL x2 y2)) D = some (.lst (wd.map V.int)) := by rw [upd_ne hDa]; exact h3
      refine ⟨_, e, small1000 (by rw [List.length_map, h4.1]; omega), x2, y2, wd ++ [v], ⟨⟨_, ha⟩, fun c o hc q => ?_⟩, by rw [upd_ne (Ne.symm hDa), upd_same], hst2, by rw [upd_same, List.map_append]; rfl, by rw [List.length_append, h4.1]; rfl, fun z hz => ?_⟩
      · have hcD : c ≠ D := fun z => by
          have hD : H D = none := hD
          rw [z, hD] at q; cases q
        rw [upd_ne hcD, upd_ne hc]
        exact hb.2 c o hc q
      · rcases List.mem_append.mp hz with hz | hz
        · exact h4.2 z hz
        · rw [List.mem_singleton.mp hz]; exact ⟨hv0, hv1⟩
    · rintro H' ⟨x1, y1, wd, hb, h1, h2, h3, h4⟩
      refine ⟨_, _, rfl, .inl ⟨SqL.of h3, fun q hq => ?_⟩⟩
      have hqa : a ≠ q := ne_of_none h1 hq
      exact k _ _ wd x1 y1 (hb.same ((Same.refl H').put hq)) (by rw [upd_ne hqa]; exact h1) h2 h4 ⟨q, rfl, upd_same⟩
/-! ### a prime drawn -/
abbrev s__law_prime : Stmt := top 51
theorem sc__law_prime : FnScope ["_law_state_here"] ["_law_state_here"] (defScope s__law_prime) := ⟨rfl, rfl, rfl, by decide +kernel, rfl, by decide +kernel, by decide +kernel⟩
def sp__law_prime : Sp := fun vs H Q _ => ∃ (a : Addr) (x y : Int), vs = [.ref a] ∧ H a = some (stL x y) ∧ StV x y ∧ ∀ p H' x' y', But a H H' → H' a = some (stL x' y') → StV x' y' → Pr p → Q (.int p) H'
theorem ok__law_prime {f : Addr} {fd : FuncData} (F : Fun K "_law_prime" "_law_prime" s__law_prime f fd) (T : Txt K mg) (c__law_take : Cal P w K mg base 1 "_law_take" sp__law_take [])  : FnOk P w K mg base CX0 2 f fd ["_law_state_here"] sp__law_prime := by
  refine F.ok sc__law_prime (fun vs H Q E h => ?_) (fun cdv A outer s H vs Q E hr h => ?_)
  · obtain ⟨a, x, y, rfl, _⟩ := h
    rfl
  · obtain ⟨a, x, y, rfl, ha, hst, k⟩ := h
    refine ⟨_, (pss_one (ps_ret (pe_ix (ix_listK K) (pe_lst (pa_cons pe_int (pa_cons pe_int (pa_cons pe_int (pa_cons pe_int (pa_cons pe_int (pa_cons pe_int pa_nil))))))) (pe_c c__law_take hr (by decide) rfl (pa_cons (pv 0) (pa_cons pe_int pa_nil))) (fun _ _ => rfl)))), ?_⟩
    refine ⟨by show 6 ≤ sizeLine; decide, fun l hl => ?_⟩
    have hal : a ≠ l := ne_of_none ha hl
    refine ⟨_, rfl, a, x, y, 6, rfl, by rw [upd_ne hal]; exact ha, hst, by omega, by omega, fun v x2 y2 hv0 hv1 hst2 => ?_⟩
    have el : (upd (upd H l (.lst [.int 2, .int 2, .int 3, .int 3, .int 5, .int 7])) a (stL x2 y2)) l = some (.lst [.int 2, .int 2, .int 3, .int 3, .int 5, .int 7]) := by rw [upd_ne (Ne.symm hal), upd_same]
    have hb : But a H (upd (upd H l (.lst [.int 2, .int 2, .int 3, .int 3, .int 5, .int 7])) a (stL x2 y2)) := ⟨⟨_, ha⟩, fun c o hc q => by
      rw [upd_ne hc, upd_ne (ne_of_none q hl)]; exact q⟩
    have fin : ∀ j : Nat, v = ((j : Nat) : Int) → ∀ q, [V.int 2, V.int 2, V.int 3, V.int 3, V.int 5, V.int 7][j]? = some (V.int q) → Pr q → ∃ p_1 xs i v_1, V.ref l = V.ref p_1 ∧ V.int v = V.int i ∧ SqL K (upd (upd H l (.lst [.int 2, .int 2, .int 3, .int 3, .int 5, .int 7])) a (stL x2 y2)) p_1 xs ∧ atI xs i = some v_1 ∧ Q v_1 (upd (upd H l (.lst [.int 2, .int 2, .int 3, .int 3, .int 5, .int 7])) a (stL x2 y2)) := fun j hj q hq hpq => by
      subst hj
      exact ⟨l, _, _, _, rfl, rfl, SqL.of el, atI_nat hq, k q _ x2 y2 hb upd_same hst2 hpq⟩
    have hc : v = 0 ∨ v = 1 ∨ v = 2 ∨ v = 3 ∨ v = 4 ∨ v = 5 := by omega
    rcases hc with h | h | h | h | h | h
    · exact fin 0 h 2 rfl (.inl rfl)
    · exact fin 1 h 2 rfl (.inl rfl)
    · exact fin 2 h 3 rfl (.inr (.inl rfl))
    · exact fin 3 h 3 rfl (.inr (.inl rfl))
    · exact fin 4 h 5 rfl (.inr (.inr (.inl rfl)))
    · exact fin 5 h 7 rfl (.inr (.inr (.inr rfl)))
/-! ### rows drawn -/
abbrev s__law_rows : Stmt := top 52
theorem sc__law_rows : FnScope ["_law_state_here", "_law_n", "_law_p", "_law_most", "_law_rows_here", "_law_turn"] ["_law_state_here", "_law_n", "_law_p", "_law_most"] (defScope s__law_rows) := ⟨rfl, rfl, rfl, by decide +kernel, rfl, by decide +kernel, by decide +kernel⟩
def sp__law_rows : Sp := fun vs H Q _ => ∃ (a : Addr) (x y : Int) (n : Nat) (p : Int) (most : Nat), vs = [.ref a, .int n, .int p, .int most] ∧ H a = some (stL x y) ∧ StV x y ∧ Pr p ∧ n ≤ 6 ∧ most ≤ 2 ∧
  ∀ l H' us rows x' y', But a H H' → H' a = some (stL x' y') → StV x' y' → H l = none → H' l = some (.lst us) → Tps H' us rows → rows.length ≤ most → (∀ r ∈ rows, Wn p n r) → Q (.ref l) H'
theorem ok__law_rows {f : Addr} {fd : FuncData} (F : Fun K "_law_rows" "_law_rows" s__law_rows f fd) (T : Txt K mg) (c__law_take : Cal P w K mg base 1 "_law_take" sp__law_take []) (c__law_word : Cal P w K mg base 2 "_law_word" sp__law_word [])  : FnOk P w K mg base CX0 3 f fd ["_law_state_here", "_law_n", "_law_p", "_law_most"] sp__law_rows := by
  refine F.ok sc__law_rows (fun vs H Q E h => ?_) (fun cdv A outer s H vs Q E hr h => ?_)
  · obtain ⟨a, x, y, n, p, most, rfl, _⟩ := h
    rfl
  · obtain ⟨a, x, y, n, p, most, rfl, ha, hst, hp, hn, hm, k⟩ := h
    refine ⟨_, (pss_cons (ps_set (i := 4) sc__law_rows.nd rfl (Or.inl rfl) (pe_lst pa_nil))
      (pss_cons (ps_for PassesOwn.never rfl (pi_range1 rfl T.range (pa_cons (pe_c c__law_take hr (by decide) rfl (pa_cons (pv 0) (pa_cons (pe_op op_add (pv 3) pe_int) pa_nil))) pa_nil)) (pg_name (i := 5) sc__law_rows.nd rfl (Or.inl rfl))
      (pss_one (ps_expr (pe_bm PySem.F.plainAttrs_list PySem.F.slot_list_append PySem.F.type_list_append mt_append (pv 4) (pa_cons (pe_c c__law_word hr (by decide) rfl (pa_cons (pv 0) (pa_cons (pv 1) (pa_cons (pv 2) pa_nil)))) pa_nil)))))
      (pss_one (ps_ret (pv 4))))), ?_⟩
    refine ⟨by show 0 ≤ sizeLine; decide, fun l hl => ?_⟩
    have hal : a ≠ l := ne_of_none ha hl
    have hln : H l = none := hl
    refine ⟨_, rfl, _, rfl, _, _, rfl, rfl, a, x, y, _, rfl, by rw [upd_ne hal]; exact ha, hst, by omega, by omega, fun v x2 y2 hv0 hv1 hst2 => ?_⟩
    have el : (upd (upd H l (.lst [])) a (stL x2 y2)) l = some (.lst []) := by rw [upd_ne (Ne.symm hal), upd_same]
    have hb : But a H (upd (upd H l (.lst [])) a (stL x2 y2)) := ⟨⟨_, ha⟩, fun c o hc q => by
      rw [upd_ne hc, upd_ne (ne_of_none q hl)]; exact q⟩
    refine ⟨_, rfl, by omega, by omega, for_range (lo := 0) (n := v.toNat) (fun i σ H' => ∃ us rows x y z, σ = [some (.ref a), some (.int n), some (.int p), some (.int most), some (.ref l), z] ∧ But a H H' ∧ H' a = some (stL x y) ∧ StV x y ∧ H' l = some (.lst us) ∧ Tps H' us rows ∧ rows.length = i ∧ (∀ r ∈ rows, Wn p n r)) ⟨[], [], x2, y2, _, rfl, hb, upd_same, hst2, el, .nil, rfl, fun _ h => by cases h⟩ ?_ ?_⟩
    · rintro i σ H' hi ⟨us, rows, x3, y3, z, rfl, hb3, h1, h2, h3, h4, h5, h6⟩
      refine ⟨_, rfl, .inl ⟨rfl, _, SqL.of h3⟩, _, rfl, _, rfl, _, rfl, a, x3, y3, n, p, rfl, h1, h2, hp, hn, fun r H2 wd x4 y4 hb4 g1 g2 g3 g4 => ?_⟩
      have hla : l ≠ a := Ne.symm hal
      have g5 : H2 l = some (.lst us) := hb4.2 l _ hla h3
      have hul : us.length = i := by rw [plen h4, h5]
      refine ⟨l, us, r, rfl, rfl, g5, small1000 (by omega), us ++ [r], rows ++ [wd], x4, y4, _, rfl, ⟨⟨_, ha⟩, fun c o hc q => ?_⟩, by rw [upd_ne hal]; exact g1, g2, upd_same, ?_, by rw [List.length_append, h5]; rfl, fun z hz => ?_⟩
      · have hcl : c ≠ l := fun e => by rw [e, hln] at q; cases q
        rw [upd_ne hcl]
        exact (hb3.trans' hb4).2 c o hc q
      · have bl : But l H2 (upd H2 l (.lst (us ++ [r]))) := But.upd g5
        exact papp (Tps.but bl (Tps.but hb4 h4)) (.cons (g4.but bl) .nil)
      · rcases List.mem_append.mp hz with hz | hz
        · exact h6 z hz
        · rw [List.mem_singleton.mp hz]; exact g3
    · rintro σ H' ⟨us, rows, x3, y3, z, rfl, hb3, h1, h2, h3, h4, h5, h6⟩
      exact ⟨_, rfl, k l H' us rows x3 y3 hb3 h1 h2 hln h3 h4 (by omega) h6⟩
end
end Wk
namespace Wk
open PySem L2
open C8 (Cal Met Mak pe_c pe_mk pe_mt pe_mt0)
section
variable {P : Program} {w : World} {K : PySem.W.Frag} {mg : Str → Option Value} {base : Heap}
/-! ### codes -/
structure CodeC (K : PySem.W.Frag) (C : Addr) : Prop where
  cls : Cls K C
  p : NoAttr K C "p"
  n : NoAttr K C "n"
  rows : NoAttr K C "rows"
  k : NoAttr K C "k"
  piv : NoAttr K C "_pivots"
def cdF (c : Cd) (t q : Addr) : List (Str × V) := [("p", .int c.p), ("n", .int (c.n : Nat)), ("rows", .ref t), ("k", .int (c.rows.length : Nat)), ("_pivots", .ref q)]
/-- a code at v -/
def CdV (C : Addr) (H : Hp) (v : V) (c : Cd) : Prop := ∃ a dx t q us, v = .ref a ∧ H a = some (.ins C dx (cdF c t q)) ∧ H t = some (.tup us) ∧ Tps H us c.rows ∧ H q = some (.tup (c.piv.map V.int))
theorem CdV.mono {C : Addr} {H H' : Hp} {v : V} {c : Cd} (s : Same H H') (h : CdV C H v c) : CdV C H' v c := by
  obtain ⟨a, dx, t, q, us, e, h1, h2, h3, h4⟩ := h
  exact ⟨a, dx, t, q, us, e, s _ _ h1, s _ _ h2, Tps.mono s h3, s _ _ h4⟩
/-- a code that is as it should be -/
structure CdOk (c : Cd) : Prop where
  p : Pr c.p
  n : c.n ≤ 12
  rows : ∀ r ∈ c.rows, Wn c.p c.n r
  len : c.piv.length = c.rows.length
  most : c.rows.length ≤ 100
  piv : ∀ x ∈ c.piv, 0 ≤ x ∧ x < (c.n : Int)
theorem holdStep_wn {c : Cd} (ok : CdOk c) {r : List Int} (hr : Wn c.p c.n r) {k : Nat} (hk : k < c.rows.length) : Wn c.p c.n (holdStep c r k) := by
  have e : c.rows.getD k [] = c.rows[k] := by rw [List.getD_eq_getElem?_getD, List.getElem?_eq_getElem hk]; rfl
  have hw := ok.rows c.rows[k] (List.getElem_mem hk)
  unfold holdStep
  rw [e]
  exact ⟨by rw [addw_len _ _ _ (by rw [scaled_len, hw.1, hr.1])]; exact hr.1, addw_wd ok.p _ _⟩
theorem holds_wn {c : Cd} (ok : CdOk c) {r : List Int} (hr : Wn c.p c.n r) : ∀ k, k ≤ c.rows.length → Wn c.p c.n ((List.range k).foldl (holdStep c) r)
  | 0, _ => hr
  | k + 1, h => by
    rw [foldl_range_succ]
    exact holdStep_wn ok (holds_wn ok hr k (Nat.le_of_lt h)) h
abbrev s_Code_holds : Stmt := inClass (top 23) 4
theorem sc_Code_holds : FnScope ["self", "value", "rest", "k"] ["self", "value"] (defScope s_Code_holds) := ⟨rfl, rfl, rfl, by decide +kernel, rfl, by decide +kernel, by decide +kernel⟩
def sp_Code_holds (C : Addr) : Sp := fun vs H Q _ => ∃ v u c r, vs = [v, u] ∧ CdV C H v c ∧ CdOk c ∧ Tp H u r ∧ Wn c.p c.n r ∧ ∀ H', Same H H' → Q (.bl (holds c r)) H'
theorem ok_Code_holds {f : Addr} {fd : FuncData} (F : Fun K "holds" "Code.holds" s_Code_holds f fd) (T : Txt K mg) {C : Addr} (hC : CodeC K C) (c_add : Cal P w K mg base 1 "add" sp_add []) (c_is_word : Cal P w K mg base 2 "is_word" sp_is_word []) (c_scaled : Cal P w K mg base 1 "scaled" sp_scaled [])  : FnOk P w K mg base CX0 3 f fd ["self", "value"] (sp_Code_holds C) := by
  refine F.ok sc_Code_holds (fun vs H Q E h => ?_) (fun cdv A outer s H vs Q E hr h => ?_)
  · obtain ⟨v, u, c, r, rfl, _⟩ := h
    rfl
  · obtain ⟨v, u, c, r, rfl, hcv, ok, hu, hr2, k⟩ := h
    have hp7 := ok.p.pos
    have hn := ok.n
    refine ⟨_, (pss_cons (ps_if (pt_not (pt_val (pe_c c_is_word hr (by decide) rfl (pa_cons (pv 1) (pa_cons (pe_fld (pv 0) rfl) (pa_cons (pe_fld (pv 0) rfl) pa_nil)))))) (pss_one (ps_ret pe_bl)) pss_nil)
      (pss_cons (ps_set (i := 2) sc_Code_holds.nd rfl (Or.inl rfl) (pv 1))
      (pss_cons (ps_for PassesOwn.never rfl (pi_range1 rfl T.range (pa_cons (pe_fld (pv 0) rfl) pa_nil)) (pg_name (i := 3) sc_Code_holds.nd rfl (Or.inl rfl))
      (pss_one (ps_set (i := 2) sc_Code_holds.nd rfl (Or.inl rfl) (pe_c c_add hr (by decide) rfl (pa_cons (pv 2) (pa_cons (pe_c c_scaled hr (by decide) rfl (pa_cons (pe_ix (ix_tupK K) (pe_fld (pv 0) rfl) (pv 3) (fun _ _ => rfl)) (pa_cons (pe_un un_neg (pe_ix (ix_tupK K) (pv 2) (pe_ix (ix_tupK K) (pe_fld (pv 0) rfl) (pv 3) (fun _ _ => rfl)) (fun _ _ => rfl))) (pa_cons (pe_fld (pv 0) rfl) pa_nil)))) (pa_cons (pe_fld (pv 0) rfl) pa_nil)))))))
      (pss_one (ps_ret (pe_cmpR (op_eqDK K (hu64 hr)) (pv 2) (pe_op (op_repTAK K) (pe_tup (pa_cons pe_int pa_nil)) (pe_fld (pv 0) rfl)) (nomark _))))))), ?_⟩
    obtain ⟨a, dx, t, q, us, rfl, ha, ht, hts, hq⟩ := id hcv
    have es : ∀ {H' : Hp}, Same H H' → H' a = some (.ins C dx (cdF c t q)) ∧ H' t = some (.tup us) ∧ Tps H' us c.rows ∧ H' q = some (.tup (c.piv.map V.int)) := fun s => ⟨s _ _ ha, s _ _ ht, Tps.mono s hts, s _ _ hq⟩
    refine ⟨_, rfl, _, rfl, a, C, dx, _, _, rfl, ha, hC.cls, hC.p, rfl, _, rfl, a, C, dx, _, _, rfl, ha, hC.cls, hC.n, rfl, u, r, c.p, by rw [hr2.1]; rfl, hu, hr2.2, true, rfl, ite2 (fun c => by simp at c) (fun _ => ?_)⟩
    refine ⟨_, rfl, _, rfl, a, C, dx, _, _, rfl, ha, hC.cls, hC.k, rfl, _, rfl, by have := ok.most; omega, by have := ok.most; omega, ?_⟩
    have ek : ((c.rows.length : Nat) : Int).toNat = c.rows.length := by omega
    rw [ek]
    refine for_range (lo := 0) (n := c.rows.length) (fun i σ H' => ∃ v z, σ = [some (.ref a), some u, some v, z] ∧ Same H H' ∧ Tp H' v ((List.range i).foldl (holdStep c) r)) ⟨u, _, rfl, Same.refl H, hu⟩ ?_ ?_
    · rintro i σ H' hi ⟨v, z, rfl, s1, hv⟩
      rw [Int.zero_add]
      have hrw := holds_wn ok hr2 i (Nat.le_of_lt hi)
      generalize hcur : (List.range i).foldl (holdStep c) r = cur at hv hrw
      obtain ⟨e1, e2, e3, e4⟩ := es s1
      obtain ⟨tv, rfl, htv⟩ := hv
      have hrow : c.rows[i]? = some c.rows[i] := List.getElem?_eq_getElem hi
      obtain ⟨uv, huv, htr⟩ := pget2 e3 hrow
      have hpl : i < c.piv.length := by rw [ok.len]; exact hi
      have hpb := ok.piv (c.piv.getD i 0) (by rw [List.getD_eq_getElem?_getD, List.getElem?_eq_getElem hpl]; exact List.getElem_mem hpl)
      have hwr := ok.rows c.rows[i] (List.getElem_mem hi)
      have epn : (((c.piv.getD i 0).toNat : Nat) : Int) = c.piv.getD i 0 := by omega
      have eat : atI (cur.map V.int) (c.piv.getD i 0) = some (V.int (cur.getD (c.piv.getD i 0).toNat 0)) := by
        have q := atI_get (w := cur) (i := (c.piv.getD i 0).toNat) (by rw [hrw.1]; omega)
        rwa [epn] at q
      refine ⟨_, rfl, _, rfl, a, C, dx, _, _, rfl, e1, hC.cls, hC.rows, rfl, _, rfl, t, us, _, uv, rfl, rfl, SqT.of e2, atI_nat huv, ?_⟩
      refine ⟨_, rfl, _, rfl, a, C, dx, _, _, rfl, e1, hC.cls, hC.piv, rfl, _, rfl, q, _, _, _, rfl, rfl, SqT.of e4, atI_get hpl, tv, _, _, _, rfl, rfl, SqT.of htv, eat, _, rfl, ?_⟩
      have eg : c.rows.getD i [] = c.rows[i] := by rw [List.getD_eq_getElem?_getD, hrow]; rfl
      refine ⟨_, rfl, a, C, dx, _, _, rfl, e1, hC.cls, hC.p, rfl, uv, c.rows[i], _, c.p, rfl, htr, ok.p, hwr.2, by rw [hwr.1]; omega, fun r1 H2 s2 q2 => ?_⟩
      obtain ⟨g1, _, _, _⟩ := es (s1.trans s2)
      refine ⟨_, rfl, a, C, dx, _, _, rfl, g1, hC.cls, hC.p, rfl, .ref tv, r1, cur, scaled c.rows[i] (-(cur.getD (c.piv.getD i 0).toNat 0)) c.p, c.p, rfl, ⟨tv, rfl, s2 _ _ htv⟩, q2, ok.p, by rw [scaled_len, hwr.1, hrw.1], by rw [hrw.1]; omega, fun r2 H3 s3 q3 => ?_⟩
      refine ⟨r2, _, rfl, (s1.trans s2).trans s3, ?_⟩
      rw [foldl_range_succ, hcur]
      unfold holdStep
      rw [eg]
      exact q3
    · rintro σ H' ⟨v, z, rfl, s1, hv⟩
      obtain ⟨e1, e2, e3, e4⟩ := es s1
      have hrw := holds_wn ok hr2 c.rows.length (Nat.le_refl _)
      refine ⟨_, rfl, by show 1 ≤ sizeLine; decide, fun z1 hz1 => ?_⟩
      have s2 := s1.put hz1 (o := .tup [.int 0])
      obtain ⟨g1, _, _, _⟩ := es s2
      refine ⟨_, rfl, a, C, dx, _, _, rfl, g1, hC.cls, hC.n, rfl, rep_tp (n := c.n) ⟨z1, rfl, upd_same⟩ (by omega) fun r3 H3 s3 q3 => ?_⟩
      have hv3 := (hv.mono ((Same.refl _).put hz1 (o := .tup [.int 0]))).mono s3
      refine ⟨wD ((List.range c.rows.length).foldl (holdStep c) r), wD (List.replicate c.n 0), hv3.dp, q3.dp, wD_shaped _, wD_shaped _, ?_⟩
      rw [eqv_wD]
      have e : (decide ((List.range c.rows.length).foldl (holdStep c) r = List.replicate c.n 0)) = holds c r := by
        unfold holds holdRun
        rw [Bool.eq_iff_iff]
        simp
      rw [e]
      exact k _ (s2.trans s3)
/-! ### is_cyclic -/
theorem shiftW_wn {p : Int} {n : Nat} {r : List Int} (h : Wn p n r) : Wn p n (shiftW r) := by
  unfold shiftW
  refine ⟨by rw [List.length_append, List.length_drop, List.length_take, h.1]; omega, fun x hx => ?_⟩
  rcases List.mem_append.mp hx with hx | hx
  · exact h.2 x (List.mem_of_mem_drop hx)
  · exact h.2 x (List.mem_of_mem_take hx)
abbrev s_is_cyclic : Stmt := top 37
theorem sc_is_cyclic : FnScope ["code", "row"] ["code"] (defScope s_is_cyclic) := ⟨rfl, rfl, rfl, by decide +kernel, rfl, by decide +kernel, by decide +kernel⟩
def sp_is_cyclic (C : Addr) : Sp := fun vs H Q _ => ∃ v c, vs = [v] ∧ CdV C H v c ∧ CdOk c ∧ ∀ H', Same H H' → Q (.bl (isCyclic c)) H'
theorem ok_is_cyclic {f : Addr} {fd : FuncData} (F : Fun K "is_cyclic" "is_cyclic" s_is_cyclic f fd) (T : Txt K mg) {C : Addr} (hC : CodeC K C) (c_Code_holds : Met P w K mg base 3 C "holds" (sp_Code_holds C) []) (c_shifted : Cal P w K mg base 1 "shifted" sp_shifted [])  : FnOk P w K mg base CX0 4 f fd ["code"] (sp_is_cyclic C) := by
  refine F.ok sc_is_cyclic (fun vs H Q E h => ?_) (fun cdv A outer s H vs Q E hr h => ?_)
  · obtain ⟨v, c, rfl, _⟩ := h
    rfl
  · obtain ⟨v, c, rfl, hcv, ok, k⟩ := h
    refine ⟨_, (pss_cons (ps_if (pt_cmpR op_lt (pe_fld (pv 0) rfl) pe_int (nomark _)) (pss_one (ps_ret pe_bl)) pss_nil)
      (pss_cons (ps_for PassesOwn.never rfl (pi_tup (pe_fld (pv 0) rfl)) (pg_name (i := 1) sc_is_cyclic.nd rfl (Or.inl rfl))
      (pss_one (ps_if (pt_not (pt_val (pe_mt c_Code_holds hr (by decide) (pv 0) (pa_cons (pe_c c_shifted hr (by decide) rfl (pa_cons (pv 1) pa_nil)) pa_nil)))) (pss_one (ps_ret pe_bl)) pss_nil)))
      (pss_one (ps_ret pe_bl)))), ?_⟩
    obtain ⟨a, dx, t, q, us, rfl, ha, ht, hts, hq⟩ := id hcv
    have es : ∀ {H' : Hp}, Same H H' → H' a = some (.ins C dx (cdF c t q)) ∧ H' t = some (.tup us) ∧ Tps H' us c.rows ∧ H' q = some (.tup (c.piv.map V.int)) := fun s => ⟨s _ _ ha, s _ _ ht, Tps.mono s hts, s _ _ hq⟩
    refine ⟨_, rfl, a, C, dx, _, _, rfl, ha, hC.cls, hC.n, rfl, _, _, rfl, rfl, _, rfl, ite2 (fun cc => ?_) (fun cc => ?_)⟩
    · have c0 : c.n = 0 := by simp at cc; omega
      have e : isCyclic c = false := by unfold isCyclic; rw [c0]; rfl
      have q := k H (Same.refl H)
      rw [e] at q
      exact q
    · have c1 : 1 ≤ c.n := by simp at cc; omega
      have hlen : us.length = c.rows.length := plen hts
      refine ⟨_, rfl, a, C, dx, _, _, rfl, ha, hC.cls, hC.rows, rfl, t, rfl, ⟨us, SqT.of ht⟩, for_tup (xs := us) (fun i σ H' => ∃ z, σ = [some (.ref a), z] ∧ Same H H' ∧ ∀ j, j < i → ∀ r, c.rows[j]? = some r → holds c (shiftW r) = true) ⟨_, rfl, Same.refl H, fun j hj => absurd hj (Nat.not_lt_zero _)⟩ ?_ ?_ ?_⟩
      · rintro i σ H' _ ⟨z, rfl, s1, _⟩
        exact SqT.of (s1 _ _ ht)
      · rintro i xv σ H' hxv ⟨z, rfl, s1, hall⟩
        obtain ⟨e1, e2, e3, e4⟩ := es s1
        obtain ⟨row, hrow, htr⟩ := pget e3 hxv
        have hwr := ok.rows row (List.mem_of_getElem? hrow)
        have hne : row ≠ [] := fun e => by have := hwr.1; rw [e] at this; simp at this; omega
        have hn := ok.n
        refine ⟨_, rfl, a, dx, _, rfl, e1, rfl, _, rfl, xv, row, rfl, htr, hne, by rw [hwr.1]; omega, fun r H2 s2 q2 => ?_⟩
        refine ⟨.ref a, r, c, shiftW row, rfl, CdV.mono (s1.trans s2) hcv, ok, q2, shiftW_wn hwr, fun H3 s3 => ⟨_, rfl, ite2 (fun cc => ?_) (fun cc => ?_)⟩⟩
        · have c' : holds c (shiftW row) = false := by simpa using cc
          have e : isCyclic c = false := by
            unfold isCyclic
            rw [Bool.and_eq_false_iff]
            refine .inr ?_
            rw [List.all_eq_false]
            exact ⟨row, List.mem_of_getElem? hrow, by rw [c']; exact Bool.false_ne_true⟩
          have q := k H3 ((s1.trans s2).trans s3)
          rw [e] at q
          exact q
        · have c' : holds c (shiftW row) = true := by simpa using cc
          refine ⟨_, rfl, (s1.trans s2).trans s3, fun j hj r' hr' => ?_⟩
          rcases Nat.lt_or_eq_of_le (Nat.le_of_lt_succ hj) with hj | rfl
          · exact hall j hj r' hr'
          · rw [hrow] at hr'; cases hr'; exact c'
      · rintro σ H' ⟨z, rfl, s1, hall⟩
        have e : isCyclic c = true := by
          unfold isCyclic
          rw [Bool.and_eq_true, decide_eq_true_eq]
          refine ⟨c1, List.all_eq_true.mpr fun r hr => ?_⟩
          obtain ⟨j, hj⟩ := List.getElem?_of_mem hr
          exact hall j (by rw [hlen]; exact (List.getElem?_eq_some_iff.mp hj).1) r hj
        have q := k H' s1
        rw [e] at q
        exact q
end
end Wk
namespace Wk
open PySem L2
open C8 (Cal Met Mak pe_c pe_mk pe_mt pe_mt0)
section
variable {P : Program} {w : World} {K : PySem.W.Frag} {mg : Str → Option Value} {base : Heap}
theorem kit_any_list {K : PySem.W.Frag} : PySem.W.kitAny K (.type "list") [.type "list", .type "tuple"] = some true := by
  have h1 : PySem.W.kitOne K (.type "list") (.type "list") = some true := kit_ty (by decide +kernel)
  unfold PySem.W.kitAny
  rw [h1]
theorem kit_any_tup {K : PySem.W.Frag} : PySem.W.kitAny K (.type "tuple") [.type "list", .type "tuple"] = some true := by
  have h1 : PySem.W.kitOne K (.type "tuple") (.type "list") = some false := kit_ty (by decide +kernel)
  have h2 : PySem.W.kitOne K (.type "tuple") (.type "tuple") = some true := kit_ty (by decide +kernel)
  unfold PySem.W.kitAny
  rw [h1]
  show PySem.W.kitAny K _ _ = _
  unfold PySem.W.kitAny
  rw [h2]
/-! ### Code's making -/
structure CodePre (p : Int) (n : Nat) (rows : List (List Int)) : Prop where
  hp : Pr p
  hn : n ≤ 12
  len : rows.length ≤ 1000
  wn : ∀ r ∈ rows, Wn p n r
  pow : powI p (reduced rows n p).1.length ≤ 4096
theorem reduced_ri {p : Int} {n : Nat} {rows : List (List Int)} (h : CodePre p n rows) : RI p n rows.length n (redRun rows n p) := redRun_ri h.hp h.wn n (Nat.le_refl _)
abbrev s_Code___init__ : Stmt := inClass (top 23) 0
theorem sc_Code___init__ : FnScope ["self", "p", "n", "rows", "row", "table", "pivots"] ["self", "p", "n", "rows"] (defScope s_Code___init__) := ⟨rfl, rfl, rfl, by decide +kernel, rfl, by decide +kernel, by decide +kernel⟩
def sp_Code___init__ (C : Addr) : Sp := fun vs H Q _ => ∃ x dx v rows n p, vs = [.ref x, .int p, .int (n : Nat), v] ∧ H x = some (.ins C dx []) ∧ LTw H v rows ∧ CodePre p n rows ∧
  ∀ H', (∀ b o, b ≠ x → H b = some o → H' b = some o) → CdV C H' (.ref x) (mkCode p n rows) → Q .non H'
theorem ok_Code___init__ {f : Addr} {fd : FuncData} (F : Fun K "__init__" "Code.__init__" s_Code___init__ f fd) (T : Txt K mg) {C : Addr} (hC : CodeC K C) (c_check_prime : Cal P w K mg base 2 "check_prime" sp_check_prime []) (c_is_integer : Cal P w K mg base 1 "is_integer" sp_is_integer []) (c_is_word : Cal P w K mg base 2 "is_word" sp_is_word []) (c_power : Cal P w K mg base 1 "power" sp_power []) (c_reduced : Cal P w K mg base 3 "reduced" sp_reduced [])  : FnOk P w K mg base CX0 4 f fd ["self", "p", "n", "rows"] (sp_Code___init__ C) := by
  refine F.ok sc_Code___init__ (fun vs H Q E h => ?_) (fun cdv A outer s H vs Q E hr h => ?_)
  · obtain ⟨x, dx, v, rows, n, p, rfl, _⟩ := h
    rfl
  · obtain ⟨x, dx, v, rows, n, p, rfl, hx, hrows, hpre, k⟩ := h
    have hp := hpre.hp
    have hp7 := hp.pos
    have hn := hpre.hn
    obtain ⟨a, us, rfl, hor, htps⟩ := id hrows
    have ri := reduced_ri hpre
    have hflen := ri.flen
    cases hor with
    | inl hl =>
      have hmono : ∀ {H' : Hp}, Same H H' → H' a = some (.lst us) ∨ H' a = some (.tup us) := fun s => .inl (s _ _ hl)
      refine ⟨_, (pss_cons (ps_expr (pe_c c_check_prime hr (by decide) rfl (pa_cons (pv 1) pa_nil)))
      (pss_cons (ps_if (PW.pt (pw_or (pt_not (pt_val (pe_c c_is_integer hr (by decide) rfl (pa_cons (pv 2) pa_nil)))) (pw_or1 (pt_cmpR op_lt (pv 2) pe_int (nomark _))))) (pss_one ps_never) pss_nil)
      (pss_cons (ps_if (pt_cmpR op_gt (pv 2) (C8.pe_gc rfl T.gL) (nomark _)) (pss_one ps_never) pss_nil)
      (pss_cons (ps_if (pt_not (pt_val (pe_callB call_isiT (by rfl) T.isinstance (by decide +kernel) (pa_cons (pv 3) (pa_cons (pe_tup (pa_cons (pe_bltn (v := .ty "list") (u := .type "list") (by rfl) T.list (by decide +kernel) rfl) (pa_cons (pe_bltn (v := .ty "tuple") (u := .type "tuple") (by rfl) T.tuple (by decide +kernel) rfl) pa_nil))) pa_nil))))) (pss_one ps_never) pss_nil)
      (pss_cons (ps_for PassesOwn.never rfl (pi_list (pv 3)) (pg_name (i := 4) sc_Code___init__.nd rfl (Or.inl rfl))
      (pss_one (ps_if (pt_not (pt_val (pe_c c_is_word hr (by decide) rfl (pa_cons (pv 4) (pa_cons (pv 1) (pa_cons (pv 2) pa_nil)))))) (pss_one ps_never) pss_nil)))
      (pss_cons (ps_asg (pe_c c_reduced hr (by decide) rfl (pa_cons (pv 3) (pa_cons (pv 2) (pa_cons (pv 1) pa_nil)))) (pg_tup (by rfl) (pgs_cons (pg_name (i := 5) sc_Code___init__.nd rfl (Or.inl rfl)) (pgs_cons (pg_name (i := 6) sc_Code___init__.nd rfl (Or.inl rfl)) pgs_nil))))
      (pss_cons (ps_if (pt_cmpR op_gt (pe_c c_power hr (by decide) rfl (pa_cons (pv 1) (pa_cons (pe_callB (call_lenK K) (by rfl) T.len PySem.boot_len (pa_cons (pv 5) pa_nil)) pa_nil))) (C8.pe_gc rfl T.gW) (nomark _)) (pss_one ps_never) pss_nil)
      (pss_cons (ps_fld (pv 0) (pv 1) rfl)
      (pss_cons (ps_fld (pv 0) (pv 2) rfl)
      (pss_cons (ps_fld (pv 0) (pv 5) rfl)
      (pss_cons (ps_fld (pv 0) (pe_callB (call_lenK K) (by rfl) T.len PySem.boot_len (pa_cons (pv 5) pa_nil)) rfl)
      (pss_one (ps_fld (pv 0) (pv 6) rfl))))))))))))), ?_⟩
      refine ⟨_, rfl, p, rfl, hp, ?_⟩
      refine ⟨_, rfl, .int ((n : Nat) : Int), true, rfl, .int n, true, rfl, iteF ⟨_, rfl, _, _, rfl, rfl, _, rfl, ite2 (fun c => ?_) (fun _ => ?_)⟩⟩
      · simp at c; omega
      refine ⟨_, rfl, _, _, rfl, rfl, _, rfl, ite2 (fun c => ?_) (fun _ => ?_)⟩
      · simp at c; omega
      refine ⟨_, rfl, by show 2 ≤ sizeLine; decide, fun z hz => ?_⟩
      have sz := (Same.refl H).put hz (o := .tup [.ty "list", .ty "tuple"])
      refine ⟨_, z, _, .type "list", [.type "list", .type "tuple"], true, rfl, upd_same, .cons (.ty "list") (.cons (.ty "tuple") .nil), .base (.lst (sz _ _ hl)), kit_any_list, true, rfl, ite2 (fun c => by simp at c) (fun _ => ?_)⟩
      refine ⟨_, rfl, a, rfl, ⟨us, SqL.of (sz _ _ hl)⟩, for_list (xs := us) (fun i σ H' => ∃ z t0 q0, σ = [some (.ref x), some (.int p), some (.int (n : Nat)), some (.ref a), z, t0, q0] ∧ Same H H') ⟨_, _, _, rfl, sz⟩ ?_ ?_ ?_⟩
      · rintro i σ H' _ ⟨_, _, _, _, s1⟩
        exact SqL.of (s1 _ _ hl)
      · rintro i xv σ H' hxv ⟨z2, t0, q0, rfl, s1⟩
        obtain ⟨row, hrow, htr⟩ := pget (Tps.mono s1 htps) hxv
        have hwr := hpre.wn row (List.mem_of_getElem? hrow)
        exact ⟨_, rfl, _, rfl, _, rfl, xv, row, p, by rw [hwr.1]; rfl, htr, hwr.2, true, rfl, ite2 (fun c => by simp at c) (fun _ => ⟨_, _, _, rfl, s1⟩)⟩
      · rintro σ H' ⟨z2, t0, q0, rfl, s1⟩
        refine ⟨_, rfl, _, rfl, _, rfl, .ref a, rows, n, p, rfl, ⟨a, us, rfl, hmono s1, Tps.mono s1 htps⟩, hp, hn, by have := hpre.len; omega, hpre.wn, fun r H2 s2 hred => ?_⟩
        obtain ⟨b, t, q, us2, rfl, hb, ht, ht2, hq⟩ := hred
        have hl2 : us2.length = (reduced rows n p).1.length := plen ht2
        have hfl : (reduced rows n p).1.length ≤ n := hflen
        have sH := s1.trans s2
        refine ⟨b, _, rfl, SqT.of hb, rfl, _, _, rfl, _, _, rfl, rfl, ?_⟩
        refine ⟨_, rfl, _, rfl, t, _, rfl, .inr (SqT.of ht), p, (reduced rows n p).1.length, by rw [hl2]; rfl, by omega, by omega, by omega, _, _, rfl, rfl, _, rfl, ite2 (fun c => ?_) (fun _ => ?_)⟩
        · have := hpre.pow
          simp at c; omega
        have hx2 : H2 x = some (.ins C dx []) := sH _ _ hx
        refine ⟨_, rfl, _, rfl, x, C, dx, _, rfl, hx2, hC.cls, hC.p, by show 0 < 1000; decide, ?_⟩
        refine ⟨_, rfl, _, rfl, x, C, dx, _, rfl, upd_same, hC.cls, hC.n, by show 1 < 1000; decide, ?_⟩
        refine ⟨_, rfl, _, rfl, x, C, dx, _, rfl, upd_same, hC.cls, hC.rows, by show 2 < 1000; decide, ?_⟩
        have ntx : t ≠ x := ne_of ht hx2 (fun z => nomatch z)
        have nqx : q ≠ x := ne_of hq hx2 (fun z => nomatch z)
        refine ⟨_, rfl, t, us2, rfl, .inr (SqT.of (by rw [upd_ne ntx, upd_ne ntx, upd_ne ntx]; exact ht)), _, rfl, x, C, dx, _, rfl, upd_same, hC.cls, hC.k, by show 3 < 1000; decide, ?_⟩
        refine ⟨_, rfl, _, rfl, x, C, dx, _, rfl, upd_same, hC.cls, hC.piv, by show 4 < 1000; decide, ?_⟩
        refine k _ (fun b o hb e => ?_) ⟨x, dx, t, q, us2, rfl, ?_, ?_, ?_, ?_⟩
        · rw [upd_ne hb, upd_ne hb, upd_ne hb, upd_ne hb, upd_ne hb]
          exact sH b o e
        · rw [upd_same, hl2]; rfl
        · rw [upd_ne ntx, upd_ne ntx, upd_ne ntx, upd_ne ntx, upd_ne ntx]; exact ht
        · refine Paired.mapP ht2 fun v z hvz => ?_
          obtain ⟨e, rfl, he⟩ := hvz
          have hne : e ≠ x := ne_of he hx2 (fun z => nomatch z)
          exact ⟨e, rfl, by rw [upd_ne hne, upd_ne hne, upd_ne hne, upd_ne hne, upd_ne hne]; exact he⟩
        · rw [upd_ne nqx, upd_ne nqx, upd_ne nqx, upd_ne nqx, upd_ne nqx]; exact hq
    | inr hl =>
      have hmono : ∀ {H' : Hp}, Same H H' → H' a = some (.lst us) ∨ H' a = some (.tup us) := fun s => .inr (s _ _ hl)
      refine ⟨_, (pss_cons (ps_expr (pe_c c_check_prime hr (by decide) rfl (pa_cons (pv 1) pa_nil)))
      (pss_cons (ps_if (PW.pt (pw_or (pt_not (pt_val (pe_c c_is_integer hr (by decide) rfl (pa_cons (pv 2) pa_nil)))) (pw_or1 (pt_cmpR op_lt (pv 2) pe_int (nomark _))))) (pss_one ps_never) pss_nil)
      (pss_cons (ps_if (pt_cmpR op_gt (pv 2) (C8.pe_gc rfl T.gL) (nomark _)) (pss_one ps_never) pss_nil)
      (pss_cons (ps_if (pt_not (pt_val (pe_callB call_isiT (by rfl) T.isinstance (by decide +kernel) (pa_cons (pv 3) (pa_cons (pe_tup (pa_cons (pe_bltn (v := .ty "list") (u := .type "list") (by rfl) T.list (by decide +kernel) rfl) (pa_cons (pe_bltn (v := .ty "tuple") (u := .type "tuple") (by rfl) T.tuple (by decide +kernel) rfl) pa_nil))) pa_nil))))) (pss_one ps_never) pss_nil)
      (pss_cons (ps_for PassesOwn.never rfl (pi_tup (pv 3)) (pg_name (i := 4) sc_Code___init__.nd rfl (Or.inl rfl))
      (pss_one (ps_if (pt_not (pt_val (pe_c c_is_word hr (by decide) rfl (pa_cons (pv 4) (pa_cons (pv 1) (pa_cons (pv 2) pa_nil)))))) (pss_one ps_never) pss_nil)))
      (pss_cons (ps_asg (pe_c c_reduced hr (by decide) rfl (pa_cons (pv 3) (pa_cons (pv 2) (pa_cons (pv 1) pa_nil)))) (pg_tup (by rfl) (pgs_cons (pg_name (i := 5) sc_Code___init__.nd rfl (Or.inl rfl)) (pgs_cons (pg_name (i := 6) sc_Code___init__.nd rfl (Or.inl rfl)) pgs_nil))))
      (pss_cons (ps_if (pt_cmpR op_gt (pe_c c_power hr (by decide) rfl (pa_cons (pv 1) (pa_cons (pe_callB (call_lenK K) (by rfl) T.len PySem.boot_len (pa_cons (pv 5) pa_nil)) pa_nil))) (C8.pe_gc rfl T.gW) (nomark _)) (pss_one ps_never) pss_nil)
      (pss_cons (ps_fld (pv 0) (pv 1) rfl)
      (pss_cons (ps_fld (pv 0) (pv 2) rfl)
      (pss_cons (ps_fld (pv 0) (pv 5) rfl)
      (pss_cons (ps_fld (pv 0) (pe_callB (call_lenK K) (by rfl) T.len PySem.boot_len (pa_cons (pv 5) pa_nil)) rfl)
      (pss_one (ps_fld (pv 0) (pv 6) rfl))))))))))))), ?_⟩
      refine ⟨_, rfl, p, rfl, hp, ?_⟩
      refine ⟨_, rfl, .int ((n : Nat) : Int), true, rfl, .int n, true, rfl, iteF ⟨_, rfl, _, _, rfl, rfl, _, rfl, ite2 (fun c => ?_) (fun _ => ?_)⟩⟩
      · simp at c; omega
      refine ⟨_, rfl, _, _, rfl, rfl, _, rfl, ite2 (fun c => ?_) (fun _ => ?_)⟩
      · simp at c; omega
      refine ⟨_, rfl, by show 2 ≤ sizeLine; decide, fun z hz => ?_⟩
      have sz := (Same.refl H).put hz (o := .tup [.ty "list", .ty "tuple"])
      refine ⟨_, z, _, .type "tuple", [.type "list", .type "tuple"], true, rfl, upd_same, .cons (.ty "list") (.cons (.ty "tuple") .nil), .base (.tup (sz _ _ hl)), kit_any_tup, true, rfl, ite2 (fun c => by simp at c) (fun _ => ?_)⟩
      refine ⟨_, rfl, a, rfl, ⟨us, SqT.of (sz _ _ hl)⟩, for_tup (xs := us) (fun i σ H' => ∃ z t0 q0, σ = [some (.ref x), some (.int p), some (.int (n : Nat)), some (.ref a), z, t0, q0] ∧ Same H H') ⟨_, _, _, rfl, sz⟩ ?_ ?_ ?_⟩
      · rintro i σ H' _ ⟨_, _, _, _, s1⟩
        exact SqT.of (s1 _ _ hl)
      · rintro i xv σ H' hxv ⟨z2, t0, q0, rfl, s1⟩
        obtain ⟨row, hrow, htr⟩ := pget (Tps.mono s1 htps) hxv
        have hwr := hpre.wn row (List.mem_of_getElem? hrow)
        exact ⟨_, rfl, _, rfl, _, rfl, xv, row, p, by rw [hwr.1]; rfl, htr, hwr.2, true, rfl, ite2 (fun c => by simp at c) (fun _ => ⟨_, _, _, rfl, s1⟩)⟩
      · rintro σ H' ⟨z2, t0, q0, rfl, s1⟩
        refine ⟨_, rfl, _, rfl, _, rfl, .ref a, rows, n, p, rfl, ⟨a, us, rfl, hmono s1, Tps.mono s1 htps⟩, hp, hn, by have := hpre.len; omega, hpre.wn, fun r H2 s2 hred => ?_⟩
        obtain ⟨b, t, q, us2, rfl, hb, ht, ht2, hq⟩ := hred
        have hl2 : us2.length = (reduced rows n p).1.length := plen ht2
        have hfl : (reduced rows n p).1.length ≤ n := hflen
        have sH := s1.trans s2
        refine ⟨b, _, rfl, SqT.of hb, rfl, _, _, rfl, _, _, rfl, rfl, ?_⟩
        refine ⟨_, rfl, _, rfl, t, _, rfl, .inr (SqT.of ht), p, (reduced rows n p).1.length, by rw [hl2]; rfl, by omega, by omega, by omega, _, _, rfl, rfl, _, rfl, ite2 (fun c => ?_) (fun _ => ?_)⟩
        · have := hpre.pow
          simp at c; omega
        have hx2 : H2 x = some (.ins C dx []) := sH _ _ hx
        refine ⟨_, rfl, _, rfl, x, C, dx, _, rfl, hx2, hC.cls, hC.p, by show 0 < 1000; decide, ?_⟩
        refine ⟨_, rfl, _, rfl, x, C, dx, _, rfl, upd_same, hC.cls, hC.n, by show 1 < 1000; decide, ?_⟩
        refine ⟨_, rfl, _, rfl, x, C, dx, _, rfl, upd_same, hC.cls, hC.rows, by show 2 < 1000; decide, ?_⟩
        have ntx : t ≠ x := ne_of ht hx2 (fun z => nomatch z)
        have nqx : q ≠ x := ne_of hq hx2 (fun z => nomatch z)
        refine ⟨_, rfl, t, us2, rfl, .inr (SqT.of (by rw [upd_ne ntx, upd_ne ntx, upd_ne ntx]; exact ht)), _, rfl, x, C, dx, _, rfl, upd_same, hC.cls, hC.k, by show 3 < 1000; decide, ?_⟩
        refine ⟨_, rfl, _, rfl, x, C, dx, _, rfl, upd_same, hC.cls, hC.piv, by show 4 < 1000; decide, ?_⟩
        refine k _ (fun b o hb e => ?_) ⟨x, dx, t, q, us2, rfl, ?_, ?_, ?_, ?_⟩
        · rw [upd_ne hb, upd_ne hb, upd_ne hb, upd_ne hb, upd_ne hb]
          exact sH b o e
        · rw [upd_same, hl2]; rfl
        · rw [upd_ne ntx, upd_ne ntx, upd_ne ntx, upd_ne ntx, upd_ne ntx]; exact ht
        · refine Paired.mapP ht2 fun v z hvz => ?_
          obtain ⟨e, rfl, he⟩ := hvz
          have hne : e ≠ x := ne_of he hx2 (fun z => nomatch z)
          exact ⟨e, rfl, by rw [upd_ne hne, upd_ne hne, upd_ne hne, upd_ne hne, upd_ne hne]; exact he⟩
        · rw [upd_ne nqx, upd_ne nqx, upd_ne nqx, upd_ne nqx, upd_ne nqx]; exact hq
end
end Wk
namespace Wk
open PySem L2
open PyProof.Rows GenW

/-! ### a sleeping generator that is not woken is as it was -/
/-- put to sleep for good: woken, it has no run -/
def drug : GenState → GenState
  | .suspended _ l c p fs cl => .suspended (fun _ => .unsupported "drugged") l c p fs cl
  | x => x
def NoGen (fs : List Frame) : Prop := ∀ F ∈ fs, match F with | .gen .. => False | .ret .. => True
def NoGenS : GenState → Prop
  | .suspended _ _ _ _ fs _ => NoGen fs
  | _ => True
def NoGenE : End → Prop
  | .ret _ => True
  | .susp _ _ _ _ _ _ fs => NoGen fs
def mendA (orig : Nat → Option GenState) (G : Array GenState) : Array GenState := G.mapIdx fun i x => (orig i).getD x
def mend (orig : Nat → Option GenState) (s : Shared) : Shared := { s with gens := mendA orig s.gens }
structure Drugged (orig : Nat → Option GenState) (s : Shared) : Prop where
  lt : ∀ i y, orig i = some y → i < s.gens.size
  old : ∀ i y, orig i = some y → (∃ k l c p fs cl, y = .suspended k l c p fs cl) ∧ s.gens[i]? = some (drug y)
  new : ∀ i x, orig i = none → s.gens[i]? = some x → NoGenS x

section
variable {orig : Nat → Option GenState} {s : Shared}
theorem mendA_size (G : Array GenState) : (mendA orig G).size = G.size := by simp [mendA]
theorem mendA_get (G : Array GenState) (i : Nat) : (mendA orig G)[i]? = (G[i]?).map fun x => (orig i).getD x := by
  simp [mendA]
theorem mend_new {i : Nat} (h : orig i = none) : (mend orig s).gens[i]? = s.gens[i]? := by
  show (mendA orig s.gens)[i]? = _
  rw [mendA_get, h]
  cases s.gens[i]? <;> rfl
theorem mend_seen (d : Drugged orig s) {i : Nat} {x : GenState} (h : s.gens[i]? = some x) : ∃ y, (mend orig s).gens[i]? = some y ∧ y.seen = x.seen := by
  cases ho : orig i with
  | none => exact ⟨x, (mend_new ho).trans h, rfl⟩
  | some y =>
    obtain ⟨⟨k, l, c, p, fs, cl, rfl⟩, h2⟩ := d.old i y ho
    rw [h] at h2
    cases h2
    refine ⟨.suspended k l c p fs cl, ?_, rfl⟩
    show (mendA orig s.gens)[i]? = _
    rw [mendA_get, h, ho]
    rfl
theorem mend_setGen {g : Nat} {x : GenState} (h : orig g = none) : mend orig (s.setGen g x) = (mend orig s).setGen g x := by
  show ({ s with gens := mendA orig (s.gens.setIfInBounds g x) } : Shared) = { s with gens := (mendA orig s.gens).setIfInBounds g x }
  congr 1
  apply Array.ext_getElem?
  intro i
  rw [mendA_get]
  by_cases e : i = g
  · subst e
    rw [Array.getElem?_setIfInBounds_self, Array.getElem?_setIfInBounds_self, mendA_size]
    split
    · simp [h]
    · rfl
  · rw [Array.getElem?_setIfInBounds_ne (Ne.symm e), Array.getElem?_setIfInBounds_ne (Ne.symm e), mendA_get]
theorem mend_push {x : GenState} (d : Drugged orig s) : mend orig { s with gens := s.gens.push x } = { mend orig s with gens := (mend orig s).gens.push x } := by
  have hn : orig s.gens.size = none := by
    cases ho : orig s.gens.size with
    | none => rfl
    | some y => exact absurd (d.lt _ y ho) (Nat.lt_irrefl _)
  show ({ s with gens := mendA orig (s.gens.push x) } : Shared) = { s with gens := (mendA orig s.gens).push x }
  congr 1
  apply Array.ext_getElem?
  intro i
  rw [mendA_get, Array.getElem?_push, Array.getElem?_push, mendA_size, mendA_get]
  split
  · rename_i e
    subst e
    simp [hn]
  · rfl
theorem Drugged.setGen {g : Nat} {x : GenState} (d : Drugged orig s) (h : orig g = none) (hx : NoGenS x) : Drugged orig (s.setGen g x) where
  lt := fun i y ho => by
    have := d.lt i y ho
    show i < (s.gens.setIfInBounds g x).size
    simpa using this
  old := fun i y ho => by
    obtain ⟨a, b⟩ := d.old i y ho
    refine ⟨a, ?_⟩
    have ne : i ≠ g := fun e => by rw [e, h] at ho; cases ho
    show (s.gens.setIfInBounds g x)[i]? = _
    rw [Array.getElem?_setIfInBounds_ne (Ne.symm ne)]
    exact b
  new := fun i z ho hz => by
    have hz : (s.gens.setIfInBounds g x)[i]? = some z := hz
    by_cases e : i = g
    · subst e
      rw [Array.getElem?_setIfInBounds_self] at hz
      split at hz
      · cases hz; exact hx
      · cases hz
    · rw [Array.getElem?_setIfInBounds_ne (Ne.symm e)] at hz
      exact d.new i z ho hz
theorem Drugged.push {x : GenState} (d : Drugged orig s) (hx : NoGenS x) : Drugged orig { s with gens := s.gens.push x } where
  lt := fun i y ho => by
    have := d.lt i y ho
    show i < (s.gens.push x).size
    rw [Array.size_push]; omega
  old := fun i y ho => by
    obtain ⟨a, b⟩ := d.old i y ho
    refine ⟨a, ?_⟩
    show (s.gens.push x)[i]? = _
    rw [Array.getElem?_push, if_neg (Nat.ne_of_lt (d.lt i y ho))]
    exact b
  new := fun i z ho hz => by
    have hz : (s.gens.push x)[i]? = some z := hz
    rw [Array.getElem?_push] at hz
    split at hz
    · cases hz; exact hx
    · exact d.new i z ho hz
theorem Drugged.heap (d : Drugged orig s) {s' : Shared} (e : s'.gens = s.gens) : Drugged orig s' where
  lt := fun i y ho => by rw [e]; exact d.lt i y ho
  old := fun i y ho => by rw [e]; exact d.old i y ho
  new := fun i y ho hx => by rw [e] at hx; exact d.new i y ho hx
end

theorem not_old {orig : Nat → Option GenState} {s : Shared} {g : Nat} {x : GenState} (d : Drugged orig s) (hg : s.gens[g]? = some x) (hx : ∀ k l c p fs cl, x ≠ .suspended k l c p fs cl) : orig g = none := by
  cases ho : orig g with
  | none => rfl
  | some y =>
    obtain ⟨⟨k, l, c, p, fs, cl, rfl⟩, h2⟩ := d.old g y ho
    rw [hg] at h2; cases h2
    exact (hx _ _ _ _ _ _ rfl).elim
theorem no_unsup {M : Model} {Γ : Ctx} {p : Pos} {what : String} {fs : List Frame} {s s' : Shared} {e : End} (h : Runs M Γ p (.unsupported what) fs s e s') : False := by
  generalize ht : (Sem.unsupported what : Sem PySem.Fin) = t at h
  induction h <;> first | cases ht | (rename_i ih _; exact ih ht) | (rename_i ih; exact ih ht) | (rename_i ih1 ih2; exact ih1 ht) | (rename_i ih1 _ ih2; exact ih1 ht) | skip
  all_goals first | (simp_all; done) | skip

theorem noGen_split : ∀ {fs : List Frame}, NoGen fs → splitAtGen fs = none := by
  intro fs
  induction fs with
  | nil => intro _; rfl
  | cons F r ih =>
    intro h
    cases F with
    | gen => exact (h _ List.mem_cons_self).elim
    | ret => 
      have := ih fun G hG => h G (List.mem_cons_of_mem _ hG)
      simp [splitAtGen, this]

theorem quiet_state {e : End} (h : NoGenE e) : NoGenS e.genState := by
  cases e <;> exact h
/-- THE FRAME: what a run does beside the drugged, it does beside the sleeping too; and they sleep on -/
theorem runs_mend {M : Model} {orig : Nat → Option GenState} {Γ : Ctx} {p : Pos} {t : Sem PySem.Fin} {fs : List Frame} {s s' : Shared} {e : End} (h : Runs M Γ p t fs s e s') :
    Drugged orig s → NoGen fs → Drugged orig s' ∧ NoGenE e ∧ Runs M Γ p t fs (mend orig s) e (mend orig s') := by
  induction h with
  | done => intro d _; exact ⟨d, trivial, .done⟩
  | raise => intro d _; exact ⟨d, trivial, .raise⟩
  | again hq _ ih => intro d n; obtain ⟨a, b, c⟩ := ih d n; exact ⟨a, b, .again hq c⟩
  | rule _ ih => intro d n; obtain ⟨a, b, c⟩ := ih d n; exact ⟨a, b, .rule c⟩
  | «at» _ ih => intro d n; obtain ⟨a, b, c⟩ := ih d n; exact ⟨a, b, .at c⟩
  | load ho _ ih => intro d n; obtain ⟨a, b, c⟩ := ih d n; exact ⟨a, b, .load ho c⟩
  | update ho _ ih => intro d n; obtain ⟨a, b, c⟩ := ih (d.heap rfl) n; exact ⟨a, b, .update ho c⟩
  | loadIfAlive _ ih => intro d n; obtain ⟨a, b, c⟩ := ih d n; exact ⟨a, b, .loadIfAlive c⟩
  | point _ ih => intro d n; obtain ⟨a, b, c⟩ := ih d n; exact ⟨a, b, .point c⟩
  | alloc _ ih => intro d n; obtain ⟨a, b, c⟩ := ih (d.heap rfl) n; exact ⟨a, b, .alloc c⟩
  | fresh _ ih => intro d n; obtain ⟨a, b, c⟩ := ih (d.heap rfl) n; exact ⟨a, b, .fresh c⟩
  | ask _ ih => intro d n; obtain ⟨a, b, c⟩ := ih d n; exact ⟨a, b, .ask c⟩
  | choose hn _ ih => intro d n; obtain ⟨a, b, c⟩ := ih (d.heap rfl) n; exact ⟨a, b, .choose hn c⟩
  | os _ ih => intro d n; obtain ⟨a, b, c⟩ := ih (d.heap rfl) n; exact ⟨a, b, .os c⟩
  | handled _ ih => intro d n; obtain ⟨a, b, c⟩ := ih d n; exact ⟨a, b, .handled c⟩
  | genState hg _ ih =>
    intro d n
    obtain ⟨a, b, c⟩ := ih d n
    obtain ⟨y, hy, es⟩ := mend_seen d hg
    exact ⟨a, b, .genState hy (es ▸ c)⟩
  | stack _ ih => intro d n; obtain ⟨a, b, c⟩ := ih d n; exact ⟨a, b, .stack c⟩
  | thread _ ih => intro d n; obtain ⟨a, b, c⟩ := ih d n; exact ⟨a, b, .thread c⟩
  | @newGen Γ p k s e s' c _ ih =>
    intro d n
    obtain ⟨a, b, q⟩ := ih (d.push trivial) n
    refine ⟨a, b, .newGen ?_⟩
    rw [mend_push d] at q
    have e : (mend orig s).gens.size = s.gens.size := mendA_size _
    rw [e]
    exact q
  | call _ _ ih1 ih2 =>
    intro d n
    obtain ⟨a, _, c⟩ := ih1 d (fun _ h => by simp at h)
    obtain ⟨a2, b2, c2⟩ := ih2 a n
    exact ⟨a2, b2, .call c c2⟩
  | callSusp _ ih =>
    intro d n
    obtain ⟨a, b, c⟩ := ih d (fun _ h => by simp at h)
    refine ⟨a, ?_, .callSusp c⟩
    intro F hF
    rcases List.mem_append.mp hF with z | z
    · exact b F z
    · rw [List.mem_singleton.mp z]; trivial
  | yield => intro d n; exact ⟨d, fun _ h => by simp at h, .yield⟩
  | resumeFresh hg _ hq _ ih1 ih2 =>
    intro d n
    have ho := not_old d hg (by intros; nofun)
    obtain ⟨a, b, c1⟩ := ih1 (d.setGen ho trivial) (fun _ h => by simp at h)
    obtain ⟨a2, b2, c2⟩ := ih2 (a.setGen ho (quiet_state b)) n
    rw [mend_setGen ho] at c1 c2
    exact ⟨a2, b2, .resumeFresh ((mend_new ho).trans hg) c1 hq c2⟩
  | @resumeSuspended Γ p g r l k s k₀ l₀ c₀ p₀ fs cl e₁ s₁ e s' hg h1 hq _ ih1 ih2 =>
    intro d n
    have ho : orig g = none := by
      cases ho : orig g with
      | none => rfl
      | some y =>
        obtain ⟨⟨k, l, c, p, fs, cl, rfl⟩, h2⟩ := d.old g y ho
        rw [hg] at h2; cases h2
        exact (no_unsup h1).elim
    obtain ⟨a, b, c1⟩ := ih1 (d.setGen ho trivial) (d.new g _ ho hg)
    obtain ⟨a2, b2, c2⟩ := ih2 (a.setGen ho (quiet_state b)) n
    rw [mend_setGen ho] at c1 c2
    exact ⟨a2, b2, .resumeSuspended ((mend_new ho).trans hg) c1 hq c2⟩
  | resumeJustStarted hg hv _ ih =>
    intro d n
    have ho := not_old d hg (by intros; nofun)
    obtain ⟨a, b, q⟩ := ih d n
    exact ⟨a, b, .resumeJustStarted ((mend_new ho).trans hg) hv q⟩
  | resumeThrowFresh hg _ ih =>
    intro d n
    have ho := not_old d hg (by intros; nofun)
    obtain ⟨a, b, q⟩ := ih (d.setGen ho trivial) n
    rw [mend_setGen ho] at q
    exact ⟨a, b, .resumeThrowFresh ((mend_new ho).trans hg) q⟩
  | resumeRunning hg _ ih =>
    intro d n
    have ho := not_old d hg (by intros; nofun)
    obtain ⟨a, b, q⟩ := ih d n
    exact ⟨a, b, .resumeRunning ((mend_new ho).trans hg) q⟩
  | resumeFinished hg _ ih =>
    intro d n
    have ho := not_old d hg (by intros; nofun)
    obtain ⟨a, b, q⟩ := ih d n
    exact ⟨a, b, .resumeFinished ((mend_new ho).trans hg) q⟩
  | segRet _ _ ih1 ih2 =>
    intro d n
    obtain ⟨a, _, c⟩ := ih1 d (fun _ h => by simp at h)
    obtain ⟨a2, b2, c2⟩ := ih2 a (fun F hF => n F (List.mem_cons_of_mem _ hF))
    exact ⟨a2, b2, .segRet c c2⟩
  | segGen _ _ _ _ => intro d n; exact (n _ List.mem_cons_self).elim
  | segSuspOut hs _ ih =>
    intro d n
    obtain ⟨a, b, c⟩ := ih d (fun _ h => by simp at h)
    refine ⟨a, ?_, .segSuspOut hs c⟩
    intro F hF
    rcases List.mem_append.mp hF with z | z
    · exact b F z
    · exact n F z
  | segSuspGen hs _ _ _ _ _ => intro d n; rw [noGen_split n] at hs; cases hs

theorem wakes_mend {M : Model} {orig : Nat → Option GenState} {Γ : Ctx} {p : Pos} {g : Nat} {r : Resume} {s s' : Shared} {res : GenResult} (h : Wakes M Γ p g r s res s') (d : Drugged orig s) :
    Drugged orig s' ∧ Wakes M Γ p g r (mend orig s) res (mend orig s') := by
  unfold Wakes at h
  cases ho : orig g with
  | some y =>
    obtain ⟨⟨k, l, c, p, fs, cl, rfl⟩, h2⟩ := d.old g y ho
    rw [h2] at h
    obtain ⟨e₁, s₁, hr, _⟩ := h
    exact (no_unsup hr).elim
  | none =>
    have hm : (mend orig s).gens[g]? = s.gens[g]? := mend_new ho
    unfold Wakes
    rw [hm]
    split at h
    · exact h.elim
    · rename_i c hg
      split at h
      · obtain ⟨e₁, s₁, hr, hq, rfl, rfl⟩ := h
        obtain ⟨a, b, q⟩ := runs_mend hr (d.setGen ho trivial) (fun _ h => by simp at h)
        rw [mend_setGen ho] at q
        exact ⟨a.setGen ho (quiet_state b), e₁, _, q, hq, rfl, mend_setGen ho⟩
      · obtain ⟨h1, rfl⟩ := h
        exact ⟨d, h1, rfl⟩
      · obtain ⟨h1, rfl⟩ := h
        exact ⟨d.setGen ho trivial, h1, mend_setGen ho⟩
    · rename_i hg
      obtain ⟨e₁, s₁, hr, hq, rfl, rfl⟩ := h
      obtain ⟨a, b, q⟩ := runs_mend hr (d.setGen ho trivial) (d.new g _ ho hg)
      rw [mend_setGen ho] at q
      exact ⟨a.setGen ho (quiet_state b), e₁, _, q, hq, rfl, mend_setGen ho⟩
    · obtain ⟨h1, rfl⟩ := h
      exact ⟨d, h1, rfl⟩
    · obtain ⟨h1, rfl⟩ := h
      exact ⟨d, h1, rfl⟩

open Sem (wp) in
theorem wp_mend {α : Type} {M : Model} {orig : Nat → Option GenState} (Γ : Ctx) (t : Sem α) : ∀ (Q : α → Pos → Shared → Prop) (E : Value → Pos → Shared → Prop) (p : Pos) (s : Shared), Drugged orig s → wp M Γ t Q E p s →
    wp M Γ t (fun a p' s'' => ∃ s', Drugged orig s' ∧ s'' = mend orig s' ∧ Q a p' s') (fun e p' s'' => ∃ s', Drugged orig s' ∧ s'' = mend orig s' ∧ E e p' s') p (mend orig s) := by
  induction t with
  | pure a => intro Q E p s d h; exact ⟨s, d, rfl, h⟩
  | raise e => intro Q E p s d h; exact ⟨s, d, rfl, h⟩
  | unsupported _ => intro Q E p s _ h; exact h
  | finish _ => intro Q E p s _ h; exact h
  | rule _ k ih => intro Q E p s d h; exact ih () Q E p s d h
  | «at» p' k ih => intro Q E p s d h; exact ih () Q E p' s d h
  | load a _ k ih => intro Q E p s d h; obtain ⟨o, ho, h⟩ := h; exact ⟨o, ho, ih o Q E p s d h⟩
  | update a _ f k ih => intro Q E p s d h; exact ⟨h.1, ih () Q E p _ (by exact d.heap rfl) h.2⟩
  | loadIfAlive a k ih => intro Q E p s d h; exact ih _ Q E p s d h
  | point _ k ih => intro Q E p s d h; exact ih () Q E p s d h
  | register _ _ => intro Q E p s _ h; exact h
  | alloc o k ih => intro Q E p s d h; exact ih _ Q E p _ (by exact d.heap rfl) h
  | fresh k ih => intro Q E p s d h; exact ih _ Q E p _ (by exact d.heap rfl) h
  | ask k ih => intro Q E p s d h; exact ih _ Q E p s d h
  | choose src m k ih => intro Q E p s d h; exact ⟨h.1, ih _ Q E p _ (by exact d.heap rfl) h.2⟩
  | os q _ k ih => intro Q E p s d h; exact ih _ Q E p _ (by exact d.heap rfl) h
  | call c hd _ _ k ih =>
    intro Q E p s d h
    obtain ⟨r, s', hr, h⟩ := h
    obtain ⟨a, _, q⟩ := runs_mend hr d (fun _ h => by simp at h)
    exact ⟨r, _, q, ih r Q E p s' a h⟩
  | handled own k ih => intro Q E p s d h; exact ih _ Q E p s d h
  | genState g k ih =>
    intro Q E p s d h
    obtain ⟨st, hs, h⟩ := h
    obtain ⟨y, hy, es⟩ := mend_seen d hs
    exact ⟨y, hy, es ▸ ih _ Q E p s d h⟩
  | newGen c k ih =>
    intro Q E p s d h
    have q := ih _ Q E p _ (d.push (x := .fresh c) trivial) h
    rw [mend_push d] at q
    have e : (mend orig s).gens.size = s.gens.size := mendA_size _
    show wp M Γ (k (mend orig s).gens.size) _ _ _ _
    rw [e]
    exact q
  | resume g r _ k ih =>
    intro Q E p s d h
    obtain ⟨res, s', hw, h⟩ := h
    obtain ⟨a, q⟩ := wakes_mend hw d
    exact ⟨res, _, q, ih res Q E p s' a h⟩
  | yield _ _ _ _ => intro Q E p s _ h; exact h
  | stack k ih => intro Q E p s d h; exact ih _ Q E p s d h
  | fork _ _ => intro Q E p s _ h; exact h
  | thread k ih => intro Q E p s d h; exact ih _ Q E p s d h
  | await _ _ _ _ _ => intro Q E p s _ h; exact h

/-- all that sleep -/
def asleep (s : Shared) (i : Nat) : Option GenState := match s.gens[i]? with | some (.suspended k l c p fs cl) => some (.suspended k l c p fs cl) | _ => none
def drugged (s : Shared) : Shared := { s with gens := s.gens.map drug }
theorem drugged_ok (s : Shared) : Drugged (asleep s) (drugged s) := by
  have key : ∀ i y, asleep s i = some y → s.gens[i]? = some y ∧ ∃ k l c p fs cl, y = .suspended k l c p fs cl := fun i y h => by
    unfold asleep at h
    split at h
    · rename_i e; cases h; exact ⟨e, _, _, _, _, _, _, rfl⟩
    · cases h
  refine ⟨fun i y h => ?_, fun i y h => ?_, fun i x h hx => ?_⟩
  · obtain ⟨e, _⟩ := key i y h
    show i < (s.gens.map drug).size
    rw [Array.size_map]
    exact (Array.getElem?_eq_some_iff.mp e).1
  · obtain ⟨e, z⟩ := key i y h
    refine ⟨z, ?_⟩
    show (s.gens.map drug)[i]? = _
    rw [Array.getElem?_map, e]; rfl
  · have hx : (s.gens.map drug)[i]? = some x := hx
    rw [Array.getElem?_map] at hx
    cases e : s.gens[i]? with
    | none => rw [e] at hx; cases hx
    | some y =>
      rw [e] at hx
      cases hx
      cases y with
      | suspended k l c p fs cl => unfold asleep at h; rw [e] at h; cases h
      | fresh c => trivial
      | running => trivial
      | finished => trivial
theorem mend_drugged (s : Shared) : mend (asleep s) (drugged s) = s := by
  show ({ s with gens := mendA (asleep s) (s.gens.map drug) } : Shared) = s
  have e : mendA (asleep s) (s.gens.map drug) = s.gens := by
    apply Array.ext_getElem?
    intro i
    rw [mendA_get, Array.getElem?_map]
    cases h : s.gens[i]? with
    | none => rfl
    | some y =>
      unfold asleep
      rw [h]
      cases y <;> rfl
  rw [e]
theorem bare_drug {x : GenState} (h : x.bare = true) : (drug x).bare = true := by cases x <;> exact h
theorem bare_drugged {s : Shared} (h : AllBare s.gens) : AllBare (drugged s).gens := fun y hy => by
  have hy : y ∈ s.gens.map drug := hy
  obtain ⟨x, hx, rfl⟩ := Array.mem_map.mp hy
  exact bare_drug (h x hx)
theorem bare_mend {s s' : Shared} (h : AllBare s.gens) (d : Drugged (asleep s) s') (h' : AllBare s'.gens) : AllBare (mend (asleep s) s').gens := fun y hy => by
  obtain ⟨i, hi, e⟩ := Array.mem_iff_getElem.mp hy
  have q : (mend (asleep s) s').gens[i]? = some y := by rw [Array.getElem?_eq_getElem hi, e]
  have q : (mendA (asleep s) s'.gens)[i]? = some y := q
  rw [mendA_get] at q
  cases e2 : s'.gens[i]? with
  | none => rw [e2] at q; cases q
  | some x =>
    rw [e2] at q
    cases ho : asleep s i with
    | none => rw [ho] at q; cases q; exact h' _ (Array.mem_of_getElem? e2)
    | some z =>
      rw [ho] at q; cases q
      unfold asleep at ho
      split at ho
      · rename_i e3; cases ho; exact h _ (Array.mem_of_getElem? e3)
      · cases ho
/-- what sleeps, sleeps on -/
theorem mend_sleeps {s s' : Shared} {g : Nat} {k : Resume → Sem PySem.Fin} {l : List Value} {c : Code} {p : Pos} {fs : List Frame} {cl : Bool} (h : s.gens[g]? = some (.suspended k l c p fs cl)) (d : Drugged (asleep s) s') :
    (mend (asleep s) s').gens[g]? = some (.suspended k l c p fs cl) := by
  have ho : asleep s g = some (.suspended k l c p fs cl) := by unfold asleep; rw [h]
  obtain ⟨_, q⟩ := d.old g _ ho
  show (mendA (asleep s) s'.gens)[g]? = _
  rw [mendA_get, q, ho]; rfl
/-- a step that goes well beside drugged generators, goes so beside sleeping ones -/
theorem wpAny_mend {α : Type} {M : Model} {A : Around} {t : Sem α} {Q : α → Shared → Prop} {E : Value → Shared → Prop} {s : Shared} (h : wpAny M A t Q E (drugged s)) :
    wpAny M A t (fun a s'' => ∃ s', Drugged (asleep s) s' ∧ s'' = mend (asleep s) s' ∧ Q a s') (fun e s'' => ∃ s', Drugged (asleep s) s' ∧ s'' = mend (asleep s) s' ∧ E e s') s := by
  have e := mend_drugged s
  intro Γ p hΓ
  have q := wp_mend (orig := asleep s) Γ t _ _ p (drugged s) (drugged_ok s) (h Γ p hΓ)
  rw [e] at q
  exact q

section
variable {X : Cx} {pins : List (Addr × Obj)} {σ : L2.St} {H : Hp} {s s' : Shared}
/-- other generators: the same invariant -/
theorem inv_gens (I : Inv X pins σ H s) {G : Array GenState} (hG : AllBare G) : Inv X pins σ H { s with gens := G } :=
  ⟨I.ok, I.os, hG, I.base, I.loc, I.cell, I.free, I.freeC, I.pin, I.hok, I.len⟩
theorem inv_drugged (I : Inv X pins σ H s) : Inv X pins σ H (drugged s) := inv_gens I (bare_drugged I.bare)
theorem inv_mend (h : AllBare s.gens) (d : Drugged (asleep s) s') (I : Inv X pins σ H s') : Inv X pins σ H (mend (asleep s) s') := inv_gens I (bare_mend h d I.bare)
end
end Wk
namespace Wk
open PySem L2
open PyProof.Rows GenW

/-! ### for x in list: yield e, woken turn by turn -/
/-- beside L and I all is kept -/
def Since (L I : Addr) (s₀ s : Shared) : Prop := ∃ h' tk, s = { s₀ with heap := h', toks := tk } ∧ s₀.heap.objs.size ≤ h'.objs.size ∧ ∀ b o, b ≠ L → b ≠ I → s₀.heap.get? b = some o → h'.get? b = some o
theorem Since.refl {L I : Addr} (s : Shared) : Since L I s s := ⟨s.heap, s.toks, rfl, Nat.le_refl _, fun _ _ _ _ e => e⟩
theorem Since.step {L I : Addr} {s₀ s : Shared} (x : Since L I s₀ s) {h' : Heap} {tk : Nat} (hz : s.heap.objs.size ≤ h'.objs.size) (hk : ∀ b o, b ≠ L → b ≠ I → s.heap.get? b = some o → h'.get? b = some o) : Since L I s₀ { s with heap := h', toks := tk } := by
  obtain ⟨h₁, tk₁, rfl, hz₁, hk₁⟩ := x
  exact ⟨h', tk, rfl, Nat.le_trans hz₁ hz, fun b o hL hI e => hk b o hL hI (hk₁ b o hL hI e)⟩
theorem Since.trans {L I : Addr} {s₀ s s' : Shared} (x : Since L I s₀ s) (y : Since L I s s') : Since L I s₀ s' := by
  obtain ⟨h₁, tk₁, rfl, hz₁, hk₁⟩ := y
  exact x.step hz₁ hk₁

def YE (L I : Addr) : GenEnd := fun n s₀ r s₁ => ((r = .ok (.ret .none) ∨ r = .ok .next) ∧ (n = 0 ∧ ∃ h' tk, s₁ = { s₀ with heap := h', toks := tk } ∧ ∀ b o, b ≠ L → b ≠ I → s₀.heap.get? b = some o → h'.get? b = some o)) ∨ ∃ e, r = .error e ∧ False
/-- an item is out: i of n₀; the generator can be woken again wherever its own objects stand -/
def YP (n₀ : Nat) (B : Nat → Shared → Shared → Prop) (Yv : Nat → Shared → Value → Shared → Prop) (L I F : Addr) (Hf : Heap → Prop) : Protocol := fun m s₀ v s kap =>
  ∃ i s₁, m + 1 + i = n₀ ∧ B i s₀ s₁ ∧ Since L I s₁ s ∧ Yv i s₁ v s ∧ (∃ mm, s.heap.Ns L mm) ∧ s.heap.IsListIter I F (i + 1) ∧ Hf s.heap ∧
    ((∃ mm, s₁.heap.Ns L mm) ∧ s₁.heap.IsListIter I F i) ∧
    ∀ (x : Value) (s'' : Shared), x = .none ∨ x = .bool true → (∃ mm, s''.heap.Ns L mm) → s''.heap.IsListIter I F (i + 1) → Hf s''.heap → kap (.send x) s''

section
variable {prog : Program} {w : World} {A : Around} {fs : List Frame} {env : Env} {x : Str} {px yp ypos : Pos} {elt : Expr} {I F : Addr} {n₀ : Nat} {items : Array Value} {B : Nat → Shared → Shared → Prop} {Yv : Nat → Shared → Value → Shared → Prop} {Hf : Heap → Prop}

theorem seg_forY (hfs : splitAtGen fs = none) (hfg : fs.any Frame.guarded = false) (hh : (A.over (.forLoop (.Name x px) (.ref I) [.Expr (.Yield (some elt) yp) ypos] [] env) fs).handled = none)
    (hx : env.kindOf x = some .local) (hp : (env.scope.kind == .class || (env.scope.kind == .module && env.locals != env.globals)) = false) (hco : env.scope.isCoroutine = false) (hi : interactive env = false)
    (hn : items.size = n₀) (hLI : env.locals ≠ I) (hLF : F ≠ env.locals) (hIF : F ≠ I) (hB : ∀ i s₀, 0 < i → B i s₀ s₀) (hB2 : ∀ i s₀ s, 0 < i → B i s₀ s → Since env.locals I s₀ s)
    (hHf : ∀ h h', Hf h → (∀ b o, b ≠ env.locals → b ≠ I → h.get? b = some o → h'.get? b = some o) → Hf h') (hFl : ∀ h, Hf h → h.IsList F items)
    (hq : ∀ (A' : Around) E' i (s₁ s₂ : Shared) m v, A'.handled = none → items[i]? = some v → Hf s₂.heap → Since env.locals I s₁ s₂ → s₂.heap.Ns env.locals m → m x = some v →
      wpAny (model prog w) A' (eval elt env) (fun y s₃ => (∃ h' tk, s₃ = { s₂ with heap := h', toks := tk } ∧ s₂.heap.objs.size ≤ h'.objs.size ∧ ∀ b o, s₂.heap.get? b = some o → h'.get? b = some o) ∧ Yv i s₁ y s₃) E' s₂)
    (hend : ∀ (s₀ s : Shared), YE env.locals I 0 s₀ (.ok .next) s → Seg (model prog w) A (YE env.locals I) (YP n₀ B Yv env.locals I F Hf) 0 s₀ (.block [] env) (.pure (.done .next)) fs s) (h1 : 0 < n₀) :
    ∀ (k i : Nat) (s₀ s : Shared) (m : Str → Option Value), n₀ - i = k → i ≤ n₀ → s.heap.Ns env.locals m → s.heap.IsListIter I F i → Hf s.heap → B i s₀ s →
      Seg (model prog w) A (YE env.locals I) (YP n₀ B Yv env.locals I F Hf) k s₀ (.forLoop (.Name x px) (.ref I) [.Expr (.Yield (some elt) yp) ypos] [] env)
        ((model prog w).den (.forLoop (.Name x px) (.ref I) [.Expr (.Yield (some elt) yp) ypos] [] env)) fs s := by
  intro k
  induction k with
  | zero =>
    intro i s₀ s m hk hi' hn' hst hf hb
    have hin : i = n₀ := by omega
    subst hin
    show Seg _ A _ _ _ s₀ _ ((forTurn (.Name x px) (.ref I) [.Expr (.Yield (some elt) yp) ypos] [] env).onRaise (fun x => do noteFrame x env; theTreesLotGoes x)) fs s
    rw [Sem.onRaise_eq_wrap]
    unfold forTurn
    refine seg_bind_wrap (wpAny_standAt ?_)
    refine seg_bind_wrap (wpAny_onRaise (wpAny_pyNext_list_end hh hst (hFl _ hf) (by simp [hn]) fun h' hk' => ?_))
    refine seg_again rfl ?_
    show Seg _ A _ _ _ s₀ _ ((execs [] env).onRaise (fun x => do noteFrame x env; theTreesLotGoes x) >>= fun f => (.pure (.done f) : Sem PySem.Fin)) fs _
    refine hend s₀ _ (.inl ⟨.inr rfl, rfl, ?_⟩)
    obtain ⟨h₁, tk₁, rfl, _, hk₁⟩ := hB2 i s₀ s h1 hb
    exact ⟨h', tk₁, rfl, fun b o hL hI e => hk' b o hI (hk₁ b o hL hI e)⟩
  | succ k ih =>
    intro i s₀ s m hk hi' hn' hst hf hb
    have hlt : i < n₀ := by omega
    obtain ⟨v, hv⟩ : ∃ v, items[i]? = some v := ⟨items[i], Array.getElem?_eq_getElem _⟩
    show Seg _ A _ _ _ s₀ _ ((forTurn (.Name x px) (.ref I) [.Expr (.Yield (some elt) yp) ypos] [] env).onRaise (fun x => do noteFrame x env; theTreesLotGoes x)) fs s
    rw [Sem.onRaise_eq_wrap]
    unfold forTurn
    refine seg_bind_wrap (wpAny_standAt ?_)
    refine seg_bind_wrap (wpAny_onRaise (wpAny_pyNext_list_item hst (hFl _ hf) hv fun h₁ hst₁ hs₁ => ?_))
    refine seg_bind_wrap (wpAny_of_eq (rfl : letOwnedTupleGo (.Name x px) (.ref I) v = pure ()) ?_)
    refine seg_bind_wrap (wpAny_assign_Name (wpAny_storeName_local hx (hn'.sameBut hs₁ hLI) (fun h₂ hn₂ hs₂ => ?_) hp))
    have up₂ : ∀ b o, b ≠ env.locals → b ≠ I → s.heap.get? b = some o → h₂.get? b = some o := fun b o hL hI e => (hs₂.2 b hL).trans ((hs₁.2 b hI).trans e)
    have sz₂ : s.heap.objs.size ≤ h₂.objs.size := by rw [hs₂.1, hs₁.1]; exact Nat.le_refl _
    have hst₂ : h₂.IsListIter I F (i + 1) := hst₁.at fun o e => (hs₂.2 I (Ne.symm hLI)).trans e
    have hf₂ : Hf h₂ := hHf _ _ hf up₂
    have since₂ : Since env.locals I s { s with heap := h₂, toks := s.toks + 1 } := (Since.refl s).step (tk := s.toks + 1) sz₂ up₂
    rw [Sem.bind_eq_wrap' (execs _ _) _, Sem.wrap_wrap]
    refine seg_execs_cons (seg_Expr_Yield hfs rfl hfg ?_ hco hi)
    refine wpAny_mono (hq _ (fun _ _ => False) i s _ _ v hh hv hf₂ since₂ hn₂ (by simp)) (fun y s₃ hy => ?_) fun _ _ z => z.elim
    obtain ⟨⟨h₃, tk₃, rfl, sz₃, hk₃⟩, hY⟩ := hy
    intro kap hkap
    refine ⟨i, s, by omega, hb, since₂.trans ((Since.refl _).step sz₃ fun b o _ _ e => hk₃ b o e), hY, ⟨_, hn₂.keeps hk₃⟩, hst₂.at fun o e => hk₃ _ o e, hHf _ _ hf₂ fun b o _ _ e => hk₃ b o e, ⟨⟨m, hn'⟩, hst⟩, fun x s'' hx w1 w2 w3 => hkap x s'' ?_⟩
    obtain ⟨mm, w1⟩ := w1
    rcases hx with rfl | rfl <;>
      exact seg_execs_nil (seg_again rfl (ih (i + 1) s'' s'' mm (by omega) hlt w1 w2 w3 (hB (i + 1) s'' (Nat.succ_pos i))))
end

/-! ### a generator that sleeps -/
structure Nap where
  gs : GenState
  fp : List Addr
  own : List Addr
  S : Heap → Prop
  F : Hp → Prop
structure Nap.Good (N : Nap) : Prop where
  bare : N.gs.bare = true
  susp : ∃ k l c p fs cl, N.gs = .suspended k l c p fs cl
  obj : ∀ h, N.S h → ∀ b ∈ N.fp, ∃ o, h.get? b = some o ∧ ∀ v, o.data ≠ .cell v
  keep : ∀ h h', N.S h → (∀ b ∈ N.fp, ∀ o, h.get? b = some o → h'.get? b = some o) → N.S h'
  mono : ∀ H H', (∀ b ∈ N.own, ∀ o, H b = some o → H' b = some o) → (∀ b xs, H b = some (.tup xs) → H' b = some (.tup xs)) → N.F H → N.F H'
theorem Nap.Good.same {N : Nap} (h : N.Good) {H H' : Hp} (s : Same H H') (f : N.F H) : N.F H' := h.mono H H' (fun b _ o e => s b o e) (fun b xs e => s b _ e) f
structure Nap.At (N : Nap) (g : Nat) (X : Cx) (pins : List (Addr × Obj)) (H : Hp) (s : Shared) : Prop where
  gen : s.gens[g]? = some N.gs
  fp : ∀ b ∈ N.fp, FpOk X pins H b
  S : N.S s.heap
  F : N.F H
/-- it hands out the words, then ends; whoever asks keeps its objects -/
def Spring (P : Program) (w : World) (K : PySem.W.Frag) (A : Around) (a : Addr) (g : Nat) : List Wrd → Nap → Prop
  | [], N => ∀ (X : Cx) (pins : List (Addr × Obj)) (σ : L2.St) (H : Hp) (s : Shared) (E : Value → Shared → Prop), X.prog = P → X.w = w → X.K = K → Inv X pins σ H s → N.At g X pins H s →
      wpAny (model P w) A (pyNext (.ref a)) (fun r s' => r = none ∧ Inv X pins σ H s') E s
  | x :: xs, N => ∀ (X : Cx) (pins : List (Addr × Obj)) (σ : L2.St) (H : Hp) (s : Shared) (E : Value → Shared → Prop), X.prog = P → X.w = w → X.K = K → Inv X pins σ H s → N.At g X pins H s →
      wpAny (model P w) A (pyNext (.ref a)) (fun r s' => ∃ b H' N', r = some (.ref b) ∧ Inv X pins σ H' s' ∧ Same H H' ∧ Tp H' (.ref b) x ∧ N'.Good ∧ N'.At g X pins H' s' ∧ Spring P w K A a g xs N' ∧ ∀ c ∈ N'.own, c ∈ N.own ∨ H c = none) E s

section
variable {P : Program} {w : World} {K : PySem.W.Frag} {A : Around} {a L I F : Addr} {g n₀ : Nat} {bs : List Addr} {ws : List Wrd} {f : Wrd → Wrd} {B : Nat → Shared → Shared → Prop} {Yv : Nat → Shared → Value → Shared → Prop}
/-- the list at F of the words ws, at bs -/
def HasWs (F : Addr) (bs : List Addr) (ws : List Wrd) (H : Hp) : Prop := H F = some (.lst (bs.map V.ref)) ∧ Tps H (bs.map V.ref) ws
theorem HasWs.mono {H H' : Hp} (s : Same H H') (h : HasWs F bs ws H) : HasWs F bs ws H' := ⟨s _ _ h.1, Tps.mono s h.2⟩
def HeapWs (F : Addr) (bs : List Addr) (ws : List Wrd) (h : Heap) : Prop :=
  h.IsList F (bs.map Value.ref).toArray ∧ ∀ (j : Nat) (b : Addr) (z : Wrd), bs[j]? = some b → ws[j]? = some z → ∃ us : List Value, IsTup h b us.toArray ∧ Vals (z.map V.int) us
theorem vals_refs : ∀ {bs : List Addr} {us : List Value}, Vals (bs.map V.ref) us → us = bs.map Value.ref
  | [], _, h => by cases h; rfl
  | b :: r, _, h => by
    cases h with
    | cons q t =>
      have q : _ = Value.ref b := q
      rw [q, vals_refs t]; rfl
theorem HasWs.heap {X : Cx} {pins : List (Addr × Obj)} {σ : L2.St} {H : Hp} {s : Shared} (J : Inv X pins σ H s) (h : HasWs F bs ws H) : HeapWs F bs ws s.heap := by
  obtain ⟨h1, h2⟩ := h
  obtain ⟨_, its, n, rv, e⟩ := J.hok F _ h1
  have ei := vals_refs rv
  subst ei
  refine ⟨⟨_, e, rfl, n, rfl⟩, fun j b z hb hz => ?_⟩
  obtain ⟨y, e1, c, e2, e3⟩ := pget h2 (i := j) (x := V.ref b) (by rw [List.getElem?_map, hb]; rfl)
  rw [hz] at e1
  cases e1
  cases e2
  obtain ⟨_, us, ru, ht⟩ := J.hok b _ e3
  exact ⟨us, ht, ru⟩
/-- a step beside L and I -/
theorem inv_since {X : Cx} {pins : List (Addr × Obj)} {σ : L2.St} {H : Hp} {s s' : Shared} (J : Inv X pins σ H s) (fL : FpOk X pins H L) (fI : FpOk X pins H I) (h : ∃ h' tk, s' = { s with heap := h', toks := tk } ∧ ∀ b o, b ≠ L → b ≠ I → s.heap.get? b = some o → h'.get? b = some o) : Inv X pins σ H s' := by
  obtain ⟨h', tk, rfl, hk⟩ := h
  have nit : ∀ b u, H b = some u → b ≠ L ∧ b ≠ I := fun b u e => ⟨fun z => (by rw [z, fL.1] at e; cases e), fun z => (by rw [z, fI.1] at e; cases e)⟩
  have nch : ∀ b, b ∉ [L, I] → b ≠ L ∧ b ≠ I := fun b hb => by simpa using hb
  refine J.step (g' := s.gens) (d' := s.drawn) (ch := [L, I]) (fun b hb => ?_) (fun b o _ _ hc e _ => hk b o (nch b hc).1 (nch b hc).2 e) (fun b o _ _ hc e _ => ⟨o.slots, hk b o (nch b hc).1 (nch b hc).2 e⟩) (fun _ _ _ _ n => n)
    (fun b o hc e => ⟨o, hk b o (nch b hc).1 (nch b hc).2 e⟩) (fun _ _ e => e) (fun _ _ _ e => e) (fun b ps e => ⟨#[], by rw [e]; simp⟩) (fun m hm => ?_) (fun b u e => ?_) J.bare
  · have e : b = L ∨ b = I := by simpa using hb
    rcases e with rfl | rfl
    · exact ⟨fL.2.2.2.1, fL.2.1, fL.2.2.2.2.1, fL.2.2.2.2.2⟩
    · exact ⟨fI.2.2.2.1, fI.2.1, fI.2.2.2.2.1, fI.2.2.2.2.2⟩
  · obtain ⟨o, es, ep, ho, r⟩ := hm
    exact ⟨o, es, ep, hk _ o (Ne.symm fL.2.1) (Ne.symm fI.2.1) ho, r⟩
  · refine (J.hok b u e).stay (fun c v hc q => ?_) (fun _ q => q) fun _ _ q => q
    rcases hc with z | z
    · subst z; exact hk _ v (nit _ u e).1 (nit _ u e).2 q
    · exact hk c v (nit c _ z).1 (nit c _ z).2 q
theorem fpOk_of {X : Cx} {pins : List (Addr × Obj)} {H H' : Hp} {b : Addr} (h : FpOk X pins H b) (n : H' b = none) : FpOk X pins H' b := ⟨n, h.2⟩

/-- what the generator's value means to whoever asked -/
def Conv (P : Program) (w : World) (K : PySem.W.Frag) (L I F : Addr) (bs : List Addr) (ws : List Wrd) (f : Wrd → Wrd) (Yv : Nat → Shared → Value → Shared → Prop) : Prop :=
  ∀ (X : Cx) (pins : List (Addr × Obj)) (σ : L2.St) (H : Hp) (s s₃ : Shared) (i : Nat) (z : Wrd) (v : Value), X.prog = P → X.w = w → X.K = K → ws[i]? = some z → Inv X pins σ H s → FpOk X pins H L → FpOk X pins H I → HasWs F bs ws H → Since L I s s₃ →
    (∃ mm, s₃.heap.Ns L mm) → s₃.heap.IsListIter I F (i + 1) → Yv i s v s₃ →
    ∃ b H', v = .ref b ∧ Inv X pins σ H' s₃ ∧ Same H H' ∧ Tp H' (.ref b) (f z) ∧ ∀ c o, s.heap.get? c = some o → H c = none → H' c = none

theorem listIter_ok {h : Heap} {I F : Addr} {i : Nat} (x : h.IsListIter I F i) : ∃ o, h.get? I = some o ∧ ∀ v, o.data ≠ .cell v := by
  obtain ⟨o, e, _, d⟩ := x
  exact ⟨o, e, fun v z => by rw [d] at z; cases z⟩
theorem ns_ok {h : Heap} {L : Addr} {m : Str → Option Value} (x : h.Ns L m) : ∃ o, h.get? L = some o ∧ ∀ v, o.data ≠ .cell v := by
  obtain ⟨o, es, ep, e, d, _⟩ := x
  exact ⟨o, e, fun v z => by rw [d] at z; cases z⟩
theorem gen_ok {h : Heap} {a : Addr} {g : Nat} (x : h.IsGen a g) : ∃ o, h.get? a = some o ∧ ∀ v, o.data ≠ .cell v := by
  obtain ⟨o, nm, qn, e, _, d, _⟩ := x
  exact ⟨o, e, fun v z => by rw [d] at z; cases z⟩

/-- the nap behind i items -/
def napAt (gs : GenState) (a L I F : Addr) (g : Nat) (bs : List Addr) (ws : List Wrd) (i : Nat) : Nap :=
  ⟨gs, [a, L, I], [F], fun h => h.IsGen a g ∧ (∃ mm, h.Ns L mm) ∧ h.IsListIter I F i, HasWs F bs ws⟩
theorem napAt_good {gs : GenState} {i : Nat} (hb : gs.bare = true) (hs : ∃ k l c p fs cl, gs = .suspended k l c p fs cl) : (napAt gs a L I F g bs ws i).Good where
  bare := hb
  susp := hs
  obj := fun h st b hm => by
    obtain ⟨h1, ⟨mm, h2⟩, h3⟩ := st
    have hm : b = a ∨ b = L ∨ b = I := by simpa [napAt] using hm
    rcases hm with rfl | rfl | rfl
    · exact gen_ok h1
    · exact ns_ok h2
    · exact listIter_ok h3
  keep := fun h h' st k => by
    obtain ⟨⟨o, nm, qn, e, r⟩, ⟨mm, h2⟩, h3⟩ := st
    exact ⟨⟨o, nm, qn, k a (by simp [napAt]) o e, r⟩, ⟨mm, h2.at' fun o e => k L (by simp [napAt]) o e⟩, h3.at fun o e => k I (by simp [napAt]) o e⟩
  mono := fun H H' s t h => ⟨s F (by simp [napAt]) _ h.1, Paired.mapP h.2 fun _ _ ⟨a, e, q⟩ => ⟨a, e, t _ _ q⟩⟩

theorem spring_nap (hh : A.handled = none) (hd : A.depth < recursionLimit) (haL : a ≠ L) (haI : a ≠ I) (hn : ws.length = n₀) (hbs : bs.length = n₀) (h1 : 0 < n₀)
    (hB2 : ∀ i s₀ s, 0 < i → B i s₀ s → Since L I s₀ s) (hC : Conv P w K L I F bs ws f Yv) :
    ∀ (k i : Nat) (gs : GenState), n₀ - i = k → 0 < i → i ≤ n₀ → (∀ s'' : Shared, (∃ mm, s''.heap.Ns L mm) → s''.heap.IsListIter I F i → HeapWs F bs ws s''.heap → gs.Goes (model P w) A.in1 (YE L I) (YP n₀ B Yv L I F (HeapWs F bs ws)) k (.send .none) s'') →
      Spring P w K A a g ((ws.drop i).map f) (napAt gs a L I F g bs ws i) := by
  intro k
  induction k with
  | zero =>
    intro i gs hk h0 hi hgo
    have hin : i = ws.length := by omega
    subst hin
    rw [List.drop_length]
    intro X pins σ H s E hP hw hK J hat
    have fp : ∀ b, b = a ∨ b = L ∨ b = I → FpOk X pins H b := fun b hb => hat.fp b (by simpa [napAt] using hb)
    obtain ⟨hg, hns, hit⟩ := hat.S
    have q := hgo (s.setGen g .running) hns hit (HasWs.heap (s := s) J hat.F)
    refine next_genG (F := fun n s₀ s₁ => n = 0 ∧ ∃ h' tk, s₁ = { s₀ with heap := h', toks := tk } ∧ ∀ b o, b ≠ L → b ≠ I → s₀.heap.get? b = some o → h'.get? b = some o) (Er := fun _ _ => False) hh J.nolimit hd hg hat.gen q (fun v s₁ gs' _ hv => ?_) (fun s₁ hp h' hk' => ?_) (fun e s₁ hz => hz.elim)
    · obtain ⟨j, s₂, hj, hb, _, _, _, _, _, _, hkap⟩ := hv
      exact (hkap .none s₁ (.inl rfl) (by assumption) (by assumption) (by assumption)).elim
    · obtain ⟨_, h₁, tk₁, rfl, hk₁⟩ := hp
      refine ⟨rfl, ?_⟩
      have J0 : Inv X pins σ H (s.setGen g .running) := inv_gens J (allBare_setGen J.bare rfl)
      have J1 := inv_since (L := L) (I := I) J0 (fp L (by simp)) (fp I (by simp)) ⟨h', tk₁, rfl, fun b o hL hI e => hk' b o (hk₁ b o hL hI e)⟩
      exact inv_gens (G := (({ s.setGen g .running with heap := h₁, toks := tk₁ } : Shared).setGen g .finished).gens) J1 (allBare_setGen (s := { s.setGen g .running with heap := h₁, toks := tk₁ }) (allBare_setGen J.bare rfl) rfl)
  | succ k ih =>
    intro i gs hk h0 hi hgo
    have hlt : i < ws.length := by omega
    rw [List.drop_eq_getElem_cons hlt]
    intro X pins σ H s E hP hw hK J hat
    have fp : ∀ b, b = a ∨ b = L ∨ b = I → FpOk X pins H b := fun b hb => hat.fp b (by simpa [napAt] using hb)
    obtain ⟨hg, hns, hit⟩ := hat.S
    have q := hgo (s.setGen g .running) hns hit (HasWs.heap (s := s) J hat.F)
    refine next_genG (F := fun n s₀ s₁ => n = 0 ∧ ∃ h' tk, s₁ = { s₀ with heap := h', toks := tk } ∧ ∀ b o, b ≠ L → b ≠ I → s₀.heap.get? b = some o → h'.get? b = some o) (Er := fun _ _ => False) hh J.nolimit hd hg hat.gen q (fun v s₁ gs' hbare hv => ?_) (fun s₁ hp h' hk' => ?_) (fun e s₁ hz => hz.elim)
    · obtain ⟨j, s₂, hj, hb, hs, hY, hns', hit', hf', ⟨⟨m2, hns2⟩, hit2⟩, hkap⟩ := hv
      have ej : j = i := by omega
      subst ej
      have h02 : Since L I (s.setGen g .running) s₂ := hB2 j _ _ h0 hb
      have J0 : Inv X pins σ H (s.setGen g .running) := inv_gens J (allBare_setGen J.bare rfl)
      have J2 : Inv X pins σ H s₂ := by
        obtain ⟨h', tk, e, _, hk'⟩ := h02
        exact inv_since (L := L) (I := I) J0 (fp L (by simp)) (fp I (by simp)) ⟨h', tk, e, hk'⟩
      obtain ⟨b, H', rfl, J3, sm, ht, hfree⟩ := hC X pins σ H s₂ s₁ j ws[j] v hP hw hK (List.getElem?_eq_getElem hlt) J2 (fp L (by simp)) (fp I (by simp)) hat.F hs hns' hit' hY
      have h01 : Since L I (s.setGen g .running) s₁ := h02.trans hs
      have hga : s₁.heap.IsGen a g := by
        obtain ⟨o, nm, qn, e, r⟩ := hg
        obtain ⟨h', tk, rfl, _, hk'⟩ := h01
        exact ⟨o, nm, qn, hk' a o haL haI e, r⟩
      have hgl : g < s.gens.size := (Array.getElem?_eq_some_iff.mp hat.gen).1
      have hgl1 : g < s₁.gens.size := by
        obtain ⟨h', tk, rfl, _, _⟩ := h01
        show g < (s.setGen g .running).gens.size
        rw [setGen_size]; exact hgl
      have ex2 : ∀ c, c = a ∨ c = L ∨ c = I → ∃ o, s₂.heap.get? c = some o := fun c hc => by
        rcases hc with rfl | rfl | rfl
        · obtain ⟨o, nm, qn, e, r⟩ := hg
          obtain ⟨h', tk, rfl, _, hk'⟩ := h02
          exact ⟨o, hk' _ o haL haI e⟩
        · obtain ⟨o, e, _⟩ := ns_ok hns2; exact ⟨o, e⟩
        · obtain ⟨o, e, _⟩ := listIter_ok hit2; exact ⟨o, e⟩
      refine ⟨b, H', napAt gs' a L I F g bs ws (j + 1), rfl, inv_gens J3 (allBare_setGen (s := s₁) J3.bare hbare), sm, ht, napAt_good hbare ?_, ⟨setGen_at hgl1, fun c hc => ?_, ⟨hga, hns', hit'⟩, hat.F.mono sm⟩, ?_, fun c hc => .inl hc⟩
      · have q := hkap (.bool true) s₁ (.inr rfl) hns' hit' hf'
        cases gs' with
        | fresh c => exact (by cases q.1)
        | suspended k l c p fs cl => exact ⟨_, _, _, _, _, _, rfl⟩
        | running => exact q.elim
        | finished => exact q.elim
      · have hc : c = a ∨ c = L ∨ c = I := by simpa [napAt] using hc
        obtain ⟨o, e⟩ := ex2 c hc
        exact fpOk_of (fp c hc) (hfree c o e (fp c hc).1)
      · exact ih (j + 1) gs' (by omega) (Nat.succ_pos j) (by omega) fun s'' w1 w2 w3 => hkap .none s'' (.inl rfl) w1 w2 w3
    · exact absurd hp.1 (Nat.succ_ne_zero k)

/-- words handed out as they are -/
theorem conv_id : Conv P w K L I F bs ws id (fun i _ v _ => ∃ b, bs[i]? = some b ∧ v = .ref b) := by
  intro X pins σ H s s₃ i z v _ _ _ hz J fL fI hw hs _ _ hY
  obtain ⟨b, hb, rfl⟩ := hY
  obtain ⟨y, e1, e2⟩ := pget hw.2 (i := i) (x := V.ref b) (by rw [List.getElem?_map, hb]; rfl)
  rw [hz] at e1
  cases e1
  obtain ⟨h', tk, e, _, hk'⟩ := hs
  exact ⟨b, H, rfl, inv_since J fL fI ⟨h', tk, e, hk'⟩, Same.refl H, e2, fun _ _ _ h => h⟩
/-- words with one more letter -/
def YvApp (L I : Addr) (ws : List Wrd) (c : Int) : Nat → Shared → Value → Shared → Prop := fun i s v s₃ =>
  ∃ (s₂ : Shared) (z : Wrd) (us : List Value), ws[i]? = some z ∧ Since L I s s₂ ∧ s₃ = { s₂ with heap := s₂.heap.push { cls := .type "tuple", data := .seq us.toArray } } ∧ v = .ref s₂.heap.objs.size ∧ Vals ((z ++ [c]).map V.int) us ∧ z.length < sizeLine
theorem conv_app {c : Int} : Conv P w K L I F bs ws (· ++ [c]) (YvApp L I ws c) := by
  intro X pins σ H s s₃ i z v _ _ _ hz J fL fI hw hs _ _ hY
  obtain ⟨s₂, z', us, hz', hs2, rfl, rfl, hv, hl⟩ := hY
  rw [hz] at hz'
  cases hz'
  have J2 : Inv X pins σ H s₂ := by
    obtain ⟨h', tk, e, _, hk'⟩ := hs2
    exact inv_since J fL fI ⟨h', tk, e, hk'⟩
  have hn : H s₂.heap.objs.size = none := J2.hok.fresh (Nat.le_refl _)
  refine ⟨_, upd H s₂.heap.objs.size (.tup ((z ++ [c]).map V.int)), rfl, J2.laid (t' := s₂.toks) (fun b o e => Heap.get?_push_of_some _ e) (Nat.le_refl _) ?_, Same.put (Same.refl H) hn, Tp.new, fun d o e hd => ?_⟩
  · exact ⟨by rw [List.length_map, List.length_append, List.length_singleton]; omega, us, hv, IsTup.new _ _⟩
  · obtain ⟨h', tk, rfl, hz2, _⟩ := hs2
    rw [upd_ne (Nat.ne_of_lt (Nat.lt_of_lt_of_le (Heap.lt_size e) hz2))]
    exact hd
end
end Wk
namespace Wk
open PySem L2
open PyProof.Rows GenW

/-! ### the call of a generator def; its first turn -/
/-- the first n objects -/
def cutH (h : Heap) (n : Nat) : Heap := { objs := h.objs.extract 0 n, life := h.life }
theorem cutH_size {h : Heap} {n : Nat} (hn : n ≤ h.objs.size) : (cutH h n).objs.size = n := by
  show (h.objs.extract 0 n).size = n
  rw [Array.size_extract]; omega
theorem cutH_get {h : Heap} {n : Nat} {b : Addr} (hb : b < n) : (cutH h n).get? b = h.get? b := by
  have e : (h.objs.extract 0 n)[b]? = h.objs[b]? := by
    rw [Array.getElem?_extract, Nat.zero_add]
    split
    · rfl
    · rename_i hh
      have hb' : @LT.lt Nat _ b n := hb
      have : h.objs.size ≤ b := by omega
      exact (Array.getElem?_eq_none this).symm
  unfold Heap.get? cutH
  rw [e]
theorem cutH_lt {h : Heap} {n : Nat} {b : Addr} {o : Obj} (e : (cutH h n).get? b = some o) : b < n := by
  have := Heap.lt_size e
  have e2 : (cutH h n).objs.size ≤ n := by
    show (h.objs.extract 0 n).size ≤ n
    rw [Array.size_extract]; omega
  exact Nat.lt_of_lt_of_le this e2
def cutS (s : Shared) (n : Nat) : Shared := { s with heap := cutH s.heap n }

/-- the context of a generator's body that lets no exception out; its frame at L -/
def gX (P : Program) (w : World) (K : PySem.W.Frag) (mg : Str → Option Value) (base : Heap) (N : List Str) (qual : Str) (scope : Scope) (f : Addr) (cd : Value) (L : Addr) (A : Around) (outer : List Env) (s : Shared) (H : Hp) : Cx where
  prog := P
  w := w
  K := K
  mg := mg
  base := base
  A := A.deeper (envOfC qual scope L f cd)
  N := N
  s_0 := s
  H_0 := H
  env := envOfC qual scope L f cd
  outer := outer
  stack := envOfC qual scope L f cd :: outer
  ex := []
  calm := true
  fn := fun _ => true
  pn := []
  xe := fun _ _ => False

/-- a run, its end told as one likes -/
def SegF (M : Model) (A : Around) (Φ : End → Shared → Prop) (c : Code) (t : Sem PySem.Fin) (fs : List Frame) (s : Shared) : Prop :=
  ∀ (Γ : Ctx) (p : Pos), Γ.code = c → Γ.Woken A → ∃ e s', Runs M Γ p t fs s e s' ∧ Φ e s'
section
variable {M : Model} {A : Around} {Φ : End → Shared → Prop} {c : Code} {fs : List Frame} {s : Shared}
theorem segF_of {R : GenEnd} {Y : Protocol} {n : Nat} {s₀ : Shared} {t : Sem PySem.Fin} (h : Seg M A R Y n s₀ c t fs s) (hΦ : ∀ e s', SegEnd R Y n (Seg.next M A R Y n) s₀ e s' → Φ e s') : SegF M A Φ c t fs s := fun Γ p hc hΓ => by
  obtain ⟨e, s', hr, he⟩ := seg_iff.mp h Γ p hc hΓ
  exact ⟨e, s', hr, hΦ e s' he⟩
theorem segF_wrap {α : Type} {m : Sem α} {T : α → Sem PySem.Fin} {J : Value → Sem PySem.Fin} {gd : Bool → Bool} {lv : List Value → List Value}
    (h : wpAny M (A.over c fs) m (fun a s' => SegF M A Φ c (T a) fs s') (fun x s' => SegF M A Φ c (J x) fs s') s) : SegF M A Φ c (m.wrap T J gd lv) fs s := by
  rintro Γ p rfl hΓ
  exact runs_wrap_of_wp T J gd lv m (h (Γ.over fs) p (hΓ.over fs)) (fun a p' s' h' => h' Γ p' rfl hΓ) fun x p' s' h' => h' Γ p' rfl hΓ
theorem segF_bind {α β : Type} {m : Sem α} {T : α → Sem β} {T' : β → Sem PySem.Fin} {J : Value → Sem PySem.Fin} {gd : Bool → Bool} {lv : List Value → List Value}
    (h : wpAny M (A.over c fs) m (fun a s' => SegF M A Φ c ((T a).wrap T' J gd lv) fs s') (fun x s' => SegF M A Φ c (J x) fs s') s) : SegF M A Φ c ((m >>= T).wrap T' J gd lv) fs s := by
  rw [Sem.bind_eq_wrap', Sem.wrap_wrap]
  exact segF_wrap h
theorem segF_cons {st : Stmt} {rest : List Stmt} {env : Env} {T : Flow → Sem PySem.Fin} {J : Value → Sem PySem.Fin} {gd : Bool → Bool} {lv : List Value → List Value}
    (h : wpAny M (A.over c fs) (exec st env) (fun f s' => f = .next ∧ SegF M A Φ c ((execs rest env).wrap T J gd lv) fs s') (fun x s' => SegF M A Φ c (J x) fs s') s) : SegF M A Φ c ((execs (st :: rest) env).wrap T J gd lv) fs s := by
  rw [execs_cons_wrap]
  refine segF_wrap (wpAny_mono h (fun f s' hf => ?_) fun _ _ z => z)
  obtain ⟨rfl, hf⟩ := hf
  exact hf
theorem segF_func {P : Program} {w : World} {body : List Stmt} {env : Env} {Φ : End → Shared → Prop} {s : Shared}
    (h : SegF (model P w) A Φ (.func body env) ((execs body env).wrap (fun f => .pure (.done (.ret (match f with | .ret v => v | _ => .none)))) (fun e => (leaving env e).wrap (fun _ => .raise e) .raise id id) id id) fs s) :
    SegF (model P w) A Φ (.func body env) ((model P w).den (.func body env)) fs s := by
  have e : (model P w).den (.func body env) = ((point : Sem Unit).wrap (fun _ => (execs body env).wrap (fun f => .pure (.done (.ret (match f with | .ret v => v | _ => .none)))) (fun e => (leaving env e).wrap (fun _ => .raise e) .raise id id) id id) .raise id id) := by
    show Sem.point [] (fun _ => ((execs body env).onRaise (leaving env)) >>= _) = Sem.point [] _
    congr 1
    funext _
    rw [Sem.onRaise_eq_wrap, Sem.bind_eq_wrap', Sem.wrap_wrap]
    refine Sem.wrap_congr _ _ _ (fun f => by cases f <;> rfl) fun x => ?_
    rw [Sem.bind_eq_wrap, Sem.wrap_wrap]
    rfl
  rw [e]
  exact segF_wrap (wpAny_point h)
theorem segF_call {c' : Code} {h : Option Value} {g : Bool} {l : List Value} {k : Result → Sem PySem.Fin} (hc : ∀ p, SegF M A Φ c' (M.den c') (.ret k h g l c p [] :: fs) s) : SegF M A Φ c (.call c' h g l k) fs s := by
  rintro Γ p rfl hΓ
  obtain ⟨e, s', hr, he⟩ := hc p (Γ.goto c') p rfl (hΓ.goto c')
  exact ⟨e, s', runs_call_seg hr, he⟩
end
/-- the first wake: an item comes -/
theorem next_dawn {P : Program} {w : World} {A : Around} {E : Value → Shared → Prop} {s : Shared} {a : Addr} {g : Nat} {c : Code} {Q : Option Value → Shared → Prop} (hl : s.heap.NoLimit) (hroom : A.depth < recursionLimit) (hg : s.heap.IsGen a g) (hgs : s.gens[g]? = some (.fresh c))
    (h : SegF (model P w) A.in1 (fun e s' => ∃ v g₀ l k c' p fs, e = .susp v g₀ l k c' p fs ∧ (g₀ || fs.any Frame.guarded) = false ∧ Q (some v) (s'.setGen g (.suspended k l c' p fs false))) c ((model P w).den c) [] (s.setGen g .running)) :
    wpAny (model P w) A (pyNext (.ref a)) Q E s := by
  unfold pyNext
  refine wpAny_bind (wpAny_attempt (wpAny_callSpecial?_slot (name := Str.ofString "__next__") hg.typeIs slot_gen_next (wpAny_call_entry slot_gen_next hg.typeIs entry_gen_next ?_ (args_gen_next _))))
  show wpAny _ A.in1 (Builtin.Generator.genWake (.ref a) (.send .none)) _ _ s
  unfold Builtin.Generator.genWake
  refine wpAny_bind (wpAny_holding (wpAny_genNumber hg (wpAny_bind (wpAny_genState hgs ?_))))
  refine wpAny_bind (wpAny_roomToWake hl hroom ?_)
  show wpAny _ A.in1 (.resume g (.send .none) [] _) _ _ s
  intro Γ p hΓ
  rw [Sem.wp_resume]
  obtain ⟨e, s', hr, v, g₀, l, k, c', p', fs, rfl, hq, hQ⟩ := h (Γ.wake c p) p rfl (hΓ.wake c p)
  refine ⟨.yielded v, s'.setGen g (.suspended k l c' p' fs false), ?_, ?_⟩
  · unfold Wakes
    rw [hgs]
    refine ⟨_, s', hr, ?_, rfl, ?_⟩
    · show (!(g₀ || fs.any Frame.guarded)) = true
      rw [hq]; rfl
    · show _ = s'.setGen g (.suspended k l c' p' fs (g₀ || fs.any Frame.guarded))
      rw [hq]
  · exact (wpAny_pure ⟨v, rfl, wpAny_pure hQ⟩ : wpAny _ A.in1 _ _ _ _) Γ p hΓ

def Woke (P : Program) (w : World) (K : PySem.W.Frag) (A : Around) (a : Addr) (g : Nat) (old : List Addr) (xs : List Wrd) (X : Cx) (pins : List (Addr × Obj)) (σ : L2.St) (H : Hp) (r : Option Value) (s' : Shared) : Prop :=
  match xs with
  | [] => False
  | x :: r' => ∃ b H' N', r = some (.ref b) ∧ Inv X pins σ H' s' ∧ Same H H' ∧ Tp H' (.ref b) x ∧ N'.Good ∧ N'.At g X pins H' s' ∧ Spring P w K A a g r' N' ∧ ∀ c ∈ N'.own, c ∈ old ∨ H c = none

/-- a generator that has not begun -/
def Dawn (P : Program) (w : World) (K : PySem.W.Frag) (base : Heap) (k : Nat) (outer : List Env) (H : Hp) (s : Shared) (xs : List Wrd) (u : Value) (s' : Shared) : Prop :=
  ∃ (a : Addr) (g : Nat), u = .ref a ∧ s'.heap.IsGen a g ∧ s'.os = s.os ∧ AllBare s'.gens ∧ (∀ b o, s.heap.get? b = some o → s'.heap.get? b = some o) ∧ s.heap.objs.size ≤ a ∧ a < s'.heap.objs.size ∧
    ∀ (X : Cx) (pins : List (Addr × Obj)) (σ : L2.St) (H2 : Hp) (s2 : Shared) (E : Value → Shared → Prop), X.prog = P → X.w = w → X.K = K → X.base = base → X.A.handled = none → Room (k + 1) X.A → X.stack = outer →
      (∀ b o, s'.heap.get? b = some o → s2.heap.get? b = some o) → s'.heap.objs.size ≤ s2.heap.objs.size → s2.gens = s'.gens → Inv X pins σ H2 s2 → (∀ b, s.heap.objs.size ≤ b → b < s'.heap.objs.size → FpOk X pins H2 b) → Same H H2 →
      (∀ b o, s'.heap.objs.size ≤ b → s2.heap.get? b = some o → ∀ v, o.data ≠ .cell v) →
      wpAny (model P w) X.A (pyNext (.ref a)) (Woke P w K X.A a g [] xs X pins σ H2) E s2

/-- a generator def: for these arguments it hands out these words -/
structure GenOk (P : Program) (w : World) (K : PySem.W.Frag) (mg : Str → Option Value) (base : Heap) (k : Nat) (f : Addr) (fd : FuncData) (ps : List Str) (pre : List V → Hp → List Wrd → Prop) : Prop where
  len : ∀ vs H xs, pre vs H xs → vs.length = ps.length
  run : ∀ (A : Around) (outer : List Env) (s : Shared) (H : Hp) (args : Args) (us : List Value) (vs : List V) (xs : List Wrd), Room k A → Env0 P w K mg base A outer s H → BindsTo s fd args (ps.zip us) → Vals vs us → pre vs H xs →
    codeAny (model P w) A (.call (.ref f) args) (fun r s' => match r with | .ok (.ret u) => Dawn P w K base k outer H s xs u s' | _ => False) s

theorem tps_refs {H : Hp} : ∀ {vs : List V} {ws : List Wrd}, Tps H vs ws → ∃ bs : List Addr, vs = bs.map V.ref
  | [], _, _ => ⟨[], rfl⟩
  | v :: r, _, h => by
    cases h with
    | cons q t =>
      obtain ⟨a, rfl, _⟩ := q
      obtain ⟨bs, rfl⟩ := tps_refs t
      exact ⟨a :: bs, rfl⟩
/-- the untracked at or above n, no cells -/
def young (H : Hp) (h : Heap) (n : Nat) : List (Addr × Obj) :=
  (List.range h.objs.size).filterMap fun b => if n < b ∧ (H b).isNone then (match h.get? b with | some o => (match o.data with | .cell _ => none | _ => some (b, o)) | none => none) else none
theorem mem_young {H : Hp} {h : Heap} {n : Nat} {b : Addr} {o : Obj} (hb : n < b) (hn : H b = none) (e : h.get? b = some o) (hc : ∀ v, o.data ≠ .cell v) : (b, o) ∈ young H h n := by
  unfold young
  rw [List.mem_filterMap]
  refine ⟨b, List.mem_range.mpr (Heap.lt_size e), ?_⟩
  rw [if_pos ⟨hb, by rw [hn]; rfl⟩, e]
  show (match o.data with | .cell _ => none | _ => some (b, o)) = some (b, o)
  split
  · rename_i v q; exact absurd q (hc v)
  · rfl
theorem of_young {H : Hp} {h : Heap} {n : Nat} {p : Addr × Obj} (hp : p ∈ young H h n) : n < p.1 ∧ H p.1 = none ∧ h.get? p.1 = some p.2 ∧ ∀ v, p.2.data ≠ .cell v := by
  unfold young at hp
  rw [List.mem_filterMap] at hp
  obtain ⟨b, _, e⟩ := hp
  split at e
  · rename_i hc
    split at e
    · rename_i o eo
      split at e
      · cases e
      · rename_i hnc
        cases e
        refine ⟨hc.1, ?_, eo, fun v z => hnc v z⟩
        have := hc.2
        cases hH : H b with
        | none => rfl
        | some _ => rw [hH] at this; cases this
    · cases e
  · cases e

theorem obj_there {P : Program} {w : World} {H : Hp} {h : Heap} {a : Addr} {o : HO} (x : ObjOk P w H h a o) : ∃ u, h.get? a = some u := by
  cases o with
  | lst xs => obtain ⟨_, _, _, _, e⟩ := x; exact ⟨_, e⟩
  | tup xs => obtain ⟨_, _, _, _, e, _⟩ := x; exact ⟨_, e⟩
  | dK kvs => obtain ⟨_, _, _, _, o, _, _, e, _⟩ := x; exact ⟨o, e⟩
  | dT kvs => obtain ⟨_, _, _, _, o, _, _, e, _⟩ := x; exact ⟨o, e⟩
  | set S n => obtain ⟨o, es, ep, t, e, _⟩ := x; exact ⟨o, e⟩
  | ins C dx fs => obtain ⟨_, _, _, e, _⟩ := x; exact ⟨_, e⟩
  | own _ => exact x
  | xd fs => obtain ⟨mA, h1, _⟩ := x; obtain ⟨o, _, _, e, _⟩ := h1; exact ⟨o, e⟩
  | rng lo hi => obtain ⟨_, _, _, e⟩ := x; exact ⟨_, e⟩
  | frz o u => exact ⟨_, x.1⟩
  | tbl ps => exact ⟨_, x⟩
  | met f y => exact ⟨_, x⟩
  | ext φ => exact x.2.1

section
variable {P : Program} {w : World} {K : PySem.W.Frag} {mg : Str → Option Value} {base : Heap} {N : List Str} {qual : Str} {scope : Scope} {f : Addr} {cd : Value} {A0 A2 : Around} {outer : List Env} {s s1 s2 s3 : Shared} {H H2 H3 : Hp} {E : XK} {σ0 : L2.St} {X : Cx} {pins : List (Addr × Obj)} {σ σ' : L2.St}
/-- where a generator's body stands at its first turn -/
theorem inv_gX (I1 : Inv (gcxOf P w K mg base N qual scope f cd A0 outer s H E []) [] σ0 H s1) (e0 : Env0 P w K mg base A0 outer s H) (hd : A2.handled = none) (hfr : A2.frames = some outer)
    (kp0 : ∀ b o, s.heap.get? b = some o → s1.heap.get? b = some o) (kp : ∀ b o, s1.heap.get? b = some o → s2.heap.get? b = some o) (hle : s.heap.objs.size ≤ s2.heap.objs.size)
    (hok : HOk P w H2 s2.heap) (bare : AllBare s2.gens) (free : ∀ b, s.heap.objs.size ≤ b → b < s1.heap.objs.size → H2 b = none) (frf : ∀ b ∈ frs outer, H2 b = none) (bs : ∀ b o, base.get? b = some o → H2 b = none) :
    Inv (gX P w K mg base N qual scope f cd s.heap.objs.size A2 outer (cutS s2 s.heap.objs.size) H2) (young H2 s2.heap s.heap.objs.size) σ0 H2 s2 := by
  have up : ∀ b o, s.heap.get? b = some o → (cutH s2.heap s.heap.objs.size).get? b = some o := fun b o e => (cutH_get (Heap.lt_size e)).trans (kp b o (kp0 b o e))
  have zs : (cutH s2.heap s.heap.objs.size).objs.size = s.heap.objs.size := cutH_size hle
  have hL1 : s.heap.objs.size < s1.heap.objs.size := I1.lt
  have cl : ∀ x c, (envOfC qual scope s.heap.objs.size f cd).cells.lookup x = some c → s.heap.objs.size ≤ c ∧ c < s1.heap.objs.size := fun x c e => by
    obtain ⟨v, z⟩ := I1.cell x c e
    exact ⟨I1.ok.cab x c rfl e, z.lt⟩
  refine ⟨⟨I1.ok.mod, I1.ok.kind, I1.ok.glob, I1.ok.blt, Nat.le_of_eq zs, I1.ok.inj, I1.ok.has, fun x c h e => ?_, fun _ => hd, Around.frames_deeper hfr, .inr ⟨rfl, rfl⟩, fun b z => absurd (show b ∈ ([] : List Addr) from z) (by simp), fun b o e => ⟨up b o (e0.bs b o e).1, bs b o e⟩, ?_,
    fun b _ _ z => absurd (show b ∈ ([] : List Addr) from z) (by simp), fun b z => absurd (show b ∈ ([] : List Addr) from z) (by simp), Heap.FunFrames.of_keeps (fun b o e _ => ⟨o, up b o e, rfl⟩) e0.funs, frf⟩,
    rfl, bare, Un.kept fun b o e => ?_, ?_, fun x c e => ?_, free _ (Nat.le_refl _) hL1, fun x c e => free c (cl x c e).1 (cl x c e).2, fun p hp => ?_, hok, I1.len⟩
  · show (cutH s2.heap s.heap.objs.size).objs.size ≤ c
    rw [zs]; exact (cl x c e).1
  · show base.objs.size ≤ (cutH s2.heap s.heap.objs.size).objs.size
    rw [zs]; exact e0.bsz
  · have e : (cutH s2.heap s.heap.objs.size).get? b = some o := e
    rw [cutH_get (cutH_lt e)] at e
    exact e
  · obtain ⟨m, hn, hl⟩ := I1.loc
    refine ⟨m, hn.keeps kp, fun i x v e1 e2 e3 => ?_⟩
    obtain ⟨u, r, q⟩ := hl i x v e1 e2 e3
    refine ⟨u, r, ?_⟩
    rcases q with q | ⟨k, c, e, z⟩
    · exact .inl q
    · exact .inr ⟨k, c, e, z.keeps kp⟩
  · obtain ⟨v, z⟩ := I1.cell x c e
    exact ⟨v, z.keeps kp⟩
  · have hp : p ∈ young H2 s2.heap s.heap.objs.size := by
      rcases List.mem_append.mp hp with z | z
      · exact absurd (show p ∈ ([] : List (Addr × Obj)) from z) (by simp)
      · exact z
    obtain ⟨h1, h2, h3, h4⟩ := of_young hp
    refine ⟨h3, h2, Nat.ne_of_gt h1, fun hm => ?_, h4⟩
    obtain ⟨_, o, ho, _⟩ := e0.funs.mem hm
    exact absurd (Nat.lt_trans (Heap.lt_size ho) h1) (Nat.lt_irrefl _)
/-- back with whoever asked -/
theorem inv_back {L hi : Addr} (hLh : L < hi) (J : Inv (gX P w K mg base N qual scope f cd L A2 outer (cutS s2 L) H2) (young H2 s2.heap L) σ' H3 s3) (IX : Inv X pins σ H2 s2) (hst : X.stack = outer) (hP : X.prog = P) (hw : X.w = w)
    (fp : ∀ b, L ≤ b → b < hi → FpOk X pins H2 b) (hyc : ∀ b o, hi ≤ b → s2.heap.get? b = some o → ∀ v, o.data ≠ .cell v) (sm : Same H2 H3) : Inv X pins σ H3 s3 := by
  have mch : ∀ b, b ∈ List.range' L (hi - L) ↔ L ≤ b ∧ b < hi := fun b => by
    rw [List.mem_range'_1]
    have : L + (hi - L) = hi := Nat.add_sub_cancel' (Nat.le_of_lt hLh)
    rw [this]
  have cut : ∀ b o, b < L → s2.heap.get? b = some o → (cutS s2 L).heap.get? b = some o := fun b o hb e => (cutH_get hb).trans e
  have frL : ∀ b, b ∈ frs outer → b < L := fun b hb => by
    obtain ⟨_, o, ho, _⟩ := J.ok.funs.mem hb
    exact cutH_lt (h := s2.heap) ho
  have pin : ∀ b o, ¬ b < L → b ∉ List.range' L (hi - L) → s2.heap.get? b = some o → H2 b = none → s3.heap.get? b = some o ∧ H3 b = none := fun b o h1 h2 e n => by
    have hge : L ≤ b := Nat.le_of_not_lt h1
    have hhi : hi ≤ b := Nat.le_of_not_lt fun z => h2 ((mch b).mpr ⟨hge, z⟩)
    have q := J.pin (b, o) (List.mem_append_right _ (mem_young (Nat.lt_of_lt_of_le hLh hhi) n e (hyc b o hhi e)))
    exact ⟨q.1, q.2.1⟩
  have nx : ∀ b : Addr, b ∉ (gX P w K mg base N qual scope f cd L A2 outer (cutS s2 L) H2).ex := fun b z => absurd (show b ∈ ([] : List Addr) from z) (by simp)
  have un : Un (frs X.stack) (List.range' L (hi - L)) H2 H3 s2.heap s3.heap := by
    refine ⟨fun b o e n nf hx => ?_, fun b o e n hf hx => ?_, fun b o e n hx => ?_, fun b o e hx => ?_, J.base.tups, J.base.frzs, J.base.tbls⟩
    · by_cases h : b < L
      · exact J.base.keep b o (cut b o h e) n (fun z => nf (by rw [hst]; exact z)) (nx b)
      · exact (pin b o h hx e n).1
    · rw [hst] at hf
      exact J.base.slot b o (cut b o (frL b hf) e) n hf (nx b)
    · by_cases h : b < L
      · exact J.base.free b o (cut b o h e) n (nx b)
      · exact (pin b o h hx e n).2
    · by_cases h : b < L
      · exact J.base.there b o (cut b o h e) (nx b)
      · cases hH : H2 b with
        | none => exact ⟨o, (pin b o h hx e hH).1⟩
        | some u => exact obj_there (J.hok b u (sm b u hH))
  refine IX.call' (ch := List.range' L (hi - L)) ?_ un (by rw [hP, hw]; exact J.hok) J.bare fun b hb => ?_
  · exact J.os
  · obtain ⟨h1, h2⟩ := (mch b).mp hb
    obtain ⟨_, q2, _, q4, q5, q6⟩ := fp b h1 h2
    exact ⟨q4, q2, q5, q6⟩
end
end Wk
namespace Wk
open PySem L2
open PyProof.Rows GenW

/-- THE RULE: a generator def of two statements and a loop over a list that hands out -/
theorem genok_of {P : Program} {w : World} {K : PySem.W.Frag} {mg : Str → Option Value} {base : Heap} {k : Nat} {f : Addr} {name qual : Str} {params : Arguments} {scope : Scope} {dV kV doc pm cdv ct oc : Value} {an od : Option Addr}
    {osl : Array (Option Value)} {N ps : List Str} {pre : List V → Hp → List Wrd → Prop} {st1 st2 : Stmt} {x : Str} {px yp ypos fpos : Pos} {iter elt : Expr}
    (lk : K.lookup f = some ⟨oc, od, .func (PySem.W.fnOf name qual params [st1, st2, .For (.Name x px) iter [.Expr (.Yield (some elt) yp) ypos] [] fpos] scope dV kV doc pm an cdv ct), osl⟩) (hcd : PySem.W.codeIn K cdv qual = true) (S : GScope N ps scope)
    (hx : scope.names.lookup x = some .local) (hs : ∀ (env : Env) x, foldedSetIterable iter env x = pure x)
    (len : ∀ vs H xs, pre vs H xs → vs.length = ps.length) (mono : ∀ vs H H' xs, pre vs H xs → Same H H' → pre vs H' xs) (fw : Wrd → Wrd) (Yv : Addr → Addr → List Addr → List Wrd → Nat → Shared → Value → Shared → Prop)
    (hC : ∀ L I F bs ws, Conv P w K L I F bs ws fw (Yv L I bs ws))
    (helt : ∀ (L I F : Addr) (bs : List Addr) (ws : List Wrd) (vs : List V) (H : Hp) (xs : List Wrd), pre vs H xs → xs = ws.map fw → ∀ (A' : Around) (E' : Value → Shared → Prop) (i : Nat) (s₁ s₂ : Shared) (m : Str → Option Value) (v : Value), A'.handled = none → (bs.map Value.ref).toArray[i]? = some v → HeapWs F bs ws s₂.heap → Since L I s₁ s₂ → s₂.heap.Ns L m → m x = some v → bs.length = ws.length →
      wpAny (model P w) A' (eval elt (envOfC qual scope L f cdv)) (fun y s₃ => (∃ h' tk, s₃ = { s₂ with heap := h', toks := tk } ∧ s₂.heap.objs.size ≤ h'.objs.size ∧ ∀ b o, s₂.heap.get? b = some o → h'.get? b = some o) ∧ Yv L I bs ws i s₁ y s₃) E' s₂)
    (hbody : ∀ (L : Addr) (A : Around) (outer : List Env) (s : Shared) (H : Hp), Room k (A.deeper (envOfC qual scope L f cdv)) → ∃ (t1 t2 : TS) (ti : TE), PS (gX P w K mg base N qual scope f cdv L A outer s H) st1 t1 ∧ PS (gX P w K mg base N qual scope f cdv L A outer s H) st2 t2 ∧ PE (gX P w K mg base N qual scope f cdv L A outer s H) iter ti ∧
      ∀ vs xs, pre vs H xs → ∃ ws, xs = ws.map fw ∧ ws ≠ [] ∧ t1 { nx := fun σ1 H1 => t2 { nx := fun σ2 H2 => ti σ2 H2 fun v H3 => ∃ F vs', v = .ref F ∧ H3 F = some (.lst vs') ∧ Tps H3 vs' ws ∧ Same H H3 ∧ H F = none, rt := fun _ _ => False } σ1 H1, rt := fun _ _ => False } (start N vs) H) :
    GenOk P w K mg base (k + 1) f (PySem.W.fnOf name qual params [st1, st2, .For (.Name x px) iter [.Expr (.Yield (some elt) yp) ypos] [] fpos] scope dV kV doc pm an cdv ct) ps pre := by
  refine ⟨len, fun A outer s H args us vs xs hr e0 hb r hpre => ?_⟩
  have hl := len _ _ _ hpre
  have KX : K.In s.heap := e0.mod.kin.keeps fun b o e => (e0.bs b o e).1
  have lim : s.heap.NoLimit := e0.mod.nolimit.keeps fun b o e => (e0.bs b o e).1
  have hkind : ∀ y ∈ ps.zip us, scope.names.lookup y.1 = some .local ∨ (scope.names.lookup y.1 = some .cell ∧ ((cellsFrom (s.heap.objs.size + 1) scope.names []).lookup y.1).isSome = true) := fun ⟨n, v⟩ hy => by
    rcases S.par n (List.of_mem_zip hy).1 with q | q
    · exact .inl q
    · exact .inr ⟨q, PySem.W.cellsFrom_some _ _ _ (.inl q)⟩
  refine codeAny_call_generator hr.depth (KX _ _ lk) rfl S.co S.gen rfl (PySem.W.codeRec_of KX hcd) (hb _ _ _ _ ?_)
  refine wpAny_newFunctionEnv_cells S.kind hkind fun env he s1 z => ?_
  subst he
  refine ⟨lim.keeps z.toInCall.keep, ?_⟩
  have I1 := inv_startG (E := fun _ _ _ => False) S hr.hd e0 hl r z
  have kp1 : ∀ b o, s.heap.get? b = some o → s1.heap.get? b = some o := z.toInCall.keep
  have hL1 : s.heap.objs.size < s1.heap.objs.size := z.toInCall.ns.lt
  obtain ⟨h1, tk1, es1, _⟩ := z.done
  have os1 : s1.os = s.os := by rw [es1]
  have gen1 : s1.gens = s.gens := by rw [es1]
  have hgen : ∀ (go : Obj) (nm qn : Value) (tk2 : Nat), go.cls = .type "generator" → go.data = .fields #[.int s1.gens.size 0, nm, qn] → go.slots = #[] → (∀ h : Heap, (h.push go).get? h.objs.size = some go) →
      Dawn P w K base (k + 1) outer H s xs (.ref s1.heap.objs.size) { s1 with gens := s1.gens.push (.fresh (.func [st1, st2, .For (.Name x px) iter [.Expr (.Yield (some elt) yp) ypos] [] fpos] (envOfC qual scope s.heap.objs.size f cdv))), toks := tk2, heap := s1.heap.push go } := by
    intro go nm qn tk2 hgc hgd hgs hgp
    have isg : ∀ h : Heap, h.get? s1.heap.objs.size = some go → h.IsGen s1.heap.objs.size s1.gens.size := fun h e => ⟨go, nm, qn, e, hgc, hgd, hgs⟩
    have zp : (s1.heap.push go).objs.size = s1.heap.objs.size + 1 := Heap.size_push ..
    refine ⟨s1.heap.objs.size, s1.gens.size, rfl, isg _ (hgp _), os1, AllBare.push (by rw [gen1]; exact e0.bare) rfl, fun b o e => Heap.get?_push_of_some _ (kp1 b o e), Nat.le_of_lt hL1, ?_, ?_⟩
    · show _ < (s1.heap.push go).objs.size
      rw [zp]; exact Nat.lt_succ_self _
    intro X pins σ H2 s2 E hP hw hK hbase hhd hrm hst hk2 hz2 hg2 IX hfp sm hyc
    have hk2' : ∀ b o, s1.heap.get? b = some o → s2.heap.get? b = some o := fun b o e => hk2 b o (Heap.get?_push_of_some _ e)
    have hz2' : s1.heap.objs.size + 1 ≤ s2.heap.objs.size := by rw [← zp]; exact hz2
    have hfp' : ∀ b, s.heap.objs.size ≤ b → b < s1.heap.objs.size + 1 → FpOk X pins H2 b := fun b h1 h2 => hfp b h1 (by show b < (s1.heap.push go).objs.size; rw [zp]; exact h2)
    have hga : s2.heap.IsGen s1.heap.objs.size s1.gens.size := isg _ (hk2 _ _ (hgp _))
    have hgs2 : s2.gens[s1.gens.size]? = some (.fresh (.func [st1, st2, .For (.Name x px) iter [.Expr (.Yield (some elt) yp) ypos] [] fpos] (envOfC qual scope s.heap.objs.size f cdv))) := by rw [hg2]; exact Array.getElem?_push_size ..
    refine next_dawn IX.nolimit (by have := hrm.dp; omega) hga hgs2 ?_
    -- the body's context
    have hrm1 : Room k (X.A.in1.deeper (envOfC qual scope s.heap.objs.size f cdv)) := ⟨hhd, by have := hrm.dp; show X.A.depth + 1 + 3 * k + 5 < _; omega, by have := hrm.un; show X.A.units + 1 + 3 + 16 * k + 200 < _; omega⟩
    obtain ⟨t1, t2, ti, p1, p2, pi, hread⟩ := hbody s.heap.objs.size X.A.in1 outer (cutS s2 s.heap.objs.size) H2 hrm1
    obtain ⟨ws, hxs, hne, hq⟩ := hread vs xs (mono vs H H2 xs hpre sm)
    have hfr : X.A.in1.frames = some outer := by
      have := IX.ok.frames
      rw [hst] at this
      exact this
    have J0 : Inv (gX P w K mg base N qual scope f cdv s.heap.objs.size X.A.in1 outer (cutS s2 s.heap.objs.size) H2) (young H2 s2.heap s.heap.objs.size) (start N vs) H2 (s2.setGen s1.gens.size .running) :=
      inv_gens (G := (s2.setGen s1.gens.size .running).gens) (inv_gX (A2 := X.A.in1) I1 e0 hhd hfr kp1 hk2' (by omega) (by rw [← hP, ← hw]; exact IX.hok) IX.bare (fun b h1 h2 => (hfp' b h1 (Nat.lt_succ_of_lt h2)).1) (fun b hb => IX.stkFree b (by rw [hst]; exact hb)) (fun b o e => (IX.bs b o (by rw [hbase]; exact e)).2))
        (allBare_setGen (s := s2) (x := .running) IX.bare rfl)
    -- the statements ahead of the loop
    refine segF_func (segF_cons ?_)
    rw [over_func]
    have hgl2 : s1.gens.size + 1 ≤ (s2.setGen s1.gens.size .running).gens.size := by
      rw [setGen_size, hg2]
      show s1.gens.size + 1 ≤ (s1.gens.push _).size
      rw [Array.size_push]; exact Nat.le_refl _
    refine wpAny_gsz hgl2 (wpAny_mono (p1.run _ _ _ _ _ J0 hq) (fun f s3 hf => ?_) (fun e s' hz => (show False from hz).elim))
    intro hgl3
    cases f with
    | brk => obtain ⟨_, _, _, z⟩ := hf; exact z.elim
    | cont => obtain ⟨_, _, _, z⟩ := hf; exact z.elim
    | ret v => obtain ⟨_, _, _, _, _, z⟩ := hf; exact z.elim
    | next =>
    obtain ⟨σ3, H3, J3, q3⟩ := hf
    refine ⟨rfl, segF_cons ?_⟩
    rw [over_func]
    refine wpAny_gsz hgl3 (wpAny_mono (p2.run _ _ _ _ _ J3 q3) (fun f s4 hf => ?_) (fun e s' hz => (show False from hz).elim))
    intro hgl4
    cases f with
    | brk => obtain ⟨_, _, _, z⟩ := hf; exact z.elim
    | cont => obtain ⟨_, _, _, z⟩ := hf; exact z.elim
    | ret v => obtain ⟨_, _, _, _, _, z⟩ := hf; exact z.elim
    | next =>
    obtain ⟨σ4, H4, J4, q4⟩ := hf
    refine ⟨rfl, ?_⟩
    -- the loop
    rw [execs_cons_wrap, exec_For]
    refine segF_bind (wpAny_standAt ?_)
    refine segF_bind ?_
    rw [over_func]
    refine wpAny_gsz hgl4 (wpAny_mono (pi.run _ _ _ _ _ J4 q4) (fun v s5 hv => ?_) (fun e s' hz => (show False from hz).elim))
    intro hgl5
    obtain ⟨v', H5, J5, rv, F, vs', rfl, hF, htps, sm5, hFn⟩ := hv
    obtain rfl : v = Value.ref F := rv
    obtain ⟨bs, rfl⟩ := tps_refs htps
    refine segF_bind (wpAny_of_eq (hs _ _) ?_)
    refine segF_bind (wpAny_standAt ?_)
    refine segF_bind (wpAny_holding ?_)
    have hws : HasWs F bs ws H5 := ⟨hF, htps⟩
    have hh5 := HasWs.heap J5 hws
    refine wpAny_pyIter_list hh5.1 ?_
    have IX5 : Inv X pins σ H5 s5 := inv_back (hi := s1.heap.objs.size + 1) (Nat.lt_succ_of_lt hL1) J5 IX hst hP hw hfp' (fun b o hb e => hyc b o (by show (s1.heap.push go).objs.size ≤ b; rw [zp]; exact hb) e) sm5
    generalize eI : s5.heap.objs.size = I
    generalize es6 : ({ s5 with heap := s5.heap.push { cls := .type "list_iterator", data := .fields #[.ref F, .int 0 0] } } : Shared) = s6
    have k56 : ∀ b o, s5.heap.get? b = some o → s6.heap.get? b = some o := fun b o e => by rw [← es6]; exact Heap.get?_push_of_some _ e
    have IX6 : Inv X pins σ H5 s6 := by rw [← es6]; exact IX5.kept (t' := s5.toks) fun b o e => Heap.get?_push_of_some _ e
    have gn6 : s6.gens = s5.gens := by rw [← es6]
    have hit6 : s6.heap.IsListIter I F 0 := by
      rw [← es6, ← eI]
      exact ⟨_, Heap.get?_push_size _ rfl, rfl, rfl⟩
    have fI : FpOk X pins H5 I := by rw [← eI]; exact IX5.fpOk (Nat.le_refl _) (J5.hok.fresh (Nat.le_refl _))
    have fL : FpOk X pins H5 s.heap.objs.size := fpOk_of (hfp' _ (Nat.le_refl _) (Nat.lt_succ_of_lt hL1)) J5.free
    obtain ⟨oa, hoa, hoac⟩ := gen_ok hga
    have pa := J5.pin (s1.heap.objs.size, oa) (List.mem_append_right _ (mem_young hL1 (hfp' _ (Nat.le_of_lt hL1) (Nat.lt_succ_self _)).1 hoa hoac))
    have fa : FpOk X pins H5 s1.heap.objs.size := fpOk_of (hfp' _ (Nat.le_of_lt hL1) (Nat.lt_succ_self _)) pa.2.1
    have hga6 : s6.heap.IsGen s1.heap.objs.size s1.gens.size := by
      obtain ⟨o, nm, qn, e, r⟩ := hga
      rw [hoa] at e; cases e
      exact ⟨_, nm, qn, k56 _ _ pa.1, r⟩
    obtain ⟨m5, hns5, _⟩ := J5.loc
    have hns6 : s6.heap.Ns s.heap.objs.size m5 := hns5.keeps k56
    have hh6 := HasWs.heap IX6 hws
    have haL : s1.heap.objs.size ≠ s.heap.objs.size := Nat.ne_of_gt hL1
    have haI : s1.heap.objs.size ≠ I := by rw [← eI]; exact Nat.ne_of_lt (Heap.lt_size pa.1)
    have hLI : s.heap.objs.size ≠ I := by rw [← eI]; exact Nat.ne_of_lt J5.lt
    have neF : ∀ b o, H5 b = some o → b ≠ s.heap.objs.size ∧ b ≠ I := fun b o e => ⟨fun z => (by rw [z, fL.1] at e; cases e), fun z => (by rw [z, fI.1] at e; cases e)⟩
    have hlen : bs.length = ws.length := by have := plen htps; simpa using this
    obtain ⟨z0, zr, rfl⟩ : ∃ z0 zr, ws = z0 :: zr := by
      cases ws with
      | nil => exact absurd rfl hne
      | cons z0 zr => exact ⟨z0, zr, rfl⟩
    have hHf : ∀ h h' : Heap, HeapWs F bs (z0 :: zr) h → (∀ b o, b ≠ s.heap.objs.size → b ≠ I → h.get? b = some o → h'.get? b = some o) → HeapWs F bs (z0 :: zr) h' := fun h h' hw k => by
      refine ⟨hw.1.at fun o e => k F o (neF F _ hF).1 (neF F _ hF).2 e, fun j b z hb hz => ?_⟩
      obtain ⟨us, ⟨o, e, r⟩, rv⟩ := hw.2 j b z hb hz
      obtain ⟨y, _, c, e2, e3⟩ := pget htps (i := j) (x := V.ref b) (by rw [List.getElem?_map, hb]; rfl)
      cases e2
      exact ⟨us, ⟨o, k b o (neF b _ e3).1 (neF b _ e3).2 e, r⟩, rv⟩
    have hB2 : ∀ (i : Nat) (s₀ s' : Shared), 0 < i → (if i = 0 then s' = s6 else Since s.heap.objs.size I s₀ s') → Since s.heap.objs.size I s₀ s' := fun i s₀ s' h0 hb => by rwa [if_neg (Nat.ne_of_gt h0)] at hb
    have hov : (X.A.in1.over (.func [st1, st2, .For (.Name x px) iter [.Expr (.Yield (some elt) yp) ypos] [] fpos] (envOfC qual scope s.heap.objs.size f cdv)) []).handled = none := hhd
    have hkp : ((envOfC qual scope s.heap.objs.size f cdv).scope.kind == .class || ((envOfC qual scope s.heap.objs.size f cdv).scope.kind == .module && (envOfC qual scope s.heap.objs.size f cdv).locals != (envOfC qual scope s.heap.objs.size f cdv).globals)) = false := by
      show (scope.kind == .class || (scope.kind == .module && _)) = false
      rw [S.kind]; rfl
    have hki : interactive (envOfC qual scope s.heap.objs.size f cdv) = false := by
      unfold interactive
      show (scope.kind == .module && _) = false
      rw [S.kind]; rfl
    refine segF_call fun p => segF_of (seg_forY (env := envOfC qual scope s.heap.objs.size f cdv) (x := x) (n₀ := (z0 :: zr).length) (items := (bs.map Value.ref).toArray) (B := fun i s₀ s' => if i = 0 then s' = s6 else Since s.heap.objs.size I s₀ s') (Yv := Yv s.heap.objs.size I bs (z0 :: zr)) (F := F) (Hf := HeapWs F bs (z0 :: zr)) (by rfl) (by rfl) (by exact hov)
      hx hkp S.co hki (by simp [hlen]) hLI (neF F _ hF).1 (neF F _ hF).2 (fun i s₀ h0 => by rw [if_neg (Nat.ne_of_gt h0)]; exact Since.refl _) hB2 hHf (fun h hw => hw.1)
      (fun A' E' i s₁ s₂ m v h1 h2 h3 h4 h5 h6 => helt _ I F bs (z0 :: zr) vs H xs hpre hxs A' E' i s₁ s₂ m v h1 h2 h3 h4 h5 h6 hlen) (fun s₀ s' hz => seg_leaf (.ok .next) (seg_end (.ok (.ret .none)) ?_)) (Nat.succ_pos _) (z0 :: zr).length 0 s6 s6 m5 rfl (Nat.zero_le _) hns6 hit6 hh6 (by rw [if_pos rfl])) fun e s' he => ?_
    · rcases hz with ⟨_, hz⟩ | ⟨_, hz, _⟩
      · exact .inl ⟨.inl rfl, hz⟩
      · cases hz
    · cases e with
      | ret r =>
        exfalso
        rcases he with ⟨_, hz, _⟩ | ⟨_, _, hz⟩
        · cases hz
        · exact hz
      | susp v g₀ l k' c' p' fs =>
        obtain ⟨hqt, i, s₁, hi, hB, hsin, hY, hns', hit', hf', _, hkap⟩ := he
        have hi0 : i = 0 := by simp only [List.length_cons] at hi; omega
        subst hi0
        rw [if_pos rfl] at hB
        subst hB
        obtain ⟨b, H', rfl, J', sm', ht, hfree⟩ := hC s.heap.objs.size I F bs (z0 :: zr) X pins σ H5 s₁ s' 0 z0 v hP hw hK rfl IX6 fL fI hws hsin hns' hit' hY
        have hgd : (g₀ || fs.any Frame.guarded) = false := by
          have q : (!(g₀ || fs.any Frame.guarded)) = true := hqt
          simpa using q
        refine ⟨_, _, _, _, _, _, _, rfl, hgd, ?_⟩
        rw [hxs]
        have hga' : s'.heap.IsGen s1.heap.objs.size s1.gens.size := by
          obtain ⟨o, nm, qn, e, r⟩ := hga6
          obtain ⟨h', tk, rfl, _, hk'⟩ := hsin
          exact ⟨o, nm, qn, hk' _ o haL haI e, r⟩
        have hgl' : s1.gens.size < s'.gens.size := by
          obtain ⟨h', tk, rfl, _, _⟩ := hsin
          show s1.gens.size < s₁.gens.size
          rw [gn6]; exact hgl5
        refine ⟨b, H', napAt (.suspended k' l c' p' fs false) s1.heap.objs.size s.heap.objs.size I F s1.gens.size bs (z0 :: zr) 1, rfl, inv_gens J' (allBare_setGen (s := s') J'.bare rfl), sm5.trans sm', ht, napAt_good rfl ⟨_, _, _, _, _, _, rfl⟩, ⟨setGen_at hgl', fun c hc => ?_, ⟨hga', hns', hit'⟩, hws.mono sm'⟩, ?_, fun c hc => .inr (by
          have hc : c = F := by simpa [napAt] using hc
          rw [hc]; exact hFn)⟩
        · have hc : c = s1.heap.objs.size ∨ c = s.heap.objs.size ∨ c = I := by simpa [napAt] using hc
          rcases hc with rfl | rfl | rfl
          · obtain ⟨o, e, _⟩ := gen_ok hga6; exact fpOk_of fa (hfree _ o e fa.1)
          · obtain ⟨o, e, _⟩ := ns_ok hns6; exact fpOk_of fL (hfree _ o e fL.1)
          · obtain ⟨o, e, _⟩ := listIter_ok hit6; exact fpOk_of fI (hfree _ o e fI.1)
        · have q := spring_nap (P := P) (w := w) (K := K) (A := X.A) (a := s1.heap.objs.size) (g := s1.gens.size) (n₀ := (z0 :: zr).length) (B := fun i s₀ s' => if i = 0 then s' = s₁ else Since s.heap.objs.size I s₀ s') hhd (by have := hrm.dp; omega) haL haI rfl hlen (Nat.succ_pos _) hB2 (hC s.heap.objs.size I F bs (z0 :: zr))
            zr.length 1 (.suspended k' l c' p' fs false) (by simp) Nat.one_pos (Nat.succ_pos _) fun s'' w1 w2 w3 => hkap .none s'' (.inl rfl) w1 w2 w3
          exact q
  exact hgen _ _ _ _ rfl rfl rfl fun h => Heap.get?_push_size _ rfl
end Wk
namespace Wk
open PySem L2
open PyProof.Rows GenW

/-! ### whoever asks a generator -/
/-- no exception is let out -/
abbrev still (X : Cx) : Cx := { X with xe := fun _ _ => False }
theorem inv_still {X : Cx} {pins : List (Addr × Obj)} {σ : L2.St} {H : Hp} {s : Shared} (J : Inv X pins σ H s) : Inv (still X) pins σ H s :=
  ⟨⟨J.ok.mod, J.ok.kind, J.ok.glob, J.ok.blt, J.ok.above, J.ok.inj, J.ok.has, J.ok.cab, J.ok.hd, J.ok.frames, J.ok.stk, J.ok.exf, J.ok.bs, J.ok.bsz, J.ok.noex, J.ok.exfs, J.ok.funs, J.ok.frf⟩, J.os, J.bare, J.base, J.loc, J.cell, J.free, J.freeC, J.pin, J.hok, J.len⟩
theorem inv_unstill {X : Cx} {pins : List (Addr × Obj)} {σ : L2.St} {H : Hp} {s : Shared} (J : Inv (still X) pins σ H s) : Inv X pins σ H s :=
  ⟨⟨J.ok.mod, J.ok.kind, J.ok.glob, J.ok.blt, J.ok.above, J.ok.inj, J.ok.has, J.ok.cab, J.ok.hd, J.ok.frames, J.ok.stk, J.ok.exf, J.ok.bs, J.ok.bsz, J.ok.noex, J.ok.exfs, J.ok.funs, J.ok.frf⟩, J.os, J.bare, J.base, J.loc, J.cell, J.free, J.freeC, J.pin, J.hok, J.len⟩

/-- an expression whose value is a generator that has not begun -/
abbrev TD := L2.St → Hp → (List Wrd → Hp → Prop) → Prop
structure PD (X : Cx) (k : Nat) (e : Expr) (tg : TD) : Prop where
  run : ∀ (pins : List (Addr × Obj)) (s : Shared) (σ : L2.St) (H : Hp) (Q : List Wrd → Hp → Prop), Inv X pins σ H s → tg σ H Q →
    wpAny (model X.prog X.w) X.A (eval e X.env) (fun u s' => ∃ xs H1 s1, Inv X pins σ H1 s1 ∧ Dawn X.prog X.w X.K X.base k X.stack H1 s1 xs u s' ∧ Q xs H1) X.xe s
section
variable {X : Cx} {k : Nat} {f C : Addr} {fd : FuncData} {ps : List Str} {pre : List V → Hp → List Wrd → Prop} {x m : Str} {p pos pos' apos : Pos} {o : Expr} {ta : TE}
theorem run_gen {pins : List (Addr × Obj)} {σ : L2.St} {H : Hp} {s : Shared} {us : List Value} {vs : List V} {xs : List Wrd} {Q : List Wrd → Hp → Prop} {E1 : Value → Shared → Prop} (F : GenOk X.prog X.w X.K X.mg X.base k f fd ps pre) (hr : Room k X.A) (hb : Binds X.K fd ps [])
    (I : Inv X pins σ H s) (r : Vals vs us) (h : pre vs H xs) (q : Q xs H) : wpAny (model X.prog X.w) X.A (call (.ref f) us) (fun u s' => ∃ xs H1 s1, Inv X pins σ H1 s1 ∧ Dawn X.prog X.w X.K X.base k X.stack H1 s1 xs u s' ∧ Q xs H1) E1 s := by
  have hl2 : (us ++ []).length = ps.length := by rw [List.append_nil, ← r.length]; exact F.len _ _ _ h
  have hbs := hb s us I.kIn hl2
  rw [List.append_nil] at hbs
  refine wpAny_call (codeAny_mono (F.run X.A X.stack s H ⟨us, []⟩ us vs xs hr I.env0 hbs r h) fun r s' hq => ?_)
  cases r with
  | error e => exact False.elim hq
  | ok fl =>
    cases fl with
    | ret u => exact ⟨xs, H, s, I, hq, q⟩
    | next => exact False.elim hq
    | brk => exact False.elim hq
    | cont => exact False.elim hq
def tCallD (pre : List V → Hp → List Wrd → Prop) (t : TA) : TD := fun σ H Q => t σ H fun vs H1 => ∃ xs, pre vs H1 xs ∧ Q xs H1
/-- f(e, ..) of a generator def -/
theorem pd_call {e : Expr} {es : List Expr} {t : TA} (F : GenOk X.prog X.w X.K X.mg X.base k f fd ps pre) (hr : Room k X.A) (hg : Gl X x) (hm : X.mg x = some (.ref f)) (hk : PySem.W.keepIn X.K (.ref f) = true) (hb : Binds X.K fd ps [])
    (ha : PA X (e :: es) t) (hdb : (x == ("__debug__" : Str)) = false := by decide) (he : starEach (e :: es) X.env = (false, eval e X.env) :: starEach es X.env := by rfl) (hpl : (backTo pos' (starEach es X.env)).any (·.1) = false := by rfl) :
    PD X k (.Call (.Name x p) (e :: es) [] pos') (tCallD pre t) := by
  refine ⟨fun pins s σ H Q I h => ?_⟩
  refine wpAny_Call_Name_kw (ld_glob I hg hm ?_ hdb)
  refine PySem.W.callWith_K (h₀ := X.base) I.ok.mod.kin hk (thn (ha.run pos' pins s σ H _ I h) fun us s1 ⟨vs, H1, I1, r, xs, q1, q2⟩ => ⟨I1.kIn, ?_⟩) he hpl
  exact run_gen F hr hb I1 r q1 q2
def tMethD (C : Addr) (m : Str) (pre : List V → Hp → List Wrd → Prop) (ta : TE) : TD := fun σ H Q => ta σ H fun x H1 => ∃ a dx fs, x = .ref a ∧ H1 a = some (.ins C dx fs) ∧ fs.lookup m = none ∧ ∃ xs, pre [x] H1 xs ∧ Q xs H1
/-- o.m() of a generator method -/
theorem pd_meth0 {pl : Sem Bool} (he : PE X o ta) (c : Cls X.K C) (hm : Meth X.K C m f) (F : GenOk X.prog X.w X.K X.mg X.base k f fd ps pre) (hr : Room k X.A) (hb : Binds X.K fd ps [])
    (ht : eval (.Call (.Attribute o m apos) [] [] pos') X.env = (do
      let ov ← eval o X.env
      standAt apos.atName
      let (f, first) ← holding [ov] (getMethod ov m pl)
      callWith pos' f first (backTo pos' (starEach [] X.env)) (backToKw pos' (keywordEach [] X.env))) := by rfl) :
    PD X k (.Call (.Attribute o m apos) [] [] pos') (tMethD C m pre ta) := by
  refine ⟨fun pins s σ H Q I h => ?_⟩
  refine PySem.W.methodCall_KW (pl := pl) (thn (he.run pins s σ H _ I h) fun u s1 ⟨x, H1, I1, rx, a, dx, fs, ex, ea, l, xs, q1, q2⟩ => ?_) ht
  subst ex
  obtain rfl : u = Value.ref a := rx
  refine getmeth_ok I1 ea c hm l ?_
  exact PySem.W.callWith_K0 (first := [.ref a]) I1.kIn hm.kp (run_gen (us := [.ref a]) (vs := [.ref a]) F hr hb I1 (.cons rfl .nil) q1 q2)

/-- a turn's item, whoever it comes from -/
def Rest (X : Cx) (a : Addr) (g : Nat) (pins : List (Addr × Obj)) (own : List Addr) (xs : List Wrd) (H : Hp) (s : Shared) : Prop := ∃ N : Nap, N.own = own ∧ N.Good ∧ N.At g X pins H s ∧ Spring X.prog X.w X.K X.A a g xs N
theorem spring_item {a : Addr} {g : Nat} {x1 : Wrd} {xr : List Wrd} {pins : List (Addr × Obj)} {own : List Addr} {σ : L2.St} {H : Hp} {s : Shared} {E : Value → Shared → Prop} (J : Inv X pins σ H s) (h : Rest X a g pins own (x1 :: xr) H s) :
    wpAny (model X.prog X.w) X.A (pyNext (.ref a)) (Woke X.prog X.w X.K X.A a g own (x1 :: xr) X pins σ H) E s := by
  obtain ⟨N, rfl, _, h2, h3⟩ := h
  exact h3 X pins σ H s E rfl rfl rfl J h2
theorem spring_end {a : Addr} {g : Nat} {pins : List (Addr × Obj)} {own : List Addr} {σ : L2.St} {H : Hp} {s : Shared} {E : Value → Shared → Prop} (J : Inv X pins σ H s) (h : Rest X a g pins own [] H s) :
    wpAny (model X.prog X.w) X.A (pyNext (.ref a)) (fun r s' => r = none ∧ Inv X pins σ H s') E s := by
  obtain ⟨N, _, _, h2, h3⟩ := h
  exact h3 X pins σ H s E rfl rfl rfl J h2
/-- a step beside the sleeping generator -/
theorem step_beside {α : Type} {t : Sem α} {gs : GenState} {g : Nat} {s : Shared} {Q Q' : α → Shared → Prop} {E : Value → Shared → Prop} (hs : ∃ k l c p fs cl, gs = .suspended k l c p fs cl) (hgen : s.gens[g]? = some gs)
    (h : wpAny (model X.prog X.w) X.A t Q (fun _ _ => False) (drugged s)) (hQ : ∀ a s', Drugged (asleep s) s' → Q a s' → Q' a (mend (asleep s) s')) : wpAny (model X.prog X.w) X.A t (fun a s'' => Q' a s'' ∧ s''.gens[g]? = some gs) E s := by
  refine wpAny_mono (wpAny_mend h) (fun a s'' hh => ?_) fun e s'' hh => by obtain ⟨_, _, _, z⟩ := hh; exact z.elim
  obtain ⟨s', d, rfl, q⟩ := hh
  obtain ⟨k, l, c, p, fs, cl, rfl⟩ := hs
  exact ⟨hQ a s' d q, mend_sleeps hgen d⟩
/-- where it may be woken next -/
theorem nap_again {N : Nap} {g : Nat} {pins : List (Addr × Obj)} {σ σ' : L2.St} {H H' : Hp} {s s' : Shared} (hg : N.Good) (ha : N.At g X pins H s) (J : Inv X (pins ++ pinsAt N.fp s.heap) σ' H' s') (sm : Same H H') (hgen : s'.gens[g]? = some N.gs) : N.At g X pins H' s' := by
  have pin : ∀ b ∈ N.fp, ∀ o, s.heap.get? b = some o → s'.heap.get? b = some o ∧ H' b = none := fun b hb o e =>
    let z := J.pin (b, o) (List.mem_append_right _ (List.mem_append_right _ (mem_pinsAt hb e)))
    ⟨z.1, z.2.1⟩
  refine ⟨hgen, fun b hb => ?_, hg.keep _ _ ha.S fun b hb o e => (pin b hb o e).1, hg.same sm ha.F⟩
  obtain ⟨o, e, _⟩ := hg.obj _ ha.S b hb
  exact fpOk_of (ha.fp b hb) (pin b hb o e).2

/-- for x in g(..): whatever the body, the generator sleeps through it -/
def tForD (tgd : TD) (g : TG) (tb : TS) : TS := fun D σ H => tgd σ H fun xs H1 => ∃ Pv : Nat → L2.St → Hp → Prop, Pv 0 σ H1 ∧
  (∀ i x σ H H' b, xs[i]? = some x → Pv i σ H → Same H H' → Tp H' (.ref b) x → g (.ref b) σ H' fun σ2 H2 => tb { D with nx := fun σ' H'' => Same H' H'' ∧ Pv (i + 1) σ' H'', ct := fun σ' H'' => Same H' H'' ∧ Pv (i + 1) σ' H'', bk := D.nx } σ2 H2) ∧
  (∀ σ H, xs ≠ [] → Pv xs.length σ H → D.nx σ H) ∧ xs ≠ []
theorem ps_forD {kg : Nat} {e : Expr} {tgd : TD} {g : TG} {tb : TS} {body : List Stmt} {px : Pos} (hc : X.A.handled = none) (hi : PD X kg e tgd) (hr : Room (kg + 1) X.A) (hg : PG (still X) (.Name x px) g) (hb : PSs (still X) body tb)
    (hs : ∀ v, foldedSetIterable e X.env v = pure v := by intro _; rfl) : PS X (.For (.Name x px) e body [] pos) (tForD tgd g tb) := by
  refine ⟨fun pins s σ H D I h => ?_⟩
  refine wpAny_For (thn (hi.run pins s σ H _ I h) fun v s1 hv => ?_) hs
  obtain ⟨xs, H1, s0, I0, hD, Pv, p0, hturn, hend, hne⟩ := hv
  obtain ⟨a, gn, rfl, hga, hos, hbare, hk, ha1, ha2, wake⟩ := hD
  have I1 : Inv X pins σ H1 s1 := I0.call' (ch := []) hos (Un.kept hk) (I0.hok.kept hk) hbare fun b z => by simp at z
  refine wpAny_pyIter_gen hga ?_
  refine codeAny_forLoop_any (fun n s' => ∃ i σ' H', Inv X pins σ' H' s' ∧ Pv i σ' H' ∧ i ≤ xs.length ∧ n = xs.length - i ∧ ((i = 0 ∧ σ' = σ ∧ H' = H1 ∧ s' = s1) ∨ (0 < i ∧ ∃ own, Rest X a gn pins own (xs.drop i) H' s'))) ?_ xs.length ⟨0, σ, H1, I1, p0, Nat.zero_le _, rfl, .inl ⟨rfl, rfl, rfl, rfl⟩⟩
  rintro n s3 ⟨i, σ3, H3, I3, p3, hi3, rfl, st⟩
  by_cases hlt : i < xs.length
  · have hx1 : xs[i]? = some xs[i] := List.getElem?_eq_getElem hlt
    have wk : wpAny (model X.prog X.w) X.A (pyNext (.ref a)) (fun r s' => ∃ own, Woke X.prog X.w X.K X.A a gn own (xs[i] :: xs.drop (i + 1)) X pins σ3 H3 r s') (notedBy (model X.prog X.w) X.A X.env fun e s' => (match (.error e : Result) with | .ok f => SP X pins D f s' | .error e => cameBackBy (model X.prog X.w) X.A X.env X.xe e s')) s3 := by
      rw [← List.drop_eq_getElem_cons hlt]
      rcases st with ⟨rfl, rfl, rfl, rfl⟩ | ⟨_, own, st⟩
      · refine thn ?_ fun r s' z => ⟨[], z⟩
        exact wake X pins _ _ _ _ rfl rfl rfl rfl hc hr rfl (fun _ _ e => e) (Nat.le_refl _) rfl I1 (fun b h1 h2 => I0.fpOk h1 (I0.hok.fresh h1)) (Same.refl _) fun b o h1 e => absurd (Heap.lt_size e) (Nat.not_lt.mpr h1)
      · rw [List.drop_eq_getElem_cons hlt] at st ⊢
        exact thn (spring_item I3 st) fun r s' z => ⟨own, z⟩
    refine thn wk fun r s4 ⟨own, b, H4, N, hr4, I4, sm, ht, hgood, hat, hsp, _⟩ => ?_
    subst hr4
    refine wpAny_of_eq (rfl : letOwnedTupleGo (.Name x px) (.ref a) (.ref b) = pure ()) ?_
    have I4' := inv_still (I4.pinned hat.fp (hgood.obj _ hat.S))
    have q4 := hturn i xs[i] σ3 H3 H4 b hx1 p3 sm ht
    refine thn (step_beside (Q' := fun _ s' => ∃ σ5 H5, Inv (still X) (pins ++ pinsAt N.fp s4.heap) σ5 H5 s' ∧ tb { D with nx := fun σ' H'' => Same H4 H'' ∧ Pv (i + 1) σ' H'', ct := fun σ' H'' => Same H4 H'' ∧ Pv (i + 1) σ' H'', bk := D.nx } σ5 H5) hgood.susp hat.gen
      (hg.run _ (drugged s4) σ3 H4 (.ref b) (.ref b) _ (inv_drugged I4') rfl q4) (fun _ s' d ⟨σ5, H5, I5, q5⟩ => ⟨σ5, H5, inv_mend I4'.bare d I5, q5⟩)) fun _ s5 ⟨⟨σ5, H5, I5, q5⟩, gen5⟩ => ?_
    refine thn (step_beside (Q' := fun f s' => SP (still X) (pins ++ pinsAt N.fp s4.heap) { D with nx := fun σ' H'' => Same H4 H'' ∧ Pv (i + 1) σ' H'', ct := fun σ' H'' => Same H4 H'' ∧ Pv (i + 1) σ' H'', bk := D.nx } f s') hgood.susp gen5
      (hb.run _ (drugged s5) σ5 H5 _ (inv_drugged I5) q5) (fun f s' d q => ?_)) fun f s6 ⟨q6, gen6⟩ => ?_
    · cases f with
      | next => obtain ⟨σ', H', J, z⟩ := q; exact ⟨σ', H', inv_mend I5.bare d J, z⟩
      | cont => obtain ⟨σ', H', J, z⟩ := q; exact ⟨σ', H', inv_mend I5.bare d J, z⟩
      | brk => obtain ⟨σ', H', J, z⟩ := q; exact ⟨σ', H', inv_mend I5.bare d J, z⟩
      | ret v => obtain ⟨v', σ', H', J, z⟩ := q; exact ⟨v', σ', H', inv_mend I5.bare d J, z⟩
    have again : ∀ {σ7 : L2.St} {H7 : Hp}, Inv (still X) (pins ++ pinsAt N.fp s4.heap) σ7 H7 s6 → Same H4 H7 ∧ Pv (i + 1) σ7 H7 → ∃ m, m < xs.length - i ∧ ∃ i σ' H', Inv X pins σ' H' s6 ∧ Pv i σ' H' ∧ i ≤ xs.length ∧ m = xs.length - i ∧ ((i = 0 ∧ σ' = σ ∧ H' = H1 ∧ s6 = s1) ∨ (0 < i ∧ ∃ own, Rest X a gn pins own (xs.drop i) H' s6)) := fun {σ7 H7} J n7 =>
      ⟨xs.length - (i + 1), by omega, i + 1, σ7, H7, (inv_unstill J).unpinned, n7.2, hlt, rfl, .inr ⟨Nat.succ_pos i, N.own, N, rfl, hgood, nap_again (σ := σ3) hgood hat (inv_unstill J) n7.1 gen6, hsp⟩⟩
    cases f with
    | next => obtain ⟨σ7, H7, I7, n7⟩ := q6; exact again I7 n7
    | cont => obtain ⟨σ7, H7, I7, n7⟩ := q6; exact again I7 n7
    | brk => obtain ⟨σ7, H7, I7, q7⟩ := q6; exact ⟨σ7, H7, (inv_unstill I7).unpinned, q7⟩
    | ret v => obtain ⟨x7, σ7, H7, I7, r7, q7⟩ := q6; exact ⟨x7, σ7, H7, (inv_unstill I7).unpinned, r7, q7⟩
  · have hin : i = xs.length := by omega
    subst hin
    rcases st with ⟨h0, _⟩ | ⟨_, own, st⟩
    · exact absurd (List.eq_nil_of_length_eq_zero h0) hne
    · rw [List.drop_length] at st
      refine thn (spring_end I3 st) fun r s4 ⟨hr4, I4⟩ => ?_
      subst hr4
      exact wpAny_execs_nil ⟨σ3, H3, I4, hend σ3 H3 hne p3⟩
end
end Wk
namespace Wk
open PySem L2
open PyProof.Rows GenW

/-! ### [x for x in g(..)] -/
theorem pushCells_none : ∀ (names : List (Str × NameKind)) (h : Heap), (names.all fun y => y.2 != .cell) = true → pushCells h names = h
  | [], _, _ => rfl
  | (n, kd) :: r, h, hc => by
    simp only [List.all_cons, Bool.and_eq_true] at hc
    have hk : (kd == NameKind.cell) = false := by
      have := hc.1
      cases kd <;> first | rfl | cases this
    show (if kd == .cell then _ else pushCells h r) = h
    rw [if_neg (by rw [hk]; exact Bool.false_ne_true)]
    exact pushCells_none r h hc.2
theorem push_cases {h : Heap} {o : Obj} {b : Addr} {q : Obj} (e : (h.push o).get? b = some q) : b < h.objs.size ∨ (b = h.objs.size ∧ q = o) := by
  have hl := Heap.lt_size e
  rw [Heap.size_push] at hl
  rcases Nat.lt_or_eq_of_le (Nat.le_of_lt_succ hl) with z | z
  · exact .inl z
  · refine .inr ⟨z, ?_⟩
    subst z
    unfold Heap.get? Heap.push at e
    cases h with
    | mk objs life =>
      simp only [Array.getElem?_push_size] at e
      split at e
      · cases e
      · cases e; rfl

def tLcD (tgd : TD) : TE := fun σ H Q => tgd σ H fun xs H1 => xs ≠ [] ∧ xs.length < sizeLine ∧ ∀ D H2 vs, H1 D = none → Same H1 H2 → H2 D = some (.lst vs) → Tps H2 vs xs → Q (.ref D) H2
section
variable {X : Cx} {kg : Nat} {e : Expr} {tgd : TD} {x : Str} {px px2 pos : Pos} {scope : Scope} {own : List (Str × Nat)}
theorem pe_lcD (hc : X.A.handled = none) (hcalm : X.calm = true) (hN : X.N.Nodup) (hi : PD X kg e tgd) (hr : Room (kg + 1) X.A) (ok : BlkOk X.N X.env.scope scope own) (hnc : (scope.names.all fun y => y.2 != .cell) = true) {g : TG} {te : TE}
    (hg : ∀ (s : Shared) (H : Hp) (C : Addr) (cl : List (Str × Addr)) (fp : List Addr), PG (X.blk s H scope (compEnvC scope cl C X.env) fp) (.Name x px) g)
    (he : ∀ (s : Shared) (H : Hp) (C : Addr) (cl : List (Str × Addr)) (fp : List Addr), PE (X.blk s H scope (compEnvC scope cl C X.env) fp) (.Name x px2) te)
    (hge : ∀ (σ : L2.St) H b (Q : Hp → Prop), σ.length = X.N.length → Q H → g (.ref b) (wipe σ (own.map (·.2))) H fun σ2 H2 => wipe σ2 (own.map (·.2)) = wipe σ (own.map (·.2)) ∧ te σ2 H2 fun v H3 => v = .ref b ∧ Q H3)
    (hs : ∀ v, foldedSetIterable e X.env v = pure v := by intro _; rfl) : PE X (.ListComp (.Name x px2) [⟨.Name x px, e, [], 0⟩] scope pos) (tLcD tgd) := by
  refine ⟨fun pins s σ H Q I h => ?_⟩
  rw [eval_ListComp]
  have hfree : ∀ y ∈ scope.names, y.2 = .free → ∃ c, X.env.cells.lookup y.1 = some c := fun y hy e => by
    rcases ok.free y hy e with k | k
    · exact I.ok.has _ (.inl k)
    · exact I.ok.has _ (.inr k)
  refine wpAny_comprehension_free (use := none) rfl hs (closure_ok hfree) ok.kind (fun y hy e => by rw [ok.uniq y hy, e]) (thn (hi.run pins s σ H _ I h) fun xv s1 hx => ?_)
  obtain ⟨xs, H1, s0, I0, hD, hne, hlen, hq⟩ := hx
  obtain ⟨a, gn, rfl, hga, hos, hbare, hk, ha1, ha2, wake⟩ := hD
  have I1 : Inv X pins σ H1 s1 := I0.call' (ch := []) hos (Un.kept hk) (I0.hok.kept hk) hbare fun b z => by simp at z
  refine wpAny_pyIter_gen hga ?_
  refine wpAny_newObj_type (newEnv_comp ?_) (by show 0 ≤ sizeLine; decide)
  generalize eD : s1.heap.objs.size = D
  have hDn : H1 D = none := I1.hok.fresh (Nat.le_of_eq eD)
  generalize hs3 : ({ s1 with heap := s1.heap.push { cls := .type "list", data := .seq ([] : List Value).toArray } } : Shared) = s3
  have h3 : s3.heap = s1.heap.push { cls := .type "list", data := .seq ([] : List Value).toArray } := by rw [← hs3]
  have k13 : ∀ b o, s1.heap.get? b = some o → s3.heap.get? b = some o := fun b o e => by rw [h3]; exact Heap.get?_push_of_some _ e
  have I3 : Inv X pins σ (upd H1 D (.lst [])) s3 := by
    rw [← hs3]
    refine I1.laid (t' := s1.toks) (fun b o e => Heap.get?_push_of_some _ e) (Nat.le_of_eq eD) ⟨Nat.zero_le _, [], 0, .nil, ?_⟩
    rw [← eD]
    exact Heap.get?_push_size _ rfl
  generalize hfp : List.range' s0.heap.objs.size (s1.heap.objs.size - s0.heap.objs.size) = fp
  have mfp : ∀ b, b ∈ fp ↔ s0.heap.objs.size ≤ b ∧ b < s1.heap.objs.size := fun b => by
    rw [← hfp, List.mem_range'_1]
    have hle : s0.heap.objs.size ≤ s1.heap.objs.size := Nat.le_of_lt (Nat.lt_of_le_of_lt ha1 ha2)
    have e : s0.heap.objs.size + (s1.heap.objs.size - s0.heap.objs.size) = s1.heap.objs.size := Nat.add_sub_cancel' hle
    rw [e]
  have z3 : s3.heap.objs.size = D + 1 := by rw [h3, Heap.size_push, eD]
  have f3 : ∀ b ∈ fp, FpOk X pins (upd H1 D (.lst [])) b ∧ b < s3.heap.objs.size := fun b hb => by
    obtain ⟨h1, h2⟩ := (mfp b).mp hb
    have hbD : b < D := by rw [← eD]; exact h2
    refine ⟨fpOk_of (I0.fpOk h1 (I0.hok.fresh h1)) ?_, by rw [z3]; exact Nat.lt_succ_of_lt hbD⟩
    rw [upd_ne (Nat.ne_of_lt hbD)]
    exact I0.hok.fresh h1
  have I4 := block_start I3 ok hN f3
  have pg := hg s3 (upd H1 D (.lst [])) s3.heap.objs.size (cellsFrom (s3.heap.objs.size + 1) scope.names (cloFrom X.env.cells scope.names [])) fp
  have pe := he s3 (upd H1 D (.lst [])) s3.heap.objs.size (cellsFrom (s3.heap.objs.size + 1) scope.names (cloFrom X.env.cells scope.names [])) fp
  show codeAny _ _ (.compStart (.ListComp (.Name x px2) [⟨.Name x px, e, [], 0⟩] scope pos) 0 (.ref a) (.ref D) (compEnvC scope (cellsFrom (s3.heap.objs.size + 1) scope.names (cloFrom X.env.cells scope.names [])) s3.heap.objs.size X.env)) (compPost (model X.prog X.w) X.A X.xe none (EP X pins σ Q) (.ref D) s3.heap.objs.size) { s3 with heap := pushCells (s3.heap.push { cls := .type "dict", data := .dict #[] }) scope.names }
  generalize hce : compEnvC scope (cellsFrom (s3.heap.objs.size + 1) scope.names (cloFrom X.env.cells scope.names [])) s3.heap.objs.size X.env = ce at I4 pg pe ⊢
  have cL : ce.locals = s3.heap.objs.size := by subst hce; rfl
  have sm13 : Same H1 (upd H1 D (.lst [])) := Same.put (Same.refl _) hDn
  have hD3 : (upd H1 D (.lst [])) D = some (.lst []) := upd_same
  generalize hH3 : upd H1 D (.lst []) = H3 at I3 I4 pg pe f3 sm13 hD3
  generalize hs4 : ({ s3 with heap := pushCells (s3.heap.push { cls := .type "dict", data := .dict #[] }) scope.names } : Shared) = s4 at I4 ⊢
  have h4 : s4.heap = s3.heap.push { cls := .type "dict", data := .dict #[] } := by rw [← hs4]; exact pushCells_none _ _ hnc
  have k14 : ∀ b o, s1.heap.get? b = some o → s4.heap.get? b = some o := fun b o e => by rw [h4]; exact Heap.get?_push_of_some _ (k13 b o e)
  have g4 : s4.gens = s1.gens := by rw [← hs4, ← hs3]
  have z4 : s1.heap.objs.size ≤ s4.heap.objs.size := by rw [h4, Heap.size_push, z3, eD]; omega
  have y4 : ∀ b o, s1.heap.objs.size ≤ b → s4.heap.get? b = some o → ∀ v, o.data ≠ .cell v := fun b o h1 e => by
    rw [h4] at e
    rcases push_cases e with z | ⟨_, rfl⟩
    · have e2 : s3.heap.get? b = some o := by
        obtain ⟨o', eo⟩ : ∃ o', s3.heap.get? b = some o' := by
          have hb : b = D := by rw [z3] at z; rw [eD] at h1; exact Nat.le_antisymm (Nat.le_of_lt_succ z) h1
          subst hb
          rw [h3, ← eD]
          exact ⟨_, Heap.get?_push_size _ rfl⟩
        have := Heap.get?_push_of_some (o := { cls := .type "dict", data := .dict #[] }) eo
        rw [this] at e; cases e; exact eo
      rw [h3] at e2
      rcases push_cases e2 with z2 | ⟨_, rfl⟩
      · exact absurd z2 (Nat.not_lt.mpr h1)
      · intro v q; cases q
    · intro v q; cases q
  have stat : ∀ {H' : Hp}, (∀ b ∈ fp, H' b = none) → ∀ b ∈ fp, FpOk (X.blk s3 H3 scope ce fp) [] H' b := fun {H'} hn b hb =>
    ⟨hn b hb, (I4.ok.exf b hb).1, I4.ok.exfs b hb, .inl hb, fun x c e => (I4.ok.exf b hb).2 x c e, fun p hp => absurd (show p ∈ ([] : List (Addr × Obj)) ++ [] from hp) (by simp)⟩
  have loop : codeAny (model X.prog X.w) X.A (.compLoop (.ListComp (.Name x px2) [⟨.Name x px, e, [], 0⟩] scope pos) 0 (.ref a) (.ref D) ce) (compPost (model X.prog X.w) X.A X.xe none (EP X pins σ Q) (.ref D) s3.heap.objs.size) s4 := by
    refine compLoop_any (fun n s' => ∃ i H' vs, Inv (X.blk s3 H3 scope ce fp) [] (wipe σ (own.map (·.2))) H' s' ∧ Same H1 H' ∧ H' D = some (.lst vs) ∧ Tps H' vs (xs.take i) ∧ i ≤ xs.length ∧ n = xs.length - i ∧
      ((i = 0 ∧ H' = H3 ∧ s' = s4) ∨ (0 < i ∧ ∃ ow, D ∉ ow ∧ Rest (X.blk s3 H3 scope ce fp) a gn [] ow (xs.drop i) H' s'))) ?_ xs.length ⟨0, H3, [], I4, sm13, hD3, .nil, Nat.zero_le _, rfl, .inl ⟨rfl, rfl, rfl⟩⟩
    rintro n s5 ⟨i, H5, vs, I5, sm5, hD5, hts, hi5, rfl, st⟩
    by_cases hlt : i < xs.length
    · have hx1 : xs[i]? = some xs[i] := List.getElem?_eq_getElem hlt
      have wk : wpAny (model X.prog X.w) X.A (pyNext (.ref a)) (fun r s' => ∃ ow, D ∉ ow ∧ Woke X.prog X.w X.K X.A a gn ow (xs[i] :: xs.drop (i + 1)) (X.blk s3 H3 scope ce fp) [] (wipe σ (own.map (·.2))) H5 r s') (fun _ _ => False) s5 := by
        rw [← List.drop_eq_getElem_cons hlt]
        rcases st with ⟨rfl, rfl, rfl⟩ | ⟨_, ow, hDo, st⟩
        · refine thn ?_ fun r s' z => ⟨[], by simp, z⟩
          refine wake (X.blk s3 H5 scope ce fp) [] _ H5 s5 _ rfl rfl rfl rfl hc hr rfl k14 z4 g4 I5 (fun b h1 h2 => stat (fun b hb => (f3 b hb).1.1) b ((mfp b).mpr ⟨h1, h2⟩)) sm13 y4
        · rw [List.drop_eq_getElem_cons hlt] at st ⊢
          exact thn (spring_item (X := X.blk s3 H3 scope ce fp) I5 st) fun r s' z => ⟨ow, hDo, z⟩
      refine thnF wk fun r s6 ⟨ow, hDo, b, H6, N, hr6, I6, sm6, ht, hgood, hat, hsp, hown⟩ => ?_
      subst hr6
      refine wpAny_of_eq (rfl : letOwnedTupleGo (.Name x px) (.ref a) (.ref b) = pure ()) ?_
      have hDN : D ∉ N.own := fun hm => by
        rcases hown D hm with z | z
        · exact hDo z
        · rw [hD5] at z; cases z
      have hD6 : H6 D = some (.lst vs) := sm6 D _ hD5
      have hlv : vs.length = i := by have := plen hts; rw [List.length_take] at this; omega
      have I6' := I6.pinned hat.fp (hgood.obj _ hat.S)
      have q6 := hge σ H6 b (fun H => H = H6) I.len rfl
      refine thn (step_beside (Q' := fun _ s' => ∃ σ7 H7, Inv (X.blk s3 H3 scope ce fp) ([] ++ pinsAt N.fp s6.heap) σ7 H7 s' ∧ wipe σ7 (own.map (·.2)) = wipe σ (own.map (·.2)) ∧ te σ7 H7 fun v H3 => v = .ref b ∧ H3 = H6) hgood.susp hat.gen
        (pg.run _ (drugged s6) _ H6 (.ref b) (.ref b) _ (inv_drugged I6') rfl q6) (fun _ s' d ⟨σ7, H7, I7, q7⟩ => ⟨σ7, H7, inv_mend I6'.bare d I7, q7⟩)) fun _ s7 ⟨⟨σ7, H7, I7, hw7, q7⟩, gen7⟩ => ?_
      refine wpAny_tests_nil ?_
      rw [if_pos rfl]
      refine thn (step_beside (Q' := fun v s' => v = .ref b ∧ Inv (X.blk s3 H3 scope ce fp) ([] ++ pinsAt N.fp s6.heap) σ7 H6 s') hgood.susp gen7
        (pe.run _ (drugged s7) σ7 H7 _ (inv_drugged I7) q7) (fun v s' d ⟨v', H8, I8, rv, ev, eH⟩ => by
          subst ev eH
          exact ⟨rv, inv_mend I7.bare d I8⟩)) fun v s8 ⟨⟨hv8, I8⟩, gen8⟩ => ?_
      subst hv8
      refine thn (step_beside (Q' := fun _ s' => Inv (X.blk s3 H3 scope ce fp) ([] ++ pinsAt N.fp s6.heap) σ7 (upd H6 D (.lst (vs ++ [.ref b]))) s') hgood.susp gen8
        (app_ok (X := X.blk s3 H3 scope ce fp) (y := .ref b) (inv_drugged I8) hD6 (by omega) rfl (Q := fun _ s' => Inv (X.blk s3 H3 scope ce fp) ([] ++ pinsAt N.fp s6.heap) σ7 (upd H6 D (.lst (vs ++ [.ref b]))) s') fun s' I9 => I9) (fun v s' d I9 => inv_mend I8.bare d I9)) fun _ s9 ⟨I9, gen9⟩ => ?_
      have smD : ∀ c o, c ≠ D → H6 c = some o → (upd H6 D (.lst (vs ++ [.ref b]))) c = some o := fun c o hc q => by rw [upd_ne hc]; exact q
      have hl : (wipe σ (own.map (·.2))).length = σ7.length := by rw [← hw7, wipe_length]
      have tupD : ∀ c zs, H6 c = some (.tup zs) → (upd H6 D (.lst (vs ++ [.ref b]))) c = some (.tup zs) := fun c zs q => smD c _ (fun z => by rw [z, hD6] at q; cases q) q
      have pin : ∀ c ∈ N.fp, ∀ o, s6.heap.get? c = some o → s9.heap.get? c = some o ∧ (upd H6 D (.lst (vs ++ [.ref b]))) c = none := fun c hc o q =>
        let z := I9.pin (c, o) (List.mem_append_right _ (List.mem_append_right _ (mem_pinsAt hc q)))
        ⟨z.1, z.2.1⟩
      refine ⟨xs.length - (i + 1), by omega, i + 1, _, vs ++ [.ref b], (I9.unpinned (pins := [])).weak hl (fun j v q => ?_), ?_, upd_same, ?_, hlt, rfl, .inr ⟨Nat.succ_pos i, N.own, hDN, N, rfl, hgood, ⟨gen9, fun c hc => ?_, hgood.keep _ _ hat.S fun c hc o q => (pin c hc o q).1, hgood.mono _ _ (fun c hc o q => smD c o (fun z => hDN (z ▸ hc)) q) tupD hat.F⟩, hsp⟩⟩
      · rw [← hw7] at q
        exact (wipe_some q).1
      · exact Same.own (sm5.trans sm6) hDn
      · rw [List.take_add_one, hx1]
        refine papp (Paired.mapP hts fun v w hvw => ?_) (.cons ?_ .nil)
        · obtain ⟨c, rfl, q⟩ := hvw
          exact ⟨c, rfl, tupD c _ (sm6 c _ q)⟩
        · obtain ⟨c, e1, q⟩ := ht
          exact ⟨c, e1, tupD c _ q⟩
      · obtain ⟨o, q, _⟩ := hgood.obj _ hat.S c hc
        exact fpOk_of (hat.fp c hc) (pin c hc o q).2
    · have hin : i = xs.length := by omega
      subst hin
      rcases st with ⟨h0, _⟩ | ⟨_, ow, _, st⟩
      · exact absurd (List.eq_nil_of_length_eq_zero h0) hne
      · rw [List.drop_length] at st
        refine thnF (spring_end (X := X.blk s3 H3 scope ce fp) I5 st) fun r s6 ⟨hr6, I6⟩ => ?_
        subst hr6
        have I7 : Inv X pins σ H5 s6 := I3.call' (ch := fp) I6.os I6.base I6.hok I6.bare fun b hb => ⟨(f3 b hb).1.2.2.2.1, (f3 b hb).1.2.1, (f3 b hb).1.2.2.2.2.1, (f3 b hb).1.2.2.2.2.2⟩
        have nC : H5 s3.heap.objs.size = none := by
          have z : H5 ce.locals = none := I6.free
          rw [cL] at z
          exact z
        obtain ⟨m, hn, _⟩ := I6.loc
        have hn : s6.heap.Ns ce.locals m := hn
        rw [cL] at hn
        rw [List.take_length] at hts
        refine ⟨m, hn, fun h'' sb => ?_⟩
        obtain ⟨f0, f1, f2, f3', f4, f5⟩ := I3.fpOk (Nat.le_refl _) nC
        exact ⟨.ref D, H5, I7.turned (t' := s6.toks) (fun b o hb e => (sb.2 b hb).trans e) f0 f1 f3' f4 f5, rfl, hq D H5 vs hDn sm5 hD5 hts⟩
  exact codeAny_compStart_list loop (wpAny_pyIter_gen (by
    obtain ⟨o, nm, qn, q, r⟩ := hga
    exact ⟨o, nm, qn, k14 a o q, r⟩) loop)
end
end Wk
namespace Wk
open PySem L2
open C8 (Cal Met Mak pe_c pe_mk pe_mt pe_mt0)
open PyProof.Rows (envOfC)
section
variable {P : Program} {w : World} {K : PySem.W.Frag} {mg : Str → Option Value} {base : Heap}
theorem genok_fun {k : Nat} {f : Addr} {fd : FuncData} {nm qual : Str} {st : Stmt} {N ps : List Str} {pre : List V → Hp → List Wrd → Prop} {st1 st2 : Stmt} {x : Str} {px yp ypos fpos : Pos} {iter elt : Expr} (F : Fun K nm qual st f fd)
    (hbd : defBody st = [st1, st2, .For (.Name x px) iter [.Expr (.Yield (some elt) yp) ypos] [] fpos]) (S : GScope N ps (defScope st))
    (hx : (defScope st).names.lookup x = some .local) (hs : ∀ (env : Env) x, foldedSetIterable iter env x = pure x)
    (len : ∀ vs H xs, pre vs H xs → vs.length = ps.length) (mono : ∀ vs H H' xs, pre vs H xs → Same H H' → pre vs H' xs) (fw : Wrd → Wrd) (Yv : Addr → Addr → List Addr → List Wrd → Nat → Shared → Value → Shared → Prop)
    (hC : ∀ L I F bs ws, Conv P w K L I F bs ws fw (Yv L I bs ws))
    (helt : ∀ (cdv : Value) (L I F : Addr) (bs : List Addr) (ws : List Wrd) (vs : List V) (H : Hp) (xs : List Wrd), pre vs H xs → xs = ws.map fw → ∀ (A' : Around) (E' : Value → Shared → Prop) (i : Nat) (s₁ s₂ : Shared) (m : Str → Option Value) (v : Value), A'.handled = none → (bs.map Value.ref).toArray[i]? = some v → HeapWs F bs ws s₂.heap → Since L I s₁ s₂ → s₂.heap.Ns L m → m x = some v → bs.length = ws.length →
      wpAny (model P w) A' (eval elt (envOfC qual (defScope st) L f cdv)) (fun y s₃ => (∃ h' tk, s₃ = { s₂ with heap := h', toks := tk } ∧ s₂.heap.objs.size ≤ h'.objs.size ∧ ∀ b o, s₂.heap.get? b = some o → h'.get? b = some o) ∧ Yv L I bs ws i s₁ y s₃) E' s₂)
    (hbody : ∀ (cdv : Value) (L : Addr) (A : Around) (outer : List Env) (s : Shared) (H : Hp), Room k (A.deeper (envOfC qual (defScope st) L f cdv)) → ∃ (t1 t2 : TS) (ti : TE), PS (gX P w K mg base N qual (defScope st) f cdv L A outer s H) st1 t1 ∧ PS (gX P w K mg base N qual (defScope st) f cdv L A outer s H) st2 t2 ∧ PE (gX P w K mg base N qual (defScope st) f cdv L A outer s H) iter ti ∧
      ∀ vs xs, pre vs H xs → ∃ ws, xs = ws.map fw ∧ ws ≠ [] ∧ t1 { nx := fun σ1 H1 => t2 { nx := fun σ2 H2 => ti σ2 H2 fun v H3 => ∃ F vs', v = .ref F ∧ H3 F = some (.lst vs') ∧ Tps H3 vs' ws ∧ Same H H3 ∧ H F = none, rt := fun _ _ => False } σ1 H1, rt := fun _ _ => False } (start N vs) H) :
    GenOk P w K mg base (k + 1) f fd ps pre := by
  obtain ⟨oc, od, kV, doc, pm, an, cdv, ct, osl, rfl, lk, hcd⟩ := F.ex
  rw [hbd] at lk ⊢
  exact genok_of lk hcd S hx hs len mono fw Yv hC (helt cdv) (hbody cdv)
/-! ### monic_rows -/
abbrev s_monic_rows : Stmt := top 32
theorem sc_monic_rows : GScope ["degree", "p", "found", "_", "row", "a"] ["degree", "p"] (defScope s_monic_rows) := ⟨rfl, rfl, rfl, by decide +kernel, rfl, by decide +kernel, by decide +kernel⟩
def gp_monic_rows : List V → Hp → List Wrd → Prop := fun vs _ xs => ∃ (d : Nat) (p : Int), vs = [.int d, .int p] ∧ TabPre d p ∧ 1 ≤ d ∧ xs = monics d p
theorem tuple_one {prog : Program} {w : World} {A : Around} {E : Value → Shared → Prop} {s : Shared} {env : Env} {i : Int} {k x1 : Nat} {pos pos' : Pos} {Q : Value → Shared → Prop}
    (h : Q (.ref s.heap.objs.size) { s with heap := s.heap.push { cls := .type "tuple", data := .seq [Value.int i s.toks].toArray }, toks := s.toks + 1 }) : wpAny (model prog w) A (eval (.Tuple [.Constant (.int i) k pos'] x1 pos) env) Q E s := by
  refine wpAny_Tuple_spliced ?_
  show wpAny _ _ (spliced ((false, eval (.Constant (.int i) k pos') env) :: backTo pos (starEach [] env))) _ _ _
  exact Calls.spliced_cons (wpAny_Constant_int (Calls.spliced_nil ⟨by show 1 ≤ sizeLine; decide, h⟩))
theorem map_app_inj {c : Int} : ∀ {a b : List (List Int)}, a.map (· ++ [c]) = b.map (· ++ [c]) → a = b
  | [], [], _ => rfl
  | [], _ :: _, h => by cases h
  | _ :: _, [], h => by cases h
  | x :: a, y :: b, h => by
    rw [List.map_cons, List.map_cons] at h
    injection h with h1 h2
    rw [List.append_cancel_right h1, map_app_inj h2]
theorem ok_monic_rows {f : Addr} {fd : FuncData} (F : Fun K "monic_rows" "monic_rows" s_monic_rows f fd) (T : Txt K mg) : GenOk P w K mg base 1 f fd ["degree", "p"] gp_monic_rows := by
  refine genok_fun (k := 0) F rfl sc_monic_rows rfl (fun _ _ => rfl) (fun vs H xs h => ?_) (fun vs H H' xs h _ => h) (· ++ [1]) (fun L I _ ws => YvApp L I ws 1) (fun L I F bs ws => conv_app) ?_ ?_
  · obtain ⟨d, p, rfl, _⟩ := h
    rfl
  · intro cdv L I Fa bs ws vs H xs hpre hxs A' E' i s₁ s₂ m v hh hv hw hsin hns hm hlen
    obtain ⟨d, p, rfl, hp, hd, rfl⟩ := hpre
    have ew := map_app_inj hxs
    subst ew
    have hj : bs[i]? = bs[i]? := rfl
    obtain ⟨b, hb, rfl⟩ : ∃ b, bs[i]? = some b ∧ v = Value.ref b := by
      have hv : (bs.map Value.ref)[i]? = some v := by simpa using hv
      rw [List.getElem?_map] at hv
      cases e : bs[i]? with
      | none => rw [e] at hv; cases hv
      | some b => rw [e] at hv; cases hv; exact ⟨b, rfl, rfl⟩
    have hil : i < (tuplesOf p d).length := by rw [← hlen]; exact (List.getElem?_eq_some_iff.mp hb).1
    obtain ⟨us, ht, hus⟩ := hw.2 i b (tuplesOf p d)[i] hb (List.getElem?_eq_getElem hil)
    have hzl : ((tuplesOf p d)[i]).length = d := tuplesOf_word (List.getElem_mem hil)
    have hul : us.length = d := by rw [← hus.length, List.length_map, hzl]
    have hn6 := hp.2.1
    refine wpAny_BinOp ?_
    rw [eval_Name _ _ _ (by decide)]
    refine wpAny_bind (wpAny_standAt (wpAny_loadName_local rfl rfl hns hm ?_))
    refine tuple_one ?_
    have keep1 : ∀ c o, s₂.heap.get? c = some o → (s₂.heap.push { cls := .type "tuple", data := .seq [Value.int 1 s₂.toks].toArray }).get? c = some o := fun c o e => Heap.get?_push_of_some _ e
    refine HT.cat_tup (vs := us) (ws := [Value.int 1 s₂.toks]) (ht.keeps keep1) ⟨_, Heap.get?_push_size _ rfl, rfl, _, rfl⟩ (fun e => by rw [e] at hul; simp at hul; omega) (fun e => by cases e) (fun _ => ?_) (by rw [hul]; show d + 1 ≤ sizeLine; exact Nat.le_of_lt (small1000 (by omega)))
    refine ⟨⟨_, _, rfl, ?_, fun c o e => Heap.get?_push_of_some _ (keep1 c o e)⟩, { s₂ with heap := s₂.heap.push { cls := .type "tuple", data := .seq [Value.int 1 s₂.toks].toArray }, toks := s₂.toks + 1 }, (tuplesOf p d)[i], us ++ [Value.int 1 s₂.toks], List.getElem?_eq_getElem hil, ?_, rfl, rfl, ?_, small1000 (by omega)⟩
    · rw [Heap.size_push, Heap.size_push]; omega
    · exact hsin.step (by rw [Heap.size_push]; omega) fun c o _ _ e => keep1 c o e
    · rw [List.map_append]
      exact hus.append (.cons ⟨_, rfl⟩ .nil)
  · intro cdv L A outer s H hr
    refine ⟨_, _, _, (ps_set (i := 2) sc_monic_rows.nd rfl (Or.inl rfl) (pe_lst (pa_cons (pe_tup pa_nil) pa_nil))), (ps_for PassesOwn.never rfl (pi_range1 rfl T.range (pa_cons (pv 0) pa_nil)) (pg_name (i := 3) sc_monic_rows.nd rfl (Or.inl rfl))
      (pss_one (ps_setLc2 (i := 2) (own := [("row", 4), ("a", 5)]) (vs1 := [5]) rfl sc_monic_rows.nd rfl rfl (sw_true rfl rfl rfl (by decide +kernel)) (pi_list (pv 2)) (blkOk_by (N := ["degree", "p", "found", "_", "row", "a"]) (sc := defScope s_monic_rows) (by decide +kernel)) (by decide) (fun _ _ _ _ _ => (pg_name (i := 4) sc_monic_rows.nd rfl (Or.inl rfl))) (fun _ _ _ _ _ => pts_nil) (fun _ _ _ _ _ => (pi_range1 rfl T.range (pa_cons (pv 1) pa_nil))) (fun _ _ _ _ _ => (pg_name (i := 5) sc_monic_rows.nd rfl (Or.inl rfl))) (fun _ _ _ _ _ => pts_nil) (fun _ _ _ _ _ => (pe_op (op_catAK K) (pv 4) (pe_tup (pa_cons (pv 5) pa_nil))))))), (pv 2), ?_⟩
    rintro vs xs ⟨d, p, rfl, hpre, hd, rfl⟩
    have hp7 := hpre.1.pos
    have hn6 := hpre.2.1
    refine ⟨tuplesOf p d, rfl, fun e => ?_, ?_⟩
    · have := tuplesOf_len p d
      rw [e] at this
      have h2 : 0 < p.toNat ^ d := Nat.pow_pos (by omega)
      simp at this
      omega
    · refine ⟨by show 0 ≤ sizeLine; decide, fun e0 he0 => ⟨by show 1 ≤ sizeLine; decide, fun l hl => ?_⟩⟩
      have s1 : Same H (upd H e0 (.tup [])) := (Same.refl H).put he0
      have s2 := s1.put hl (o := .lst [.ref e0])
      refine ⟨_, rfl, _, rfl, by omega, by omega, ?_⟩
      have en : ((d : Nat) : Int).toNat = d := by omega
      rw [en]
      refine for_range (lo := 0) (n := d) (fun i σ H' => ∃ l' ws x y z, σ = [some (.int d), some (.int p), some (.ref l'), x, y, z] ∧ Same H H' ∧ H l' = none ∧ H' l' = some (.lst ws) ∧ Tps H' ws (tuplesOf p i)) ⟨l, [.ref e0], _, _, _, rfl, s2, s1.free hl, upd_same, .cons ⟨e0, rfl, ?_⟩ .nil⟩ ?_ ?_
      · rw [upd_ne (ne_of_none upd_same hl), upd_same]; rfl
      · rintro i σ H' hi ⟨l', ws, x, y, z, rfl, s3, hl', h1, h2⟩
        have hlw : ws.length = p.toNat ^ i := by rw [plen h2, tuplesOf_len]
        have hpi := hpre.pow (Nat.le_of_lt hi)
        have hpi1 := hpre.pow (Nat.succ_le_of_lt hi)
        rw [Nat.pow_succ] at hpi1
        refine ⟨_, rfl, l', rfl, ⟨ws, SqL.of h1⟩, fun D hD => ?_⟩
        have hDl : l' ≠ D := ne_of_none h1 hD
        have hwk : Walks (Itl K l') H' ws.length (At ws) := walks_list (SqL.of h1)
        have hDn : H D = none := s3.free hD
        refine ⟨fun j m H2 => m = ws.length - j ∧ j ≤ ws.length ∧ Same H' H2 ∧ ∃ ys, H2 D = some (.lst ys) ∧ Tps H2 ys (((tuplesOf p i).take j).flatMap fun row => (List.range p.toNat).map fun a => row ++ [((a : Nat) : Int)]), ⟨ws.length, by simp, Nat.zero_le _, (Same.refl H').put hD, [], upd_same, .nil⟩, ?_⟩
        rintro j m H2 ⟨rfl, hj, s4, ys, hy, hty⟩
        obtain ⟨w1, w2⟩ := hwk H2 s4
        by_cases hlt : j < ws.length
        · obtain ⟨g1, g2⟩ := w1 j hlt
          refine .inr ⟨g1, fun H3 => Same H' H3 ∧ ∃ ys, H3 D = some (.lst ys) ∧ Tps H3 ys (((tuplesOf p i).take (j + 1)).flatMap fun row => (List.range p.toNat).map fun a => row ++ [((a : Nat) : Int)]), fun H3 q => ⟨ws.length - (j + 1), by omega, rfl, hlt, q⟩, fun v H3 hyl => ?_⟩
          obtain ⟨rfl, hv⟩ := g2 v H3 hyl
          obtain ⟨row, hrow, hvr⟩ := pget (Tps.mono s4 h2) hv
          have hjl : j < (tuplesOf p i).length := (List.getElem?_eq_some_iff.mp hrow).1
          have hus : ys.length = j * p.toNat := by
            rw [plen hty, wideRow_len, List.length_take]
            congr 1
            omega
          have hbnd : (j + 1) * p.toNat ≤ 1000 := by
            refine Nat.le_trans (Nat.mul_le_mul_right _ (Nat.succ_le_of_lt hjl)) ?_
            rw [tuplesOf_len]; exact hpi1
          have hrl : row.length = i := tuplesOf_word (List.mem_of_getElem? hrow)
          have etk : (tuplesOf p i).take (j + 1) = (tuplesOf p i).take j ++ [row] := by rw [List.take_add_one, hrow]; rfl
          refine ⟨rfl, iteT (B := True) ?_⟩
          refine ⟨_, rfl, _, rfl, by omega, by omega, ?_⟩
          generalize hpv : (((tuplesOf p i).take j).flatMap fun row => (List.range p.toNat).map fun a => row ++ [((a : Nat) : Int)]) = pv at hty etk
          refine ⟨fun b k H4 => k = p.toNat - b ∧ b ≤ p.toNat ∧ Same H' H4 ∧ ∃ zs, H4 D = some (.lst zs) ∧ Tps H4 zs (pv ++ (List.range b).map fun a => row ++ [((a : Nat) : Int)]), ⟨p.toNat, by simp, Nat.zero_le _, s4, ys, hy, by simpa using hty⟩, ?_⟩
          rintro b k H4 ⟨rfl, hb, s5, zs, hz, htz⟩
          have hpl : pv.length = j * p.toNat := by rw [← plen hty]; exact hus
          by_cases hbl : b < p.toNat
          · refine .inr ⟨hbl, fun H5 => Same H' H5 ∧ ∃ zs, H5 D = some (.lst zs) ∧ Tps H5 zs (pv ++ (List.range (b + 1)).map fun a => row ++ [((a : Nat) : Int)]), fun H5 q => ⟨p.toNat - (b + 1), by omega, rfl, hbl, q⟩, fun x H5 hx => ?_⟩
            obtain ⟨rfl, rfl⟩ := hx
            refine ⟨rfl, iteT (B := True) ?_⟩
            have e0 : (0 : Int) + ((b : Nat) : Int) = ((b : Nat) : Int) := Int.zero_add _
            refine ⟨_, rfl, _, rfl, by show 1 ≤ sizeLine; decide, fun t ht => ?_⟩
            have s8 := (Same.refl H5).put ht (o := .tup [.int (0 + ((b : Nat) : Int))])
            obtain ⟨row', hrow', hvr5⟩ := pget (Tps.mono s5 h2) hv
            rw [hrow] at hrow'
            cases hrow'
            refine cat_tp (a := row) (b := [((b : Nat) : Int)]) (hvr5.mono s8) ⟨t, rfl, by rw [upd_same, e0]; rfl⟩ (by rw [hrl]; simp; omega) fun r H6 s9 hr6 => ?_
            have s10 := s8.trans s9
            have hz6 := s10 _ _ hz
            have hzl : zs.length = j * p.toNat + b := by rw [plen htz, List.length_append, hpl, List.length_map, List.length_range]
            refine ⟨zs, hz6, small1000 (by rw [Nat.succ_mul] at hbnd; omega), ?_, zs ++ [r], upd_same, ?_⟩
            · exact Same.own (s5.trans s10) hD
            · rw [List.range_succ, List.map_append, ← List.append_assoc]
              have bD : But D H6 (upd H6 D (.lst (zs ++ [r]))) := But.upd hz6
              exact papp (Tps.but bD (Tps.mono s10 htz)) (.cons (hr6.but bD) .nil)
          · have e : b = p.toNat := by omega
            subst e
            refine .inl ⟨Nat.le_refl _, s5, zs, hz, ?_⟩
            rw [etk, List.flatMap_append, hpv]
            simpa using htz
        · have e : j = ws.length := by omega
          subst e
          refine .inl ⟨w2, ?_⟩
          rw [plen h2, List.take_length] at hty
          exact ⟨D, ys, _, _, _, rfl, s3.trans s4, hDn, hy, hty⟩
      · rintro σ H' ⟨l', ws, x, y, z, rfl, s3, hl', h1, h2⟩
        exact ⟨_, rfl, l', ws, rfl, h1, h2, s3, hl'⟩
end
end Wk
namespace Wk
open PySem L2
open C8 (Cal Met Mak pe_c pe_mk pe_mt pe_mt0)
section
variable {P : Program} {w : World} {K : PySem.W.Frag} {mg : Str → Option Value} {base : Heap}
/-- a generator def that may be called by its name -/
structure CalG (P : Program) (w : World) (K : PySem.W.Frag) (mg : Str → Option Value) (base : Heap) (k : Nat) (x : Str) (pre : List V → Hp → List Wrd → Prop) : Prop where
  ex : ∃ (f : Addr) (fd : FuncData) (ps : List Str), GenOk P w K mg base k f fd ps pre ∧ mg x = some (.ref f) ∧ PySem.W.keepIn K (.ref f) = true ∧ Binds K fd ps []
theorem GenOk.mono {j k : Nat} {f : Addr} {fd : FuncData} {ps : List Str} {pre : List V → Hp → List Wrd → Prop} (h : GenOk P w K mg base k f fd ps pre) : True := trivial
section
variable {X : Cx} {k j : Nat} {x : Str} {pre : List V → Hp → List Wrd → Prop} {p pos : Pos} {e : Expr} {es : List Expr} {t : TA}
theorem pd_c (c : CalG X.prog X.w X.K X.mg X.base k x pre) (hr : Room j X.A) (hk : k ≤ j) (hg : Gl X x) (ha : PA X (e :: es) t)
    (hdb : (x == ("__debug__" : Str)) = false := by decide) (he : starEach (e :: es) X.env = (false, eval e X.env) :: starEach es X.env := by rfl) (hpl : (backTo pos (starEach es X.env)).any (·.1) = false := by rfl) :
    PD X k (.Call (.Name x p) (e :: es) [] pos) (tCallD pre t) := by
  obtain ⟨f, fd, ps, F, hm, kp, b⟩ := c.ex
  exact pd_call F (hr.mono hk) hg hm kp b ha hdb he hpl
end
/-! ### first_factor -/
theorem ff_end {a : List Int} {p : Int} {d : Nat} (h : ¬ 2 * d < a.length) : ∀ f, firstFactor a p f d = a
  | 0 => rfl
  | f + 1 => by
    unfold firstFactor
    rw [if_neg h]
theorem monics_len {d : Nat} {p : Int} {r : List Int} (h : r ∈ monics d p) : r.length = d + 1 ∧ r.getLastD 0 = 1 ∧ r ≠ [] := by
  obtain ⟨q, hq, rfl⟩ := List.mem_map.mp h
  refine ⟨by rw [List.length_append, tuplesOf_word hq]; rfl, by simp, by simp⟩
abbrev s_first_factor : Stmt := top 33
theorem sc_first_factor : FnScope ["a", "p", "low", "degree", "row"] ["a", "p", "low"] (defScope s_first_factor) := ⟨rfl, rfl, rfl, by decide +kernel, rfl, by decide +kernel, by decide +kernel⟩
def sp_first_factor : Sp := fun vs H Q _ => ∃ (v : V) (a : List Int) (p : Int) (low : Nat), vs = [v, .int p, .int (low : Nat)] ∧ Tp H v a ∧ Pr p ∧ a.length ≤ 7 ∧ 1 ≤ low ∧ low ≤ 6 ∧ ∀ r H', Same H H' → Tp H' r (firstFactor a p 14 low) → Q r H'
theorem tab3 {p : Int} (hp : Pr p) {d : Nat} (hd : d ≤ 3) : TabPre d p := by
  refine ⟨hp, by omega, ?_⟩
  have : d = 0 ∨ d = 1 ∨ d = 2 ∨ d = 3 := by omega
  rcases hp with rfl | rfl | rfl | rfl <;> rcases this with rfl | rfl | rfl | rfl <;> decide
theorem ok_first_factor {f : Addr} {fd : FuncData} (F : Fun K "first_factor" "first_factor" s_first_factor f fd) (T : Txt K mg) (c_divided : Cal P w K mg base 2 "divided" sp_divided []) (c_monic_rows : CalG P w K mg base 1 "monic_rows" gp_monic_rows)  : FnOk P w K mg base CX0 3 f fd ["a", "p", "low"] sp_first_factor := by
  refine F.ok sc_first_factor (fun vs H Q E h => ?_) (fun cdv A outer s H vs Q E hr h => ?_)
  · obtain ⟨v, a, p, low, rfl, _⟩ := h
    rfl
  · obtain ⟨v, a, p, low, rfl, ⟨t, rfl, ht⟩, hp, hal, hlow, hlow2, k⟩ := h
    have hp7 := hp.pos
    refine ⟨_, (pss_cons (ps_set (i := 3) sc_first_factor.nd rfl (Or.inl rfl) (pv 2))
      (pss_cons (ps_while PassesOwn.never (pt_cmpR op_lt (pe_op op_mul pe_int (pv 3)) (pe_callB (call_lenK K) (by rfl) T.len PySem.boot_len (pa_cons (pv 0) pa_nil)) (nomark _))
      (pss_cons (ps_forD hr.hd (pd_c c_monic_rows hr (by decide) rfl (pa_cons (pv 3) (pa_cons (pv 1) pa_nil))) (hr.mono (by decide)) (pg_name (i := 4) sc_first_factor.nd rfl (Or.inl rfl))
      (pss_one (ps_if (pt_cmpR op_eq (pe_callB (call_lenK K) (by rfl) T.len PySem.boot_len (pa_cons (pe_ix (ix_tupK K) (pe_c c_divided hr (by decide) rfl (pa_cons (pv 0) (pa_cons (pv 4) (pa_cons (pv 1) pa_nil)))) pe_int (fun _ _ => rfl)) pa_nil)) pe_int (nomark _)) (pss_one (ps_ret (pv 4))) pss_nil)))
      (pss_one (ps_set (i := 3) sc_first_factor.nd rfl (Or.inl rfl) (pe_op op_add (pv 3) pe_int)))))
      (pss_one (ps_ret (pv 0))))), ?_⟩
    refine ⟨_, rfl, ?_⟩
    refine ⟨fun m σ H' => ∃ d x, m = 20 - d ∧ σ = [some (.ref t), some (.int p), some (.int (low : Nat)), some (.int (d : Nat)), x] ∧ Same H H' ∧ low ≤ d ∧ d ≤ 14 ∧ firstFactor a p 14 low = firstFactor a p (14 + low - d) d, ⟨20 - low, low, _, rfl, rfl, Same.refl H, Nat.le_refl _, by omega, by rw [Nat.add_sub_cancel]⟩, ?_⟩
    rintro m σ H' ⟨d, x, rfl, rfl, s1, hld, hd14, hff⟩
    refine ⟨_, rfl, _, _, rfl, rfl, .inl (by omega), _, rfl, t, _, rfl, .inr (SqT.of (s1 _ _ ht)), _, _, rfl, rfl, _, rfl, ite2 (fun c => ?_) (fun c => ?_)⟩
    · have c' : 2 * d < a.length := by
        have c2 : 2 * ((d : Nat) : Int) < (((a.map V.int).length : Nat) : Int) := by simpa using c
        rw [List.length_map] at c2
        omega
      have hd3 : d ≤ 3 := by omega
      refine ⟨fun σ' H2 => ∃ m', m' < 20 - d ∧ ∃ d x, m' = 20 - d ∧ σ' = [some (.ref t), some (.int p), some (.int (low : Nat)), some (.int (d : Nat)), x] ∧ Same H H2 ∧ low ≤ d ∧ d ≤ 14 ∧ firstFactor a p 14 low = firstFactor a p (14 + low - d) d, fun _ _ q => q, ?_⟩
      have hff2 : firstFactor a p (14 + low - d) d = (match (monics d p).find? (fun row => (rem a row p).length == 0) with | some row => row | none => firstFactor a p (14 + low - d - 1) (d + 1)) := by
        obtain ⟨f, hf⟩ : ∃ f, 14 + low - d = f + 1 := ⟨14 + low - d - 1, by omega⟩
        rw [hf]
        show (if 2 * d < a.length then _ else a) = _
        rw [if_pos c', Nat.add_sub_cancel]
        all_goals rfl
      refine ⟨_, rfl, _, rfl, monics d p, ⟨d, p, rfl, tab3 hp hd3, by omega, rfl⟩, fun i σ2 H2 => (∃ y, σ2 = [some (.ref t), some (.int p), some (.int (low : Nat)), some (.int (d : Nat)), y]) ∧ Same H H2 ∧ ∀ j, j < i → ∀ r, (monics d p)[j]? = some r → (rem a r p).length ≠ 0, ⟨⟨_, rfl⟩, s1, fun j hj => absurd hj (Nat.not_lt_zero _)⟩, ?_, ?_, ?_⟩
      · rintro i row σ2 H2 H3 b hrow ⟨⟨y, rfl⟩, s2, hall⟩ s3 hb
        obtain ⟨hrl, hr1, hrne⟩ := monics_len (List.mem_of_getElem? hrow)
        have s23 := s2.trans s3
        refine ⟨_, rfl, _, rfl, _, rfl, .ref t, .ref b, a, row, p, rfl, ⟨t, rfl, s23 _ _ ht⟩, hb, ⟨hp, hrne, by rw [hr1]; exact inv_one hp, by omega, by omega⟩, fun r H4 s4 hq => ?_⟩
        obtain ⟨q1, q2, q3, rfl, e1, e2⟩ := hq.snd
        obtain ⟨q3', e3, e4⟩ := id e2
        cases e3
        refine ⟨q1, _, 1, _, rfl, rfl, SqT.of e1, rfl, q3, _, rfl, .inr (SqT.of e4), rfl, _, rfl, ite2 (fun cc => ?_) (fun cc => ?_)⟩
        · have c0 : (rem a row p).length = 0 := by simpa [rem] using cc
          have hfind : (monics d p).find? (fun row => (rem a row p).length == 0) = some row := by
            rw [List.find?_eq_some_iff_getElem]
            refine ⟨by simp [c0], i, (List.getElem?_eq_some_iff.mp hrow).1, (List.getElem?_eq_some_iff.mp hrow).2, fun j hj => ?_⟩
            have hjl : j < (monics d p).length := Nat.lt_trans hj (List.getElem?_eq_some_iff.mp hrow).1
            have := hall j hj _ (List.getElem?_eq_getElem hjl)
            simpa using this
          refine ⟨_, rfl, k _ _ (s23.trans s4) ?_⟩
          rw [hff, hff2, hfind]
          exact hb.mono s4
        · have c0 : (rem a row p).length ≠ 0 := by simpa [rem] using cc
          refine ⟨s4, ⟨_, rfl⟩, s23.trans s4, fun j hj r hr => ?_⟩
          rcases Nat.lt_or_eq_of_le (Nat.le_of_lt_succ hj) with hj | rfl
          · exact hall j hj r hr
          · rw [hrow] at hr; cases hr; exact c0
      · rintro σ2 H2 hne ⟨⟨y, rfl⟩, s2, hall⟩
        have hfind : (monics d p).find? (fun row => (rem a row p).length == 0) = none := by
          rw [List.find?_eq_none]
          intro r hr
          obtain ⟨j, hj⟩ := List.getElem?_of_mem hr
          have := hall j (List.getElem?_eq_some_iff.mp hj).1 r hj
          simpa using this
        refine ⟨_, rfl, _, _, rfl, rfl, 20 - (d + 1), by omega, d + 1, _, rfl, rfl, s2, by omega, by omega, ?_⟩
        rw [hff, hff2, hfind]
        congr 1
      · intro e
        have := tuplesOf_len p d
        have h2 : 0 < p.toNat ^ d := Nat.pow_pos (by omega)
        unfold monics at e
        rw [List.map_eq_nil_iff] at e
        rw [e] at this
        simp at this
        omega
    · have c' : ¬ 2 * d < a.length := by
        intro c2
        refine c ?_
        simp
        omega
      refine ⟨_, rfl, k _ _ s1 ?_⟩
      rw [hff, ff_end c']
      exact ⟨t, rfl, s1 _ _ ht⟩
end
end Wk
namespace Wk
open PySem L2
open C8 (Cal Met Mak pe_c pe_mk pe_mt pe_mt0)
open PyProof.Rows (envOfC)
section
variable {P : Program} {w : World} {K : PySem.W.Frag} {mg : Str → Option Value} {base : Heap}
/-! ### Code.words -/
abbrev s_Code_words : Stmt := inClass (top 23) 5
theorem sc_Code_words : GScope ["self", "found", "row", "longer", "word", "a"] ["self"] (defScope s_Code_words) := ⟨rfl, rfl, rfl, by decide +kernel, rfl, by decide +kernel, by decide +kernel⟩
def gp_Code_words (C : Addr) : List V → Hp → List Wrd → Prop := fun vs H xs => ∃ (v : V) (c : Cd), vs = [v] ∧ CdV C H v c ∧ CdOk c ∧ 1 ≤ c.n ∧ c.p.toNat ^ c.rows.length ≤ 1000 ∧ xs = sortBy leW (wordsRaw c)
theorem wordsStep_len (p : Int) (l : List (List Int)) (row : List Int) : (wordsStep p l row).length = l.length * p.toNat := by
  unfold wordsStep
  rw [List.length_flatMap]
  simp [List.map_const', List.sum_replicate_nat]
theorem wordsRaw_len' (p : Int) : ∀ (rows l : List (List Int)), (rows.foldl (wordsStep p) l).length = l.length * p.toNat ^ rows.length
  | [], l => by simp
  | r :: t, l => by
    rw [List.foldl_cons, wordsRaw_len' p t, wordsStep_len, List.length_cons, Nat.pow_succ]
    rw [Nat.mul_assoc, Nat.mul_comm p.toNat]
theorem wordsStep_wn {p : Int} {n : Nat} (hp : Pr p) {l : List (List Int)} (hl : ∀ w ∈ l, Wn p n w) {row : List Int} (hr : Wn p n row) : ∀ w ∈ wordsStep p l row, Wn p n w := fun w hw => by
  obtain ⟨u, hu, hw⟩ := List.mem_flatMap.mp hw
  obtain ⟨a, _, rfl⟩ := List.mem_map.mp hw
  exact ⟨by rw [addw_len _ _ _ (by rw [scaled_len, hr.1, (hl u hu).1])]; exact (hl u hu).1, addw_wd hp _ _⟩
theorem wordsRaw_wn' {p : Int} {n : Nat} (hp : Pr p) : ∀ (rows l : List (List Int)), (∀ w ∈ l, Wn p n w) → (∀ r ∈ rows, Wn p n r) → ∀ w ∈ rows.foldl (wordsStep p) l, Wn p n w
  | [], l, hl, _ => hl
  | r :: t, l, hl, hr => wordsRaw_wn' hp t _ (wordsStep_wn hp hl (hr r List.mem_cons_self)) fun x hx => hr x (List.mem_cons_of_mem _ hx)
theorem ok_Code_words {f : Addr} {fd : FuncData} (F : Fun K "words" "Code.words" s_Code_words f fd) (T : Txt K mg) {C : Addr} (hC : CodeC K C) (c_add : Cal P w K mg base 1 "add" sp_add []) (c_scaled : Cal P w K mg base 1 "scaled" sp_scaled []) : GenOk P w K mg base 2 f fd ["self"] (gp_Code_words C) := by
  refine genok_fun (k := 1) F rfl sc_Code_words rfl (fun _ _ => rfl) (fun vs H xs h => ?_) (fun vs H H' xs h s => ?_) id (fun _ _ bs _ i _ v _ => ∃ b, bs[i]? = some b ∧ v = .ref b) (fun L I F bs ws => conv_id) ?_ ?_
  · obtain ⟨v, c, rfl, _⟩ := h
    rfl
  · obtain ⟨v, c, rfl, hc, r⟩ := h
    exact ⟨v, c, rfl, hc.mono s, r⟩
  · intro cdv L I Fa bs ws vs H xs hpre hxs A' E' i s₁ s₂ m v hh hv hw hsin hns hm hlen
    obtain ⟨b, hb, rfl⟩ : ∃ b, bs[i]? = some b ∧ v = Value.ref b := by
      have hv : (bs.map Value.ref)[i]? = some v := by simpa using hv
      rw [List.getElem?_map] at hv
      cases e : bs[i]? with
      | none => rw [e] at hv; cases hv
      | some b => rw [e] at hv; cases hv; exact ⟨b, rfl, rfl⟩
    rw [eval_Name _ _ _ (by decide)]
    exact wpAny_bind (wpAny_standAt (wpAny_loadName_local rfl rfl hns hm ⟨⟨s₂.heap, s₂.toks, rfl, Nat.le_refl _, fun _ _ e => e⟩, b, hb, rfl⟩))
  · intro cdv L A outer s H hr
    refine ⟨_, _, _, (ps_set (i := 1) sc_Code_words.nd rfl (Or.inl rfl) (pe_lst (pa_cons (pe_op (op_repTAK K) (pe_tup (pa_cons pe_int pa_nil)) (pe_fld (pv 0) rfl)) pa_nil))), (ps_for PassesOwn.never rfl (pi_tup (pe_fld (pv 0) rfl)) (pg_name (i := 2) sc_Code_words.nd rfl (Or.inl rfl))
      (pss_cons (ps_set (i := 3) sc_Code_words.nd rfl (Or.inl rfl) (pe_lst pa_nil))
      (pss_cons (ps_for PassesOwn.never rfl (pi_list (pe_callTy (call_listK K) (by rfl) T.list (by decide +kernel) (pa_cons (pv 1) pa_nil))) (pg_name (i := 4) sc_Code_words.nd rfl (Or.inl rfl))
      (pss_one (ps_for PassesOwn.never rfl (pi_range1 rfl T.range (pa_cons (pe_fld (pv 0) rfl) pa_nil)) (pg_name (i := 5) sc_Code_words.nd rfl (Or.inl rfl))
      (pss_one (ps_expr (pe_bm PySem.F.plainAttrs_list PySem.F.slot_list_append PySem.F.type_list_append mt_append (pv 3) (pa_cons (pe_c c_add hr (by decide) rfl (pa_cons (pv 4) (pa_cons (pe_c c_scaled hr (by decide) rfl (pa_cons (pv 2) (pa_cons (pv 5) (pa_cons (pe_fld (pv 0) rfl) pa_nil)))) (pa_cons (pe_fld (pv 0) rfl) pa_nil)))) pa_nil)))))))
      (pss_one (ps_set (i := 1) sc_Code_words.nd rfl (Or.inl rfl) (pv 3)))))), (pe_callB (cr_sortedDK K (hu64 hr)) (by rfl) T.sorted (by decide +kernel) (pa_cons (pv 1) pa_nil)), ?_⟩
    rintro vs xs ⟨v, c, rfl, hcv, ok, hn1, hpow, rfl⟩
    have hp := ok.p
    have hp7 := hp.pos
    have hn := ok.n
    obtain ⟨a, dx, t, q, us, rfl, ha, ht, hts, hq⟩ := id hcv
    have es : ∀ {H' : Hp}, Same H H' → H' a = some (.ins C dx (cdF c t q)) ∧ H' t = some (.tup us) ∧ Tps H' us c.rows := fun s => ⟨s _ _ ha, s _ _ ht, Tps.mono s hts⟩
    refine ⟨sortBy leW (wordsRaw c), by rw [List.map_id], fun e => ?_, ?_⟩
    · have h1 := (sortBy_perm leW (wordsRaw c)).length_eq
      have h2 : (wordsRaw c).length = 1 * c.p.toNat ^ c.rows.length := wordsRaw_len' c.p c.rows _
      rw [e, h2] at h1
      have h3 : 0 < c.p.toNat ^ c.rows.length := Nat.pow_pos (by omega)
      simp at h1
      omega
    · refine ⟨by show 1 ≤ sizeLine; decide, fun z1 hz1 => ?_⟩
      have s0 := (Same.refl H).put hz1 (o := .tup [.int 0])
      refine ⟨_, rfl, a, C, dx, _, _, rfl, (es s0).1, hC.cls, hC.n, rfl, rep_tp (n := c.n) ⟨z1, rfl, upd_same⟩ (by omega) fun r0 H0 s1 q0 => ?_⟩
      obtain ⟨z0, rfl, hz0⟩ := q0
      refine ⟨by show 1 ≤ sizeLine; decide, fun l hl => ?_⟩
      have s2 := (s0.trans s1).put hl (o := .lst [.ref z0])
      refine ⟨_, rfl, a, C, dx, _, _, rfl, (es s2).1, hC.cls, hC.rows, rfl, t, rfl, ⟨us, SqT.of (es s2).2.1⟩, for_tup (xs := us) (fun i σ H' => ∃ l' ws x y z u, σ = [some (.ref a), some (.ref l'), x, y, z, u] ∧ Same H H' ∧ H l' = none ∧ H' l' = some (.lst ws) ∧ Tps H' ws ((c.rows.take i).foldl (wordsStep c.p) [List.replicate c.n 0])) ?_ ?_ ?_ ?_⟩
      · exact ⟨l, _, _, _, _, _, rfl, s2, (s0.trans s1).free hl, upd_same, .cons ⟨z0, rfl, by rw [upd_ne (ne_of_none hz0 hl)]; exact hz0⟩ .nil⟩
      · rintro i σ H' _ ⟨_, _, _, _, _, _, _, s3, _⟩
        exact SqT.of (es s3).2.1
      · rintro i xv σ H' hxv ⟨l', ws, x, y, z, u, rfl, s3, hl', h1, h2⟩
        obtain ⟨row, hrow, htr⟩ := pget (es s3).2.2 hxv
        have hrl : i < c.rows.length := (List.getElem?_eq_some_iff.mp hrow).1
        have hwr := ok.rows row (List.mem_of_getElem? hrow)
        have hfw := wordsRaw_wn' (n := c.n) hp (c.rows.take i) [List.replicate c.n 0] (fun w hw => by rw [List.mem_singleton.mp hw]; exact zeros_wn hp c.n) fun r hr => ok.rows r (List.mem_of_mem_take hr)
        have hfl := wordsRaw_len' c.p (c.rows.take i) [List.replicate c.n 0]
        have etk : c.rows.take (i + 1) = c.rows.take i ++ [row] := by rw [List.take_add_one, hrow]; rfl
        generalize hfd : (c.rows.take i).foldl (wordsStep c.p) [List.replicate c.n 0] = found at h2 hfw hfl
        rw [List.length_take, Nat.min_eq_left (Nat.le_of_lt hrl)] at hfl
        have hfl2 : found.length * c.p.toNat ≤ 1000 := by
          rw [hfl, List.length_singleton, Nat.one_mul, ← Nat.pow_succ]
          exact Nat.le_trans (Nat.pow_le_pow_right (by omega) hrl) hpow
        refine ⟨by show 0 ≤ sizeLine; decide, fun m hm => ?_⟩
        have s4 := s3.put hm (o := .lst [])
        have hmn : H m = none := s3.free hm
        have hml : l' ≠ m := ne_of_none h1 hm
        refine ⟨_, rfl, l', _, rfl, .inl (SqL.of (by rw [upd_ne hml]; exact h1)), fun b hb => ?_⟩
        have s5 := s4.put hb (o := .lst ws)
        have hmb : m ≠ b := ne_of_none upd_same hb
        have s35 : Same H' (upd (upd H' m (.lst [])) b (.lst ws)) := ((Same.refl H').put hm).put hb
        refine ⟨b, rfl, ⟨ws, SqL.of upd_same⟩, for_list (xs := ws) (fun j σ H2 => ∃ us2 z u, σ = [some (.ref a), some (.ref l'), some xv, some (.ref m), z, u] ∧ Same H H2 ∧ H2 b = some (.lst ws) ∧ Tps H2 ws found ∧ Tp H2 xv row ∧ H2 m = some (.lst us2) ∧ Tps H2 us2 (wordsStep c.p (found.take j) row)) ?_ ?_ ?_ ?_⟩
        · exact ⟨[], _, _, rfl, s5, upd_same, Tps.mono s35 h2, htr.mono s35, by rw [upd_ne hmb, upd_same], .nil⟩
        · rintro j σ H2 _ ⟨_, _, _, _, _, h6, _⟩
          exact SqL.of h6
        · rintro j wv σ H2 hwv ⟨us2, z, u, rfl, s6, h6, h7, h8, h9, h10⟩
          obtain ⟨fw, hfw1, hvw⟩ := pget h7 hwv
          have hfwn := hfw fw (List.mem_of_getElem? hfw1)
          have hjl : j < found.length := (List.getElem?_eq_some_iff.mp hfw1).1
          have etk2 : found.take (j + 1) = found.take j ++ [fw] := by rw [List.take_add_one, hfw1]; rfl
          have hul : us2.length = j * c.p.toNat := by rw [plen h10, wordsStep_len, List.length_take, Nat.min_eq_left (Nat.le_of_lt hjl)]
          have hb1 : (j + 1) * c.p.toNat ≤ 1000 := Nat.le_trans (Nat.mul_le_mul_right _ hjl) hfl2
          generalize hpv : wordsStep c.p (found.take j) row = pv at h10
          refine ⟨_, rfl, a, C, dx, _, _, rfl, (es s6).1, hC.cls, hC.p, rfl, _, rfl, by omega, by omega, ?_⟩
          refine for_range (lo := 0) (n := c.p.toNat) (fun g σ H3 => ∃ us2 u, σ = [some (.ref a), some (.ref l'), some xv, some (.ref m), some wv, u] ∧ Same H H3 ∧ H3 b = some (.lst ws) ∧ Tps H3 ws found ∧ Tp H3 xv row ∧ Tp H3 wv fw ∧ H3 m = some (.lst us2) ∧ us2.length = j * c.p.toNat + g ∧ Tps H3 us2 (pv ++ (List.range g).map fun a => addw fw (scaled row ((a : Nat) : Int) c.p) c.p)) ⟨us2, _, rfl, s6, h6, h7, h8, hvw, h9, by omega, by simpa using h10⟩ ?_ ?_
          · rintro g σ H3 hg ⟨us3, u, rfl, s7, g6, g7, g8, g11, g9, gl, g10⟩
            rw [Int.zero_add]
            refine ⟨_, rfl, .inl ⟨rfl, _, SqL.of g9⟩, _, rfl, _, rfl, _, rfl, _, rfl, a, C, dx, _, _, rfl, (es s7).1, hC.cls, hC.p, rfl, xv, row, _, c.p, rfl, g8, hp, hwr.2, by rw [hwr.1]; omega, fun r1 H4 s8 q1 => ?_⟩
            refine ⟨_, rfl, a, C, dx, _, _, rfl, (es (s7.trans s8)).1, hC.cls, hC.p, rfl, wv, r1, fw, scaled row ((g : Nat) : Int) c.p, c.p, rfl, g11.mono s8, q1, hp, by rw [scaled_len, hwr.1, hfwn.1], by rw [hfwn.1]; omega, fun r2 H5 s9 q2 => ?_⟩
            have s89 := s8.trans s9
            have hm5 := s89 _ _ g9
            have bD : But m H5 (upd H5 m (.lst (us3 ++ [r2]))) := But.upd hm5
            have hbm : b ≠ m := Ne.symm hmb
            rw [Nat.succ_mul] at hb1
            refine ⟨m, us3, r2, rfl, rfl, hm5, small1000 (by omega), us3 ++ [r2], _, rfl, Same.own (s7.trans s89) hmn, by rw [upd_ne hbm]; exact s89 _ _ g6, Tps.but bD (Tps.mono s89 g7), (g8.mono s89).but bD, (g11.mono s89).but bD, upd_same, by rw [List.length_append, gl]; rfl, ?_⟩
            rw [List.range_succ, List.map_append, ← List.append_assoc]
            exact papp (Tps.but bD (Tps.mono s89 g10)) (.cons (q2.but bD) .nil)
          · rintro σ H3 ⟨us3, u, rfl, s7, g6, g7, g8, g11, g9, gl, g10⟩
            refine ⟨us3, _, _, rfl, s7, g6, g7, g8, g9, ?_⟩
            rw [etk2]
            unfold wordsStep at hpv ⊢
            rw [List.flatMap_append, hpv]
            simpa using g10
        · rintro σ H2 ⟨us2, z, u, rfl, s6, h6, h7, h8, h9, h10⟩
          rw [plen h7, List.take_length] at h10
          refine ⟨_, rfl, m, us2, _, _, _, _, rfl, s6, hmn, h9, ?_⟩
          rw [etk, List.foldl_append, hfd]
          exact h10
      · rintro σ H' ⟨l', ws, x, y, z, u, rfl, s3, hl', h1, h2⟩
        rw [plen hts, List.take_length] at h2
        have hwn := wordsRaw_wn' (n := c.n) hp c.rows [List.replicate c.n 0] (fun w hw => by rw [List.mem_singleton.mp hw]; exact zeros_wn hp c.n) ok.rows
        refine ⟨_, rfl, List Int, l', ws, wordsRaw c, wD, Tp H', rfl, SqL.of h1, h2, fun v b h => h.dp, wDs_alike _, .inl (wDs_ne fun w hw => ?_), fun b _ => Nat.le_trans (wD_depth b) (by omega), fun zs q hzs hq => ?_⟩
        · have := (hwn w hw).1
          rintro rfl
          simp at this
          omega
        · rw [dataLe_wD, mergeSort_eq ordW] at hzs
          exact ⟨q, zs, rfl, upd_same, Tps.mono ((Same.refl H').put hq) hzs, s3.put hq, s3.free hq⟩
end
end Wk
set_option maxHeartbeats 200000
/-! the sixteen rings: what the walk asks, decided -/
namespace Wk
def invB (a p : Int) : Bool := (List.range (p - 1).toNat).any fun i => a * (1 + (i : Nat)) % p == 1
def wdB (p : Int) (w : Wrd) : Bool := w.all fun x => decide (0 ≤ x) && decide (x < p)
/-- a division that goes -/
def divB (a b : Wrd) (p : Int) : Bool := !(b.length == 0) && invB (b.getLastD 0) p && decide (a.length ≤ 40) && decide (b.length ≤ 40)
def facB (p : Int) : Nat → FacSt → Bool
  | 0, s => decide (s.1.length ≤ 1)
  | k + 1, s => if 1 < s.1.length then decide (s.1.length ≤ 7) && decide (1 ≤ s.2.2) && decide (s.2.2 ≤ 6) && divB s.1 (facFac p s) p && decide (s.2.1.length ≤ 20) && facB p k (facStep p s) else true
def layB (p : Int) (fac : Wrd) (st : List Wrd × List Wrd) : Bool := decide (st.1.length ≤ 100) && decide (st.2.length ≤ 100) && decide (fac.length ≤ 20) && st.2.all fun r => wdB p r && decide (r.length ≤ 20)
def wideB (p : Int) (found : List Wrd) (e : Wrd × Int) : Bool := decide (0 ≤ e.2) && decide (e.2 ≤ 20) && (List.range (e.2.toNat + 1)).all fun i => layB p e.1 ((List.range i).foldl (fun st _ => divLayer p e.1 st) (found, found))
def divsB (p : Int) (n : Nat) : Bool := facB p 14 (unitPoly p n, [], 1) && decide ((factors p n).length ≤ 20) && (List.range (factors p n).length).all fun j => wideB p (((factors p n).take j).foldl (divWide p) [[1]]) ((factors p n).getD j ([], 0))
/-- the rings of the law: the prime, the greatest length -/
def Ring (p : Int) (n : Nat) : Prop := 1 ≤ n ∧ ((p = 2 ∧ n ≤ 6) ∨ (p = 3 ∧ n ≤ 4) ∨ (p = 5 ∧ n ≤ 3) ∨ (p = 7 ∧ n ≤ 3))
def rings : List (Int × Nat) := [(2, 1), (2, 2), (2, 3), (2, 4), (2, 5), (2, 6), (3, 1), (3, 2), (3, 3), (3, 4), (5, 1), (5, 2), (5, 3), (7, 1), (7, 2), (7, 3)]
theorem Ring.mem {p : Int} {n : Nat} (h : Ring p n) : (p, n) ∈ rings := by
  obtain ⟨h1, h2⟩ := h
  rcases h2 with ⟨rfl, h⟩ | ⟨rfl, h⟩ | ⟨rfl, h⟩ | ⟨rfl, h⟩
  · have : n = 1 ∨ n = 2 ∨ n = 3 ∨ n = 4 ∨ n = 5 ∨ n = 6 := by omega
    rcases this with rfl | rfl | rfl | rfl | rfl | rfl <;> decide
  · have : n = 1 ∨ n = 2 ∨ n = 3 ∨ n = 4 := by omega
    rcases this with rfl | rfl | rfl | rfl <;> decide
  · have : n = 1 ∨ n = 2 ∨ n = 3 := by omega
    rcases this with rfl | rfl | rfl <;> decide
  · have : n = 1 ∨ n = 2 ∨ n = 3 := by omega
    rcases this with rfl | rfl | rfl <;> decide
theorem Ring.pr {p : Int} {n : Nat} (h : Ring p n) : Pr p := by
  rcases h.2 with h | h | h | h
  · exact .inl h.1
  · exact .inr (.inl h.1)
  · exact .inr (.inr (.inl h.1))
  · exact .inr (.inr (.inr h.1))
/-- a look at all the rings -/
theorem ring_all {f : Int × Nat → Bool} (h : rings.all f = true) {p : Int} {n : Nat} (r : Ring p n) : f (p, n) = true := List.all_eq_true.mp h _ r.mem
theorem divs_ok {p : Int} {n : Nat} (r : Ring p n) : divsB p n = true := ring_all (f := fun x => divsB x.1 x.2) (by decide +kernel) r
theorem divs_due {p : Int} {n : Nat} (r : Ring p n) : divisors p n = due p n := by
  have := ring_all (f := fun x => decide (divisors x.1 x.2 = due x.1 x.2)) (by decide +kernel) r
  exact of_decide_eq_true this
theorem divs_len {p : Int} {n : Nat} (r : Ring p n) : (divisors p n).length ≤ 100 := by
  have := ring_all (f := fun x => decide ((divisors x.1 x.2).length ≤ 100)) (by decide +kernel) r
  exact of_decide_eq_true this
end Wk
set_option maxHeartbeats 4000000
namespace Wk
open PySem L2
open C8 (Cal Met Mak pe_c pe_mk pe_mt pe_mt0)
/-- a comprehension with a target of any form -/
theorem lc_genG {J : It} {H1 : Hp} {n : Nat} {Px : Nat → V → Hp → Prop} {α β : Type} (zs : List α) (f : α → β) (R : Hp → V → β → Prop) {vs : List Nat} {g : TG} {te : TE} {σ : L2.St} {D : Addr} {Qd : Hp → Prop} (hw : Walks J H1 n Px) (hl : n = zs.length) (hz : n < sizeLine) (hD : H1 D = none)
    (mono : ∀ H H' v b, But D H H' → R H v b → R H' v b)
    (hs : ∀ (i : Nat) (x : V) (z : α) (H : Hp) (Q : V → Hp → Prop), Px i x H → zs[i]? = some z → Same H1 H → (∃ l, H D = some (.lst l)) → (∀ v H', Same H H' → R H' v (f z) → Q v H') →
      g x (wipe σ vs) H fun σ2 H2 => wipe σ2 vs = wipe σ vs ∧ te σ2 H2 Q)
    (hd : ∀ H ys, Same H1 H → H D = some (.lst ys) → Paired (fun v b => R H v b) ys (zs.map f) → Qd H)
    (gm : ∀ x σ H (Q Q' : L2.St → Hp → Prop), (∀ a b, Q a b → Q' a b) → g x σ H Q → g x σ H Q') :
    ∃ W : Nat → Nat → Hp → Prop, (∃ m, W 0 m (upd H1 D (.lst []))) ∧ ∀ i m H, W i m H →
      (J.stop i H ∧ Qd H) ∨ (J.go i H ∧ ∃ Nx : Hp → Prop, (∀ H', Nx H' → ∃ m', m' < m ∧ W (i + 1) m' H') ∧ ∀ x H', J.yld i H x H' → g x (wipe σ vs) H' fun σ2 H2 => wipe σ2 vs = wipe σ vs ∧ tYes σ2 H2 fun b H3 =>
        if b = true then te σ2 H3 fun y H4 => ∃ acc, H4 D = some (.lst acc) ∧ acc.length < sizeLine ∧ Nx (upd H4 D (.lst (acc ++ [y]))) else Nx H3) := by
  have pmono : ∀ {H H' : Hp} {ys : List V} {bs : List β}, But D H H' → Paired (fun v b => R H v b) ys bs → Paired (fun v b => R H' v b) ys bs := fun s h => Paired.mapP h fun a b q => mono _ _ _ _ s q
  refine ⟨fun i m H => m = n - i ∧ i ≤ n ∧ Same H1 H ∧ ∃ ys, H D = some (.lst ys) ∧ ys.length = i ∧ Paired (fun v b => R H v b) ys ((zs.take i).map f), ⟨n, by simp, Nat.zero_le _, Same.put (Same.refl H1) hD, [], upd_same, rfl, .nil⟩, ?_⟩
  rintro i m H ⟨rfl, hi, s, ys, hy, hly, hp⟩
  obtain ⟨w1, w2⟩ := hw H s
  by_cases hlt : i < n
  · obtain ⟨g1, g2⟩ := w1 i hlt
    refine .inr ⟨g1, fun H' => Same H1 H' ∧ ∃ ys, H' D = some (.lst ys) ∧ ys.length = i + 1 ∧ Paired (fun v b => R H' v b) ys ((zs.take (i + 1)).map f), fun H' p => ⟨n - (i + 1), by omega, rfl, hlt, p⟩, fun x H' hyl => ?_⟩
    obtain ⟨rfl, hx⟩ := g2 x H' hyl
    have hzi : i < zs.length := by omega
    have hzz : zs[i]? = some zs[i] := List.getElem?_eq_getElem hzi
    have etk : (zs.take (i + 1)).map f = (zs.take i).map f ++ [f zs[i]] := by
      rw [List.take_add_one, List.map_append, hzz]
      rfl
    refine gm _ _ _ _ _ (fun σ2 H2 hq => ⟨hq.1, iteT (B := True) hq.2⟩) (hs i x zs[i] H' _ hx hzz s ⟨ys, hy⟩ fun v H4 s4 r4 => ?_)
    have b4 : But D H4 (upd H4 D (.lst (ys ++ [v]))) := But.upd (s4 _ _ hy)
    refine ⟨ys, s4 _ _ hy, by omega, Same.own (s.trans s4) hD, ys ++ [v], upd_same, by simp; omega, ?_⟩
    rw [etk]
    exact Paired.snoc (pmono b4 (pmono (But.of hy s4) hp)) (mono _ _ _ _ b4 r4)
  · have e : i = n := by omega
    subst e
    refine .inl ⟨w2, hd H ys s hy ?_⟩
    rw [show zs.take i = zs by rw [hl, List.take_length]] at hp
    exact hp
theorem gTup2_mono {K : PySem.W.Frag} {i j : Nat} : ∀ (x : V) (σ : L2.St) (H : Hp) (Q Q' : L2.St → Hp → Prop), (∀ a b, Q a b → Q' a b) → gTup K 2 (gCons (gName i) (gCons (gName j) gNil)) x σ H Q → gTup K 2 (gCons (gName i) (gCons (gName j) gNil)) x σ H Q' := by
  rintro x σ H Q Q' h ⟨a, xs, e1, e2, e3, v, r, e4, v2, r2, e5, e6, q⟩
  exact ⟨a, xs, e1, e2, e3, v, r, e4, v2, r2, e5, e6, h _ _ q⟩
/-! ### pairs of a length and a word -/
def wL (w : List Int) : PyData := .tuple [.int (w.length : Nat), wD w]
def Lp (H : Hp) (v : V) (w : List Int) : Prop := ∃ a b, v = .ref a ∧ H a = some (.tup [.int (w.length : Nat), .ref b]) ∧ H b = some (.tup (w.map V.int))
theorem Lp.mono {H H' : Hp} {v : V} {w : List Int} (s : Same H H') (h : Lp H v w) : Lp H' v w := by
  obtain ⟨a, b, e, h1, h2⟩ := h
  exact ⟨a, b, e, s _ _ h1, s _ _ h2⟩
theorem Lp.but {D : Addr} {H H' : Hp} {v : V} {w : List Int} (s : But D H H') (h : Lp H v w) : Lp H' v w := by
  obtain ⟨a, b, e, h1, h2⟩ := h
  exact ⟨a, b, e, s.tup h1, s.tup h2⟩
theorem Lp.dp {K : PySem.W.Frag} {H : Hp} {v : V} {w : List Int} (h : Lp H v w) : Dp K H v (wL w) := by
  obtain ⟨a, b, rfl, h1, h2⟩ := h
  exact .tup (SqT.of h1) (.cons (.int _) (.cons (Tp.dp ⟨b, rfl, h2⟩) .nil))
theorem wL_alike (ks : List (List Int)) : PySem.W.AllAlike (ks.map wL) := PySem.W.AllAlike.of fun b b' => by
  show PySem.W.alike (.tuple [.int b.length, .tuple (b.map .int)]) (.tuple [.int b'.length, .tuple (b'.map .int)]) = true
  have h := PySem.W.alike_ints b b'
  simp [PySem.W.alike, PySem.W.alikeAll, h]
theorem wL_sortable (ks : List (List Int)) : PySem.W.Sortable (ks.map wL) := PySem.W.Sortable.tuples fun b => ⟨_, _, rfl⟩
theorem wL_depth (w : List Int) : (wL w).depth ≤ 60 := by
  have := wD_depth w
  unfold wL
  rw [PyData.depth]
  simp only [PyData.depthAll, PyData.depth]
  omega
theorem dataLe_wL : PySem.W.dataLe false wL = leLW := by
  have h1 : ∀ a b : List Int, PySem.W.dataLt (wD b) (wD a) = !decide (a ≤ b) := fun a b => by
    have h := congrFun (congrFun dataLe_wD a) b
    have h : (!PySem.W.dataLt (wD b) (wD a)) = decide (a ≤ b) := h
    rw [← h, Bool.not_not]
  funext p q
  show (!PySem.W.dataLt (.tuple [.int q.length, wD q]) (.tuple [.int p.length, wD p])) = leLW p q
  rw [PySem.W.dataLt_pair (by simp [PySem.W.alike]) (by
    show PySem.W.alike (.tuple (q.map .int)) (.tuple (p.map .int)) = true
    rw [PySem.W.alike]; exact PySem.W.alike_ints q p), h1, eqv_wD, PySem.W.dataLt_int]
  unfold leLW
  by_cases hl : (q.length : Int) = (p.length : Int)
  · have hl' : q.length = p.length := by omega
    have e1 : PyData.eqv (.int (q.length : Nat)) (.int (p.length : Nat)) = true := by simp [PyData.eqv, hl]
    rw [if_pos e1]
    by_cases hq : q = p
    · subst hq; simp
    · simp [hq, hl']
  · have hl' : ¬ q.length = p.length := by omega
    have e1 : ¬ PyData.eqv (.int (q.length : Nat)) (.int (p.length : Nat)) = true := by
      intro h
      have : (q.length : Int) = (p.length : Int) := by simpa [PyData.eqv] using h
      exact hl this
    rw [if_neg e1]
    have hl'' : ¬ p.length = q.length := fun e => hl' e.symm
    simp only [hl'', decide_false, Bool.false_and, Bool.or_false]
    rw [← decide_not]
    congr 1
    rw [eq_iff_iff]
    omega
section
variable {P : Program} {w : World} {K : PySem.W.Frag} {mg : Str → Option Value} {base : Heap}
/-! ### factors_of_unit -/
def kvI (l : List (List Int × Int)) : List (List L2.Key × V) := l.map fun e => (kW e.1, .int e.2)
theorem kW_dec (a b : List Int) : decide (kW a = kW b) = (a == b) := by
  by_cases h : a = b
  · subst h; simp
  · have h2 : ¬ kW a = kW b := fun z => h (kW_inj z)
    simp [h, h2]
theorem kvI_put (l : List (List Int × Int)) (k : List Int) (v : Int) : putK (kvI l) (kW k) (.int v) = kvI (putC l k v) := by
  have ha : ((kvI l).any fun kv => decide (kv.1 = kW k)) = l.any (fun e => e.1 == k) := by
    unfold kvI
    rw [List.any_map]
    congr 1
    funext e
    exact kW_dec e.1 k
  unfold putK putC
  rw [ha]
  split
  · unfold kvI
    rw [List.map_map, List.map_map]
    apply List.map_congr_left
    intro e _
    show (if kW e.1 = kW k then (kW e.1, V.int v) else (kW e.1, .int e.2)) = (kW (if e.1 == k then (k, v) else e).1, .int (if e.1 == k then (k, v) else e).2)
    by_cases h : e.1 = k
    · rw [if_pos (by rw [h]), if_pos (by simpa using h), h]
    · rw [if_neg (fun z => h (kW_inj z)), if_neg (by simpa using h)]
  · unfold kvI
    rw [List.map_append]
    rfl
theorem kvI_val (l : List (List Int × Int)) (k : List Int) : valV (kvI l) (kW k) = (l.find? fun e => e.1 == k).map fun e => V.int e.2 := by
  unfold valV kvI
  rw [List.find?_map, Option.map_map]
  have e : ((fun kv : List L2.Key × V => decide (kv.1 = kW k)) ∘ fun e : List Int × Int => (kW e.1, V.int e.2)) = fun e => e.1 == k := by
    funext e
    exact kW_dec e.1 k
  rw [e]
  rfl
theorem kvI_getD (l : List (List Int × Int)) (k : List Int) : (valV (kvI l) (kW k)).getD (.int 0) = .int (getC l k) := by
  rw [kvI_val]
  unfold getC
  cases l.find? fun e => e.1 == k <;> rfl
theorem invB_ok {a p : Int} (h : invB a p = true) : InvOk a p := by
  obtain ⟨i, hi, e⟩ := List.any_eq_true.mp h
  exact ⟨i, List.mem_range.mp hi, by simpa using e⟩
theorem divB_ok {a b : List Int} {p : Int} (hp : Pr p) (h : divB a b p = true) : DivPre a b p := by
  unfold divB at h
  simp only [Bool.and_eq_true, decide_eq_true_eq, Bool.not_eq_true'] at h
  obtain ⟨⟨⟨h1, h2⟩, h3⟩, h4⟩ := h
  exact ⟨hp, fun e => by rw [e] at h1; simp at h1, invB_ok h2, h3, h4⟩
/-- a factor with its count -/
def Fe (H : Hp) (v : V) (e : List Int × Int) : Prop := ∃ b c, v = .ref b ∧ H b = some (.tup [.ref c, .int e.2]) ∧ H c = some (.tup (e.1.map V.int))
theorem Fe.mono {H H' : Hp} {v : V} {e : List Int × Int} (s : Same H H') (h : Fe H v e) : Fe H' v e := by
  obtain ⟨a, b, q, h1, h2⟩ := h
  exact ⟨a, b, q, s _ _ h1, s _ _ h2⟩
theorem Fe.but {D : Addr} {H H' : Hp} {v : V} {w : List Int × Int} (s : But D H H') (h : Fe H v w) : Fe H' v w := by
  obtain ⟨a, b, e, h1, h2⟩ := h
  exact ⟨a, b, e, s.tup h1, s.tup h2⟩
theorem getC_ok {l : List (List Int × Int)} {k : List Int} (h : k ∈ l.map (·.1)) : ∃ v, valV (kvI l) (kW k) = some (.int v) ∧ v = getC l k := by
  rw [kvI_val]
  obtain ⟨e, he, rfl⟩ := List.mem_map.mp h
  cases hf : l.find? fun x => x.1 == e.1 with
  | none =>
    have := List.find?_eq_none.mp hf e he
    simp at this
  | some x => exact ⟨x.2, rfl, by unfold getC; rw [hf]; rfl⟩
abbrev s_factors_of_unit : Stmt := top 34
theorem sc_factors_of_unit : FnScope ["p", "n", "rest", "found", "low", "factor", "order", "row", "_"] ["p", "n"] (defScope s_factors_of_unit) := ⟨rfl, rfl, rfl, by decide +kernel, rfl, by decide +kernel, by decide +kernel⟩
def sp_factors_of_unit : Sp := fun vs H Q _ => ∃ (p : Int) (n : Nat), vs = [.int p, .int (n : Nat)] ∧ Ring p n ∧ ∀ a us H', Same H H' → H' a = some (.tup us) → Paired (Fe H') us (factors p n) → Q (.ref a) H'
theorem Ring.n {p : Int} {n : Nat} (h : Ring p n) : 1 ≤ n ∧ n ≤ 6 := by
  obtain ⟨h1, h2⟩ := h
  omega
theorem ok_factors_of_unit {f : Addr} {fd : FuncData} (F : Fun K "factors_of_unit" "factors_of_unit" s_factors_of_unit f fd) (T : Txt K mg) (c_divided : Cal P w K mg base 2 "divided" sp_divided []) (c_first_factor : Cal P w K mg base 3 "first_factor" sp_first_factor []) (c_unit_polynomial : Cal P w K mg base 4 "unit_polynomial" sp_unit_polynomial [])  : FnOk P w K mg base CX0 5 f fd ["p", "n"] sp_factors_of_unit := by
  refine F.ok sc_factors_of_unit (fun vs H Q E h => ?_) (fun cdv A outer s H vs Q E hr h => ?_)
  · obtain ⟨p, n, rfl, _⟩ := h
    rfl
  · obtain ⟨p, n, rfl, hring, k⟩ := h
    have hp := hring.pr
    have hp7 := hp.pos
    have hn := hring.n
    have hall := divs_ok hring
    unfold divsB at hall
    simp only [Bool.and_eq_true, decide_eq_true_eq] at hall
    obtain ⟨⟨hfac, hfl⟩, _⟩ := hall
    refine ⟨_, (pss_cons (ps_set (i := 2) sc_factors_of_unit.nd rfl (Or.inl rfl) (pe_c c_unit_polynomial hr (by decide) rfl (pa_cons (pv 0) (pa_cons (pv 1) pa_nil))))
      (pss_cons (ps_set (i := 3) sc_factors_of_unit.nd rfl (Or.inr rfl) pe_dnewT)
      (pss_cons (ps_set (i := 4) sc_factors_of_unit.nd rfl (Or.inl rfl) pe_int)
      (pss_cons (ps_while PassesOwn.never (pt_cmpR op_gt (pe_callB (call_lenK K) (by rfl) T.len PySem.boot_len (pa_cons (pv 2) pa_nil)) pe_int (nomark _))
      (pss_cons (ps_set (i := 5) sc_factors_of_unit.nd rfl (Or.inl rfl) (pe_c c_first_factor hr (by decide) rfl (pa_cons (pv 2) (pa_cons (pv 0) (pa_cons (pv 4) pa_nil)))))
      (pss_cons (ps_set (i := 4) sc_factors_of_unit.nd rfl (Or.inl rfl) (pe_op op_sub (pe_callB (call_lenK K) (by rfl) T.len PySem.boot_len (pa_cons (pv 5) pa_nil)) pe_int))
      (pss_cons (ps_dput (hu_of hr) (pv 3) (pv 5) (pe_op op_add (pe_dget2 (hu_of hr) (pv 3) (pv 5) pe_int ⟨by rfl, by rfl, by rfl, by rfl⟩) pe_int) rfl)
      (pss_one (ps_set (i := 2) sc_factors_of_unit.nd rfl (Or.inl rfl) (pe_ix (ix_tupK K) (pe_c c_divided hr (by decide) rfl (pa_cons (pv 2) (pa_cons (pv 5) (pa_cons (pv 0) pa_nil)))) pe_int (fun _ _ => rfl))))))))
      (pss_cons (ps_set (i := 6) sc_factors_of_unit.nd rfl (Or.inl rfl) (pe_callB (cr_sortedDK K (hu64 hr)) (by rfl) T.sorted (by decide +kernel) (pa_cons (pe_lock (pe_lc (own := [("row", 7)]) (g := gName 7) (tt := tYes) rfl sc_factors_of_unit.nd (pi_keys (pv 3)) (blkOk_by (N := ["p", "n", "rest", "found", "low", "factor", "order", "row", "_"]) (sc := defScope s_factors_of_unit) (by decide +kernel)) (fun _ _ _ _ _ => (pg_name (i := 7) sc_factors_of_unit.nd rfl (Or.inl rfl))) (fun _ _ _ _ _ => pts_nil) (fun _ _ _ _ _ => (pe_tup (pa_cons (pe_callB (call_lenK K) (by rfl) T.len PySem.boot_len (pa_cons (pv 7) pa_nil)) (pa_cons (pv 7) pa_nil)))))) pa_nil)))
      (pss_one (ps_ret (pe_callTy (call_tupK K) (by rfl) T.tuple (by decide +kernel) (pa_cons (pe_lc (own := [("_", 8), ("row", 7)]) (g := gTup K 2 (gCons (gName 8) (gCons (gName 7) gNil))) (tt := tYes) rfl sc_factors_of_unit.nd (pi_list (pv 6)) (blkOk_by (N := ["p", "n", "rest", "found", "low", "factor", "order", "row", "_"]) (sc := defScope s_factors_of_unit) (by decide +kernel)) (fun _ _ _ _ _ => (pg_tup (by rfl) (pgs_cons (pg_name (i := 8) sc_factors_of_unit.nd rfl (Or.inl rfl)) (pgs_cons (pg_name (i := 7) sc_factors_of_unit.nd rfl (Or.inl rfl)) pgs_nil)))) (fun _ _ _ _ _ => pts_nil) (fun _ _ _ _ _ => (pe_tup (pa_cons (pv 7) (pa_cons (pe_dget (hu_of hr) (pv 3) (pv 7) (fun _ _ => rfl)) pa_nil))))) pa_nil))))))))), ?_⟩
    refine ⟨_, rfl, _, rfl, p, n, rfl, hp, hn.1, by omega, fun r0 H0 s0 q0 => ?_⟩
    intro d hd
    have s1 := s0.put hd (o := .dT [])
    have hdn : H d = none := s0.free hd
    refine ⟨fun m σ H' => ∃ (st : FacSt) (rv : V) (x y z u : Option V), σ = [some (.int p), some (.int n), some rv, some (.ref d), some (.int (st.2.2 : Nat)), x, y, z, u] ∧ Same H H' ∧ Tp H' rv st.1 ∧ H' d = some (.dT (kvI st.2.1)) ∧ facB p m st = true ∧ facRun p m st = facRun p 14 (unitPoly p n, [], 1),
      ⟨14, (unitPoly p n, [], 1), r0, _, _, _, _, rfl, s1, q0.mono ((Same.refl _).put hd), upd_same, hfac, rfl⟩, ?_⟩
    rintro m σ H' ⟨⟨rest, found, low⟩, rv, x, y, z, u, rfl, s2, hrv, hdd, hfb, hrun⟩
    obtain ⟨ta, rfl, hta⟩ := id hrv
    refine ⟨_, rfl, ta, _, rfl, .inr (SqT.of hta), _, _, rfl, rfl, _, rfl, ite2 (fun c => ?_) (fun c => ?_)⟩
    · have c1 : 1 < rest.length := by
        have c2 : (1 : Int) < (((rest.map V.int).length : Nat) : Int) := by simpa using c
        rw [List.length_map] at c2
        omega
      cases m with
      | zero => unfold facB at hfb; simp at hfb; omega
      | succ m =>
        unfold facB at hfb
        rw [if_pos c1] at hfb
        simp only [Bool.and_eq_true, decide_eq_true_eq] at hfb
        obtain ⟨⟨⟨⟨⟨b1, b2⟩, b3⟩, b4⟩, b5⟩, b6⟩ := hfb
        have hrun' : facRun p m (facStep p (rest, found, low)) = facRun p 14 (unitPoly p n, [], 1) := by
          rw [← hrun]
          show _ = if 1 < rest.length then _ else _
          rw [if_pos c1]
        refine ⟨fun σ' H2 => ∃ m', m' < m + 1 ∧ ∃ (st : FacSt) (rv : V) (x y z u : Option V), σ' = [some (.int p), some (.int n), some rv, some (.ref d), some (.int (st.2.2 : Nat)), x, y, z, u] ∧ Same H H2 ∧ Tp H2 rv st.1 ∧ H2 d = some (.dT (kvI st.2.1)) ∧ facB p m' st = true ∧ facRun p m' st = facRun p 14 (unitPoly p n, [], 1), fun _ _ q => q, ?_⟩
        refine ⟨_, rfl, _, rfl, _, rfl, .ref ta, rest, p, low, rfl, hrv, hp, b1, b2, b3, fun fv H2 s3 qf => ?_⟩
        have hdv := divB_ok hp b4
        have hff : firstFactor rest p 14 low = facFac p (rest, found, low) := rfl
        rw [hff] at qf
        generalize hfe : facFac p (rest, found, low) = fac at qf hdv
        obtain ⟨tf, rfl, htf⟩ := id qf
        have hfl1 : 1 ≤ fac.length := List.length_pos_iff.mpr hdv.2.1
        refine ⟨_, rfl, tf, _, rfl, .inr (SqT.of htf), _, _, rfl, rfl, ?_⟩
        have e1' : (((fac.map V.int).length : Nat) : Int) - 1 = ((fac.length - 1 : Nat) : Int) := by rw [List.length_map]; omega
        have hdd2 := s3 _ _ hdd
        refine ⟨_, rfl, d, rfl, .inr ⟨_, .of hdd2⟩, _, rfl, _, DGet.t hdd2 (by rw [kW_v]; exact htf), _, _, (by rw [kvI_getD]), rfl, ?_⟩
        refine ⟨_, rfl, _, rfl, d, _, rfl, DPut.t hdd2 (k := kW fac) (by rw [kW_v]; exact htf) (small1000 (by unfold kvI; rw [List.length_map]; exact Nat.le_trans b5 (by omega))), ?_⟩
        rw [kvI_put]
        have s4 : Same H (upd H2 d (.dT (kvI (putC found fac (getC found fac + 1))))) := Same.own (s2.trans s3) hdn
        have htf' : (upd H2 d (.dT (kvI (putC found fac (getC found fac + 1))))) tf = some (.tup (fac.map V.int)) := by rw [upd_ne (ne_of htf hdd2 (fun z => nomatch z))]; exact htf
        have hta2 := s3 _ _ hta
        have hta' : (upd H2 d (.dT (kvI (putC found fac (getC found fac + 1))))) ta = some (.tup (rest.map V.int)) := by rw [upd_ne (ne_of hta2 hdd2 (fun z => nomatch z))]; exact hta2
        refine ⟨_, rfl, _, rfl, _, rfl, .ref ta, .ref tf, rest, fac, p, rfl, ⟨ta, rfl, hta'⟩, ⟨tf, rfl, htf'⟩, hdv, fun r H4 s5 hq => ?_⟩
        obtain ⟨q1, q2, q3, rfl, e1, e2, e3⟩ := hq
        refine ⟨q1, _, 0, _, rfl, rfl, SqT.of e1, rfl, m, Nat.lt_succ_self m, facStep p (rest, found, low), .ref q2, some (.ref tf), y, z, u, ?_, s4.trans s5, ?_, ?_, b6, hrun'⟩
        · have e9 : (facStep p (rest, found, low)).2.2 = fac.length - 1 := by unfold facStep; rw [hfe]
          rw [e9, ← e1']
          rfl
        · unfold facStep
          rw [hfe]
          exact ⟨q2, rfl, e2⟩
        · unfold facStep
          rw [hfe]
          exact s5 _ _ upd_same
    · have c1 : ¬ 1 < rest.length := by
        intro c2
        refine c ?_
        simp
        omega
      have hst : facRun p m (rest, found, low) = (rest, found, low) := by
        cases m with
        | zero => rfl
        | succ m =>
          show (if 1 < rest.length then _ else _) = _
          rw [if_neg c1]
      rw [hst] at hrun
      have hfe : factors p n = (sortBy leLW (found.map (·.1))).map fun w => (w, getC found w) := by
        unfold factors
        rw [← hrun]
      have hfl2 : found.length ≤ 20 := by
        have h1 := hfl
        rw [hfe, List.length_map, (sortBy_perm leLW _).length_eq, List.length_map] at h1
        exact h1
      refine ⟨d, _, hdd, trivial, fun od => ⟨_, rfl, d, od, rfl, .inr ⟨_, upd_same, fun D hD => ?_⟩⟩⟩
      have hw : Walks (Itkt d od (kvI found)) (upd H' d (.frz od (.dT (kvI found)))) (found.map (·.1)).length (fun i x H2 => ∃ w, (found.map (·.1))[i]? = some w ∧ Tp H2 x w) := fun H2 sm => by
        have hz := sm _ _ (upd_same (a := d) (o := HO.frz od (.dT (kvI found))))
        refine ⟨fun i hi => ⟨⟨hz, by unfold kvI; rw [List.length_map]; rw [List.length_map] at hi; exact hi⟩, fun x H3 hy => ?_⟩, hz, by unfold kvI; rw [List.length_map, List.length_map]; exact Nat.le_refl _⟩
        obtain ⟨rfl, k0, v0, q, e1, rfl, e3⟩ := hy
        have hi' : i < found.length := by rw [List.length_map] at hi; exact hi
        unfold kvI at e1
        rw [List.getElem?_map, List.getElem?_eq_getElem hi'] at e1
        cases e1
        rw [kW_v] at e3
        exact ⟨rfl, found[i].1, by rw [List.getElem?_map, List.getElem?_eq_getElem hi']; rfl, q, rfl, e3⟩
      refine lc_map (found.map (·.1)) id Lp hw rfl (small1000 (by rw [List.length_map]; omega)) hD (fun _ _ _ _ b h => h.but b) ?_ ?_
      · rintro i xv zz H2 Q1 ⟨w1, hw1, tw, rfl, htw⟩ hz s5 - q
        rw [hz] at hw1
        cases hw1
        refine ⟨_, rfl, tw, _, rfl, .inr (SqT.of htw), _, rfl, by show 2 ≤ sizeLine; decide, fun t2 ht2 => q _ _ ((Same.refl _).put ht2) ⟨t2, tw, rfl, by rw [upd_same, List.length_map]; rfl, by rw [upd_ne (ne_of_none htw ht2)]; exact htw⟩⟩
      · intro H2 ys s5 hD2 hys
        rw [List.map_id] at hys
        have hfz : H2 d = some (.frz od (.dT (kvI found))) := s5 _ _ upd_same
        refine ⟨hfz, ?_⟩
        have hne : ∀ b o, H2 b = some o → o ≠ .frz od (.dT (kvI found)) → b ≠ d := fun b o e n z => by
          rw [z, hfz] at e
          exact n (Option.some.inj e).symm
        have sH : Same H' (upd H2 d (.dT (kvI found))) := fun b o e => by
          by_cases hb : b = d
          · subst hb
            rw [hdd] at e; cases e
            exact upd_same
          · rw [upd_ne hb]
            exact s5 _ _ (by rw [upd_ne hb]; exact e)
        have hDd : D ≠ d := hne D _ hD2 (fun z => nomatch z)
        have hys2 : Paired (Lp (upd H2 d (.dT (kvI found)))) ys (found.map (·.1)) := Paired.mapP hys fun v z hvz => by
          obtain ⟨e1, e2, rfl, h1, h2⟩ := hvz
          exact ⟨e1, e2, rfl, by rw [upd_ne (hne e1 _ h1 (fun z => nomatch z))]; exact h1, by rw [upd_ne (hne e2 _ h2 (fun z => nomatch z))]; exact h2⟩
        refine ⟨List Int, D, ys, found.map (·.1), wL, Lp (upd H2 d (.dT (kvI found))), rfl, SqL.of (by rw [upd_ne hDd]; exact hD2), hys2, fun v b h => h.dp, wL_alike _, wL_sortable _, fun b _ => wL_depth b, fun zs q hzs hq => ?_⟩
        rw [dataLe_wL, mergeSort_eq ordLW] at hzs
        have sH2 : Same H' (upd (upd H2 d (.dT (kvI found))) q (.lst zs)) := sH.put hq
        have sH3 := s2.trans sH2
        have hdq := sH2 _ _ hdd
        generalize hH9 : upd (upd H2 d (.dT (kvI found))) q (.lst zs) = H9 at sH2 sH3 hdq
        have hq9 : H9 q = some (.lst zs) := by rw [← hH9]; exact upd_same
        have hzs9 : Paired (Lp H9) zs (sortBy leLW (found.map (·.1))) := Paired.mapP hzs fun v z hvz => by rw [← hH9]; exact hvz.mono ((Same.refl _).put hq)
        refine ⟨_, rfl, q, rfl, ⟨zs, SqL.of hq9⟩, fun D2 hD2' => lc_genG (sortBy leLW (found.map (·.1))) (fun w => (w, getC found w)) Fe (walks_list (SqL.of hq9)) (plen hzs9) (small1000 (by rw [plen hzs9, (sortBy_perm leLW _).length_eq, List.length_map]; omega)) hD2' (fun _ _ _ _ b h => h.but b) ?_ ?_ gTup2_mono⟩
        · rintro i xv zz H3 Q1 hx hz s6 - q3
          obtain ⟨w1, hw1, l1, l2, rfl, hl1, hl2⟩ := pget (Paired.mapP hzs9 fun v z h => h.mono s6) hx
          rw [hz] at hw1
          cases hw1
          have hmem : zz ∈ found.map (·.1) := (sortBy_perm leLW _).mem_iff.mp (List.mem_of_getElem? hz)
          obtain ⟨cv, hcv, hce⟩ := getC_ok hmem
          have hd3 := s6 _ _ hdq
          refine ⟨l1, _, rfl, SqT.of hl1, rfl, _, _, rfl, _, _, rfl, rfl, rfl, _, rfl, _, rfl, _, rfl, d, .int cv, rfl, ?_, by show 2 ≤ sizeLine; decide, fun t2 ht2 => q3 _ _ ((Same.refl _).put ht2) ⟨t2, l2, rfl, by rw [upd_same, ← hce], by rw [upd_ne (ne_of_none hl2 ht2)]; exact hl2⟩⟩
          have := DGet.t hd3 (k := kW zz) (b := l2) (by rw [kW_v]; exact hl2)
          rw [hcv] at this
          exact this
        · intro H3 ys3 s6 hD3 hys3
          refine ⟨_, _, rfl, .inl ⟨SqL.of hD3, fun t3 ht3 => ?_⟩⟩
          rw [← hfe] at hys3
          exact k t3 ys3 _ ((sH3.trans s6).put ht3) upd_same (Paired.mapP hys3 fun v e h => h.mono ((Same.refl _).put ht3))
end
end Wk
namespace Wk
open PySem L2
open C8 (Cal Met Mak pe_c pe_mk pe_mt pe_mt0)
section
variable {P : Program} {w : World} {K : PySem.W.Frag} {mg : Str → Option Value} {base : Heap}
/-! ### divisors_of_unit -/
abbrev s_divisors_of_unit : Stmt := top 35
theorem sc_divisors_of_unit : FnScope ["p", "n", "found", "factor", "k", "longer", "layer", "_", "row"] ["p", "n"] (defScope s_divisors_of_unit) := ⟨rfl, rfl, rfl, by decide +kernel, rfl, by decide +kernel, by decide +kernel⟩
def sp_divisors_of_unit : Sp := fun vs H Q _ => ∃ (p : Int) (n : Nat), vs = [.int p, .int (n : Nat)] ∧ Ring p n ∧ ∀ a us H', Same H H' → H' a = some (.tup us) → Tps H' us (divisors p n) → Q (.ref a) H'
theorem wdB_ok {p : Int} {w : List Int} (h : wdB p w = true) : Wd p w := fun x hx => by
  have := List.all_eq_true.mp h x hx
  simpa using this
theorem ok_divisors_of_unit {f : Addr} {fd : FuncData} (F : Fun K "divisors_of_unit" "divisors_of_unit" s_divisors_of_unit f fd) (T : Txt K mg) (c_factors_of_unit : Cal P w K mg base 5 "factors_of_unit" sp_factors_of_unit []) (c_times : Cal P w K mg base 2 "times" sp_times [])  : FnOk P w K mg base CX0 6 f fd ["p", "n"] sp_divisors_of_unit := by
  refine F.ok sc_divisors_of_unit (fun vs H Q E h => ?_) (fun cdv A outer s H vs Q E hr h => ?_)
  · obtain ⟨p, n, rfl, _⟩ := h
    rfl
  · obtain ⟨p, n, rfl, hring, k⟩ := h
    have hp := hring.pr
    have hp7 := hp.pos
    have hn := hring.n
    have hall := divs_ok hring
    unfold divsB at hall
    simp only [Bool.and_eq_true, decide_eq_true_eq] at hall
    obtain ⟨⟨_, hfl⟩, hwide⟩ := hall
    refine ⟨_, (pss_cons (ps_set (i := 2) sc_divisors_of_unit.nd rfl (Or.inl rfl) (pe_lst (pa_cons (pe_tup (pa_cons pe_int pa_nil)) pa_nil)))
      (pss_cons (ps_for PassesOwn.never rfl (pi_tup (pe_c c_factors_of_unit hr (by decide) rfl (pa_cons (pv 0) (pa_cons (pv 1) pa_nil)))) (pg_tup (by rfl) (pgs_cons (pg_name (i := 3) sc_divisors_of_unit.nd rfl (Or.inr rfl)) (pgs_cons (pg_name (i := 4) sc_divisors_of_unit.nd rfl (Or.inl rfl)) pgs_nil)))
      (pss_cons (ps_set (i := 5) sc_divisors_of_unit.nd rfl (Or.inl rfl) (pe_callTy (call_listK K) (by rfl) T.list (by decide +kernel) (pa_cons (pv 2) pa_nil)))
      (pss_cons (ps_set (i := 6) sc_divisors_of_unit.nd rfl (Or.inl rfl) (pe_callTy (call_listK K) (by rfl) T.list (by decide +kernel) (pa_cons (pv 2) pa_nil)))
      (pss_cons (ps_for PassesOwn.never rfl (pi_range1 rfl T.range (pa_cons (pv 4) pa_nil)) (pg_name (i := 7) sc_divisors_of_unit.nd rfl (Or.inl rfl))
      (pss_cons (ps_setLc (i := 6) (own := [("row", 8)]) (g := gName 8) (tt := tYes) rfl sc_divisors_of_unit.nd rfl rfl (sw_true rfl rfl rfl (by decide +kernel)) (pi_list (pv 6)) (blkOk_by (N := ["p", "n", "found", "factor", "k", "longer", "layer", "_", "row"]) (sc := defScope s_divisors_of_unit) (by decide +kernel)) (fun _ _ _ _ _ => (pg_name (i := 8) sc_divisors_of_unit.nd rfl (Or.inl rfl))) (fun _ _ _ _ _ => pts_nil) (fun _ _ _ _ _ => (pe_c c_times hr (by decide) rfl (pa_cons (pv 8) (pa_cons (pv 3) (pa_cons (pv 0) pa_nil))))))
      (pss_one (ps_expr (pe_bm PySem.F.plainAttrs_list PySem.F.slot_list_extend PySem.F.type_list_extend mt_extend (pv 5) (pa_cons (pv 6) pa_nil))))))
      (pss_one (ps_set (i := 2) sc_divisors_of_unit.nd rfl (Or.inl rfl) (pv 5)))))))
      (pss_one (ps_ret (pe_callTy (call_tupK K) (by rfl) T.tuple (by decide +kernel) (pa_cons (pe_lc (own := [("_", 7), ("row", 8)]) (g := gTup K 2 (gCons (gName 7) (gCons (gName 8) gNil))) (tt := tYes) rfl sc_divisors_of_unit.nd (pi_list (pe_callB (cr_sortedDK K (hu64 hr)) (by rfl) T.sorted (by decide +kernel) (pa_cons (pe_lc (own := [("row", 8)]) (g := gName 8) (tt := tYes) rfl sc_divisors_of_unit.nd (pi_list (pv 2)) (blkOk_by (N := ["p", "n", "found", "factor", "k", "longer", "layer", "_", "row"]) (sc := defScope s_divisors_of_unit) (by decide +kernel)) (fun _ _ _ _ _ => (pg_name (i := 8) sc_divisors_of_unit.nd rfl (Or.inl rfl))) (fun _ _ _ _ _ => pts_nil) (fun _ _ _ _ _ => (pe_tup (pa_cons (pe_callB (call_lenK K) (by rfl) T.len PySem.boot_len (pa_cons (pv 8) pa_nil)) (pa_cons (pv 8) pa_nil))))) pa_nil))) (blkOk_by (N := ["p", "n", "found", "factor", "k", "longer", "layer", "_", "row"]) (sc := defScope s_divisors_of_unit) (by decide +kernel)) (fun _ _ _ _ _ => (pg_tup (by rfl) (pgs_cons (pg_name (i := 7) sc_divisors_of_unit.nd rfl (Or.inl rfl)) (pgs_cons (pg_name (i := 8) sc_divisors_of_unit.nd rfl (Or.inl rfl)) pgs_nil)))) (fun _ _ _ _ _ => pts_nil) (fun _ _ _ _ _ => (pv 8))) pa_nil)))))), ?_⟩
    refine ⟨by show 1 ≤ sizeLine; decide, fun e0 he0 => ⟨by show 1 ≤ sizeLine; decide, fun l hl => ?_⟩⟩
    have s1 := ((Same.refl H).put he0 (o := .tup [.int 1])).put hl (o := .lst [.ref e0])
    have hln : H l = none := ((Same.refl H).put he0 (o := .tup [.int 1])).free hl
    refine ⟨_, rfl, _, rfl, p, n, rfl, hring, fun ta us H1 s2 hta hus => ?_⟩
    have s12 := s1.trans s2
    have hl1 : H1 l = some (.lst [.ref e0]) := s2 _ _ upd_same
    have he1 : H1 e0 = some (.tup [.int 1]) := s2 _ _ (by rw [upd_ne (ne_of_none upd_same hl), upd_same])
    refine ⟨ta, rfl, ⟨us, SqT.of hta⟩, for_tup (xs := us) (fun i σ H' => ∃ l' ws x1 x2 x3 x4 x5 x6, σ = [some (.int p), some (.int n), some (.ref l'), x1, x2, x3, x4, x5, x6] ∧ Same H H' ∧ Same H1 H' ∧ H l' = none ∧ H' l' = some (.lst ws) ∧ Tps H' ws (((factors p n).take i).foldl (divWide p) [[1]])) ?_ ?_ ?_ ?_⟩
    · exact ⟨l, _, _, _, _, _, _, _, rfl, s12, Same.refl H1, hln, hl1, .cons ⟨e0, rfl, he1⟩ .nil⟩
    · rintro i σ H' _ ⟨_, _, _, _, _, _, _, _, _, _, s3, _⟩
      exact SqT.of (s3 _ _ hta)
    · rintro i xv σ H' hxv ⟨l', ws, x1, x2, x3, x4, x5, x6, rfl, s3, s13, hl', h1, h2⟩
      obtain ⟨fe, hfe, b, c, rfl, hb, hc⟩ := pget (Paired.mapP hus fun v e h => h.mono s13) hxv
      have hil : i < (factors p n).length := (List.getElem?_eq_some_iff.mp hfe).1
      have hwb := List.all_eq_true.mp hwide i (List.mem_range.mpr hil)
      have hge : (factors p n).getD i ([], 0) = fe := by rw [List.getD_eq_getElem?_getD, hfe]; rfl
      rw [hge] at hwb
      have etk : (factors p n).take (i + 1) = (factors p n).take i ++ [fe] := by rw [List.take_add_one, hfe]; rfl
      generalize hfd : ((factors p n).take i).foldl (divWide p) [[1]] = found at h2 hwb
      unfold wideB at hwb
      simp only [Bool.and_eq_true, decide_eq_true_eq] at hwb
      obtain ⟨⟨k0, k20⟩, hlay⟩ := hwb
      have hlay : ∀ j, j ≤ fe.2.toNat → layB p fe.1 ((List.range j).foldl (fun st _ => divLayer p fe.1 st) (found, found)) = true := fun j hj => List.all_eq_true.mp hlay j (List.mem_range.mpr (Nat.lt_succ_of_le hj))
      refine ⟨b, _, rfl, SqT.of hb, rfl, _, _, rfl, _, _, rfl, rfl, ?_⟩
      refine ⟨_, rfl, l', _, rfl, .inl (SqL.of h1), fun m hm => ?_⟩
      have s4 := s3.put hm (o := .lst ws)
      have hmn : H m = none := s3.free hm
      have hlm : l' ≠ m := ne_of_none h1 hm
      refine ⟨_, rfl, l', _, rfl, .inl (SqL.of (by rw [upd_ne hlm]; exact h1)), fun y hy => ?_⟩
      have s5 := s4.put hy (o := .lst ws)
      have hyn : H y = none := s4.free hy
      have hmy : m ≠ y := ne_of_none upd_same hy
      have s35 : Same H' (upd (upd H' m (.lst ws)) y (.lst ws)) := ((Same.refl H').put hm).put hy
      refine ⟨_, rfl, _, rfl, by omega, by omega, ?_⟩
      refine for_range (lo := 0) (n := fe.2.toNat) (fun j σ H2 => ∃ y us1 us2 x5 x6, σ = [some (.int p), some (.int n), some (.ref l'), some (.ref c), some (.int fe.2), some (.ref m), some (.ref y), x5, x6] ∧ Same H H2 ∧ Same H' H2 ∧ H y = none ∧ m ≠ y ∧ H2 m = some (.lst us1) ∧ H2 y = some (.lst us2) ∧
        Tps H2 us1 ((List.range j).foldl (fun st _ => divLayer p fe.1 st) (found, found)).1 ∧ Tps H2 us2 ((List.range j).foldl (fun st _ => divLayer p fe.1 st) (found, found)).2) ⟨y, ws, ws, _, _, rfl, s5, s35, hyn, hmy, by rw [upd_ne hmy, upd_same], upd_same, Tps.mono s35 h2, Tps.mono s35 h2⟩ ?_ ?_
      · rintro j σ H2 hj ⟨y, us1, us2, x5, x6, rfl, t1, t13, hyn2, hmy2, em, ey, p1, p2⟩
        have hlj := hlay j (by omega)
        have hlj1 := hlay (j + 1) (by omega)
        rw [List.range_succ, List.foldl_append, List.foldl_cons, List.foldl_nil] at hlj1 ⊢
        generalize (List.range j).foldl (fun st _ => divLayer p fe.1 st) (found, found) = st at hlj hlj1 p1 p2 ⊢
        unfold layB at hlj hlj1
        simp only [Bool.and_eq_true, decide_eq_true_eq] at hlj hlj1
        obtain ⟨⟨⟨g1, g2⟩, g3⟩, g4⟩ := hlj
        obtain ⟨⟨⟨g5, _⟩, _⟩, _⟩ := hlj1
        have e1 : (divLayer p fe.1 st).1 = st.1 ++ st.2.map fun r => times r fe.1 p := rfl
        have e2 : (divLayer p fe.1 st).2 = st.2.map fun r => times r fe.1 p := rfl
        rw [e1, List.length_append, List.length_map] at g5
        rw [e1, e2]
        have l1 := plen p1
        have l2 := plen p2
        refine ⟨_, rfl, y, rfl, ⟨_, SqL.of ey⟩, fun D3 hD3 => lc_map st.2 (fun r => times r fe.1 p) Tp (walks_list (SqL.of ey)) l2 (small1000 (by omega)) hD3 Tp.monoD ?_ ?_⟩
        · rintro i3 xv3 z H3 Q1 hx hz t2 - q
          obtain ⟨z', hz', tz⟩ := pget p2 hx
          obtain rfl : z' = z := by rw [hz'] at hz; exact Option.some.inj hz
          have g6 := List.all_eq_true.mp g4 z' (List.mem_of_getElem? hz')
          simp only [Bool.and_eq_true, decide_eq_true_eq] at g6
          exact ⟨_, rfl, _, rfl, _, rfl, _, _, z', fe.1, p, rfl, tz.mono t2, ⟨c, rfl, (t13.trans t2) _ _ hc⟩, hp, wdB_ok g6.1, by omega, by omega, fun r H' s q' => q r H' s q'⟩
        · intro H3 zs t2 eD3 p3
          have l3 := plen p3
          rw [List.length_map] at l3
          have em3 := t2 _ _ em
          have hD3n : H D3 = none := t1.free hD3
          have nmD : m ≠ D3 := ne_of_none em hD3
          refine ⟨_, rfl, .inl ⟨rfl, _, SqL.of em3⟩, _, rfl, m, D3, us1, zs, rfl, rfl, em3, eD3, Nat.le_of_lt (small1000 (by omega)), ?_⟩
          have b9 : But m H3 (upd H3 m (.lst (us1 ++ zs))) := But.upd em3
          have hmn' : H' m = none := hm
          refine ⟨D3, us1 ++ zs, zs, _, _, rfl, Same.own (t1.trans t2) hmn, Same.own (t13.trans t2) hmn', hD3n, nmD, upd_same, by rw [upd_ne nmD.symm]; exact eD3, papp (Paired.mapP (Tps.mono t2 p1) fun _ _ q => q.but b9) (Paired.mapP p3 fun _ _ q => q.but b9), Paired.mapP p3 fun _ _ q => q.but b9⟩
      · rintro σ H2 ⟨y, us1, us2, x5, x6, rfl, t1, t13, hyn2, hmy2, em, ey, p1, p2⟩
        refine ⟨_, rfl, ?_⟩
        rw [etk, List.foldl_append, List.foldl_cons, List.foldl_nil, hfd]
        exact ⟨m, us1, _, _, _, _, _, _, rfl, t1, s13.trans t13, hmn, em, p1⟩
    · rintro σ H' ⟨l', ws, x1, x2, x3, x4, x5, x6, rfl, s3, s13, hl', h1, h2⟩
      rw [plen hus, List.take_length] at h2
      have hdl := divs_len hring
      have ediv : divisors p n = sortBy leLW ((factors p n).foldl (divWide p) [[1]]) := rfl
      rw [ediv, (sortBy_perm leLW _).length_eq] at hdl
      rw [ediv] at k
      generalize (factors p n).foldl (divWide p) [[1]] = found at h2 hdl k
      have lw := plen h2
      refine ⟨_, rfl, l', rfl, ⟨_, SqL.of h1⟩, fun D hD => lc_map found id Lp (walks_list (SqL.of h1)) lw (small1000 (by omega)) hD (fun _ _ _ _ b h => h.but b) ?_ ?_⟩
      · rintro i xv zz H2 Q1 hx hz s5 - q
        obtain ⟨z', hz', tz⟩ := pget h2 hx
        obtain rfl : z' = zz := by rw [hz'] at hz; exact Option.some.inj hz
        obtain ⟨tw, rfl, htw⟩ := tz.mono s5
        refine ⟨_, rfl, tw, _, rfl, .inr (SqT.of htw), _, rfl, by show 2 ≤ sizeLine; decide, fun t2 ht2 => q _ _ ((Same.refl _).put ht2) ⟨t2, tw, rfl, by rw [upd_same, List.length_map]; rfl, by rw [upd_ne (ne_of_none htw ht2)]; exact htw⟩⟩
      · intro H2 ys s5 hD2 hys
        rw [List.map_id] at hys
        refine ⟨List Int, D, ys, found, wL, Lp H2, rfl, SqL.of hD2, hys, fun v b h => h.dp, wL_alike _, wL_sortable _, fun b _ => wL_depth b, fun zs q hzs hq => ?_⟩
        rw [dataLe_wL, mergeSort_eq ordLW] at hzs
        have sq : Same H2 (upd H2 q (.lst zs)) := (Same.refl _).put hq
        have hzs9 : Paired (Lp (upd H2 q (.lst zs))) zs (sortBy leLW found) := Paired.mapP hzs fun v z hvz => hvz.mono sq
        refine ⟨q, rfl, ⟨zs, SqL.of upd_same⟩, fun D2 hD2' => lc_genG (sortBy leLW found) id Tp (walks_list (SqL.of upd_same)) (plen hzs9) (small1000 (by rw [plen hzs9, (sortBy_perm leLW _).length_eq]; omega)) hD2' Tp.monoD ?_ ?_ gTup2_mono⟩
        · rintro i xv zz H3 Q1 hx hz s6 - q3
          obtain ⟨w1, hw1, l1, l2, rfl, hl1, hl2⟩ := pget (Paired.mapP hzs9 fun v z h => h.mono s6) hx
          rw [hz] at hw1
          cases hw1
          exact ⟨l1, _, rfl, SqT.of hl1, rfl, _, _, rfl, _, _, rfl, rfl, rfl, _, rfl, q3 _ _ (Same.refl _) ⟨l2, rfl, hl2⟩⟩
        · intro H3 ys3 s6 hD3 hys3
          rw [List.map_id] at hys3
          refine ⟨_, _, rfl, .inl ⟨SqL.of hD3, fun t3 ht3 => ?_⟩⟩
          exact k t3 ys3 _ (((s3.trans (s5.trans sq)).trans s6).put ht3) upd_same (Paired.mapP hys3 fun v e h => h.mono ((Same.refl _).put ht3))
end
end Wk
namespace Wk
open PySem L2
open C8 (Cal Met Mak pe_c pe_mk pe_mt pe_mt0)
open PySem.W PySem.Calls PyProof.Rows PySem.HandSPX
/-! ### Refused.__init__: super().__init__(reason); self.reason = reason -/
abbrev s_Refused_init : Stmt := inClass (top 4) 0
/-- what the written part says of Refused -/
structure RefTxt (P : Program) (K : Frag) (mg : Str → Option Value) (R fI cc cda : Addr) : Prop where
  oex : OexC K R
  xf : XfC K R
  gR : mg "Refused" = some (.ref R)
  iC : findIn K (.ref R) "__init__" = some (some (.ref fI))
  tI : typeIn K (.ref fI) = some (.type "function")
  noR : findIn K (.ref R) "reason" = some none
  te : exmOne K (.ref R) (.ref R) = some true
  fn : ∃ (oc : Value) (od : Option Addr) (kV doc pm : Value) (an : Option Addr) (ct : Value) (osl : Array (Option Value)),
    K.lookup fI = some ⟨oc, od, .func (ksFn "__init__" "Refused.__init__" (defArgs s_Refused_init) (defBody s_Refused_init) (defScope s_Refused_init) .none kV doc pm an (.ref cda) ct cc), osl⟩
  cd : codeIn K (.ref cda) "Refused.__init__" = true
  code : ∃ (ccl : Value) (cdd : Option Addr) (vs : Array Value) (file : Str) (tf : Tok) (ccs : Array (Option Value)), K.lookup cda = some ⟨ccl, cdd, .fields vs, ccs⟩ ∧ vs[2]? = some (.str file tf) ∧ ((P.main.file : Str) == file) = true
  cell : ∃ (cl : Value) (cld : Option Addr) (csl : Array (Option Value)), K.lookup cc = some ⟨cl, cld, .cell (some (.ref R)), csl⟩
  noS : mg "super" = none
  top : (P.main.scope.names.lookup ("super" : Str)).isSome = false
  op : nsIn K cStatics "thirdparty.any" = some none
  sup : ks_superIn K R R "__init__" = some (some (.builtin "ValueError.__init__"))
  subV : subIn K (.ref R) (.type "ValueError") = some true
  subR : mroIn K R (.ref R) = some true
section
variable {P : Program} {w : World} {A : Around} {E : Value → Shared → Prop} {R' : Result → Shared → Prop} {s : Shared} {K : Frag} {mg : Str → Option Value} {base : Heap} {R fI cc cda : Addr}
theorem call_mw {u e C t0 : Addr} {rest : List Value} {Q : Value → Shared → Prop} {nm q : Str} {N : Addr} {bs bm : List Value} {hdct : Bool} {sn : List Str} {sub : List Value} {ab : Bool} {col : Option Bool} {dd : Option Addr} {k0 k1 k2 k3 k5 : Option Value}
    {h : Heap} {g : Array GenState} {d : Drawn} {t : Nat} {os : OsState}
    (hC : h.get? C = some (excClassObj nm q C N bs bm hdct sn sub ab col dd k0 k1 k2 k3 k5 "ValueError.__new__")) (he : h.get? e = some (excO C t0)) (hu : h.get? u = some (kxs_mw "ValueError.__init__" e)) (hrest : rest.length ≤ sizeLine)
    (hq : ∀ h' t1, (∀ b o, b ≠ e → h.get? b = some o → h'.get? b = some o) → h'.get? e = some (excO C t1) → Q .none ⟨h', g, d, t, os⟩) :
    wpAny (model P w) A (call (.ref u) rest) Q E ⟨h, g, d, t, os⟩ := by
  refine wpAny_call (codeAny_of_tree ?_)
  show wpAny _ A.in1 (callAny (.ref u) ⟨rest, []⟩) _ _ _
  simp only [callAny]
  refine wpAny_bind (wpAny_load hu ?_)
  simp only [kxs_mw, show (Value.type "method-wrapper" == Value.type "method" || Value.type "method-wrapper" == Value.type "builtin_function_or_method" || Value.type "method-wrapper" == Value.type "method-wrapper") = true by decide, if_true]
  refine KFB.if_so (by decide) ?_
  refine wpAny_bind (check_bound_init F.excBase_ValueError.toExcCallFacts hC he rfl ?_)
  refine wpAny_bind (wpAny_pure (wpAny_pure ?_))
  refine ⟨plainId_quiet F.excBase_ValueError.init.plain _, codeAny_builtin F.excBase_ValueError.initEntry ?_⟩
  refine exc_init_tree (cls := .ref C) (t0 := t0) (dv := none) (c2 := .none) (c3 := .none) (b4 := .bool false) he hrest fun h' k e' _ => hq h' _ k e'
theorem ref_init (T : RefTxt P K mg R fI cc cda) {x t0 : Addr} {v : Value} {args : Args} {fd : FuncData} (hfd : ∃ oc od osl, K.lookup fI = some ⟨oc, od, .func fd, osl⟩) (M : Mod K mg base) (kb : ∀ b o, base.get? b = some o → s.heap.get? b = some o) (hx : s.heap.get? x = some (excO R t0)) (hnx : base.get? x = none) (hroom : A.depth < recursionLimit)
    (hb : BindsTo s fd args [("self", .ref x), ("reason", v)])
    (hq : ∀ h' tk dx, (∀ b o, b ≠ x → s.heap.get? b = some o → h'.get? b = some o) → (∃ t1 : Addr, h'.get? x = some { cls := .ref R, dict := some dx, data := .fields #[.ref t1, .none, .none, .none, .bool false, .none] }) → s.heap.objs.size ≤ dx → dx ≠ x →
      h'.Ns1 dx (fun y => if y = "reason" then some v else none) → R' (.ok (.ret .none)) { s with heap := h', toks := tk }) :
    codeAny (model P w) A (.call (.ref fI) args) R' s := by
  obtain ⟨oc, od, kV, doc, pm, an, ct, osl, ho⟩ := T.fn
  obtain ⟨oc', od', osl', ho'⟩ := hfd
  obtain rfl : fd = ksFn "__init__" "Refused.__init__" (defArgs s_Refused_init) (defBody s_Refused_init) (defScope s_Refused_init) .none kV doc pm an (.ref cda) ct cc := by
    rw [ho] at ho'
    cases ho'
    rfl
  obtain ⟨nm, q, N, bs, bm, sn, sub, ab, col, dd, k0, k1, k2, k3, k5, hC, hbm⟩ := T.oex.cls
  have hcl : clsIn K R = some { name := nm, bases := bs, mro := .ref R :: bm, ns := N, qualname := q, hasDict := true, slotNames := sn, subclasses := sub, abstract := ab, collection := col, hasDel := false } := by unfold clsIn; rw [hC] <;> rfl
  have X : K.In s.heap := M.kin.keeps kb
  obtain ⟨ccl, cdd, vs, file, tf, ccs, hcode, hvs, hfile⟩ := T.code
  obtain ⟨cl, cld, csl, hcell⟩ := T.cell
  obtain ⟨mb, hmb1, hmb2⟩ := M.blt
  have hloc : ∀ y ∈ ([("self", .ref x), ("reason", v)] : List (Str × Value)), (defScope s_Refused_init).names.lookup y.1 = some .local := fun y hy => by
    rcases List.mem_cons.mp hy with rfl | hy
    · show (defScope s_Refused_init).names.lookup ("self" : Str) = some NameKind.local
      decide +kernel
    · rcases List.mem_cons.mp hy with rfl | hy
      · show (defScope s_Refused_init).names.lookup ("reason" : Str) = some NameKind.local
        decide +kernel
      · cases hy
  refine ks_codeAny_call_defAt (body := defBody s_Refused_init) hroom (X _ _ ho) rfl (M.nolimit.keeps kb) (codeRec_of X T.cd) rfl hb (show ∀ x ∈ (defScope s_Refused_init).names, x.2 ≠ .cell by decide +kernel) hloc (fun h₁ hns hk₁ => ?_) rfl rfl rfl
  have X₁ : K.In h₁ := X.keeps hk₁
  have hx₁ := hk₁ _ _ hx
  have hL : s.heap.objs.size < h₁.objs.size := hns.lt
  obtain ⟨hh, g, d, t, os⟩ := s
  refine ks_wpAt_execs_cons ?_
  refine ks_wpAt_Expr_any ?_
  refine ks_wpAt_MethodCall ?_
  refine ks_wpAt_super_base (f := fI) (cc := cda) (ar := { arg := "self", annotation := none, pos := ⟨11, 17, 11, 21⟩ }) rfl rfl (by decide) rfl (X₁ _ _ ho) rfl rfl rfl (X₁ _ _ hcode) rfl hvs hfile T.top ?_
  refine ks_loadName_global rfl rfl (loadGlobal_builtin (M.glob.keeps fun b o e => hk₁ b o (kb b o e)) T.noS (hmb1.keeps fun b o e => hk₁ b o (kb b o e)) ((hmb2 "super" (by decide)).trans (by first | boot_by_name | kernel_rfl | rfl)) ⟨rfl, ?_⟩)
  refine wpAny_loadName_free (c := cc) rfl rfl rfl ⟨_, X₁ _ _ hcell, rfl⟩ ?_
  refine wpAny_loadName_local (v := .ref x) rfl rfl hns (by first | rfl | kernel_rfl) ?_
  refine ks_wpAny_isType_cls (X₁ _ _ hC) rfl ⟨rfl, ?_⟩
  refine ks_wpAny_call_super (X₁ _ _ hC) rfl hx₁ rfl (fun c e => by cases e) (looks_mroIn X₁ T.subR) (fun h₂ e₂ kk₂ => ?_)
  have X₂ : K.In h₂ := X₁.keeps kk₂
  have hsz : h₁.objs.size < h₂.objs.size := Heap.lt_size e₂
  refine kxs_getMethod kxs_ValueError e₂ (looks_opaque X₂ T.op) (l₀ := .ref R :: bm) (fun A Q E s k q => wpAny_bind ((looks_clsIn X₂ hcl) A _ E s k (wpAny_pure q))) rfl X₂ ?_ ?_ ?_ (by decide) ?_
  · have := T.sup
    unfold ks_superIn at this
    rw [hcl] at this
    exact this
  · exact (show InstAt h₂ x (excO R t0) R none from ⟨kk₂ _ _ hx₁, rfl, rfl, trivial⟩).type.andThen (looks_subIn X₂ T.subV)
  · intro z
    rw [z] at hnx
    have := M.kin _ _ hC
    rw [this] at hnx
    cases hnx
  have hx₂ := kk₂ _ _ hx₁
  have k₃ : ∀ b o, h₂.get? b = some o → (h₂.push (kxs_mw "ValueError.__init__" x)).get? b = some o := fun b o e => Heap.get?_push_of_some _ e
  have X₃ : K.In (h₂.push (kxs_mw "ValueError.__init__" x)) := X₂.keeps k₃
  have hu₃ : (h₂.push (kxs_mw "ValueError.__init__" x)).get? h₂.objs.size = some (kxs_mw "ValueError.__init__" x) := Heap.get?_push_at rfl rfl
  refine kxs_callWith (i := "ValueError.__init__") (x := x) (by first | rfl | decide | kernel_rfl) ?_
  refine evalArgs_plain (rest := []) ?_
  refine Calls.spliced_cons ?_
  refine wpAny_Name (wpAny_loadName_local (v := v) rfl rfl (hns.keeps fun b o e => k₃ b o (kk₂ b o e)) (by first | rfl | kernel_rfl) ?_) (by decide)
  refine Calls.spliced_nil ⟨hu₃, ?_⟩
  show wpAny _ _ (call (.ref h₂.objs.size) [v]) _ _ _
  refine call_mw (X₃ _ _ hC) (k₃ _ _ hx₂) hu₃ (by show 1 ≤ sizeLine; decide) fun h₄ t1 kk₄ hx₄ => ?_
  have kk₅ : ∀ b o, b ≠ x → hh.get? b = some o → h₄.get? b = some o := fun b o hb e => kk₄ b o hb (k₃ b o (kk₂ b o (hk₁ b o e)))
  have X₄ : K.In h₄ := fun b o e => kk₅ b o (fun z => by rw [z] at e; have := M.kin _ _ e; rw [this] at hnx; cases hnx) (X b o e)
  have xL : x ≠ hh.objs.size := Nat.ne_of_lt (Heap.lt_size hx)
  have hns₄ : h₄.Ns hh.objs.size (fun y => ([("self", .ref x), ("reason", v)] : List (Str × Value)).reverse.lookup y) := by
    obtain ⟨oL, es, ep, hL1, r⟩ := hns.keeps (fun b o e => k₃ b o (kk₂ b o e))
    exact ⟨oL, es, ep, kk₄ _ _ xL.symm hL1, r⟩
  refine wpAt_of_wpAny ?_
  show wpAny _ _ (execs _ _) _ _ _
  refine wpAny_execs_cons (plainObj_wpAny_Assign_Attribute ?_)
  refine wpAny_Name (wpAny_loadName_local (v := v) rfl rfl hns₄ (by first | rfl | kernel_rfl) ?_) (by decide)
  refine wpAny_Name (wpAny_loadName_local (v := .ref x) rfl rfl hns₄ (by first | rfl | kernel_rfl) ?_) (by decide)
  refine set_plain X₄ (ox := excO R t1) (od := none) ⟨hx₄, rfl, rfl, trivial⟩ T.oex.sa ?_
  refine exc_osa X₄ hx₄ hcl (show refsVE (.ref R :: bm) = true from hbm) rfl T.noR (fun h₅ tk₅ dx k₅ dn dne hx₅ hn₅ => ?_)
  show wpAny _ _ (execs _ _) _ _ _
  have hL4 : hh.objs.size < h₄.objs.size := hns₄.lt
  exact wpAny_execs_nil (hq h₅ tk₅ dx (fun b o hb e => k₅ b o hb (kk₅ b o hb e)) ⟨t1, hx₅⟩ (Nat.le_of_lt (Nat.lt_of_lt_of_le hL4 dn)) dne hn₅)
def sp_Refused_init (R : Addr) : Sp := fun vs H Q _ => ∃ a v, vs = [.ref a, v] ∧ H a = some (exo a R none) ∧ ∀ dx, H dx = none → dx ≠ a → Q .non (upd (upd H dx (exd dx [("reason", v)])) a (exo a R (some dx)))
theorem ok_Refused_init {fd : FuncData} {k : Nat} (T : RefTxt P K mg R fI cc cda) (hfd : ∃ oc od osl, K.lookup fI = some ⟨oc, od, .func fd, osl⟩) : FnOk P w K mg base L2.CX0 (k + 1) fI fd ["self", "reason"] (sp_Refused_init R) := by
  refine ⟨fun vs H Q E h => ?_, fun A outer s H args us vs Q E hr e0 hb r hsp => ?_⟩
  · obtain ⟨a, v, rfl, _⟩ := h
    rfl
  · obtain ⟨x, y, rfl, e, hq⟩ := hsp
    cases r with
    | @cons _ u0 _ ur ra rw' =>
      obtain rfl : u0 = Value.ref x := ra
      obtain ⟨u, rfl, ru⟩ := Vals.one rw'
      obtain ⟨t1, hx⟩ := exo_at e0.hok e
      have hnx : base.get? x = none := by
        cases z : base.get? x with
        | none => rfl
        | some o =>
          have := (e0.bs _ _ z).2
          rw [e] at this
          cases this
      refine ref_init (fd := fd) (base := base) (t0 := t1) (v := u) T hfd e0.mod (fun b o z => (e0.bs b o z).1) hx hnx hr.depth hb (fun h' tk dx k hx' dn dne hn => ?_)
      obtain ⟨t2, hx'⟩ := hx'
      obtain ⟨hp, g, d, t, os⟩ := s
      have hnd : H dx = none := e0.hok.fresh dn
      have nd : ∀ {b : Addr} {o : Obj}, hp.get? b = some o → b ≠ dx := fun {b o} q => Nat.ne_of_lt (Nat.lt_of_lt_of_le (Heap.lt_size q) dn)
      have na : ∀ {b : Addr}, H b = none → b ≠ x := fun {b} n z => by
        rw [z, e] at n
        cases n
      have Un1 : Un (frs outer) [] H (upd (upd H dx (exd dx [("reason", y)])) x (exo x R (some dx))) hp h' := {
        keep := fun b o q n _ _ => k b o (na n) q
        slot := fun b o q n _ _ => ⟨o.slots, k b o (na n) q⟩
        free := fun b o q n _ => by rw [upd_ne (na n), upd_ne (nd q)]; exact n
        there := fun b o q _ => by
          by_cases hb : b = x
          · exact ⟨_, by rw [hb]; exact hx'⟩
          · exact ⟨o, k b o hb q⟩
        tups := fun b xs q => by rw [upd_ne (at_ne e q exo_tup), upd_ne (ne_of_none q hnd)]; exact q
        frzs := fun b o v q => by rw [upd_ne (at_ne e q exo_frz), upd_ne (ne_of_none q hnd)]; exact q
        tbls := fun b ps q => ⟨#[], by rw [upd_ne (at_ne e q exo_tbl), upd_ne (ne_of_none q hnd), q]; simp⟩ }
      refine ⟨.non, _, rfl, e0.bare, Un1, fun b o q => ?_, rfl, hq dx hnd dne⟩
      by_cases hb : b = x
      · subst hb
        rw [upd_same] at q
        cases q
        exact exo_ok hx'
      · rw [upd_ne hb] at q
        by_cases hd : b = dx
        · subst hd
          rw [upd_same] at q
          cases q
          exact exd_ok hn (relO_put (fs := []) ru fun g => True.intro)
        · rw [upd_ne hd] at q
          exact (e0.hok b o q).stay (fun c v hc z => k c v (by
              rcases hc with hc | hc
              · rw [hc]
                exact hb
              · exact at_ne e hc exo_own) z)
            (fun c hc => by rw [upd_ne (at_ne e hc exo_own), upd_ne (ne_of_none hc hnd)]; exact hc) (fun c xs hc => by rw [upd_ne (at_ne e hc exo_tup), upd_ne (ne_of_none hc hnd)]; exact hc)
end
end Wk
namespace Wk
open PySem L2
open C8 (Cal Met Mak pe_c pe_mk pe_mt pe_mt0)
/-! ### defs that may raise -/
structure CalE (P : Program) (w : World) (K : PySem.W.Frag) (mg : Str → Option Value) (base : Heap) (k : Nat) (x : Str) (sp : Sp) : Prop where
  ex : ∃ (f : Addr) (fd : FuncData) (ps : List Str), FnOk P w K mg base (L2.CX P w) k f fd ps sp ∧ mg x = some (.ref f) ∧ PySem.W.keepIn K (.ref f) = true ∧ Binds K fd ps []
section
variable {X : Cx} {k j : Nat} {x : Str} {sp : Sp} {p pos apos : Pos} {e o : Expr} {es : List Expr} {ta : TE} {t : TA} {W : WX}
theorem pe_cE0 (c : CalE X.prog X.w X.K X.mg X.base k x sp) (hr : Room j X.A) (hk : k ≤ j) (hg : Gl X x) (ha : PA X (e :: es) t)
    (hdb : (x == ("__debug__" : Str)) = false := by decide) (he : starEach (e :: es) X.env = (false, eval e X.env) :: starEach es X.env := by rfl) (hpl : (backTo pos (starEach es X.env)).any (·.1) = false := by rfl) :
    PE X (.Call (.Name x p) (e :: es) [] pos) (tCall sp [] L2.E0 t) := by
  obtain ⟨f, fd, ps, F, hm, kp, b⟩ := c.ex
  exact pe_call F (hr.mono hk) hg hm kp b .nil passL ha hdb he hpl
theorem pe_cE (c : CalE X.prog X.w X.K X.mg X.base k x sp) (hr : Room j X.A) (hk : k ≤ j) (tk : Takes X W) (hg : Gl X x) (ha : PA X (e :: es) t)
    (hdb : (x == ("__debug__" : Str)) = false := by decide) (he : starEach (e :: es) X.env = (false, eval e X.env) :: starEach es X.env := by rfl) (hpl : (backTo pos (starEach es X.env)).any (·.1) = false := by rfl) :
    PE X (.Call (.Name x p) (e :: es) [] pos) (tCallS sp (WE W) t) := by
  obtain ⟨f, fd, ps, F, hm, kp, b⟩ := c.ex
  exact pe_callS F (hr.mono hk) hg hm kp b (fun σ => passAt tk σ) ha hdb he hpl
end
/-- what the written part says of Malformed -/
structure MalTxt (K : PySem.W.Frag) (mg : Str → Option Value) (M : Addr) : Prop where
  gM : mg "Malformed" = some (.ref M)
  q : PySem.W.excIn K M [.type "ValueError", .type "Exception", .type "BaseException", .type "object"] "ValueError.__new__" = true
  kM : PySem.W.keepIn K (.ref M) = true
  exM : PySem.W.subIn K (.ref M) (.type "BaseException") = some true
  tyM : PySem.W.typeIn K (.ref M) = some (.type "type")
  te : PySem.W.exmOne K (.ref M) (.ref M) = some true
section
variable {X : Cx} {R fI cc cda M : Addr} {p p2 pos : Pos} {m : Str} {j k : Nat}
theorem pmk_mal (T : MalTxt X.K X.mg M) (hg : Gl X "Malformed") : PMk X (.Call (.Name "Malformed" p) [.Constant (.str m) j p2] [] pos) (fun _ H Q => Q (.ref M) none H) :=
  pmk_own F.excBase_ValueError T.q T.gM T.kM (raises_own T.exM T.tyM) hg
theorem pmk_ref (T : RefTxt X.prog X.K X.mg R fI cc cda) (hr : Room (k + 2) X.A) (hg : Gl X "Refused") :
    PMk X (.Call (.Name "Refused" p) [.Constant (.str m) j p2] [] pos) (fun _ H Q => ∀ d, H d = none → Q (.ref R) (some d) (upd H d (.xd [("reason", .str m)]))) := by
  obtain ⟨oc, od, kV, doc, pm, an, ct, osl, ho⟩ := T.fn
  have b : Binds X.K (PySem.W.ksFn "__init__" "Refused.__init__" (defArgs s_Refused_init) (defBody s_Refused_init) (defScope s_Refused_init) .none kV doc pm an (.ref cda) ct cc) ["self", "reason"] [] := .all fun us hl => match us, hl with | [_, _], _ => rfl
  have h := pmk_oex (X := X) (x := "Refused") (p := p) (pos := pos) (k := k + 1) T.oex T.iC T.tI (ok_Refused_init (k := k) T ⟨oc, od, osl, ho⟩) hr b .nil pass0 hg T.gR (pa_cons (e := .Constant (.str m) j p2) pe_str pa_nil)
  intro pins s σ H Q I hq
  refine h pins s σ H Q I ⟨by show 1 ≤ 1000; decide, fun a ha => ⟨a, .str m, rfl, upd_same, fun dx hdx hda => ⟨rfl, dx, [("reason", .str m)], upd_same, by rw [upd_ne hda]; exact upd_same, by rw [upd_ne hda] at hdx; exact hdx, ?_⟩⟩⟩
  have hdx' : H dx = none := by rw [upd_ne hda] at hdx; exact hdx
  have e : upd (del (upd (upd (upd H a (exo a R none)) dx (exd dx [("reason", .str m)])) a (exo a R (some dx))) a) dx (.xd [("reason", .str m)]) = upd H dx (.xd [("reason", .str m)]) := by
    funext b
    by_cases hb : b = dx
    · subst hb
      rw [upd_same, upd_same]
    · rw [upd_ne hb, upd_ne hb]
      by_cases hba : b = a
      · subst hba
        rw [del_same, ha]
      · rw [del_ne hba, upd_ne hba, upd_ne hb, upd_ne hba]
  show Q (.ref R) (some dx) (upd (del _ a) dx _)
  rw [e]
  exact hq dx hdx'
end
end Wk
namespace Wk
open PySem L2
open C8 (Cal Met Mak pe_c pe_mk pe_mt pe_mt0)
section
variable {P : Program} {w : World} {K : PySem.W.Frag} {mg : Str → Option Value} {base : Heap}
/-! ### cyclic_code -/
theorem unitPoly_len (p : Int) {n : Nat} (h : 1 ≤ n) : (unitPoly p n).length = n + 1 := by
  unfold unitPoly
  simp
  omega
/-- a divisor that is as it should be -/
structure CycPre (p : Int) (n : Nat) (g : List Int) : Prop where
  one : 1 ≤ g.length
  le : g.length ≤ n + 1
  pow : powI p (n + 1 - g.length) ≤ 4096
  pre : CodePre p n (genRows n g)
abbrev s_cyclic_code : Stmt := top 38
theorem sc_cyclic_code : FnScope ["p", "n", "g", "unit", "k", "rows", "i"] ["p", "n", "g"] (defScope s_cyclic_code) := ⟨rfl, rfl, rfl, by decide +kernel, rfl, by decide +kernel, by decide +kernel⟩
def sp_cyclic_code (C M : Addr) : Sp := fun vs H Q E => ∃ vg p n b, vs = [.int p, .int (n : Nat), vg] ∧ Pr p ∧ 1 ≤ n ∧ n ≤ 12 ∧ DArg H vg (unitPoly p n) p b ∧ (b = false → ∀ H', Same H H' → E (.ref M) none H') ∧
  (b = true → ∃ g, Tp H vg g ∧ CycPre p n g ∧ ∀ v H', Same H H' → CdV C H' v (cyclicCode p n g) → Q v H')
theorem DArg.mono {H H' : Hp} {v : V} {u : List Int} {p : Int} {b : Bool} (s : Same H H') (h : DArg H v u p b) : DArg H' v u p b := by
  rcases h with ⟨g, h1, h2, h3⟩ | ⟨h1, h2 | ⟨a, xs, h2, h3⟩ | ⟨a, h2, h3⟩⟩
  · exact .inl ⟨g, h1.mono s, h2, h3⟩
  · exact .inr ⟨h1, .inl h2⟩
  · exact .inr ⟨h1, .inr (.inl ⟨a, xs, h2, s _ _ h3⟩)⟩
  · exact .inr ⟨h1, .inr (.inr ⟨a, h2, s _ _ h3⟩)⟩
theorem ok_cyclic_code {f : Addr} {fd : FuncData} (F : Fun K "cyclic_code" "cyclic_code" s_cyclic_code f fd) (T : Txt K mg) {C M R fI cc cda : Addr} (hC : CodeC K C) (TM : MalTxt K mg M) (TR : RefTxt P K mg R fI cc cda) (c_Code : Mak P w K mg base 4 "Code" C (sp_Code___init__ C) []) (c_is_divisor : Cal P w K mg base 3 "is_divisor" sp_is_divisor []) (c_power : Cal P w K mg base 1 "power" sp_power []) (c_unit_polynomial : Cal P w K mg base 4 "unit_polynomial" sp_unit_polynomial [])  : FnOk P w K mg base (L2.CX P w) 6 f fd ["p", "n", "g"] (sp_cyclic_code C M) := by
  refine F.okX sc_cyclic_code (fun vs H Q E h => ?_) (fun cdv A outer s H vs Q E hr h => ?_)
  · obtain ⟨vg, p, n, b, rfl, _⟩ := h
    rfl
  · obtain ⟨vg, p, n, b, rfl, hp, hn1, hn2, hd, kE, kQ⟩ := h
    have hp7 := hp.pos
    refine ⟨_, (pss_cons (ps_set (i := 3) sc_cyclic_code.nd rfl (Or.inl rfl) (pe_c c_unit_polynomial hr (by decide) rfl (pa_cons (pv 0) (pa_cons (pv 1) pa_nil))))
      (pss_cons (ps_if (pt_not (pt_val (pe_c c_is_divisor hr (by decide) rfl (pa_cons (pv 3) (pa_cons (pv 2) (pa_cons (pv 0) pa_nil)))))) (pss_one (ps_raise rfl (takes_of rfl rfl rfl rfl) (pmk_mal TM rfl))) pss_nil)
      (pss_cons (ps_set (i := 4) sc_cyclic_code.nd rfl (Or.inr rfl) (pe_op op_sub (pe_op op_add (pv 1) pe_int) (pe_callB (call_lenK K) (by rfl) T.len PySem.boot_len (pa_cons (pv 2) pa_nil))))
      (pss_cons (ps_if (pt_cmpR op_gt (pe_c c_power hr (by decide) rfl (pa_cons (pv 0) (pa_cons (pv 4) pa_nil))) (C8.pe_gc rfl T.gW) (nomark _)) (pss_one ps_never) pss_nil)
      (pss_cons (ps_setLc (i := 5) (own := [("i", 6)]) (g := gName 6) (tt := tYes) rfl sc_cyclic_code.nd rfl rfl (sw_true rfl rfl rfl (by decide +kernel)) (pi_range1 rfl T.range (pa_cons (pv 4) pa_nil)) (blkOk_by (N := ["p", "n", "g", "unit", "k", "rows", "i"]) (sc := defScope s_cyclic_code) (by decide +kernel)) (fun _ _ _ _ _ => (pg_name (i := 6) sc_cyclic_code.nd rfl (Or.inl rfl))) (fun _ _ _ _ _ => pts_nil) (fun _ _ _ _ _ => (pe_op (op_catAK K) (pe_op (op_catAK K) (pe_op (op_repTAK K) (pe_tup (pa_cons pe_int pa_nil)) (pv 6)) (pv 2)) (pe_op (op_repTAK K) (pe_tup (pa_cons pe_int pa_nil)) (pe_op op_sub (pe_op op_sub (pv 4) pe_int) (pv 6))))))
      (pss_one (ps_ret (pe_mk c_Code hr (by decide) rfl (pa_cons (pv 0) (pa_cons (pv 1) (pa_cons (pv 5) pa_nil))))))))))), ?_⟩
    refine ⟨_, rfl, _, rfl, p, n, rfl, hp, hn1, hn2, fun vu H1 s1 hu => ?_⟩
    refine ⟨_, rfl, _, rfl, _, rfl, vu, vg, unitPoly p n, p, b, rfl, hu, hp, by rw [unitPoly_len p hn1]; omega, hd.mono s1, fun H2 s2 => ⟨_, rfl, ?_⟩⟩
    cases b with
    | false => exact ite2 (fun _ => kE rfl _ (s1.trans s2)) (fun c => absurd rfl c)
    | true =>
      refine ite2 (fun c => by simp at c) (fun _ => ?_)
      obtain ⟨g, ⟨t, rfl, ht⟩, hc, k⟩ := kQ rfl
      have g1 := hc.one
      have g2 := hc.le
      have s3 := s1.trans s2
      refine ⟨_, rfl, _, _, rfl, rfl, _, rfl, t, _, rfl, .inr (SqT.of (s3 _ _ ht)), _, _, rfl, rfl, ?_⟩
      rw [List.length_map]
      have en : ((n : Nat) : Int) + 1 - ((g.length : Nat) : Int) = ((n + 1 - g.length : Nat) : Int) := by omega
      show gName 4 (V.int (((n : Nat) : Int) + 1 - ((g.length : Nat) : Int))) _ _ _
      rw [en]
      have hpow := hc.pow
      have hpre := hc.pre
      have egen : genRows n g = (List.range (n + 1 - g.length)).map fun i => List.replicate i 0 ++ g ++ List.replicate (n + 1 - g.length - 1 - i) 0 := rfl
      generalize hm : n + 1 - g.length = m at hpow egen
      refine ⟨_, rfl, _, rfl, p, m, rfl, by omega, by omega, by omega, _, _, rfl, rfl, _, rfl, ite2 (fun c => ?_) (fun _ => ?_)⟩
      · simp at c; omega
      refine ⟨_, rfl, _, rfl, by omega, by omega, ?_⟩
      have em : ((m : Nat) : Int).toNat = m := by omega
      rw [em]
      refine fun D hD => lc_map (List.range m) (fun i => List.replicate i 0 ++ g ++ List.replicate (m - 1 - i) 0) Tp walks_range (by simp) (small1000 (by omega)) hD Tp.monoD ?_ ?_
      · rintro i xv z H3 Q1 hx hz s4 - q
        obtain ⟨hzl, hze⟩ := List.getElem?_eq_some_iff.mp hz
        have hzi : z = i := by rw [← hze, List.getElem_range]
        subst hzi
        have him : z < m := by simpa using hzl
        subst hx
        refine ⟨by show 1 ≤ sizeLine; decide, fun t1 ht1 => ⟨_, rfl, ?_⟩⟩
        have s6 : Same H3 (upd H3 t1 (.tup [.int 0])) := (Same.refl H3).put ht1
        show rRepTA K (V.ref t1) (V.int (0 + (z : Nat))) _ _
        rw [show (0 : Int) + ((z : Nat) : Int) = ((z : Nat) : Int) by omega]
        refine rep_tp ⟨t1, rfl, upd_same⟩ (by omega) fun r1 H4 s7 q1 => ⟨_, rfl, ?_⟩
        have s8 := s6.trans s7
        refine cat_tp q1 ⟨t, rfl, ((s3.trans s4).trans s8) _ _ ht⟩ (by rw [List.length_replicate]; omega) fun r2 H5 s9 q2 => ⟨by show 1 ≤ sizeLine; decide, fun t2 ht2 => ?_⟩
        have s10 : Same H5 (upd H5 t2 (.tup [.int 0])) := (Same.refl H5).put ht2
        refine ⟨_, rfl, _, _, rfl, rfl, _, rfl, _, _, rfl, rfl, ?_⟩
        show rRepTA K (V.ref t2) (V.int (((m : Nat) : Int) - 1 - ((z : Nat) : Int))) _ _
        rw [show ((m : Nat) : Int) - 1 - ((z : Nat) : Int) = ((m - 1 - z : Nat) : Int) by omega]
        refine rep_tp ⟨t2, rfl, upd_same⟩ (by omega) fun r3 H6 s11 q3 => ?_
        refine cat_tp (q2.mono (s10.trans s11)) q3 (by simp only [List.length_append, List.length_replicate]; omega) fun r4 H7 s12 q4 => ?_
        exact q _ _ ((((s8.trans s9).trans s10).trans s11).trans s12) q4
      · intro H3 us s4 hD3 hus
        rw [← egen] at hus
        refine ⟨_, rfl, _, rfl, _, rfl, fun x dx hx hdx hne => ?_⟩
        have s5 : Same H3 (upd (upd H3 dx (.own x)) x (.ins C dx [])) := ((Same.refl H3).put hdx).put (by rw [upd_ne hne.symm]; exact hx)
        refine ⟨x, dx, .ref D, genRows n g, n, p, rfl, upd_same, ⟨D, us, rfl, .inl (s5 _ _ hD3), Tps.mono s5 hus⟩, hpre, fun H4 k4 hcv => ⟨rfl, k _ _ (fun b o e => ?_) hcv⟩⟩
        have e3 := (s3.trans s4) _ _ e
        refine k4 b o (fun z => by rw [z, hx] at e3; cases e3) ((s5 _ _ e3))
/-! ### all_cyclic -/
theorem CdV.but {D : Addr} {C : Addr} {H H' : Hp} {v : V} {c : Cd} (b : But D H H') (h : CdV C H v c) : CdV C H' v c := by
  obtain ⟨a, dx, t, q, us, e, h1, h2, h3, h4⟩ := h
  obtain ⟨⟨l, hl⟩, k⟩ := b
  have b' : But D H H' := ⟨⟨l, hl⟩, k⟩
  exact ⟨a, dx, t, q, us, e, k _ _ (ne_of h1 hl (fun z => nomatch z)) h1, b'.tup h2, Paired.mapP h3 fun _ _ q => q.but b', b'.tup h4⟩
theorem ring_pow {p : Int} {n : Nat} (r : Ring p n) : ∀ k, k ≤ n → powI p k ≤ 4096 := fun k hk => by
  have := ring_all (f := fun x => (List.range (x.2 + 1)).all fun k => decide (powI x.1 k ≤ 4096)) (by decide +kernel) r
  simpa using List.all_eq_true.mp this k (List.mem_range.mpr (Nat.lt_succ_of_le hk))
theorem Ring.code {p : Int} {n : Nat} (r : Ring p n) {rows : List (List Int)} (hl : rows.length ≤ 1000) (hw : ∀ r ∈ rows, Wn p n r) : CodePre p n rows :=
  ⟨r.pr, by have := r.n; omega, hl, hw, ring_pow r _ (redRun_ri r.pr hw n (Nat.le_refl _)).flen⟩
def dvB (p : Int) (n : Nat) (g : List Int) : Bool := decide (1 ≤ g.length) && decide (g.length ≤ n + 1) && wdB p g && isDivisor (unitPoly p n) g p
theorem divs_dv {p : Int} {n : Nat} (r : Ring p n) : ∀ g ∈ divisors p n, 1 ≤ g.length ∧ g.length ≤ n + 1 ∧ Wd p g ∧ isDivisor (unitPoly p n) g p = true := fun g hg => by
  have := ring_all (f := fun x => (divisors x.1 x.2).all fun g => dvB x.1 x.2 g) (by decide +kernel) r
  have := List.all_eq_true.mp this g hg
  unfold dvB at this
  simp only [Bool.and_eq_true, decide_eq_true_eq] at this
  exact ⟨this.1.1.1, this.1.1.2, wdB_ok this.1.2, this.2⟩
theorem Ring.cyc {p : Int} {n : Nat} (r : Ring p n) {g : List Int} (hg : g ∈ divisors p n) : CycPre p n g := by
  obtain ⟨h1, h2, h3, _⟩ := divs_dv r g hg
  have := r.n
  exact ⟨h1, h2, ring_pow r _ (by omega), r.code (by unfold genRows; rw [List.length_map, List.length_range]; omega) (genRows_wn r.pr h3 h1)⟩
abbrev s_all_cyclic : Stmt := top 40
theorem sc_all_cyclic : FnScope ["p", "n", "found", "g"] ["p", "n"] (defScope s_all_cyclic) := ⟨rfl, rfl, rfl, by decide +kernel, rfl, by decide +kernel, by decide +kernel⟩
def sp_all_cyclic (C : Addr) : Sp := fun vs H Q _ => ∃ (p : Int) (n : Nat), vs = [.int p, .int (n : Nat)] ∧ Ring p n ∧ ∀ a us H', Same H H' → H' a = some (.tup us) → Paired (CdV C H') us ((divisors p n).map (cyclicCode p n)) → Q (.ref a) H'
theorem ok_all_cyclic {f : Addr} {fd : FuncData} (F : Fun K "all_cyclic" "all_cyclic" s_all_cyclic f fd) (T : Txt K mg) {C M R fI cc cda : Addr} (hC : CodeC K C) (TM : MalTxt K mg M) (TR : RefTxt P K mg R fI cc cda) (c_cyclic_code : CalE P w K mg base 6 "cyclic_code" (sp_cyclic_code C M)) (c_divisors_of_unit : Cal P w K mg base 6 "divisors_of_unit" sp_divisors_of_unit []) (c_power : Cal P w K mg base 1 "power" sp_power [])  : FnOk P w K mg base CX0 7 f fd ["p", "n"] (sp_all_cyclic C) := by
  refine F.ok sc_all_cyclic (fun vs H Q E h => ?_) (fun cdv A outer s H vs Q E hr h => ?_)
  · obtain ⟨p, n, rfl, _⟩ := h
    rfl
  · obtain ⟨p, n, rfl, hring, k⟩ := h
    have hp := hring.pr
    have hp7 := hp.pos
    have hn := hring.n
    refine ⟨_, (pss_cons (ps_set (i := 2) sc_all_cyclic.nd rfl (Or.inl rfl) (pe_lst pa_nil))
      (pss_cons (ps_for PassesOwn.never rfl (pi_tup (pe_c c_divisors_of_unit hr (by decide) rfl (pa_cons (pv 0) (pa_cons (pv 1) pa_nil)))) (pg_name (i := 3) sc_all_cyclic.nd rfl (Or.inl rfl))
      (pss_one (ps_if (pt_cmpR op_le (pe_c c_power hr (by decide) rfl (pa_cons (pv 0) (pa_cons (pe_op op_sub (pe_op op_add (pv 1) pe_int) (pe_callB (call_lenK K) (by rfl) T.len PySem.boot_len (pa_cons (pv 3) pa_nil))) pa_nil))) (C8.pe_gc rfl T.gW) (nomark _)) (pss_one (ps_expr (pe_bm PySem.F.plainAttrs_list PySem.F.slot_list_append PySem.F.type_list_append mt_append (pv 2) (pa_cons (pe_cE0 c_cyclic_code hr (by decide) rfl (pa_cons (pv 0) (pa_cons (pv 1) (pa_cons (pv 3) pa_nil)))) pa_nil)))) pss_nil)))
      (pss_one (ps_ret (pe_callTy (call_tupK K) (by rfl) T.tuple (by decide +kernel) (pa_cons (pv 2) pa_nil)))))), ?_⟩
    refine ⟨by show 0 ≤ sizeLine; decide, fun l hl => ?_⟩
    have s1 := (Same.refl H).put hl (o := .lst [])
    refine ⟨_, rfl, _, rfl, p, n, rfl, hring, fun ta us H1 s2 hta hus => ?_⟩
    have s12 := s1.trans s2
    have hl1 : H1 l = some (.lst []) := s2 _ _ upd_same
    have hln : H l = none := hl
    have hlen := plen hus
    have hdl := divs_len hring
    refine ⟨ta, rfl, ⟨us, SqT.of hta⟩, for_tup (xs := us) (fun i σ H' => ∃ ws x, σ = [some (.int p), some (.int n), some (.ref l), x] ∧ Same H H' ∧ But l H1 H' ∧ H' l = some (.lst ws) ∧ Paired (CdV C H') ws (((divisors p n).take i).map (cyclicCode p n))) ?_ ?_ ?_ ?_⟩
    · exact ⟨_, _, rfl, s12, But.of hl1 (Same.refl H1), hl1, .nil⟩
    · rintro i σ H' _ ⟨_, _, _, _, b, _⟩
      exact SqT.of (b.tup hta)
    · rintro i xv σ H' hxv ⟨ws, x, rfl, s3, b3, h1, h2⟩
      obtain ⟨g, hg, tg⟩ := pget (Paired.mapP hus fun v e h => h.but b3) hxv
      have hgm := List.mem_of_getElem? hg
      obtain ⟨g1, g2, g3, g4⟩ := divs_dv hring g hgm
      have hc := hring.cyc hgm
      obtain ⟨tv, rfl, htv⟩ := id tg
      have etk : (divisors p n).take (i + 1) = (divisors p n).take i ++ [g] := by rw [List.take_add_one, hg]; rfl
      have hil : i < (divisors p n).length := (List.getElem?_eq_some_iff.mp hg).1
      refine ⟨_, rfl, _, rfl, _, _, rfl, rfl, _, rfl, tv, _, rfl, .inr (SqT.of htv), _, _, rfl, rfl, p, n + 1 - g.length, ?_, by omega, by omega, by omega, _, _, rfl, rfl, _, rfl, ite2 (fun _ => ?_) (fun c => ?_)⟩
      · show [V.int p, V.int (((n : Nat) : Int) + 1 - (((g.map V.int).length : Nat) : Int))] = _
        rw [List.length_map, show ((n : Nat) : Int) + 1 - ((g.length : Nat) : Int) = ((n + 1 - g.length : Nat) : Int) by omega]
      · refine ⟨_, rfl, .inl ⟨rfl, _, SqL.of h1⟩, _, rfl, _, rfl, _, rfl, .ref tv, p, n, true, rfl, hp, hn.1, by omega, .inl ⟨g, tg, by omega, g4.symm⟩, fun z => (by cases z), fun _ => ⟨g, tg, hc, fun v H2 s4 hv => ?_⟩⟩
        have h1' := s4 _ _ h1
        have hwl : ws.length = i := by have := plen h2; rw [List.length_map, List.length_take] at this; omega
        have b9 : But l H2 (upd H2 l (.lst (ws ++ [v]))) := But.upd h1'
        refine ⟨l, ws, v, rfl, rfl, h1', small1000 (by omega), ws ++ [v], _, rfl, Same.own (s3.trans s4) hln, (b3.same s4).trans' b9, upd_same, ?_⟩
        rw [etk, List.map_append]
        exact papp (Paired.mapP h2 fun _ _ q => (q.mono s4).but b9) (.cons (hv.but b9) .nil)
      · exact absurd (by simpa using hc.pow) c
    · rintro σ H' ⟨ws, x, rfl, s3, b3, h1, h2⟩
      rw [hlen, List.take_length] at h2
      refine ⟨_, rfl, l, _, rfl, .inl ⟨SqL.of h1, fun t3 ht3 => ?_⟩⟩
      exact k t3 ws _ (s3.put ht3) upd_same (Paired.mapP h2 fun v e h => h.mono ((Same.refl _).put ht3))
end
end Wk
namespace Wk
open PySem L2
open C8 (Cal Met Mak pe_c pe_mk pe_mt pe_mt0)
section
variable {P : Program} {w : World} {K : PySem.W.Frag} {mg : Str → Option Value} {base : Heap}
/-! ### generator_polynomial, check_polynomial -/
def genRun (c : Cd) (i : Nat) : List Int := (c.rows.take i).foldl (fun f row => commonDivisor f (trimmed row) c.p) (unitPoly c.p c.n)
def GenPre (c : Cd) : Prop := ∀ i row, c.rows[i]? = some row → GcdPre c.p 14 (genRun c i, trimmed row)
def cycE (R : Addr) (H : Hp) (E : XK) : Prop := ∀ d H', Same H H' → H d = none → H' d = some (.xd [("reason", .str "cyclic")]) → E (.ref R) (some d) H'
abbrev s_generator_polynomial : Stmt := top 41
theorem sc_generator_polynomial : FnScope ["code", "found", "row"] ["code"] (defScope s_generator_polynomial) := ⟨rfl, rfl, rfl, by decide +kernel, rfl, by decide +kernel, by decide +kernel⟩
def sp_generator_polynomial (C R : Addr) : Sp := fun vs H Q E => ∃ v c, vs = [v] ∧ CdV C H v c ∧ CdOk c ∧ (isCyclic c = false → cycE R H E) ∧ (isCyclic c = true → GenPre c ∧ ∀ r H', Same H H' → Tp H' r (genPoly c) → Q r H')
theorem ok_generator_polynomial {f : Addr} {fd : FuncData} (F : Fun K "generator_polynomial" "generator_polynomial" s_generator_polynomial f fd) (T : Txt K mg) {C M R fI cc cda : Addr} (hC : CodeC K C) (TM : MalTxt K mg M) (TR : RefTxt P K mg R fI cc cda) (c_common_divisor : Cal P w K mg base 3 "common_divisor" sp_common_divisor []) (c_is_cyclic : Cal P w K mg base 4 "is_cyclic" (sp_is_cyclic C) []) (c_trimmed : Cal P w K mg base 1 "trimmed" sp_trimmed []) (c_unit_polynomial : Cal P w K mg base 4 "unit_polynomial" sp_unit_polynomial [])  : FnOk P w K mg base (L2.CX P w) 5 f fd ["code"] (sp_generator_polynomial C R) := by
  refine F.okX sc_generator_polynomial (fun vs H Q E h => ?_) (fun cdv A outer s H vs Q E hr h => ?_)
  · obtain ⟨v, c, rfl, _⟩ := h
    rfl
  · obtain ⟨v, c, rfl, hcv, ok, kE, kQ⟩ := h
    have hp7 := ok.p.pos
    have hn := ok.n
    refine ⟨_, (pss_cons (ps_if (pt_not (pt_val (pe_c c_is_cyclic hr (by decide) rfl (pa_cons (pv 0) pa_nil)))) (pss_one (ps_raise rfl (takes_of rfl rfl rfl rfl) (pmk_ref TR hr rfl))) pss_nil)
      (pss_cons (ps_set (i := 1) sc_generator_polynomial.nd rfl (Or.inl rfl) (pe_c c_unit_polynomial hr (by decide) rfl (pa_cons (pe_fld (pv 0) rfl) (pa_cons (pe_fld (pv 0) rfl) pa_nil))))
      (pss_cons (ps_for (passes_of rfl) rfl (pi_tup (pe_fld (pv 0) rfl)) (pg_name (i := 2) sc_generator_polynomial.nd rfl (Or.inl rfl))
      (pss_one (ps_set (i := 1) sc_generator_polynomial.nd rfl (Or.inl rfl) (pe_c c_common_divisor hr (by decide) rfl (pa_cons (pv 1) (pa_cons (pe_c c_trimmed hr (by decide) rfl (pa_cons (pv 2) pa_nil)) (pa_cons (pe_fld (pv 0) rfl) pa_nil)))))))
      (pss_one (ps_ret (pv 1)))))), ?_⟩
    obtain ⟨a, dx, t, q, us, rfl, ha, ht, hts, hq⟩ := id hcv
    refine ⟨_, rfl, .ref a, c, rfl, hcv, ok, fun H1 s1 => ⟨_, rfl, ite2 (fun cc => ?_) (fun cc => ?_)⟩⟩
    · have e : isCyclic c = false := by simpa using cc
      exact fun d hd => kE e d _ (s1.put hd) (s1.free hd) upd_same
    · have e : isCyclic c = true := by simpa using cc
      have c1 : 1 ≤ c.n := by
        unfold isCyclic at e
        rw [Bool.and_eq_true, decide_eq_true_eq] at e
        exact e.1
      obtain ⟨hg, k⟩ := kQ e
      refine ⟨_, rfl, a, C, dx, _, _, rfl, s1 _ _ ha, hC.cls, hC.p, rfl, _, rfl, a, C, dx, _, _, rfl, s1 _ _ ha, hC.cls, hC.n, rfl, c.p, c.n, rfl, ok.p, c1, hn, fun r0 H2 s2 q2 => ?_⟩
      refine ⟨_, rfl, a, C, dx, _, _, rfl, (s1.trans s2) _ _ ha, hC.cls, hC.rows, rfl, t, rfl, ⟨us, SqT.of ((s1.trans s2) _ _ ht)⟩, for_tup (xs := us) (fun i σ H' => ∃ r x, σ = [some (.ref a), some r, x] ∧ Same H H' ∧ Tp H' r (genRun c i)) ⟨r0, _, rfl, s1.trans s2, q2⟩ ?_ ?_ ?_⟩
      · rintro i σ H' _ ⟨r, x, rfl, s3, _⟩
        exact SqT.of (s3 _ _ ht)
      · rintro i xv σ H' hxv ⟨r, x, rfl, s3, hr2⟩
        obtain ⟨row, hrow, trow⟩ := pget (Tps.mono s3 hts) hxv
        have hwr := ok.rows row (List.mem_of_getElem? hrow)
        have etk : c.rows.take (i + 1) = c.rows.take i ++ [row] := by rw [List.take_add_one, hrow]; rfl
        have est : genRun c (i + 1) = commonDivisor (genRun c i) (trimmed row) c.p := by
          unfold genRun
          rw [etk, List.foldl_append]
          rfl
        obtain ⟨tr, rfl, htr⟩ := id trow
        refine ⟨_, rfl, _, rfl, .ref tr, row, rfl, ?_, by rw [hwr.1]; omega, fun r2 H3 s4 q4 => ?_⟩
        · exact trow.tl
        · refine ⟨_, rfl, a, C, dx, _, _, rfl, (s3.trans s4) _ _ ha, hC.cls, hC.p, rfl, r, r2, genRun c i, trimmed row, c.p, rfl, hr2.mono s4, q4, hg i row hrow, fun r3 H4 s5 q5 => ?_⟩
          refine ⟨r3, _, rfl, (s3.trans s4).trans s5, ?_⟩
          rw [est]
          exact q5
      · rintro σ H' ⟨r, x, rfl, s3, hr2⟩
        refine ⟨_, rfl, k r H' s3 ?_⟩
        have : genRun c us.length = genPoly c := by
          unfold genRun genPoly
          rw [plen hts, List.take_length]
        rw [← this]
        exact hr2
abbrev s_check_polynomial : Stmt := top 42
theorem sc_check_polynomial : FnScope ["code", "g"] ["code"] (defScope s_check_polynomial) := ⟨rfl, rfl, rfl, by decide +kernel, rfl, by decide +kernel, by decide +kernel⟩
def sp_check_polynomial (C R : Addr) : Sp := fun vs H Q E => ∃ v c, vs = [v] ∧ CdV C H v c ∧ CdOk c ∧ (isCyclic c = false → cycE R H E) ∧ (isCyclic c = true → GenPre c ∧ DivPre (unitPoly c.p c.n) (genPoly c) c.p ∧ ∀ r H', Same H H' → Tp H' r (checkPoly c) → Q r H')
theorem ok_check_polynomial {f : Addr} {fd : FuncData} (F : Fun K "check_polynomial" "check_polynomial" s_check_polynomial f fd) (T : Txt K mg) {C M R fI cc cda : Addr} (hC : CodeC K C) (TM : MalTxt K mg M) (TR : RefTxt P K mg R fI cc cda) (c_divided : Cal P w K mg base 2 "divided" sp_divided []) (c_generator_polynomial : CalE P w K mg base 5 "generator_polynomial" (sp_generator_polynomial C R)) (c_unit_polynomial : Cal P w K mg base 4 "unit_polynomial" sp_unit_polynomial [])  : FnOk P w K mg base (L2.CX P w) 6 f fd ["code"] (sp_check_polynomial C R) := by
  refine F.okX sc_check_polynomial (fun vs H Q E h => ?_) (fun cdv A outer s H vs Q E hr h => ?_)
  · obtain ⟨v, c, rfl, _⟩ := h
    rfl
  · obtain ⟨v, c, rfl, hcv, ok, kE, kQ⟩ := h
    have hp7 := ok.p.pos
    have hn := ok.n
    refine ⟨_, (pss_cons (ps_set (i := 1) sc_check_polynomial.nd rfl (Or.inl rfl) (pe_cE c_generator_polynomial hr (by decide) (takes_of rfl rfl rfl rfl) rfl (pa_cons (pv 0) pa_nil)))
      (pss_one (ps_ret (pe_ix (ix_tupK K) (pe_c c_divided hr (by decide) rfl (pa_cons (pe_c c_unit_polynomial hr (by decide) rfl (pa_cons (pe_fld (pv 0) rfl) (pa_cons (pe_fld (pv 0) rfl) pa_nil))) (pa_cons (pv 1) (pa_cons (pe_fld (pv 0) rfl) pa_nil)))) pe_int (fun _ _ => rfl))))), ?_⟩
    refine ⟨_, rfl, v, c, rfl, hcv, ok, kE, fun e => ?_⟩
    obtain ⟨hg, hd, k⟩ := kQ e
    have c1 : 1 ≤ c.n := by
      unfold isCyclic at e
      rw [Bool.and_eq_true, decide_eq_true_eq] at e
      exact e.1
    refine ⟨hg, fun g H1 s1 q1 => ?_⟩
    obtain ⟨a, dx, t, q, us, rfl, ha, ht, hts, hq⟩ := id hcv
    refine ⟨_, rfl, a, C, dx, _, _, rfl, s1 _ _ ha, hC.cls, hC.p, rfl, _, rfl, a, C, dx, _, _, rfl, s1 _ _ ha, hC.cls, hC.n, rfl, c.p, c.n, rfl, ok.p, c1, hn, fun r0 H2 s2 q2 => ?_⟩
    refine ⟨_, rfl, _, rfl, a, C, dx, _, _, rfl, (s1.trans s2) _ _ ha, hC.cls, hC.p, rfl, r0, g, unitPoly c.p c.n, genPoly c, c.p, rfl, q2, q1.mono s2, hd, fun r1 H3 s3 q3 => ?_⟩
    obtain ⟨z1, z2, z3, rfl, e1, e2, e3⟩ := q3
    exact ⟨z1, _, 0, _, rfl, rfl, SqT.of e1, rfl, k _ _ ((s1.trans s2).trans s3) ⟨z2, rfl, e2⟩⟩
end
end Wk
namespace Wk
open PySem L2
open C8 (Cal Met Mak pe_c pe_mk pe_mt pe_mt0)
section
variable {P : Program} {w : World} {K : PySem.W.Frag} {mg : Str → Option Value} {base : Heap}
/-! ### _law_refuses, _law_reasons -/
abbrev s__law_refuses : Stmt := top 61
theorem sc__law_refuses : FnScope ["_law_p", "_law_n", "_law_g"] ["_law_p", "_law_n", "_law_g"] (defScope s__law_refuses) := ⟨rfl, rfl, rfl, by decide +kernel, rfl, by decide +kernel, by decide +kernel⟩
def sp__law_refuses : Sp := fun vs H Q _ => ∃ vg p n, vs = [.int p, .int (n : Nat), vg] ∧ Pr p ∧ 1 ≤ n ∧ n ≤ 12 ∧ DArg H vg (unitPoly p n) p false ∧ ∀ H', Same H H' → Q (.bl true) H'
theorem ok__law_refuses {f : Addr} {fd : FuncData} (F : Fun K "_law_refuses" "_law_refuses" s__law_refuses f fd) (T : Txt K mg) {C M R fI cc cda : Addr} (hC : CodeC K C) (TM : MalTxt K mg M) (TR : RefTxt P K mg R fI cc cda) (c_cyclic_code : CalE P w K mg base 6 "cyclic_code" (sp_cyclic_code C M))  : FnOk P w K mg base CX0 7 f fd ["_law_p", "_law_n", "_law_g"] sp__law_refuses := by
  refine F.ok sc__law_refuses (fun vs H Q E h => ?_) (fun cdv A outer s H vs Q E hr h => ?_)
  · obtain ⟨vg, p, n, rfl, _⟩ := h
    rfl
  · obtain ⟨vg, p, n, rfl, hp, hn1, hn2, hd, k⟩ := h
    refine ⟨_, (pss_cons (ps_try_only (c := .ref M) (Wout := fun _ _ _ _ => False) rfl rfl ⟨rfl, by decide, Or.inl TM.gM⟩ takes0
      (fun W pn xe tk _ => (pss_one (ps_expr (pe_cE c_cyclic_code hr (by decide) tk rfl (pa_cons (pv 0) (pa_cons (pv 1) (pa_cons (pv 2) pa_nil)))))))
      (fun a oe cls d pn hz hf => (pss_one (ps_ret pe_bl))))
      (pss_one (ps_ret pe_bl))), ?_⟩
    refine ⟨_, rfl, _, rfl, _, rfl, vg, p, n, false, rfl, hp, hn1, hn2, hd, fun _ H1 s1 => ⟨true, TM.te, fun _ a ha => k _ s1, fun z => by cases z⟩, fun z => by cases z⟩
abbrev s__law_reasons : Stmt := top 60
theorem sc__law_reasons : FnScope ["_law_code", "_law_told", "e"] ["_law_code"] (defScope s__law_reasons) := ⟨rfl, rfl, rfl, by decide +kernel, rfl, by decide +kernel, by decide +kernel⟩
def sp__law_reasons (C : Addr) : Sp := fun vs H Q _ => ∃ v c, vs = [v] ∧ CdV C H v c ∧ CdOk c ∧ isCyclic c = false ∧ ∀ a H', Same H H' → H' a = some (.lst [.str "cyclic", .str "cyclic"]) → Q (.ref a) H'
theorem ok__law_reasons {f : Addr} {fd : FuncData} (F : Fun K "_law_reasons" "_law_reasons" s__law_reasons f fd) (T : Txt K mg) {C M R fI cc cda : Addr} (hC : CodeC K C) (TM : MalTxt K mg M) (TR : RefTxt P K mg R fI cc cda) (c_check_polynomial : CalE P w K mg base 6 "check_polynomial" (sp_check_polynomial C R)) (c_generator_polynomial : CalE P w K mg base 5 "generator_polynomial" (sp_generator_polynomial C R))  : FnOk P w K mg base CX0 7 f fd ["_law_code"] (sp__law_reasons C) := by
  refine F.ok sc__law_reasons (fun vs H Q E h => ?_) (fun cdv A outer s H vs Q E hr h => ?_)
  · obtain ⟨v, c, rfl, _⟩ := h
    rfl
  · obtain ⟨v, c, rfl, hcv, ok, hcy, k⟩ := h
    refine ⟨_, (pss_cons (ps_set (i := 1) sc__law_reasons.nd rfl (Or.inl rfl) (pe_lst pa_nil))
      (pss_cons (ps_try_as (i := 2) (tb := fun W => tDrop (tCallS (sp_generator_polynomial C R) (WE W) (tCons (tVar 0) tNil))) (ts := fun a cls d => tDrop (tBM K "list" rAppend (tVar 1) (tCons (tXf a cls d R "reason" (tVar 2)) tNil))) (c := .ref R) (Wout := fun _ _ _ _ => False) rfl rfl sc__law_reasons.nd rfl rfl ⟨rfl, by decide, Or.inl TR.gR⟩ takes0
      (fun W pn xe tk _ => by exact (pss_one (ps_expr (pe_cE c_generator_polynomial hr (by decide) tk rfl (pa_cons (pv 0) pa_nil)))))
      (fun a oe cls d pn hz hf => by exact (pss_one (ps_expr (pe_bm PySem.F.plainAttrs_list PySem.F.slot_list_append PySem.F.type_list_append mt_append (pv 1) (pa_cons (by exact (pe_xf TR.xf TR.noR hz hf (pv 2))) pa_nil))))))
      (pss_cons (ps_try_as (i := 2) (tb := fun W => tDrop (tCallS (sp_check_polynomial C R) (WE W) (tCons (tVar 0) tNil))) (ts := fun a cls d => tDrop (tBM K "list" rAppend (tVar 1) (tCons (tXf a cls d R "reason" (tVar 2)) tNil))) (c := .ref R) (Wout := fun _ _ _ _ => False) rfl rfl sc__law_reasons.nd rfl rfl ⟨rfl, by decide, Or.inl TR.gR⟩ takes0
      (fun W pn xe tk _ => by exact (pss_one (ps_expr (pe_cE c_check_polynomial hr (by decide) tk rfl (pa_cons (pv 0) pa_nil)))))
      (fun a oe cls d pn hz hf => by exact (pss_one (ps_expr (pe_bm PySem.F.plainAttrs_list PySem.F.slot_list_append PySem.F.type_list_append mt_append (pv 1) (pa_cons (by exact (pe_xf TR.xf TR.noR hz hf (pv 2))) pa_nil))))))
      (pss_one (ps_ret (pv 1)))))), ?_⟩
    refine ⟨by show 0 ≤ sizeLine; decide, fun l hl => ?_⟩
    have s1 := (Same.refl H).put hl (o := .lst [])
    refine ⟨_, rfl, v, c, rfl, hcv.mono s1, ok, fun _ d H1 s2 hd hx => ⟨true, TR.te, fun _ a ha => ?_, fun z => by cases z⟩, fun e => by rw [hcy] at e; cases e⟩
    have h1 := s2 _ _ (upd_same (H := H) (a := l) (o := .lst []))
    refine ⟨_, rfl, .inl ⟨rfl, _, SqL.of h1⟩, _, rfl, rfl, rfl, d, _, _, rfl, hx, rfl, l, [], .str "cyclic", rfl, rfl, h1, by show 0 < sizeLine; decide, ?_⟩
    have s3 : Same H (upd H1 l (.lst ([] ++ [.str "cyclic"]))) := Same.own (s1.trans s2) hl
    refine ⟨_, rfl, v, c, rfl, hcv.mono s3, ok, fun _ d2 H2 s4 hd2 hx2 => ⟨true, TR.te, fun _ a2 ha2 => ?_, fun z => by cases z⟩, fun e => by rw [hcy] at e; cases e⟩
    have h2 := s4 _ _ (upd_same (H := H1) (a := l) (o := .lst ([] ++ [.str "cyclic"])))
    refine ⟨_, rfl, .inl ⟨rfl, _, SqL.of h2⟩, _, rfl, rfl, rfl, d2, _, _, rfl, hx2, rfl, l, _, .str "cyclic", rfl, rfl, h2, by show 1 < sizeLine; decide, ?_⟩
    exact ⟨_, rfl, k l _ (Same.own (s3.trans s4) hl) upd_same⟩
end
end Wk
namespace Wk
open PySem L2
open C8 (Cal Met Mak pe_c pe_mk pe_mt pe_mt0)
section
variable {P : Program} {w : World} {K : PySem.W.Frag} {mg : Str → Option Value} {base : Heap}
/-! ### Code.__eq__ -/
/-- the two codes are alike -/
def SameCd (C : Addr) (a b : Addr) (H : Hp) : Prop := ∃ c, CdV C H (.ref a) c ∧ CdV C H (.ref b) c ∧ c.rows.length ≤ 100
def cdD (c : Cd) : PyData := .tuple [.int c.p, .int (c.n : Nat), .tuple (c.rows.map wD)]
theorem eqvAll_wDs : ∀ ws : List (List Int), PyData.eqvAll (ws.map wD) (ws.map wD) = true
  | [] => by simp [PyData.eqvAll]
  | w :: r => by
    rw [List.map_cons, PyData.eqvAll, eqvAll_wDs r, eqv_wD]
    simp
theorem cdD_eqv (c : Cd) : PyData.eqv (cdD c) (cdD c) = true := by
  unfold cdD
  simp [PyData.eqv, PyData.eqvAll, eqvAll_wDs]
theorem cdD_shaped (c : Cd) : SeqAt.shaped (cdD c) = true := by
  have h1 := wDs_depth c.rows
  show ((cdD c).canLay0 && decide ((cdD c).depth ≤ 64)) = true
  unfold cdD
  rw [PyData.canLay0, PyData.depth]
  simp only [PyData.canLayAll0, PyData.canLay0, PyData.depthAll, PyData.depth, wDs_lay, Bool.and_true, Bool.true_and]
  exact decide_eq_true (by omega)
/-- what isinstance(x, Code) reads -/
structure CodeTy (K : PySem.W.Frag) (C : Addr) : Prop where
  ha : PySem.W.findIn K (.ref C) "__class__" = some (some (.builtin "object.__class__"))
  hn : PySem.W.specialIn K (.builtin "object.__class__") "__get__" = some (some (.builtin "getset_descriptor.__get__"))
  htk : PySem.W.takesIn K (.builtin "object.__class__") = some true
  hm : PySem.W.mroIn K C (.type "object") = some true
theorem kit_self {K : PySem.W.Frag} {c : Value} : PySem.W.kitOne K c c = some true := if_pos (by simp)
abbrev s_Code___eq__ : Stmt := inClass (top 23) 1
theorem sc_Code___eq__ : FnScope ["self", "other"] ["self", "other"] (defScope s_Code___eq__) := ⟨rfl, rfl, rfl, by decide +kernel, rfl, by decide +kernel, by decide +kernel⟩
def sp_Code___eq__ (C : Addr) : Sp := spEq (SameCd C)
theorem ok_Code___eq__ {f : Addr} {fd : FuncData} (F : Fun K "__eq__" "Code.__eq__" s_Code___eq__ f fd) (T : Txt K mg) {C : Addr} (hC : CodeC K C)  (gC : mg "Code" = some (.ref C)) (TC : CodeTy K C) : FnOk P w K mg base CX0 1 f fd ["self", "other"] (sp_Code___eq__ C) := by
  refine F.ok sc_Code___eq__ (fun vs H Q E h => ?_) (fun cdv A outer s H vs Q E hr h => ?_)
  · obtain ⟨a, b, rfl, _⟩ := h
    rfl
  · obtain ⟨a, b, rfl, ⟨c, hca, hcb, hl⟩, k⟩ := h
    refine ⟨_, (pss_one (ps_ret (pe_and (pe_callB (call_isiKK K) (by rfl) T.isinstance (by decide +kernel) (pa_cons (pv 1) (pa_cons (pe_glob (v := .ref C) rfl gC rfl) pa_nil))) (pe_one (pe_cmpR (op_eqDK K (hu64 hr)) (pe_tup (pa_cons (pe_fld (pv 0) rfl) (pa_cons (pe_fld (pv 0) rfl) (pa_cons (pe_fld (pv 0) rfl) pa_nil)))) (pe_tup (pa_cons (pe_fld (pv 1) rfl) (pa_cons (pe_fld (pv 1) rfl) (pa_cons (pe_fld (pv 1) rfl) pa_nil)))) (nomark _)))))), ?_⟩
    obtain ⟨a', da, ta, qa, us, ea, ha, hta, htsa, hqa⟩ := hca
    obtain ⟨b', db, tb, qb, vs, eb, hb, htb, htsb, hqb⟩ := hcb
    cases ea
    cases eb
    refine ⟨_, rfl, _, _, _, _, true, rfl, .own C, .base (.ins hb hC.cls TC.ha TC.hn TC.htk TC.hm), kit_self, ?_⟩
    refine ⟨true, rfl, iteT ?_⟩
    refine ⟨_, rfl, a, C, da, _, _, rfl, ha, hC.cls, hC.p, rfl, _, rfl, a, C, da, _, _, rfl, ha, hC.cls, hC.n, rfl, _, rfl, a, C, da, _, _, rfl, ha, hC.cls, hC.rows, rfl, by show 3 ≤ sizeLine; decide, fun t1 ht1 => ?_⟩
    have s1 := (Same.refl H).put ht1 (o := .tup [.int c.p, .int (c.n : Nat), .ref ta])
    refine ⟨_, rfl, b, C, db, _, _, rfl, s1 _ _ hb, hC.cls, hC.p, rfl, _, rfl, b, C, db, _, _, rfl, s1 _ _ hb, hC.cls, hC.n, rfl, _, rfl, b, C, db, _, _, rfl, s1 _ _ hb, hC.cls, hC.rows, rfl, by show 3 ≤ sizeLine; decide, fun t2 ht2 => ?_⟩
    have s2 := s1.put ht2 (o := .tup [.int c.p, .int (c.n : Nat), .ref tb])
    refine ⟨cdD c, cdD c, .tup (SqT.of (by rw [upd_ne (ne_of_none upd_same ht2)]; exact upd_same)) (.cons (.int _) (.cons (.int _) (.cons (.tup (SqT.of (s2 _ _ hta)) (Tps.mono s2 htsa).dp) .nil))),
      .tup (SqT.of upd_same) (.cons (.int _) (.cons (.int _) (.cons (.tup (SqT.of (s2 _ _ htb)) (Tps.mono s2 htsb).dp) .nil))), cdD_shaped c, cdD_shaped c, ?_⟩
    rw [cdD_eqv]
    exact k _ s2
end
end Wk
set_option maxRecDepth 10000
set_option maxHeartbeats 200000
/-! words of one length over the prime: sums, spans -/
namespace Wk
theorem em1 (x y p : Int) : (x % p + y) % p = (x + y) % p := Int.emod_add_emod x p y
theorem em2 (x y p : Int) : (x + y % p) % p = (x + y) % p := Int.add_emod_emod x y p
theorem em3 (x y p : Int) : (x % p * y) % p = (x * y) % p := by rw [Int.mul_emod, Int.emod_emod, ← Int.mul_emod]
theorem em4 (x y p : Int) : (x * (y % p)) % p = (x * y) % p := by rw [Int.mul_emod, Int.emod_emod, ← Int.mul_emod]
abbrev gd (w : Wrd) (i : Nat) : Int := w.getD i 0
theorem gd_ge {w : Wrd} {i : Nat} (h : w.length ≤ i) : gd w i = 0 := by
  unfold gd
  rw [List.getD_eq_getElem?_getD, List.getElem?_eq_none h]; rfl
theorem gd_lt {w : Wrd} {i : Nat} (h : i < w.length) : gd w i = w[i] := by
  unfold gd
  rw [List.getD_eq_getElem?_getD, List.getElem?_eq_getElem h]; rfl
theorem gd_addw {v w : Wrd} {p : Int} (h : w.length = v.length) (i : Nat) : gd (addw v w p) i = (gd v i + gd w i) % p := by
  by_cases hi : i < v.length
  · have h1 : i < (addw v w p).length := by rw [addw_len _ _ _ h]; exact hi
    rw [gd_lt h1, gd_lt hi, gd_lt (show i < w.length by omega)]
    exact List.getElem_zipWith (f := fun x y => (x + y) % p) (h := h1)
  · rw [gd_ge (by rw [addw_len _ _ _ h]; omega), gd_ge (by omega), gd_ge (by omega)]
    simp
theorem gd_scaled {w : Wrd} {a p : Int} (i : Nat) : gd (scaled w a p) i = (gd w i * a) % p := by
  by_cases hi : i < w.length
  · have h1 : i < (scaled w a p).length := by rw [scaled_len]; exact hi
    rw [gd_lt h1, gd_lt hi]
    exact List.getElem_map (fun x => x * a % p) (h := h1)
  · rw [gd_ge (by rw [scaled_len]; omega), gd_ge (by omega)]
    simp
theorem gd_zero (n i : Nat) : gd (List.replicate n 0) i = 0 := by
  by_cases hi : i < n
  · rw [gd_lt (by rw [List.length_replicate]; exact hi), List.getElem_replicate]
  · rw [gd_ge (by rw [List.length_replicate]; omega)]
theorem wext {p : Int} {n : Nat} {v w : Wrd} (hv : Wn p n v) (hw : Wn p n w) (h : ∀ i, gd v i = gd w i) : v = w := by
  refine List.ext_getElem (by rw [hv.1, hw.1]) fun i h1 h2 => ?_
  rw [← gd_lt h1, ← gd_lt h2]
  exact h i
section
variable {p : Int} {n : Nat} {u v w : Wrd} {a b : Int}
theorem wn_add (hp : Pr p) (hv : Wn p n v) (hw : Wn p n w) : Wn p n (addw v w p) := ⟨by rw [addw_len _ _ _ (by rw [hv.1, hw.1])]; exact hv.1, addw_wd hp _ _⟩
theorem wn_scale (hp : Pr p) (hv : Wn p n v) (a : Int) : Wn p n (scaled v a p) := scaled_wn hp hv a
theorem wn_zero (hp : Pr p) (n : Nat) : Wn p n (List.replicate n 0) := ⟨List.length_replicate, fun x hx => by
  have := hp.pos
  rw [(List.mem_replicate.mp hx).2]; omega⟩
theorem Wn.bd (hp : Pr p) (h : Wn p n w) (i : Nat) : 0 ≤ gd w i ∧ gd w i < p := by
  have := hp.pos
  by_cases hi : i < w.length
  · rw [gd_lt hi]
    exact h.2 _ (List.getElem_mem hi)
  · rw [gd_ge (by omega)]
    omega
theorem Wn.md (hp : Pr p) (h : Wn p n w) (i : Nat) : gd w i % p = gd w i := by
  have := h.bd hp i
  exact Int.emod_eq_of_lt this.1 this.2
theorem gadd (hv : Wn p n v) (hw : Wn p n w) (i : Nat) : gd (addw v w p) i = (gd v i + gd w i) % p := gd_addw (by rw [hv.1, hw.1]) i
theorem add_zero (hp : Pr p) (hv : Wn p n v) : addw v (List.replicate n 0) p = v :=
  wext (wn_add hp hv (wn_zero hp n)) hv fun i => by rw [gadd hv (wn_zero hp n), gd_zero, Int.add_zero, hv.md hp]
theorem zero_add (hp : Pr p) (hv : Wn p n v) : addw (List.replicate n 0) v p = v :=
  wext (wn_add hp (wn_zero hp n) hv) hv fun i => by rw [gadd (wn_zero hp n) hv, gd_zero, Int.zero_add, hv.md hp]
theorem add_assoc (hp : Pr p) (hu : Wn p n u) (hv : Wn p n v) (hw : Wn p n w) : addw u (addw v w p) p = addw (addw u v p) w p :=
  wext (wn_add hp hu (wn_add hp hv hw)) (wn_add hp (wn_add hp hu hv) hw) fun i => by
    rw [gadd hu (wn_add hp hv hw), gadd hv hw, gadd (wn_add hp hu hv) hw, gadd hu hv, em1, em2]
    congr 1
    grind
theorem add_comm (hp : Pr p) (hv : Wn p n v) (hw : Wn p n w) : addw v w p = addw w v p :=
  wext (wn_add hp hv hw) (wn_add hp hw hv) fun i => by
    rw [gadd hv hw, gadd hw hv]
    congr 1
    grind
theorem scale_add (hp : Pr p) (hv : Wn p n v) (hw : Wn p n w) (a : Int) : scaled (addw v w p) a p = addw (scaled v a p) (scaled w a p) p :=
  wext (wn_scale hp (wn_add hp hv hw) a) (wn_add hp (wn_scale hp hv a) (wn_scale hp hw a)) fun i => by
    rw [gd_scaled, gadd hv hw, gadd (wn_scale hp hv a) (wn_scale hp hw a), gd_scaled, gd_scaled, em1, em2, em3]
    congr 1
    grind
theorem scale_scale (hp : Pr p) (hv : Wn p n v) (a b : Int) : scaled (scaled v a p) b p = scaled v (a * b) p :=
  wext (wn_scale hp (wn_scale hp hv a) b) (wn_scale hp hv _) fun i => by
    rw [gd_scaled, gd_scaled, gd_scaled, em3]
    congr 1
    grind
theorem add_scale (hp : Pr p) (hv : Wn p n v) (a b : Int) : addw (scaled v a p) (scaled v b p) p = scaled v (a + b) p :=
  wext (wn_add hp (wn_scale hp hv a) (wn_scale hp hv b)) (wn_scale hp hv _) fun i => by
    rw [gadd (wn_scale hp hv a) (wn_scale hp hv b), gd_scaled, gd_scaled, gd_scaled, em1, em2]
    congr 1
    grind
theorem scale_mod (hp : Pr p) (hv : Wn p n v) (a : Int) : scaled v (a % p) p = scaled v a p :=
  wext (wn_scale hp hv _) (wn_scale hp hv _) fun i => by rw [gd_scaled, gd_scaled, em4]
theorem scale_one (hp : Pr p) (hv : Wn p n v) : scaled v 1 p = v :=
  wext (wn_scale hp hv _) hv fun i => by rw [gd_scaled, Int.mul_one, hv.md hp]
theorem scale_zero (hp : Pr p) (hv : Wn p n v) : scaled v 0 p = List.replicate n 0 :=
  wext (wn_scale hp hv _) (wn_zero hp n) fun i => by rw [gd_scaled, Int.mul_zero, gd_zero]; simp
theorem zero_scale (hp : Pr p) (a : Int) : scaled (List.replicate n 0) a p = List.replicate n 0 :=
  wext (wn_scale hp (wn_zero hp n) _) (wn_zero hp n) fun i => by rw [gd_scaled, gd_zero]; simp
end
/-! ### spans -/
inductive Span (p : Int) (n : Nat) (rows : List Wrd) : Wrd → Prop
  | zero : Span p n rows (List.replicate n 0)
  | step {w r : Wrd} (a : Int) : Span p n rows w → r ∈ rows → Span p n rows (addw w (scaled r a p) p)
def Rws (p : Int) (n : Nat) (rows : List Wrd) : Prop := ∀ r ∈ rows, Wn p n r
section
variable {p : Int} {n : Nat} {u v w r : Wrd} {a : Int} {rows rows' : List Wrd}
theorem Span.wn (hp : Pr p) (hr : Rws p n rows) (h : Span p n rows w) : Wn p n w := by
  induction h with
  | zero => exact wn_zero hp n
  | step a _ m ih => exact wn_add hp ih (wn_scale hp (hr _ m) a)
theorem Span.add (hp : Pr p) (hr : Rws p n rows) (h : Span p n rows v) (h' : Span p n rows w) : Span p n rows (addw v w p) := by
  induction h' with
  | zero => rw [add_zero hp (h.wn hp hr)]; exact h
  | step a s m ih => rw [add_assoc hp (h.wn hp hr) (s.wn hp hr) (wn_scale hp (hr _ m) a)]; exact ih.step a m
theorem Span.scale (hp : Pr p) (hr : Rws p n rows) (b : Int) (h : Span p n rows w) : Span p n rows (scaled w b p) := by
  induction h with
  | zero => rw [zero_scale hp]; exact .zero
  | step a s m ih =>
    rw [scale_add hp (s.wn hp hr) (wn_scale hp (hr _ m) a), scale_scale hp (hr _ m)]
    exact ih.step _ m
theorem Span.row (hp : Pr p) (hr : Rws p n rows) (h : r ∈ rows) : Span p n rows r := by
  have q := Span.step (p := p) (n := n) (rows := rows) 1 .zero h
  rw [scale_one hp (hr r h), zero_add hp (hr r h)] at q
  exact q
theorem Span.trans (hp : Pr p) (hr' : Rws p n rows') (hs : ∀ r ∈ rows, Span p n rows' r) (h : Span p n rows w) : Span p n rows' w := by
  induction h with
  | zero => exact .zero
  | step a s m ih => exact ih.add hp hr' ((hs _ m).scale hp hr' a)
/-- the same span -/
def SpEq (p : Int) (n : Nat) (rows rows' : List Wrd) : Prop := ∀ w, Span p n rows w ↔ Span p n rows' w
theorem SpEq.of (hp : Pr p) (hr : Rws p n rows) (hr' : Rws p n rows') (h : ∀ r ∈ rows, Span p n rows' r) (h' : ∀ r ∈ rows', Span p n rows r) : SpEq p n rows rows' := fun w => ⟨Span.trans hp hr' h, Span.trans hp hr h'⟩
/-! ### the law's span -/
theorem spanIn_mem {p : Int} {row u x : Wrd} (l : List Nat) : ∀ wide : List Wrd, x ∈ l.foldl (fun wide a => putW wide (addw u (scaled row ((a : Nat) : Int) p) p)) wide ↔ x ∈ wide ∨ ∃ a ∈ l, x = addw u (scaled row ((a : Nat) : Int) p) p := by
  induction l with
  | nil => intro wide; simp
  | cons a r ih =>
    intro wide
    rw [List.foldl_cons, ih, putW_mem]
    simp only [List.mem_cons, exists_eq_or_imp]
    grind
theorem spanRow_mem0 {p : Int} {row x : Wrd} (found : List Wrd) : ∀ wide : List Wrd, x ∈ found.foldl (fun wide w => (List.range p.toNat).foldl (fun wide a => putW wide (addw w (scaled row ((a : Nat) : Int) p) p)) wide) wide ↔
    x ∈ wide ∨ ∃ u ∈ found, ∃ a ∈ List.range p.toNat, x = addw u (scaled row ((a : Nat) : Int) p) p := by
  induction found with
  | nil => intro wide; simp
  | cons u r ih =>
    intro wide
    rw [List.foldl_cons, ih, spanIn_mem]
    simp only [List.mem_cons, exists_eq_or_imp]
    grind
theorem spanRow_mem {found : List Wrd} {row x : Wrd} : x ∈ spanRow p found row ↔ ∃ u ∈ found, ∃ a ∈ List.range p.toNat, x = addw u (scaled row ((a : Nat) : Int) p) p := by
  unfold spanRow
  rw [spanRow_mem0]
  simp
theorem spanRow_nodup0 {p : Int} {row : Wrd} (found : List Wrd) : ∀ wide : List Wrd, wide.Nodup → (found.foldl (fun wide w => (List.range p.toNat).foldl (fun wide a => putW wide (addw w (scaled row ((a : Nat) : Int) p) p)) wide) wide).Nodup := by
  have h1 : ∀ (u : Wrd) (l : List Nat) (wide : List Wrd), wide.Nodup → (l.foldl (fun wide a => putW wide (addw u (scaled row ((a : Nat) : Int) p) p)) wide).Nodup := by
    intro u l
    induction l with
    | nil => intro wide h; exact h
    | cons a r ih => intro wide h; exact ih _ (putW_nodup h)
  induction found with
  | nil => intro wide h; exact h
  | cons u r ih => intro wide h; exact ih _ (h1 u _ _ h)
theorem spanKeys_nodup (rows : List Wrd) : (spanKeys rows n p).Nodup := by
  unfold spanKeys
  suffices ∀ found : List Wrd, found.Nodup → (rows.foldl (spanRow p) found).Nodup from this _ (by simp)
  induction rows with
  | nil => intro found h; exact h
  | cons r t ih => intro found _; exact ih _ (spanRow_nodup0 _ _ (by simp))
end
end Wk
namespace Wk
section
variable {p : Int} {n : Nat} {u v w r x : Wrd} {a : Int} {rows rows' : List Wrd}
/-! ### what spanKeys holds -/
/-- closed under adding multiples of r -/
def Clo (p : Int) (Z : Wrd → Prop) (r : Wrd) : Prop := ∀ u, Z u → ∀ a : Int, Z (addw u (scaled r a p) p)
theorem rng_mod (hp : Pr p) (a : Int) : ∃ k ∈ List.range p.toNat, ((k : Nat) : Int) = a % p := by
  have h := emod_bd hp a
  exact ⟨(a % p).toNat, List.mem_range.mpr (by omega), by omega⟩
theorem spanRow_own (hp : Pr p) {found : List Wrd} (hf : Rws p n found) (hr : Wn p n r) : Clo p (· ∈ spanRow p found r) r := by
  intro x hx a
  obtain ⟨u, hu, b, hb, rfl⟩ := spanRow_mem.mp hx
  rw [spanRow_mem]
  obtain ⟨k, hk, e⟩ := rng_mod hp ((b : Int) + a)
  refine ⟨u, hu, k, hk, ?_⟩
  rw [← add_assoc hp (hf u hu) (wn_scale hp hr _) (wn_scale hp hr _), add_scale hp hr, e, scale_mod hp hr]
theorem spanRow_clo (hp : Pr p) {found : List Wrd} (hf : Rws p n found) (hr : Wn p n r) {z : Wrd} (hz : Wn p n z) (h : Clo p (· ∈ found) z) : Clo p (· ∈ spanRow p found r) z := by
  intro x hx a
  obtain ⟨u, hu, b, hb, rfl⟩ := spanRow_mem.mp hx
  rw [spanRow_mem]
  refine ⟨addw u (scaled z a p) p, h u hu a, b, hb, ?_⟩
  rw [← add_assoc hp (hf u hu) (wn_scale hp hr _) (wn_scale hp hz _), add_comm hp (wn_scale hp hr _) (wn_scale hp hz _), add_assoc hp (hf u hu) (wn_scale hp hz _) (wn_scale hp hr _)]
theorem spanRow_sub (hp : Pr p) {found : List Wrd} (hf : Rws p n found) (hr : Wn p n r) (h : u ∈ found) : u ∈ spanRow p found r := by
  rw [spanRow_mem]
  refine ⟨u, h, 0, List.mem_range.mpr (by have := hp.pos; omega), ?_⟩
  rw [show (((0 : Nat) : Nat) : Int) = 0 from rfl, scale_zero hp hr, add_zero hp (hf u h)]
theorem spanRow_rws (hp : Pr p) {found : List Wrd} (hf : Rws p n found) (hr : Wn p n r) : Rws p n (spanRow p found r) := by
  intro x hx
  obtain ⟨u, hu, b, hb, rfl⟩ := spanRow_mem.mp hx
  exact wn_add hp (hf u hu) (wn_scale hp hr _)
theorem spanFold (hp : Pr p) (all : List Wrd) (hall : Rws p n all) : ∀ (rows : List Wrd), Rws p n rows → (∀ r ∈ rows, r ∈ all) → ∀ found : List Wrd, Rws p n found → List.replicate n 0 ∈ found → (∀ u ∈ found, Span p n all u) →
    List.replicate n 0 ∈ rows.foldl (spanRow p) found ∧ (∀ u ∈ rows.foldl (spanRow p) found, Span p n all u) ∧ (∀ z, Wn p n z → (Clo p (· ∈ found) z ∨ z ∈ rows) → Clo p (· ∈ rows.foldl (spanRow p) found) z)
  | [], _, _, found, _, h0, hs => ⟨h0, hs, fun z _ h => h.elim id fun h => by cases h⟩
  | r :: t, hr, hsub, found, hf, h0, hs => by
    have hr1 : Wn p n r := hr r (by simp)
    obtain ⟨q1, q2, q3⟩ := spanFold hp all hall t (fun x hx => hr x (by simp [hx])) (fun x hx => hsub x (by simp [hx])) (spanRow p found r) (spanRow_rws hp hf hr1) (spanRow_sub hp hf hr1 h0) (fun x hx => by
      obtain ⟨u, hu, b, hb, rfl⟩ := spanRow_mem.mp hx
      exact (hs u hu).step _ (hsub r (by simp)))
    refine ⟨q1, q2, fun z hz h => q3 z hz ?_⟩
    rcases h with h | h
    · exact .inl (spanRow_clo hp hf hr1 hz h)
    · rcases List.mem_cons.mp h with rfl | h
      · exact .inl (spanRow_own hp hf hr1)
      · exact .inr h
theorem keys_span (hp : Pr p) (hr : Rws p n rows) (w : Wrd) : w ∈ spanKeys rows n p ↔ Span p n rows w := by
  obtain ⟨q1, q2, q3⟩ := spanFold hp rows hr rows hr (fun _ h => h) [List.replicate n 0] (fun x hx => by rw [List.mem_singleton.mp hx]; exact wn_zero hp n) (by simp) (fun u hu => by rw [List.mem_singleton.mp hu]; exact .zero)
  refine ⟨q2 w, fun h => ?_⟩
  induction h with
  | zero => exact q1
  | step a s m ih => exact q3 _ (hr _ m) (.inr m) _ ih a
/-- the sorted words of a span -/
def wordsOf (p : Int) (n : Nat) (rows : List Wrd) : List Wrd := sortBy leW (spanKeys rows n p)
theorem wordsOf_mem (hp : Pr p) (hr : Rws p n rows) (w : Wrd) : w ∈ wordsOf p n rows ↔ Span p n rows w := by
  unfold wordsOf
  rw [(sortBy_perm leW _).mem_iff]
  exact keys_span hp hr w
theorem wordsOf_eq (hp : Pr p) (hr : Rws p n rows) (hr' : Rws p n rows') : wordsOf p n rows = wordsOf p n rows' ↔ SpEq p n rows rows' := by
  constructor
  · intro h w
    rw [← wordsOf_mem hp hr, ← wordsOf_mem hp hr', h]
  · intro h
    unfold wordsOf
    refine sortBy_perm_eq ordW ((List.perm_ext_iff_of_nodup (spanKeys_nodup _) (spanKeys_nodup _)).mpr fun w => ?_)
    rw [keys_span hp hr, keys_span hp hr']
    exact h w
/-! ### the shift -/
theorem shiftW_wn' (h : Wn p n w) : Wn p n (shiftW w) := by
  refine ⟨?_, fun x hx => ?_⟩
  · unfold shiftW
    rw [List.length_append, List.length_drop, List.length_take]
    have := h.1
    omega
  · unfold shiftW at hx
    rcases List.mem_append.mp hx with hx | hx
    · exact h.2 x (List.mem_of_mem_drop hx)
    · exact h.2 x (List.mem_of_mem_take hx)
theorem shift_add (hv : Wn p n v) (hw : Wn p n w) : shiftW (addw v w p) = addw (shiftW v) (shiftW w) p := by
  have e : (addw v w p).length = v.length := addw_len _ _ _ (by rw [hv.1, hw.1])
  have e2 : w.length = v.length := by rw [hv.1, hw.1]
  unfold shiftW
  rw [e, e2]
  unfold addw
  rw [List.drop_zipWith, List.take_zipWith, List.zipWith_append (by rw [List.length_drop, List.length_drop, e2])]
theorem shift_scale (w : Wrd) (a : Int) : shiftW (scaled w a p) = scaled (shiftW w) a p := by
  unfold shiftW
  rw [scaled_len]
  unfold scaled
  rw [List.map_append, List.map_drop, List.map_take]
theorem shift_zero (n : Nat) : shiftW (List.replicate n (0 : Int)) = List.replicate n 0 := by
  unfold shiftW
  rw [List.length_replicate, List.drop_replicate, List.take_replicate, List.replicate_append_replicate]
  congr 1
  omega
/-- closed under the shift -/
def Closed (p : Int) (n : Nat) (rows : List Wrd) : Prop := ∀ w, Span p n rows w → Span p n rows (shiftW w)
theorem closed_of (hp : Pr p) (hr : Rws p n rows) (h : ∀ r ∈ rows, Span p n rows (shiftW r)) : Closed p n rows := fun w hw => by
  induction hw with
  | zero => rw [shift_zero]; exact .zero
  | step a s m ih =>
    rw [shift_add (s.wn hp hr) (wn_scale hp (hr _ m) a), shift_scale]
    exact ih.add hp hr ((h _ m).scale hp hr a)
theorem closed_iff (hp : Pr p) (hr : Rws p n rows) : Closed p n rows ↔ ∀ r ∈ rows, Span p n rows (shiftW r) := ⟨fun h r hm => h r (Span.row hp hr hm), closed_of hp hr⟩
theorem Closed.eq (h : SpEq p n rows rows') (hc : Closed p n rows) : Closed p n rows' := fun w hw => (h _).mp (hc w ((h w).mpr hw))
end
end Wk
namespace Wk
/-! ### tables -/
abbrev Tb := List (Wrd × Nat)
def rowsOf (L : Tb) : List Wrd := L.map (·.1)
def pivOf (L : Tb) : List Int := L.map fun e => ((e.2 : Nat) : Int)
structure Tab (p : Int) (n : Nat) (L : Tb) : Prop where
  wn : ∀ e ∈ L, Wn p n e.1
  lt : ∀ e ∈ L, e.2 < n
  one : ∀ e ∈ L, gd e.1 e.2 = 1
  low : ∀ e ∈ L, ∀ c, c < e.2 → gd e.1 c = 0
  two : L.Pairwise fun e f => e.2 < f.2 ∧ gd e.1 f.2 = 0
section
variable {p : Int} {n : Nat} {u v w r x : Wrd} {a : Int} {rows rows' : List Wrd} {L L' : Tb} {e f : Wrd × Nat}
theorem Tab.rws (T : Tab p n L) : Rws p n (rowsOf L) := fun r hr => by
  obtain ⟨e, he, rfl⟩ := List.mem_map.mp hr
  exact T.wn e he
theorem Tab.tail (T : Tab p n (e :: L)) : Tab p n L := ⟨fun f h => T.wn f (by simp [h]), fun f h => T.lt f (by simp [h]), fun f h => T.one f (by simp [h]), fun f h => T.low f (by simp [h]), (List.pairwise_cons.mp T.two).2⟩
theorem Tab.diff : ∀ {L : Tb}, Tab p n L → ∀ e ∈ L, ∀ f ∈ L, e = f ∨ (gd e.1 f.2 = 0 ∧ gd f.1 e.2 = 0 ∧ e.2 ≠ f.2)
  | [], _, e, he, _, _ => by cases he
  | g :: L, T, e, he, f, hf => by
    have hp := List.pairwise_cons.mp T.two
    rcases List.mem_cons.mp he with rfl | he'
    · rcases List.mem_cons.mp hf with rfl | hf
      · exact .inl rfl
      · have q := hp.1 f hf
        exact .inr ⟨q.2, T.low f (by simp [hf]) _ q.1, Nat.ne_of_lt q.1⟩
    · rcases List.mem_cons.mp hf with rfl | hf
      · have q := hp.1 e he'
        exact .inr ⟨T.low e (by simp [he']) _ q.1, q.2, Nat.ne_of_gt q.1⟩
      · exact Tab.diff T.tail e he' f hf
theorem Tab.inj (T : Tab p n L) (he : e ∈ L) (hf : f ∈ L) (h : e.2 = f.2) : e = f := (T.diff e he f hf).elim id fun q => absurd h q.2.2
/-! ### clearing a word by a table -/
def rstep (p : Int) (r : Wrd) (e : Wrd × Nat) : Wrd := addw r (scaled e.1 (-(gd r e.2)) p) p
def hred (p : Int) (L : Tb) (r : Wrd) : Wrd := L.foldl (rstep p) r
theorem rstep_wn (hp : Pr p) (hr : Wn p n r) (he : Wn p n e.1) : Wn p n (rstep p r e) := wn_add hp hr (wn_scale hp he _)
theorem rstep_same (hp : Pr p) (hr : Wn p n r) (he : Wn p n e.1) (h : gd r e.2 = 0) : rstep p r e = r := by
  unfold rstep
  rw [h, show (-(0 : Int)) = 0 from rfl, scale_zero hp he, add_zero hp hr]
theorem rstep_add (hp : Pr p) (hu : Wn p n u) (hv : Wn p n v) (he : Wn p n e.1) : rstep p (addw u v p) e = addw (rstep p u e) (rstep p v e) p := by
  refine wext (rstep_wn hp (wn_add hp hu hv) he) (wn_add hp (rstep_wn hp hu he) (rstep_wn hp hv he)) fun i => ?_
  have hs : ∀ c, Wn p n (scaled e.1 c p) := wn_scale hp he
  unfold rstep
  rw [gadd (wn_add hp hu hv) (hs _), gadd hu hv, gadd hu hv, gadd (wn_add hp hu (hs _)) (wn_add hp hv (hs _)), gadd hu (hs _), gadd hv (hs _), gd_scaled, gd_scaled, gd_scaled]
  simp only [em1, em2]
  have h1 : gd e.1 i * -((gd u e.2 + gd v e.2) % p) = -(gd e.1 i) * ((gd u e.2 + gd v e.2) % p) := by grind
  have h2 : (gd u i + gd v i + gd e.1 i * -((gd u e.2 + gd v e.2) % p)) % p = (gd u i + gd v i + (-(gd e.1 i) * ((gd u e.2 + gd v e.2) % p)) % p) % p := by rw [h1, em2]
  rw [h2, em4, em2]
  congr 1
  grind
theorem rstep_scale (hp : Pr p) (hu : Wn p n u) (he : Wn p n e.1) (a : Int) : rstep p (scaled u a p) e = scaled (rstep p u e) a p := by
  refine wext (rstep_wn hp (wn_scale hp hu a) he) (wn_scale hp (rstep_wn hp hu he) a) fun i => ?_
  have hs : ∀ c, Wn p n (scaled e.1 c p) := wn_scale hp he
  unfold rstep
  rw [gadd (wn_scale hp hu a) (hs _), gd_scaled, gd_scaled, gd_scaled, gd_scaled, gadd hu (hs _), gd_scaled]
  simp only [em1, em2, em3]
  have h1 : gd e.1 i * -((gd u e.2 * a) % p) = -(gd e.1 i) * ((gd u e.2 * a) % p) := by grind
  have h2 : (gd u i * a + gd e.1 i * -((gd u e.2 * a) % p)) % p = (gd u i * a + (-(gd e.1 i) * ((gd u e.2 * a) % p)) % p) % p := by rw [h1, em2]
  have h3 : ((gd u i + gd e.1 i * -gd u e.2 % p) * a) % p = ((gd u i + gd e.1 i * -gd u e.2) * a) % p := by rw [← em3, em2, em3]
  first
    | rw [h2, em4, em2, h3]
      congr 1
      grind
    | rw [h2, em4, em2]
      congr 1
      grind
theorem hred_wn (hp : Pr p) : ∀ {L : Tb}, (∀ e ∈ L, Wn p n e.1) → ∀ {r : Wrd}, Wn p n r → Wn p n (hred p L r)
  | [], _, _, hr => hr
  | e :: L, h, r, hr => hred_wn hp (L := L) (fun f hf => h f (by simp [hf])) (rstep_wn hp hr (h e (by simp)))
theorem hred_add (hp : Pr p) : ∀ {L : Tb}, (∀ e ∈ L, Wn p n e.1) → ∀ {u v : Wrd}, Wn p n u → Wn p n v → hred p L (addw u v p) = addw (hred p L u) (hred p L v) p
  | [], _, _, _, _, _ => rfl
  | e :: L, h, u, v, hu, hv => by
    have he := h e (by simp)
    show hred p L (rstep p (addw u v p) e) = addw (hred p L (rstep p u e)) (hred p L (rstep p v e)) p
    rw [rstep_add hp hu hv he]
    exact hred_add hp (fun f hf => h f (by simp [hf])) (rstep_wn hp hu he) (rstep_wn hp hv he)
theorem hred_scale (hp : Pr p) (a : Int) : ∀ {L : Tb}, (∀ e ∈ L, Wn p n e.1) → ∀ {u : Wrd}, Wn p n u → hred p L (scaled u a p) = scaled (hred p L u) a p
  | [], _, _, _ => rfl
  | e :: L, h, u, hu => by
    have he := h e (by simp)
    show hred p L (rstep p (scaled u a p) e) = scaled (hred p L (rstep p u e)) a p
    rw [rstep_scale hp hu he]
    exact hred_scale hp a (fun f hf => h f (by simp [hf])) (rstep_wn hp hu he)
theorem hred_same (hp : Pr p) : ∀ {L : Tb}, (∀ e ∈ L, Wn p n e.1) → Wn p n u → (∀ e ∈ L, gd u e.2 = 0) → hred p L u = u
  | [], _, _, _ => rfl
  | e :: L, h, hu, hz => by
    show hred p L (rstep p u e) = u
    rw [rstep_same hp hu (h e (by simp)) (hz e (by simp))]
    exact hred_same hp (fun f hf => h f (by simp [hf])) hu (fun f hf => hz f (by simp [hf]))
theorem hred_own (hp : Pr p) : ∀ {L : Tb}, Tab p n L → ∀ f ∈ L, hred p L f.1 = List.replicate n 0
  | [], _, _, hf => by cases hf
  | e :: L, T, f, hf => by
    show hred p L (rstep p f.1 e) = _
    by_cases h : e = f
    · subst h
      have he := T.wn e (by simp)
      have e1 : rstep p e.1 e = List.replicate n 0 := by
        unfold rstep
        rw [T.one e (by simp)]
        refine wext (wn_add hp he (wn_scale hp he _)) (wn_zero hp n) fun i => ?_
        rw [gadd he (wn_scale hp he _), gd_scaled, gd_zero, em2]
        rw [show gd e.1 i + gd e.1 i * -1 = 0 by grind]
        simp
      rw [e1]
      exact hred_same hp (fun g hg => T.wn g (by simp [hg])) (wn_zero hp n) (fun g _ => gd_zero n g.2)
    · have hf' : f ∈ L := (List.mem_cons.mp hf).elim (fun z => absurd z.symm h) id
      have hd := ((T.diff e (by simp) f hf).resolve_left h).2.1
      rw [rstep_same hp (T.wn f hf) (T.wn e (by simp)) hd]
      exact hred_own hp T.tail f hf'
/-- a word of the span is cleared away -/
theorem hred_span (hp : Pr p) (T : Tab p n L) (h : Span p n (rowsOf L) u) : hred p L u = List.replicate n 0 := by
  induction h with
  | zero => exact hred_same hp T.wn (wn_zero hp n) (fun g _ => gd_zero n g.2)
  | step a s m ih =>
    obtain ⟨e, he, rfl⟩ := List.mem_map.mp m
    rw [hred_add hp T.wn (s.wn hp T.rws) (wn_scale hp (T.wn e he) a), ih, hred_scale hp a T.wn (T.wn e he), hred_own hp T e he, zero_scale hp, add_zero hp (wn_zero hp n)]
theorem span_zero (hp : Pr p) (T : Tab p n L) (h : Span p n (rowsOf L) u) (hz : ∀ e ∈ L, gd u e.2 = 0) : u = List.replicate n 0 := by
  rw [← hred_span hp T h, hred_same hp T.wn (h.wn hp T.rws) hz]
/-- what is cleared to a word of the span is of the span -/
theorem rstep_back (hp : Pr p) (hr : Wn p n r) (he : Wn p n e.1) : r = addw (rstep p r e) (scaled e.1 (gd r e.2) p) p := by
  unfold rstep
  rw [← add_assoc hp hr (wn_scale hp he _) (wn_scale hp he _), add_scale hp he, show -(gd r e.2) + gd r e.2 = 0 by grind, scale_zero hp he, add_zero hp hr]
theorem hred_back (hp : Pr p) (all : List Wrd) (hall : Rws p n all) : ∀ {L : Tb}, (∀ e ∈ L, Wn p n e.1 ∧ e.1 ∈ all) → ∀ {r : Wrd}, Wn p n r → Span p n all (hred p L r) → Span p n all r
  | [], _, _, _, h => h
  | e :: L, hL, r, hr, h => by
    have he := hL e (by simp)
    have q := hred_back hp all hall (L := L) (fun f hf => hL f (by simp [hf])) (rstep_wn hp hr he.1) h
    rw [rstep_back hp hr he.1]
    exact q.step _ he.2
theorem hred_iff (hp : Pr p) (T : Tab p n L) (hr : Wn p n r) : hred p L r = List.replicate n 0 ↔ Span p n (rowsOf L) r :=
  ⟨fun h => hred_back hp _ T.rws (fun e he => ⟨T.wn e he, List.mem_map.mpr ⟨e, he, rfl⟩⟩) hr (by rw [h]; exact .zero), hred_span hp T⟩
/-! ### a span has one table -/
theorem lead_zero (hp : Pr p) {i : Nat} : ∀ {L : Tb}, (∀ e ∈ L, Wn p n e.1) → (∀ e ∈ L, ∀ c, c < e.2 → gd e.1 c = 0) → (∀ e ∈ L, e.2 ≠ i) → ∀ {r : Wrd}, Wn p n r → (∀ c, c < i → gd r c = 0) → gd (hred p L r) i = gd r i
  | [], _, _, _, _, _, _ => rfl
  | e :: L, hw, hl, hn, r, hr, hz => by
    have he := hw e (by simp)
    show gd (hred p L (rstep p r e)) i = _
    rcases Nat.lt_or_gt_of_ne (hn e (by simp)) with h | h
    · rw [rstep_same hp hr he (hz _ h)]
      exact lead_zero hp (fun f hf => hw f (by simp [hf])) (fun f hf => hl f (by simp [hf])) (fun f hf => hn f (by simp [hf])) hr hz
    · have e0 : ∀ c, c ≤ i → gd (rstep p r e) c = gd r c := fun c hc => by
        unfold rstep
        rw [gadd hr (wn_scale hp he _), gd_scaled, hl e (by simp) c (by omega), Int.zero_mul]
        rw [Int.zero_emod, Int.add_zero, hr.md hp]
      rw [lead_zero hp (fun f hf => hw f (by simp [hf])) (fun f hf => hl f (by simp [hf])) (fun f hf => hn f (by simp [hf])) (rstep_wn hp hr he) (fun c hc => by rw [e0 c (by omega)]; exact hz c hc)]
      exact e0 i (Nat.le_refl i)
theorem piv_sub (hp : Pr p) (T : Tab p n L) (T' : Tab p n L') (h : SpEq p n (rowsOf L) (rowsOf L')) (he : e ∈ L) : ∃ f ∈ L', f.2 = e.2 := by
  by_cases c : ∃ f ∈ L', f.2 = e.2
  · exact c
  · exfalso
    have hs : Span p n (rowsOf L') e.1 := (h _).mp (Span.row hp T.rws (List.mem_map.mpr ⟨e, he, rfl⟩))
    have h0 := lead_zero hp (i := e.2) T'.wn T'.low (fun f hf z => c ⟨f, hf, z⟩) (T.wn e he) (T.low e he)
    rw [hred_span hp T' hs, gd_zero, T.one e he] at h0
    cases h0
theorem row_eq (hp : Pr p) (T : Tab p n L) (T' : Tab p n L') (h : SpEq p n (rowsOf L) (rowsOf L')) (he : e ∈ L) (hf : f ∈ L') (hk : e.2 = f.2) : e = f := by
  have we := T.wn e he
  have wf := T'.wn f hf
  have hs : Span p n (rowsOf L') (addw e.1 (scaled f.1 (-1) p) p) := ((h _).mp (Span.row hp T.rws (List.mem_map.mpr ⟨e, he, rfl⟩))).step _ (List.mem_map.mpr ⟨f, hf, rfl⟩)
  have hz := span_zero hp T' hs fun g hg => by
    rw [gadd we (wn_scale hp wf _), gd_scaled, em2]
    by_cases c : g.2 = f.2
    · rw [c, ← hk, T.one e he, hk, T'.one f hf]
      simp
    · have c1 : gd f.1 g.2 = 0 := ((T'.diff f hf g hg).resolve_left fun z => c (by rw [z])).1
      obtain ⟨g', hg', e2⟩ := piv_sub hp T' T (fun w => (h w).symm) hg
      have c2 : gd e.1 g'.2 = 0 := ((T.diff e he g' hg').resolve_left fun z => c (by rw [← e2, ← z, hk])).1
      rw [e2] at c2
      rw [c1, c2]
      simp
  have e1 : e.1 = f.1 := by
    refine wext we wf fun i => ?_
    have q : gd (addw e.1 (scaled f.1 (-1) p) p) i = gd (List.replicate n 0) i := by rw [hz]
    rw [gadd we (wn_scale hp wf _), gd_scaled, gd_zero, em2] at q
    have b1 := we.bd hp i
    have b2 := wf.bd hp i
    rw [show gd f.1 i * -1 = -(gd f.1 i) by grind] at q
    have := Int.dvd_of_emod_eq_zero q
    obtain ⟨k, hk⟩ := this
    have hp7 := hp.pos
    have : k = 0 := by
      rcases Int.lt_trichotomy k 0 with h | h | h
      · have : p * k ≤ p * (-1) := Int.mul_le_mul_of_nonneg_left (by omega) (by omega)
        omega
      · exact h
      · have : p * 1 ≤ p * k := Int.mul_le_mul_of_nonneg_left (by omega) (by omega)
        omega
    rw [this] at hk
    omega
  exact Prod.ext e1 hk
theorem tab_eq : ∀ {L L' : Tb}, L.Pairwise (fun e f => e.2 < f.2) → L'.Pairwise (fun e f => e.2 < f.2) → (∀ e ∈ L, ∃ f ∈ L', f.2 = e.2) → (∀ e ∈ L', ∃ f ∈ L, f.2 = e.2) → (∀ e ∈ L, ∀ f ∈ L', e.2 = f.2 → e = f) → L = L'
  | [], [], _, _, _, _, _ => rfl
  | [], f :: L', _, _, _, h, _ => by obtain ⟨g, hg, _⟩ := h f (by simp); cases hg
  | e :: L, [], _, _, h, _, _ => by obtain ⟨g, hg, _⟩ := h e (by simp); cases hg
  | e :: L, f :: L', h1, h2, s1, s2, q => by
    have p1 := List.pairwise_cons.mp h1
    have p2 := List.pairwise_cons.mp h2
    have hef : e.2 = f.2 := by
      obtain ⟨g, hg, eg⟩ := s1 e (by simp)
      obtain ⟨g', hg', eg'⟩ := s2 f (by simp)
      rcases List.mem_cons.mp hg with rfl | hg
      · exact eg.symm
      · rcases List.mem_cons.mp hg' with rfl | hg'
        · exact eg'
        · have := p2.1 g hg
          have := p1.1 g' hg'
          omega
    have hh : e = f := q e (by simp) f (by simp) hef
    subst hh
    congr 1
    refine tab_eq p1.2 p2.2 (fun g hg => ?_) (fun g hg => ?_) (fun g hg k hk => q g (by simp [hg]) k (by simp [hk]))
    · obtain ⟨k, hk, ek⟩ := s1 g (by simp [hg])
      rcases List.mem_cons.mp hk with rfl | hk
      · have := p1.1 g hg
        omega
      · exact ⟨k, hk, ek⟩
    · obtain ⟨k, hk, ek⟩ := s2 g (by simp [hg])
      rcases List.mem_cons.mp hk with rfl | hk
      · have := p2.1 g hg
        omega
      · exact ⟨k, hk, ek⟩
theorem tab_uniq (hp : Pr p) (T : Tab p n L) (T' : Tab p n L') (h : SpEq p n (rowsOf L) (rowsOf L')) : L = L' :=
  tab_eq (T.two.imp fun q => q.1) (T'.two.imp fun q => q.1) (fun e he => piv_sub hp T T' h he) (fun e he => piv_sub hp T' T (fun w => (h w).symm) he) (fun e he f hf hk => row_eq hp T T' h he hf hk)
end
end Wk
namespace Wk
section
variable {p : Int} {n : Nat} {u v w r x : Wrd} {a : Int} {rows rows' : List Wrd} {L L' : Tb} {e f : Wrd × Nat}
theorem inv_mul (hp : Pr p) {x : Int} (h0 : 0 ≤ x) (h1 : x < p) (hx : x ≠ 0) : x * inv x p % p = 1 := by
  obtain ⟨i, hi, e⟩ := inv_ex hp h0 h1 hx
  unfold inv
  cases hf : (List.range (p - 1).toNat).find? (fun i => x * (1 + (i : Nat)) % p == 1) with
  | none =>
    have := List.find?_eq_none.mp hf i (List.mem_range.mpr hi)
    simp [e] at this
  | some j =>
    have := List.find?_some hf
    simpa using this
/-- behind the first k columns -/
structure RS (p : Int) (n : Nat) (rows : List Wrd) (k : Nat) (st : RedSt) : Prop where
  ex : ∃ L : Tb, st.2.1 = rowsOf L ∧ st.2.2 = pivOf L ∧ Tab p n L ∧ (∀ e ∈ L, e.2 < k) ∧ Rws p n st.1 ∧ (∀ r ∈ st.1, ∀ c, c < k → gd r c = 0) ∧ SpEq p n rows (rowsOf L ++ st.1)
theorem gd_cleared (hr : Wn p n r) (hh : Wn p n v) (hp : Pr p) (k i : Nat) : gd (cleared r v k p) i = (gd r i + gd v i * (-(gd r k))) % p := by
  unfold cleared
  rw [gadd hr (wn_scale hp hh _), gd_scaled, em2]
theorem clear_back (hp : Pr p) (hr : Wn p n r) (hh : Wn p n v) (k : Nat) : r = addw (cleared r v k p) (scaled v (gd r k) p) p := by
  unfold cleared
  rw [← add_assoc hp hr (wn_scale hp hh _) (wn_scale hp hh _), add_scale hp hh, show -(List.getD r k 0) + gd r k = 0 by show -(gd r k) + gd r k = 0; grind, scale_zero hp hh, add_zero hp hr]
theorem redStep_rs (hp : Pr p) {k : Nat} {st : RedSt} (hk : k < n) (h : RS p n rows k st) (hrows : Rws p n rows) : RS p n rows (k + 1) (redStep p st k) := by
  obtain ⟨L, h1, h2, T, hL, hrw, hz, hs⟩ := h.ex
  unfold redStep
  split
  · rename_i hnil
    refine ⟨L, h1, h2, T, fun e he => Nat.lt_succ_of_lt (hL e he), hrw, fun r hr c hc => ?_, hs⟩
    rcases Nat.lt_or_eq_of_le (Nat.le_of_lt_succ hc) with hc | rfl
    · exact hz r hr c hc
    · by_cases c0 : gd r c = 0
      · exact c0
      · have : r ∈ st.1.filter (fun r => r.getD c 0 != 0) := List.mem_filter.mpr ⟨hr, by simpa using c0⟩
        rw [hnil] at this
        cases this
  · rename_i hd tl hcons
    have hmem : hd ∈ st.1 ∧ gd hd k ≠ 0 := by
      have : hd ∈ st.1.filter (fun r => r.getD k 0 != 0) := by rw [hcons]; exact List.mem_cons_self
      have := List.mem_filter.mp this
      exact ⟨this.1, by simpa using this.2⟩
    have whd := hrw hd hmem.1
    have bk := whd.bd hp k
    have hinv := inv_mul hp bk.1 bk.2 hmem.2
    have ehead : scaled hd (inv (hd.getD k 0) p) p = scaled hd (inv (gd hd k) p) p := rfl
    generalize hhead : scaled hd (inv (hd.getD k 0) p) p = head
    rw [ehead] at hhead
    have wh : Wn p n head := by rw [← hhead]; exact wn_scale hp whd _
    have h1k : gd head k = 1 := by rw [← hhead, gd_scaled]; exact hinv
    have h0c : ∀ c, c < k → gd head c = 0 := fun c hc => by rw [← hhead, gd_scaled, hz hd hmem.1 c hc, Int.zero_mul, Int.zero_emod]
    have hback : hd = scaled head (gd hd k) p := by
      rw [← hhead, scale_scale hp whd, ← scale_mod hp whd (inv (gd hd k) p * gd hd k), show inv (gd hd k) p * gd hd k = gd hd k * inv (gd hd k) p by grind, hinv, scale_one hp whd]
    have hone : (1 : Int) % p = 1 := Int.emod_eq_of_lt (by omega) (by rcases hp with rfl | rfl | rfl | rfl <;> decide)
    have hck : ∀ r, Wn p n r → gd (cleared r head k p) k = 0 := fun r hr => by
      rw [gd_cleared hr wh hp, h1k, show gd r k + 1 * -gd r k = 0 by grind, Int.zero_emod]
    have hcc : ∀ r, Wn p n r → ∀ c, gd head c = 0 → gd (cleared r head k p) c = gd r c := fun r hr c hc => by
      rw [gd_cleared hr wh hp, hc, Int.zero_mul, Int.add_zero, hr.md hp]
    have wc : ∀ r, Wn p n r → Wn p n (cleared r head k p) := fun r hr => cleared_wn hp hr wh k
    -- the table behind
    refine ⟨(L.map fun e => (cleared e.1 head k p, e.2)) ++ [(head, k)], ?_, ?_, ⟨?_, ?_, ?_, ?_, ?_⟩, ?_, ?_, ?_, ?_⟩
    · show List.map _ st.2.1 ++ [head] = rowsOf _
      rw [h1]
      unfold rowsOf
      simp [List.map_map]
    · show st.2.2 ++ [((k : Nat) : Int)] = pivOf _
      rw [h2]
      unfold pivOf
      simp [List.map_map]
    · intro e he
      rcases List.mem_append.mp he with he | he
      · obtain ⟨g, hg, rfl⟩ := List.mem_map.mp he
        exact wc _ (T.wn g hg)
      · rw [List.mem_singleton.mp he]; exact wh
    · intro e he
      rcases List.mem_append.mp he with he | he
      · obtain ⟨g, hg, rfl⟩ := List.mem_map.mp he
        exact T.lt g hg
      · rw [List.mem_singleton.mp he]; exact hk
    · intro e he
      rcases List.mem_append.mp he with he | he
      · obtain ⟨g, hg, rfl⟩ := List.mem_map.mp he
        show gd (cleared g.1 head k p) g.2 = 1
        rw [hcc _ (T.wn g hg) _ (h0c _ (hL g hg))]
        exact T.one g hg
      · rw [List.mem_singleton.mp he]; exact h1k
    · intro e he c hc
      rcases List.mem_append.mp he with he | he
      · obtain ⟨g, hg, rfl⟩ := List.mem_map.mp he
        have := hL g hg
        have hc' : c < g.2 := hc
        show gd (cleared g.1 head k p) c = 0
        rw [hcc _ (T.wn g hg) _ (h0c _ (by omega))]
        exact T.low g hg c hc'
      · rw [List.mem_singleton.mp he] at hc ⊢
        exact h0c c hc
    · rw [List.pairwise_append]
      refine ⟨?_, List.pairwise_singleton _ _, fun e he g hg => ?_⟩
      · rw [List.pairwise_map]
        refine List.Pairwise.imp_of_mem (fun {a b} ha hb q => ?_) T.two
        refine ⟨q.1, ?_⟩
        show gd (cleared a.1 head k p) b.2 = 0
        rw [hcc _ (T.wn a ha) _ (h0c _ (hL b hb))]
        exact q.2
      · obtain ⟨g', hg', rfl⟩ := List.mem_map.mp he
        rw [List.mem_singleton.mp hg]
        exact ⟨hL g' hg', hck _ (T.wn g' hg')⟩
    · intro e he
      rcases List.mem_append.mp he with he | he
      · obtain ⟨g, hg, rfl⟩ := List.mem_map.mp he
        exact Nat.lt_succ_of_lt (hL g hg)
      · rw [List.mem_singleton.mp he]; exact Nat.lt_succ_self k
    · intro r hr
      obtain ⟨y, hy, rfl⟩ := List.mem_map.mp hr
      exact wc y (hrw y (List.mem_of_mem_erase hy))
    · intro r hr c hc
      obtain ⟨y, hy, rfl⟩ := List.mem_map.mp hr
      have wy := hrw y (List.mem_of_mem_erase hy)
      rcases Nat.lt_or_eq_of_le (Nat.le_of_lt_succ hc) with hc | rfl
      · rw [hcc y wy c (h0c c hc)]
        exact hz y (List.mem_of_mem_erase hy) c hc
      · exact hck y wy
    · -- the spans
      have eR : rowsOf ((L.map fun e => (cleared e.1 head k p, e.2)) ++ [(head, k)]) = (rowsOf L).map (fun r => cleared r head k p) ++ [head] := by
        unfold rowsOf
        simp [List.map_map]
      rw [eR]
      have hold : Rws p n (rowsOf L ++ st.1) := fun r hr => (List.mem_append.mp hr).elim (fun h => T.rws r h) (fun h => hrw r h)
      have hnew : Rws p n ((rowsOf L).map (fun r => cleared r head k p) ++ [head] ++ (st.1.erase hd).map (fun r => cleared r head k p)) := fun r hr => by
        rcases List.mem_append.mp hr with hr | hr
        · rcases List.mem_append.mp hr with hr | hr
          · obtain ⟨y, hy, rfl⟩ := List.mem_map.mp hr
            exact wc y (T.rws y hy)
          · rw [List.mem_singleton.mp hr]; exact wh
        · obtain ⟨y, hy, rfl⟩ := List.mem_map.mp hr
          exact wc y (hrw y (List.mem_of_mem_erase hy))
      have q : SpEq p n (rowsOf L ++ st.1) ((rowsOf L).map (fun r => cleared r head k p) ++ [head] ++ (st.1.erase hd).map (fun r => cleared r head k p)) := by
        refine SpEq.of hp hold hnew (fun r hr => ?_) (fun r hr => ?_)
        · have hhead' : head ∈ (rowsOf L).map (fun r => cleared r head k p) ++ [head] ++ (st.1.erase hd).map (fun r => cleared r head k p) := by simp
          by_cases c : r = hd
          · subst c
            have q2 := (Span.row hp hnew hhead').scale hp hnew (gd r k)
            rw [← hback] at q2
            exact q2
          · have wr := hold r hr
            rw [clear_back hp wr wh k]
            refine (Span.row hp hnew ?_).step _ hhead'
            rcases List.mem_append.mp hr with hr | hr
            · exact List.mem_append.mpr (.inl (List.mem_append.mpr (.inl (List.mem_map.mpr ⟨r, hr, rfl⟩))))
            · exact List.mem_append.mpr (.inr (List.mem_map.mpr ⟨r, (List.mem_erase_of_ne c).mpr hr, rfl⟩))
        · have hhd : Span p n (rowsOf L ++ st.1) hd := Span.row hp hold (List.mem_append.mpr (.inr hmem.1))
          have hhs : Span p n (rowsOf L ++ st.1) head := by rw [← hhead]; exact hhd.scale hp hold _
          have hcl : ∀ y, y ∈ rowsOf L ++ st.1 → Span p n (rowsOf L ++ st.1) (cleared y head k p) := fun y hy => by
            unfold cleared
            exact (Span.row hp hold hy).add hp hold (hhs.scale hp hold _)
          rcases List.mem_append.mp hr with hr | hr
          · rcases List.mem_append.mp hr with hr | hr
            · obtain ⟨y, hy, rfl⟩ := List.mem_map.mp hr
              exact hcl y (List.mem_append.mpr (.inl hy))
            · rw [List.mem_singleton.mp hr]; exact hhs
          · obtain ⟨y, hy, rfl⟩ := List.mem_map.mp hr
            exact hcl y (List.mem_append.mpr (.inr (List.mem_of_mem_erase hy)))
      exact fun w => (hs w).trans (q w)
theorem redRun_rs (hp : Pr p) (hr : Rws p n rows) : ∀ k, k ≤ n → RS p n rows k ((List.range k).foldl (redStep p) (rows, [], []))
  | 0, _ => ⟨[], rfl, rfl, ⟨fun e he => (by cases he), fun e he => (by cases he), fun e he => (by cases he), fun e he => (by cases he), .nil⟩, fun e he => (by cases he), hr, fun r _ c hc => absurd hc (Nat.not_lt_zero c), fun w => Iff.rfl⟩
  | k + 1, hk => by
    rw [List.range_succ, List.foldl_append]
    exact redStep_rs hp hk (redRun_rs hp hr k (by omega)) hr
/-- the table of some rows -/
theorem reduced_tab (hp : Pr p) (hr : Rws p n rows) : ∃ L : Tb, (reduced rows n p).1 = rowsOf L ∧ (reduced rows n p).2 = pivOf L ∧ Tab p n L ∧ SpEq p n rows (rowsOf L) := by
  obtain ⟨L, h1, h2, T, hL, hrw, hz, hs⟩ := (redRun_rs hp hr n (Nat.le_refl n)).ex
  refine ⟨L, h1, h2, T, fun w => (hs w).trans ?_⟩
  have hall : Rws p n (rowsOf L ++ ((List.range n).foldl (redStep p) (rows, [], [])).1) := fun r hr => (List.mem_append.mp hr).elim (fun h => T.rws r h) (fun h => hrw r h)
  refine SpEq.of hp hall T.rws (fun r hr => ?_) (fun r hr => Span.row hp hall (List.mem_append.mpr (.inl hr))) w
  rcases List.mem_append.mp hr with hr | hr
  · exact Span.row hp T.rws hr
  · have e : r = List.replicate n 0 := wext (hrw r hr) (wn_zero hp n) fun i => by
      rw [gd_zero]
      by_cases hi : i < n
      · exact hz r hr i hi
      · exact gd_ge (by rw [(hrw r hr).1]; omega)
    rw [e]
    exact .zero
/-- rows with the same span have the same table -/
theorem reduced_eq (hp : Pr p) (hr : Rws p n rows) (hr' : Rws p n rows') (h : SpEq p n rows rows') : reduced rows n p = reduced rows' n p := by
  obtain ⟨L, a1, a2, a3, a4⟩ := reduced_tab hp hr
  obtain ⟨L', b1, b2, b3, b4⟩ := reduced_tab hp hr'
  have e := tab_uniq hp a3 b3 fun w => (a4 w).symm.trans ((h w).trans (b4 w))
  subst e
  exact Prod.ext (a1.trans b1.symm) (a2.trans b2.symm)
theorem spEq_of_reduced (hp : Pr p) (hr : Rws p n rows) (hr' : Rws p n rows') (h : (reduced rows n p).1 = (reduced rows' n p).1) : SpEq p n rows rows' := by
  obtain ⟨L, a1, a2, a3, a4⟩ := reduced_tab hp hr
  obtain ⟨L', b1, b2, b3, b4⟩ := reduced_tab hp hr'
  have e : rowsOf L = rowsOf L' := by rw [← a1, ← b1, h]
  exact fun w => (a4 w).trans (by rw [e]; exact (b4 w).symm)
theorem mkCode_eq (hp : Pr p) (hr : Rws p n rows) (hr' : Rws p n rows') (h : SpEq p n rows rows') : mkCode p n rows = mkCode p n rows' := by
  unfold mkCode
  rw [reduced_eq hp hr hr' h]
/-! ### holds -/
theorem holdRun_eq {c : Cd} (h1 : c.rows = rowsOf L) (h2 : c.piv = pivOf L) (w : Wrd) : holdRun c w = hred c.p L w := by
  have key : ∀ k, k ≤ L.length → (List.range k).foldl (holdStep c) w = (L.take k).foldl (rstep c.p) w := by
    intro k
    induction k with
    | zero => intro _; rfl
    | succ k ih =>
      intro hk
      have hk' : k < L.length := hk
      rw [List.range_succ, List.foldl_append, List.foldl_cons, List.foldl_nil, ih (by omega), List.take_succ_eq_append_getElem hk', List.foldl_append]
      show holdStep c _ k = rstep c.p _ L[k]
      unfold holdStep rstep
      have e1 : c.rows.getD k [] = L[k].1 := by
        rw [h1]
        unfold rowsOf
        rw [List.getD_eq_getElem?_getD, List.getElem?_map, List.getElem?_eq_getElem hk']
        rfl
      have e2 : (c.piv.getD k 0).toNat = L[k].2 := by
        rw [h2]
        unfold pivOf
        rw [List.getD_eq_getElem?_getD, List.getElem?_map, List.getElem?_eq_getElem hk']
        show (((L[k].2 : Nat) : Int)).toNat = _
        omega
      rw [e1, e2]
  unfold holdRun hred
  have e : c.rows.length = L.length := by rw [h1]; unfold rowsOf; rw [List.length_map]
  rw [e, key _ (Nat.le_refl _), List.take_length]
theorem holds_iff (hp : Pr p) (hr : Rws p n rows) (hw : Wn p n w) : holds (mkCode p n rows) w = true ↔ Span p n rows w := by
  obtain ⟨L, a1, a2, a3, a4⟩ := reduced_tab hp hr
  unfold holds
  rw [holdRun_eq (c := mkCode p n rows) a1 a2, beq_iff_eq]
  exact (hred_iff hp a3 hw).trans (a4 w).symm
theorem cyclic_iff (hp : Pr p) (hn : 1 ≤ n) (hr : Rws p n rows) : isCyclic (mkCode p n rows) = true ↔ Closed p n rows := by
  obtain ⟨L, a1, a2, a3, a4⟩ := reduced_tab hp hr
  unfold isCyclic
  rw [Bool.and_eq_true, decide_eq_true_eq, List.all_eq_true]
  have e : (mkCode p n rows).rows = rowsOf L := a1
  rw [e]
  constructor
  · rintro ⟨_, h⟩
    refine Closed.eq (fun w => (a4 w).symm) (closed_of hp a3.rws fun r hm => ?_)
    exact (a4 _).mp ((holds_iff hp hr (shiftW_wn' (a3.rws r hm))).mp (h r hm))
  · intro h
    refine ⟨hn, fun r hm => (holds_iff hp hr (shiftW_wn' (a3.rws r hm))).mpr ?_⟩
    exact h r ((a4 r).mpr (Span.row hp a3.rws hm))
end
end Wk
set_option maxRecDepth 100000
namespace Wk
/-! ### the sixteen rings, decided -/
def monB (a : Wrd) (p : Int) : Bool := decide (a.length ≤ 40) && wdB p a && (a.length == 0 || invB (a.getLastD 0) p)
def gcdB (p : Int) : Nat → Wrd × Wrd → Bool
  | 0, s => (s.2.length == 0) && monB s.1 p
  | k + 1, s => if s.2.length = 0 then monB s.1 p else divB s.1 s.2 p && gcdB p k (gcdStep p s)
def genPre (p : Int) (c : Cd) (i : Nat) : Wrd := (c.rows.take i).foldl (fun f row => commonDivisor f (trimmed row) c.p) (unitPoly c.p c.n)
def genB (c : Cd) : Bool := (List.range c.rows.length).all fun i => gcdB c.p 14 (genPre c.p c i, trimmed (c.rows.getD i []))
def orb (n : Nat) : Nat → Wrd → List Wrd
  | 0, _ => []
  | k + 1, w => w :: orb n k (shiftW w)
def ringG (p : Int) (n : Nat) (D : List Wrd) (g : Wrd) : Bool := let c := cyclicCode p n g
  isCyclic c && genB c && (genPoly c == g) && divB (unitPoly p n) g p && (times (checkPoly c) g p == unitPoly p n) && (decide ((checkPoly c).length ≤ 40) && wdB p (checkPoly c))
def ringR (p : Int) (n : Nat) (g : Wrd) : Bool := [[], [0], g ++ [0], [1, p], unitPoly p n ++ [1], times (unitPoly p n) [0, 1] p].all fun x => decide (x.length ≤ 40) && !isDivisor (unitPoly p n) x p
def ringB (p : Int) (n : Nat) : Bool := let D := divisors p n
  D.all (fun g => ringG p n D g && ringR p n g) && D.contains (unitPoly p n) &&
  (let R := D.map fun g => (cyclicCode p n g).rows
   (tuplesOf p n).all (fun w => R.contains (reduced (orb n n w) n p).1) && D.all fun g => D.all fun g' => R.contains (reduced (genRows n g ++ genRows n g') n p).1)
def ringW (p : Int) (n : Nat) : Bool := (divisors p n).all fun g => sortBy leW (wordsRaw (cyclicCode p n g)) == sortBy leW (spanKeys (genRows n g) n p)
theorem rings_ok {p : Int} {n : Nat} (r : Ring p n) : ringB p n = true := ring_all (f := fun x => ringB x.1 x.2) (by decide +kernel) r
end Wk
namespace Wk
theorem rings_w {p : Int} {n : Nat} (r : Ring p n) : ringW p n = true := ring_all (f := fun x => ringW x.1 x.2) (by decide +kernel) r
end Wk
set_option maxRecDepth 10000
namespace Wk
section
variable {p : Int} {n : Nat} {u v w r x : Wrd} {a : Int} {rows rows' : List Wrd}
theorem tuples_all (hp : Pr p) : ∀ {n : Nat} {w : Wrd}, Wn p n w → w ∈ tuplesOf p n
  | 0, w, h => by
    have : w = [] := List.eq_nil_of_length_eq_zero h.1
    rw [this]
    simp [tuplesOf]
  | n + 1, w, h => by
    have hne : w ≠ [] := fun e => by have := h.1; rw [e] at this; cases this
    have e : w = w.dropLast ++ [w.getLast hne] := (List.dropLast_concat_getLast hne).symm
    have hl := h.2 (w.getLast hne) (List.getLast_mem hne)
    unfold tuplesOf
    rw [List.mem_flatMap]
    refine ⟨w.dropLast, tuples_all hp ⟨by rw [List.length_dropLast, h.1]; rfl, fun x hx => h.2 x (List.dropLast_subset w hx)⟩, ?_⟩
    rw [List.mem_map]
    refine ⟨(w.getLast hne).toNat, List.mem_range.mpr (by omega), ?_⟩
    rw [show (((w.getLast hne).toNat : Nat) : Int) = w.getLast hne by omega]
    exact e.symm
theorem orb_wn : ∀ {k : Nat} {w : Wrd}, Wn p n w → Rws p n (orb n k w)
  | 0, _, _ => fun r hr => by cases hr
  | k + 1, w, h => fun r hr => by
    rcases List.mem_cons.mp hr with rfl | hr
    · exact h
    · exact orb_wn (shiftW_wn' h) r hr
theorem orb_in (hc : Closed p n rows) : ∀ {k : Nat} {w : Wrd}, Span p n rows w → ∀ x ∈ orb n k w, Span p n rows x
  | 0, _, _ => fun r hr => by cases hr
  | k + 1, w, h => fun r hr => by
    rcases List.mem_cons.mp hr with rfl | hr
    · exact h
    · exact orb_in hc (hc _ h) r hr
theorem genRows_rws {g : Wrd} (hp : Pr p) (hg : Wd p g) (hl : 1 ≤ g.length) : Rws p n (genRows n g) := fun r hr => by
  obtain ⟨i, hi, rfl⟩ := List.mem_map.mp hr
  have hi := List.mem_range.mp hi
  have h0 : 0 < p := hp.pos.1
  refine ⟨by simp only [List.length_append, List.length_replicate]; omega, fun x hx => ?_⟩
  rcases List.mem_append.mp hx with hx | hx
  · rcases List.mem_append.mp hx with hx | hx
    · rw [(List.mem_replicate.mp hx).2]; omega
    · exact hg x hx
  · rw [(List.mem_replicate.mp hx).2]; omega
/-- what the decided part says -/
structure DvOk (p : Int) (n : Nat) (g : Wrd) : Prop where
  one : 1 ≤ g.length
  le : g.length ≤ n + 1
  wd : Wd p g
  dv : isDivisor (unitPoly p n) g p = true
def dvB' (p : Int) (n : Nat) (g : Wrd) : Bool := decide (1 ≤ g.length) && decide (g.length ≤ n + 1) && wdB p g && isDivisor (unitPoly p n) g p
theorem wdB_wd (h : wdB p w = true) : Wd p w := fun x hx => by
  have := List.all_eq_true.mp h x hx
  simpa using this
theorem dv_ok (hr : Ring p n) : ∀ g ∈ divisors p n, DvOk p n g := fun g hg => by
  have := ring_all (f := fun x => (divisors x.1 x.2).all fun g => dvB' x.1 x.2 g) (by decide +kernel) hr
  have := List.all_eq_true.mp this g hg
  unfold dvB' at this
  simp only [Bool.and_eq_true, decide_eq_true_eq] at this
  exact ⟨this.1.1.1, this.1.1.2, wdB_wd this.1.2, this.2⟩
theorem dv_rws (hr : Ring p n) (hp : Pr p) {g : Wrd} (hg : g ∈ divisors p n) : Rws p n (genRows n g) := genRows_rws hp (dv_ok hr g hg).wd (dv_ok hr g hg).one
theorem SpEq.append (hp : Pr p) {a b a' b' : List Wrd} (ha : Rws p n a) (hb : Rws p n b) (ha' : Rws p n a') (hb' : Rws p n b') (h : SpEq p n a a') (h' : SpEq p n b b') : SpEq p n (a ++ b) (a' ++ b') := by
  have happ : ∀ {x y : List Wrd}, Rws p n x → Rws p n y → Rws p n (x ++ y) := fun hx hy r hr => (List.mem_append.mp hr).elim (hx r) (hy r)
  have sub : ∀ {x y z : List Wrd}, Rws p n x → Rws p n y → Rws p n z → (∀ r ∈ x, r ∈ z) → ∀ w, Span p n x w → Span p n z w := fun hx _ hz hs w hw => Span.trans hp hz (fun r hr => Span.row hp hz (hs r hr)) hw
  refine SpEq.of hp (happ ha hb) (happ ha' hb') (fun r hr => ?_) (fun r hr => ?_)
  · rcases List.mem_append.mp hr with hr | hr
    · exact sub ha' hb' (happ ha' hb') (fun r h => List.mem_append.mpr (.inl h)) r ((h r).mp (Span.row hp ha hr))
    · exact sub hb' ha' (happ ha' hb') (fun r h => List.mem_append.mpr (.inr h)) r ((h' r).mp (Span.row hp hb hr))
  · rcases List.mem_append.mp hr with hr | hr
    · exact sub ha hb (happ ha hb) (fun r h => List.mem_append.mpr (.inl h)) r ((h r).mpr (Span.row hp ha' hr))
    · exact sub hb ha (happ ha hb) (fun r h => List.mem_append.mpr (.inr h)) r ((h' r).mpr (Span.row hp hb' hr))
/-- the shifts of some words span one of the due codes -/
theorem orbs_gen (hr : Ring p n) (hp : Pr p) : ∀ {rows : List Wrd}, Rws p n rows → ∃ g ∈ divisors p n, SpEq p n (rows.flatMap (orb n n)) (genRows n g) := by
  have hall := rings_ok hr
  unfold ringB at hall
  simp only [Bool.and_eq_true] at hall
  obtain ⟨⟨_, hunit⟩, hw, hsum⟩ := hall
  intro rows
  induction rows with
  | nil =>
    intro _
    refine ⟨unitPoly p n, by simpa using hunit, ?_⟩
    have e : genRows n (unitPoly p n) = [] := by
      have h1 : 1 ≤ n := hr.1
      unfold genRows unitPoly
      simp
      omega
    rw [e]
    exact fun w => Iff.rfl
  | cons w t ih =>
    intro h
    have hw1 : Wn p n w := h w (by simp)
    obtain ⟨g2, hg2, s2⟩ := ih fun r hm => h r (by simp [hm])
    have q1 := List.all_eq_true.mp hw w (tuples_all hp hw1)
    rw [List.contains_iff_mem] at q1
    obtain ⟨g1, hg1, e1⟩ := List.mem_map.mp q1
    have ho := orb_wn (k := n) hw1
    have s1 : SpEq p n (orb n n w) (genRows n g1) := spEq_of_reduced hp ho (dv_rws hr hp hg1) e1.symm
    have q3 := List.all_eq_true.mp (List.all_eq_true.mp hsum g1 hg1) g2 hg2
    rw [List.contains_iff_mem] at q3
    obtain ⟨g3, hg3, e3⟩ := List.mem_map.mp q3
    have hto : Rws p n (t.flatMap (orb n n)) := fun r hm => by
      obtain ⟨y, hy, hm⟩ := List.mem_flatMap.mp hm
      exact orb_wn (h y (by simp [hy])) r hm
    have h12 : Rws p n (genRows n g1 ++ genRows n g2) := fun r hm => (List.mem_append.mp hm).elim (dv_rws hr hp hg1 r) (dv_rws hr hp hg2 r)
    have s3 : SpEq p n (genRows n g1 ++ genRows n g2) (genRows n g3) := spEq_of_reduced hp h12 (dv_rws hr hp hg3) e3.symm
    refine ⟨g3, hg3, fun x => ?_⟩
    rw [List.flatMap_cons]
    exact (SpEq.append hp ho hto (dv_rws hr hp hg1) (dv_rws hr hp hg2) s1 s2 x).trans (s3 x)
theorem orb_self {k : Nat} (hk : 1 ≤ k) (w : Wrd) : w ∈ orb n k w := by
  cases k with
  | zero => omega
  | succ k => exact List.mem_cons_self
/-- a closed span is one of the due codes -/
theorem closed_gen (hr : Ring p n) (hp : Pr p) (hrow : Rws p n rows) (hc : Closed p n rows) : ∃ g ∈ divisors p n, SpEq p n rows (genRows n g) := by
  obtain ⟨g, hg, s⟩ := orbs_gen hr hp hrow
  refine ⟨g, hg, fun w => Iff.trans ?_ (s w)⟩
  have ho : Rws p n (rows.flatMap (orb n n)) := fun r hm => by
    obtain ⟨y, hy, hm⟩ := List.mem_flatMap.mp hm
    exact orb_wn (hrow y hy) r hm
  refine SpEq.of hp hrow ho (fun r hm => Span.row hp ho (List.mem_flatMap.mpr ⟨r, hm, orb_self hr.1 r⟩)) (fun r hm => ?_) w
  obtain ⟨y, hy, hm⟩ := List.mem_flatMap.mp hm
  exact orb_in hc (Span.row hp hrow hy) r hm
theorem gen_closed (hr : Ring p n) (hp : Pr p) {g : Wrd} (hg : g ∈ divisors p n) : Closed p n (genRows n g) := by
  have hall := rings_ok hr
  unfold ringB at hall
  simp only [Bool.and_eq_true] at hall
  have q := List.all_eq_true.mp hall.1.1 g hg
  rw [Bool.and_eq_true] at q
  have q := q.1
  unfold ringG at q
  simp only [Bool.and_eq_true] at q
  exact (cyclic_iff hp hr.1 (dv_rws hr hp hg)).mp q.1.1.1.1.1
end
end Wk
set_option maxRecDepth 100000
set_option maxHeartbeats 4000000
namespace Wk
open PySem L2
open C8 (Cal Met Mak pe_c pe_mk pe_mt pe_mt0)
structure MetG (P : Program) (w : World) (K : PySem.W.Frag) (mg : Str → Option Value) (base : Heap) (k : Nat) (C : Addr) (m : Str) (pre : List V → Hp → List Wrd → Prop) : Prop where
  ex : ∃ (f : Addr) (fd : FuncData) (ps : List Str), Cls K C ∧ Meth K C m f ∧ GenOk P w K mg base k f fd ps pre ∧ Binds K fd ps []
structure EqC (P : Program) (w : World) (K : PySem.W.Frag) (mg : Str → Option Value) (base : Heap) (k : Nat) (C : Addr) : Prop where
  ex : ∃ (f : Addr) (fd : FuncData) (ps : List Str), FnOk P w K mg base L2.CX0 k f fd ps (spEq (SameCd C)) ∧ PySem.W.findIn K (.ref C) "__eq__" = some (some (.ref f)) ∧ PySem.W.isFn K (.ref f) = true ∧ Binds K fd ps []
section
variable {X : Cx} {k j : Nat} {C : Addr} {m x : Str} {pre : List V → Hp → List Wrd → Prop} {o : Expr} {ta : TE} {pos apos : Pos}
theorem pd_m0 {pl : Sem Bool} (c : MetG X.prog X.w X.K X.mg X.base k C m pre) (hr : Room j X.A) (hk : k ≤ j) (he : PE X o ta)
    (ht : eval (.Call (.Attribute o m apos) [] [] pos) X.env = (do
      let ov ← eval o X.env
      standAt apos.atName
      let (f, first) ← holding [ov] (getMethod ov m pl)
      callWith pos f first (backTo pos (starEach [] X.env)) (backToKw pos (keywordEach [] X.env))) := by rfl) :
    PD X k (.Call (.Attribute o m apos) [] [] pos) (tMethD C m pre ta) := by
  obtain ⟨f, fd, ps, hc, hm, F, b⟩ := c.ex
  exact pd_meth0 (pl := pl) he hc hm F (hr.mono hk) b ht
theorem op_eqCd (c : EqC X.prog X.w X.K X.mg X.base k C) (hr : Room j X.A) (hk : k ≤ j) : OpR X (compareOp .Eq) (rEqG (DIns C (SameCd C))) := by
  obtain ⟨f, fd, ps, F, h1, h2, b⟩ := c.ex
  exact op_eqG (rcG_ins F h1 h2 b pass0) (hr.mono hk)
theorem hge_name {i : Nat} {x : Str} (hi : X.N[i]? = some x) : ∀ (σ : L2.St) (H : Hp) (b : Addr) (Q : Hp → Prop), σ.length = X.N.length → Q H →
    gName i (.ref b) (wipe σ ([(x, i)].map (·.2))) H fun σ2 H2 => wipe σ2 ([(x, i)].map (·.2)) = wipe σ ([(x, i)].map (·.2)) ∧ tVar i σ2 H2 fun v H3 => v = .ref b ∧ Q H3 := by
  intro σ H b Q hl q
  have hlt : i < σ.length := by rw [hl]; exact (List.getElem?_eq_some_iff.mp hi).1
  refine ⟨?_, .ref b, ?_, rfl, q⟩
  · show ((σ.set i none).set i (some (.ref b))).set i none = σ.set i none
    rw [List.set_set, List.set_set]
  · show ((σ.set i none).set i (some (.ref b)))[i]? = some (some (.ref b))
    rw [List.getElem?_set_self (by rw [List.length_set]; exact hlt)]
end
/-- the scope of the outer comprehension in the law's long test -/
def scopeOf : Expr → Scope
  | .ListComp _ _ sc _ => sc
  | _ => { kind := .function, names := [], isGenerator := false, isCoroutine := false }
def outerComp : Stmt → Expr
  | .If (.BoolOp _ [_, .Compare e _ _ _] _) _ _ _ => e
  | _ => .Name "x" ⟨0, 0, 0, 0⟩
end Wk
set_option maxHeartbeats 8000000
namespace Wk
open PySem L2
open C8 (Cal Met Mak pe_c pe_mk pe_mt pe_mt0)
section
variable {P : Program} {w : World} {K : PySem.W.Frag} {mg : Str → Option Value} {base : Heap}
/-! ### the law -/
def lD (ws : List (List Int)) : PyData := .list (ws.map wD)
theorem dpAll_of {K : PySem.W.Frag} {H : Hp} {β : Type} {R : V → β → Prop} {f : β → PyData} (h : ∀ v b, R v b → Dp K H v (f b)) : ∀ {vs : List V} {bs : List β}, Paired R vs bs → DpAll K H vs (bs.map f)
  | _, _, .nil => .nil
  | _, _, .cons r t => .cons (h _ _ r) (dpAll_of h t)
theorem lDs_lay : ∀ cs : List (List (List Int)), PyData.canLayAll0 (cs.map lD) = true
  | [] => by simp [PyData.canLayAll0]
  | w :: r => by
    have h : (lD w).canLay0 = true := by unfold lD; rw [PyData.canLay0]; exact wDs_lay w
    simp [PyData.canLayAll0, h, lDs_lay r]
theorem lDs_depth : ∀ cs : List (List (List Int)), PyData.depthAll (cs.map lD) ≤ 2
  | [] => by simp [PyData.depthAll]
  | w :: r => by
    have h1 : (lD w).depth ≤ 2 := by have := wDs_depth w; unfold lD; rw [PyData.depth]; omega
    have h2 := lDs_depth r
    simp only [List.map_cons, PyData.depthAll]
    omega
theorem lDs_shaped (cs : List (List (List Int))) : SeqAt.shaped (.list (cs.map lD)) = true := by
  have h1 := lDs_depth cs
  show (PyData.canLay0 (.list (cs.map lD)) && decide (PyData.depth (.list (cs.map lD)) ≤ 64)) = true
  rw [PyData.canLay0, lDs_lay, PyData.depth, decide_eq_true (by omega)]; rfl
theorem eqvAll_wD : ∀ a b : List (List Int), PyData.eqvAll (a.map wD) (b.map wD) = decide (a = b)
  | [], [] => by simp [PyData.eqvAll]
  | [], _ :: _ => by simp [PyData.eqvAll]
  | _ :: _, [] => by simp [PyData.eqvAll]
  | x :: a, y :: b => by
    rw [List.map_cons, List.map_cons, PyData.eqvAll, eqvAll_wD a b, eqv_wD]
    by_cases h : x = y <;> simp [h]
theorem eqv_wDl (a b : List (List Int)) : PyData.eqv (.list (a.map wD)) (.list (b.map wD)) = decide (a = b) := by
  rw [PyData.eqv]
  exact eqvAll_wD a b
theorem cdOk_of {p : Int} {n : Nat} {rows : List (List Int)} (h : CodePre p n rows) : CdOk (mkCode p n rows) := by
  have ri := reduced_ri h
  obtain ⟨L, a1, a2, a3, _⟩ := reduced_tab h.hp h.wn
  refine ⟨h.hp, h.hn, ri.found, ri.plen, Nat.le_trans ri.flen (by have := h.hn; omega), fun x hx => ?_⟩
  have hx : x ∈ (reduced rows n p).2 := hx
  rw [a2] at hx
  obtain ⟨e, he, rfl⟩ := List.mem_map.mp hx
  have := a3.lt e he
  show 0 ≤ ((e.2 : Nat) : Int) ∧ ((e.2 : Nat) : Int) < ((n : Nat) : Int)
  omega
theorem Ring.tab {p : Int} {n : Nat} (r : Ring p n) {d : Nat} (hd : d ≤ n) : TabPre d p := by
  have hn := r.n
  refine ⟨r.pr, by omega, ?_⟩
  have := ring_all (f := fun x => (List.range (x.2 + 1)).all fun d => decide (x.1.toNat ^ d ≤ 1000)) (by decide +kernel) r
  simpa using List.all_eq_true.mp this d (List.mem_range.mpr (Nat.lt_succ_of_le hd))
theorem codes_pow {p : Int} {n : Nat} (r : Ring p n) : ∀ g ∈ divisors p n, (cyclicCode p n g).p.toNat ^ (cyclicCode p n g).rows.length ≤ 1000 := fun g hg => by
  have h1 := (redRun_ri r.pr (r.cyc hg).pre.wn n (Nat.le_refl _)).flen
  exact (r.tab (d := (cyclicCode p n g).rows.length) h1).2.2
theorem wordsRaw_len (c : Cd) : (wordsRaw c).length = c.p.toNat ^ c.rows.length := by
  unfold wordsRaw
  suffices ∀ (rows : List (List Int)) (f : List (List Int)), (rows.foldl (wordsStep c.p) f).length = f.length * c.p.toNat ^ rows.length by rw [this]; simp
  intro rows
  induction rows with
  | nil => intro f; simp
  | cons r t ih =>
    intro f
    rw [List.foldl_cons, ih, wordsStep_len, List.length_cons, Nat.pow_succ, Nat.mul_assoc, Nat.mul_comm c.p.toNat]
theorem words_len {p : Int} {n : Nat} (r : Ring p n) : ∀ g ∈ divisors p n, (wordsRaw (cyclicCode p n g)).length ≤ 1000 := fun g hg => by
  rw [wordsRaw_len]
  exact codes_pow r g hg
theorem words_ne' {p : Int} {n : Nat} (r : Ring p n) : ∀ g ∈ divisors p n, sortBy leW (wordsRaw (cyclicCode p n g)) ≠ [] := fun g hg e => by
  have h := congrArg List.length e
  rw [(sortBy_perm leW _).length_eq, wordsRaw_len] at h
  have : 0 < (cyclicCode p n g).p.toNat ^ (cyclicCode p n g).rows.length := Nat.pow_pos (by have := r.pr.pos; show 0 < p.toNat; omega)
  rw [h] at this
  cases this
theorem codes_words {p : Int} {n : Nat} (r : Ring p n) : ∀ g ∈ divisors p n, sortBy leW (wordsRaw (cyclicCode p n g)) = wordsOf p n (genRows n g) := fun g hg => by
  have := List.all_eq_true.mp (rings_w r) g hg
  exact beq_iff_eq.mp this
def bnd (p : Int) : Int := if p = 2 then 6 else if p = 3 then 4 else 3
theorem bnd_at {p : Int} (hp : Pr p) : atI [V.int 0, V.int 0, V.int 6, V.int 4, V.int 0, V.int 3, V.int 0, V.int 3] p = some (.int (bnd p)) := by
  rcases hp with rfl | rfl | rfl | rfl <;> decide +kernel
theorem bnd_ring {p : Int} (hp : Pr p) {v : Int} (h0 : 0 ≤ v) (h1 : v < bnd p) : ∃ n : Nat, 1 + v = ((n : Nat) : Int) ∧ Ring p n := by
  refine ⟨(1 + v).toNat, by omega, ?_⟩
  unfold bnd at h1
  rcases hp with rfl | rfl | rfl | rfl <;> simp at h1 <;> refine ⟨by omega, ?_⟩ <;> omega
theorem bnd_pos {p : Int} (hp : Pr p) : 0 < bnd p ∧ bnd p < 1000000 := by
  rcases hp with rfl | rfl | rfl | rfl <;> decide
/-- a list of words that is not the state -/
def LsV (l : Addr) (H : Hp) (v : V) (ws : List (List Int)) : Prop := ∃ a us, v = .ref a ∧ a ≠ l ∧ H a = some (.lst us) ∧ Tps H us ws
theorem LsV.mono {l : Addr} {H H' : Hp} {v : V} {ws : List (List Int)} (s : Same H H') (h : LsV l H v ws) : LsV l H' v ws := by
  obtain ⟨a, us, e, n, h1, h2⟩ := h
  exact ⟨a, us, e, n, s _ _ h1, Tps.mono s h2⟩
theorem LsV.but {l : Addr} {H H' : Hp} {v : V} {ws : List (List Int)} (s : But l H H') (h : LsV l H v ws) : LsV l H' v ws := by
  obtain ⟨a, us, e, n, h1, h2⟩ := h
  exact ⟨a, us, e, n, s.2 _ _ n h1, Paired.mapP h2 fun _ _ q => q.but s⟩
theorem LsV.dp {l : Addr} {H : Hp} {v : V} {ws : List (List Int)} (h : LsV l H v ws) : Dp K H v (.list (ws.map wD)) := by
  obtain ⟨a, us, rfl, n, h1, h2⟩ := h
  exact .lst (SqL.of h1) h2.dp
theorem filt_if {α : Type} (c : α → Bool) (l : List α) : l.filterMap (fun x => if c x then some x else none) = l.filter c := by
  induction l with
  | nil => rfl
  | cons a r ih =>
    rw [List.filterMap_cons, List.filter_cons, ih]
    cases c a <;> rfl
theorem eqv_lD (a b : List (List Int)) : PyData.eqv (lD a) (lD b) = decide (a = b) := eqv_wDl a b
theorem eqvAll_lD : ∀ a b : List (List (List Int)), PyData.eqvAll (a.map lD) (b.map lD) = decide (a = b)
  | [], [] => by simp [PyData.eqvAll]
  | [], _ :: _ => by simp [PyData.eqvAll]
  | _ :: _, [] => by simp [PyData.eqvAll]
  | x :: a, y :: b => by
    rw [List.map_cons, List.map_cons, PyData.eqvAll, eqvAll_lD a b, eqv_lD]
    by_cases h : x = y <;> simp [h]
theorem eqv_lDs (a b : List (List (List Int))) : PyData.eqv (.list (a.map lD)) (.list (b.map lD)) = decide (a = b) := by
  rw [PyData.eqv]
  exact eqvAll_lD a b
def duec (p : Int) (n : Nat) : List (List Wrd) := (divisors p n).map fun g => wordsOf p n (genRows n g)
theorem anyD (ws : List (List Int)) (w : List Int) : (ws.map wD).any (fun z => PyData.eqv z (wD w)) = decide (w ∈ ws) := by
  induction ws with
  | nil => simp
  | cons a r ih =>
    rw [List.map_cons, List.any_cons, ih, eqv_wD]
    by_cases h1 : a = w
    · subst h1; simp
    · have : ¬ w = a := fun e => h1 e.symm
      simp [h1, this]
theorem wordsOf_len {p : Int} {n : Nat} (r : Ring p n) {rows : List (List Int)} (h : Rws p n rows) : (wordsOf p n rows).length ≤ 1000 := by
  have h1 : (wordsOf p n rows).Nodup := (sortBy_perm leW _).nodup_iff.mpr (spanKeys_nodup rows)
  have h2 : ∀ w ∈ wordsOf p n rows, w ∈ tuplesOf p n := fun w hw => tuples_all r.pr (((wordsOf_mem r.pr h w).mp hw).wn r.pr h)
  have h3 := List.Nodup.length_le_of_subset h1 h2
  rw [tuplesOf_len] at h3
  exact Nat.le_trans h3 (r.tab (Nat.le_refl n)).2.2
theorem anyL (cs : List (List (List Int))) (ws : List (List Int)) : (cs.map lD).any (fun z => PyData.eqv z (lD ws)) = decide (ws ∈ cs) := by
  induction cs with
  | nil => simp
  | cons a r ih =>
    rw [List.map_cons, List.any_cons, ih, eqv_lD]
    by_cases h1 : a = ws
    · subst h1; simp
    · have : ¬ ws = a := fun e => h1 e.symm
      simp [h1, this]
theorem closed_flag {p : Int} {n : Nat} (r : Ring p n) {rows : List (List Int)} (h : Rws p n rows) : decide (V.int ((((wordsOf p n rows).filter fun w => !(decide (shiftW w ∈ wordsOf p n rows))).length : Nat) : Int) = V.int 0) = true ↔ Closed p n rows := by
  rw [decide_eq_true_eq]
  constructor
  · intro e w hw
    have e : ((((wordsOf p n rows).filter fun w => !(decide (shiftW w ∈ wordsOf p n rows))).length : Nat) : Int) = 0 := by injection e
    have e2 : (wordsOf p n rows).filter (fun w => !(decide (shiftW w ∈ wordsOf p n rows))) = [] := List.eq_nil_of_length_eq_zero (by omega)
    have q := List.filter_eq_nil_iff.mp e2 w ((wordsOf_mem r.pr h w).mpr hw)
    exact (wordsOf_mem r.pr h _).mp (by simpa using q)
  · intro hc
    have e2 : (wordsOf p n rows).filter (fun w => !(decide (shiftW w ∈ wordsOf p n rows))) = [] := List.filter_eq_nil_iff.mpr fun w hw => by
      have := (wordsOf_mem r.pr h _).mpr (hc w ((wordsOf_mem r.pr h w).mp hw))
      simp [this]
    rw [e2]
    rfl
theorem due_iff {p : Int} {n : Nat} (r : Ring p n) {rows : List (List Int)} (h : Rws p n rows) : wordsOf p n rows ∈ duec p n ↔ Closed p n rows := by
  unfold duec
  rw [List.mem_map]
  constructor
  · rintro ⟨g, hg, e⟩
    have hs := (wordsOf_eq r.pr (dv_rws r r.pr hg) h).mp e
    exact Closed.eq hs (gen_closed r r.pr hg)
  · intro hc
    obtain ⟨g, hg, hs⟩ := closed_gen r r.pr h hc
    exact ⟨g, hg, (wordsOf_eq r.pr (dv_rws r r.pr hg) h).mpr fun w => (hs w).symm⟩
theorem code0 {p : Int} (hp : Pr p) : CodePre p 0 [] := ⟨hp, by omega, by simp, fun r hr => (by cases hr), by
  show (1 : Int) ≤ 4096
  decide⟩
theorem first_idx {α : Type} [DecidableEq α] : ∀ {l : List α} {k : α}, k ∈ l → ∃ j, j < l.length ∧ l[j]? = some k ∧ ∀ i, i < j → l[i]? ≠ some k
  | [], k, h => by cases h
  | a :: r, k, h => by
    by_cases e : a = k
    · exact ⟨0, Nat.succ_pos _, by rw [e]; rfl, fun i hi => absurd hi (Nat.not_lt_zero _)⟩
    · obtain ⟨j, h1, h2, h3⟩ := first_idx ((List.mem_cons.mp h).resolve_left fun z => e z.symm)
      refine ⟨j + 1, Nat.succ_lt_succ h1, h2, fun i hi => ?_⟩
      cases i with
      | zero => exact fun z => e (Option.some.inj z)
      | succ i => exact h3 i (Nat.lt_of_succ_lt_succ hi)
theorem monB_ok {p : Int} (hp : Pr p) {a : List Int} (h : monB a p = true) : MonPre a p := by
  unfold monB at h
  simp only [Bool.and_eq_true, decide_eq_true_eq, Bool.or_eq_true, beq_iff_eq] at h
  exact ⟨hp, h.1.1, wdB_ok h.1.2, fun ne => invB_ok (h.2.resolve_left fun z => ne (List.eq_nil_of_length_eq_zero z))⟩
theorem gcdB_ok {p : Int} (hp : Pr p) : ∀ {k : Nat} {s : List Int × List Int}, gcdB p k s = true → GcdPre p k s
  | 0, s, h => by
    unfold gcdB at h
    simp only [Bool.and_eq_true, beq_iff_eq] at h
    exact ⟨List.eq_nil_of_length_eq_zero h.1, monB_ok hp h.2⟩
  | k + 1, s, h => by
    unfold gcdB at h
    by_cases c : s.2.length = 0
    · rw [if_pos c] at h
      exact .inl ⟨List.eq_nil_of_length_eq_zero c, monB_ok hp h⟩
    · rw [if_neg c, Bool.and_eq_true] at h
      exact .inr ⟨fun e => c (by rw [e]; rfl), divB_ok hp h.1, gcdB_ok hp h.2⟩
structure GenF (p : Int) (n : Nat) (g : List Int) : Prop where
  pre : GenPre (cyclicCode p n g)
  gen : genPoly (cyclicCode p n g) = g
  div : DivPre (unitPoly p n) g p
  mul : times (checkPoly (cyclicCode p n g)) g p = unitPoly p n
  len : (checkPoly (cyclicCode p n g)).length ≤ 40
  wd : Wd p (checkPoly (cyclicCode p n g))
theorem ring_split {p : Int} {n : Nat} (r : Ring p n) : (∀ g ∈ divisors p n, ringG p n (divisors p n) g = true ∧ ringR p n g = true) ∧ unitPoly p n ∈ divisors p n := by
  have hall := rings_ok r
  unfold ringB at hall
  simp only [Bool.and_eq_true] at hall
  refine ⟨fun g hg => ?_, by simpa using hall.1.2⟩
  have q := List.all_eq_true.mp hall.1.1 g hg
  rw [Bool.and_eq_true] at q
  exact q
theorem gen_facts {p : Int} {n : Nat} (r : Ring p n) {g : List Int} (hg : g ∈ divisors p n) : GenF p n g := by
  have q := ((ring_split r).1 g hg).1
  unfold ringG at q
  simp only [Bool.and_eq_true, beq_iff_eq, decide_eq_true_eq] at q
  obtain ⟨⟨⟨⟨⟨_, h2⟩, h3⟩, h4⟩, h5⟩, h6, h7⟩ := q
  refine ⟨fun i row hrow => ?_, h3, divB_ok r.pr h4, h5, h6, wdB_ok h7⟩
  unfold genB at h2
  have hi : i < (cyclicCode p n g).rows.length := (List.getElem?_eq_some_iff.mp hrow).1
  have q := List.all_eq_true.mp h2 i (List.mem_range.mpr hi)
  have e : (cyclicCode p n g).rows.getD i [] = row := by rw [List.getD_eq_getElem?_getD, hrow]; rfl
  rw [e] at q
  exact gcdB_ok r.pr q
theorem words_span {p : Int} {n : Nat} (hp : Pr p) {rows : List (List Int)} (h : Rws p n rows) : SpEq p n (wordsOf p n rows) rows := by
  have hw : Rws p n (wordsOf p n rows) := fun w hw => ((wordsOf_mem hp h w).mp hw).wn hp h
  exact SpEq.of hp hw h (fun r hr => (wordsOf_mem hp h r).mp hr) fun r hr => Span.row hp hw ((wordsOf_mem hp h r).mpr (Span.row hp h hr))
theorem refuse_facts {p : Int} {n : Nat} (r : Ring p n) {g : List Int} (hg : g ∈ divisors p n) : ∀ x ∈ [[], [0], g ++ [0], [1, p], unitPoly p n ++ [1], times (unitPoly p n) [0, 1] p], x.length ≤ 40 ∧ false = isDivisor (unitPoly p n) x p := fun x hx => by
  have q := ((ring_split r).1 g hg).2
  unfold ringR at q
  have q := List.all_eq_true.mp q x hx
  simp only [Bool.and_eq_true, decide_eq_true_eq, Bool.not_eq_true'] at q
  exact ⟨q.1, q.2.symm⟩
theorem unit_wd {p : Int} (hp : Pr p) (n : Nat) : Wd p (unitPoly p n) := fun x hx => by
  have := hp.pos
  have h2 : 1 < p := by rcases hp with rfl | rfl | rfl | rfl <;> decide
  unfold unitPoly at hx
  rcases List.mem_cons.mp hx with rfl | hx
  · omega
  · rcases List.mem_append.mp hx with hx | hx
    · rw [(List.mem_replicate.mp hx).2]; omega
    · rw [List.mem_singleton.mp hx]; omega
/-- what stands through the law -/
structure LSt (l : Addr) (H : Hp) (p : Int) (n : Nat) (ru : V) (dd : Addr) (us : List V) (D : Addr) (cs : List V) : Prop where
  u : Tp H ru (unitPoly p n)
  dl : dd ≠ l
  d : H dd = some (.lst us)
  dw : Tps H us (divisors p n)
  cl : D ≠ l
  c : H D = some (.lst cs)
  cw : Paired (LsV l H) cs (duec p n)
theorem LSt.mono {l : Addr} {H H' : Hp} {p : Int} {n : Nat} {ru : V} {dd : Addr} {us : List V} {D : Addr} {cs : List V} (s : Same H H') (h : LSt l H p n ru dd us D cs) : LSt l H' p n ru dd us D cs :=
  ⟨h.u.mono s, h.dl, s _ _ h.d, Tps.mono s h.dw, h.cl, s _ _ h.c, Paired.mapP h.cw fun _ _ q => q.mono s⟩
theorem LSt.but {l : Addr} {H H' : Hp} {p : Int} {n : Nat} {ru : V} {dd : Addr} {us : List V} {D : Addr} {cs : List V} (b : But l H H') (h : LSt l H p n ru dd us D cs) : LSt l H' p n ru dd us D cs :=
  ⟨h.u.but b, h.dl, b.2 _ _ h.dl h.d, Paired.mapP h.dw fun _ _ q => q.but b, h.cl, b.2 _ _ h.cl h.c, Paired.mapP h.cw fun _ _ q => q.but b⟩
def dueTo (p : Int) (n k : Nat) : List Wrd := (List.range k).foldl (fun d k => d ++ (monics k p).filter fun row => (rem (unitPoly p n) row p).length == 0) []
abbrev s_law : Stmt := top 62
theorem sc_law : FnScope ["_law_script", "_law_state_here", "_law_p", "_law_n", "_law_unit_here", "_law_due", "_law_degree", "_law_codes", "_law_rows_here", "_law_wide", "_law_row", "_law_other", "_law_turn", "_law_words", "_law_code", "_law_closed", "_law_word_here", "_law_g", "_law_at"] ["_law_script"] (defScope s_law) := ⟨rfl, rfl, rfl, by decide +kernel, rfl, by decide +kernel, by decide +kernel⟩
def sp_law (K : PySem.W.Frag) : Sp := fun vs H Q _ => ∃ (a : Addr) (ns : List Int), vs = [.ref a] ∧ SqL K H a (ns.map V.int) ∧ ∀ H', Q (.bl true) H'
theorem ok_law {f : Addr} {fd : FuncData} (F : Fun K "law" "law" s_law f fd) (T : Txt K mg) {C M R fI cc cda : Addr} (hC : CodeC K C) (TM : MalTxt K mg M) (TR : RefTxt P K mg R fI cc cda) (c_Code : Mak P w K mg base 4 "Code" C (sp_Code___init__ C) []) (c_Code_words : MetG P w K mg base 2 C "words" (gp_Code_words C)) (c__law_monics : Cal P w K mg base 2 "_law_monics" sp__law_monics []) (c__law_multiples_of : Cal P w K mg base 3 "_law_multiples_of" sp__law_multiples_of []) (c__law_prime : Cal P w K mg base 2 "_law_prime" sp__law_prime []) (c__law_reasons : Cal P w K mg base 7 "_law_reasons" (sp__law_reasons C) []) (c__law_refuses : Cal P w K mg base 7 "_law_refuses" sp__law_refuses []) (c__law_rest : Cal P w K mg base 2 "_law_rest" sp__law_rest []) (c__law_rows : Cal P w K mg base 3 "_law_rows" sp__law_rows []) (c__law_shift : Cal P w K mg base 1 "_law_shift" sp__law_shift []) (c__law_span : Cal P w K mg base 2 "_law_span" sp__law_span []) (c__law_state : Cal P w K mg base 1 "_law_state" (sp__law_state K) []) (c__law_take : Cal P w K mg base 1 "_law_take" sp__law_take []) (c__law_times : Cal P w K mg base 2 "_law_times" sp__law_times []) (c__law_unit : Cal P w K mg base 1 "_law_unit" sp__law_unit []) (c__law_word : Cal P w K mg base 2 "_law_word" sp__law_word []) (c_all_cyclic : Cal P w K mg base 7 "all_cyclic" (sp_all_cyclic C) []) (c_check_polynomial : CalE P w K mg base 6 "check_polynomial" (sp_check_polynomial C R)) (c_cyclic_code : CalE P w K mg base 6 "cyclic_code" (sp_cyclic_code C M)) (c_divisors_of_unit : Cal P w K mg base 6 "divisors_of_unit" sp_divisors_of_unit []) (c_generator_polynomial : CalE P w K mg base 5 "generator_polynomial" (sp_generator_polynomial C R)) (c_is_cyclic : Cal P w K mg base 4 "is_cyclic" (sp_is_cyclic C) []) (c_shifted : Cal P w K mg base 1 "shifted" sp_shifted []) (c_eq : EqC P w K mg base 2 C) : FnOk P w K mg base CX0 8 f fd ["_law_script"] (sp_law K) := by
  refine F.ok sc_law (fun vs H Q E h => ?_) (fun cdv A outer s H vs Q E hr h => ?_)
  · obtain ⟨a, ns, rfl, _⟩ := h
    rfl
  · obtain ⟨a, ns, rfl, ha, k⟩ := h
    refine ⟨_, (pss_cons (ps_set (i := 1) sc_law.nd rfl (Or.inl rfl) (pe_c c__law_state hr (by decide) rfl (pa_cons (pv 0) pa_nil)))
      (pss_cons (ps_set (i := 2) sc_law.nd rfl (Or.inr rfl) (pe_c c__law_prime hr (by decide) rfl (pa_cons (pv 1) pa_nil)))
      (pss_cons (ps_set (i := 3) sc_law.nd rfl (Or.inr rfl) (pe_op op_add pe_int (pe_c c__law_take hr (by decide) rfl (pa_cons (pv 1) (pa_cons (pe_ix (ix_listK K) (pe_lst (pa_cons pe_int (pa_cons pe_int (pa_cons pe_int (pa_cons pe_int (pa_cons pe_int (pa_cons pe_int (pa_cons pe_int (pa_cons pe_int pa_nil))))))))) (pv 2) (fun _ _ => rfl)) pa_nil)))))
      (pss_cons (ps_set (i := 4) sc_law.nd rfl (Or.inr rfl) (pe_c c__law_unit hr (by decide) rfl (pa_cons (pv 2) (pa_cons (pv 3) pa_nil))))
      (pss_cons (ps_set (i := 5) sc_law.nd rfl (Or.inl rfl) (pe_lst pa_nil))
      (pss_cons (ps_for PassesOwn.never rfl (pi_range1 rfl T.range (pa_cons (pe_op op_add (pv 3) pe_int) pa_nil)) (pg_name (i := 6) sc_law.nd rfl (Or.inl rfl))
      (pss_one (ps_set (i := 5) sc_law.nd rfl (Or.inl rfl) (pe_op op_cat (pv 5) (pe_lc (own := [("_law_row", 10)]) (g := gName 10) rfl sc_law.nd (pi_list (pe_c c__law_monics hr (by decide) rfl (pa_cons (pv 6) (pa_cons (pv 2) pa_nil)))) (blkOk_by (N := ["_law_script", "_law_state_here", "_law_p", "_law_n", "_law_unit_here", "_law_due", "_law_degree", "_law_codes", "_law_rows_here", "_law_wide", "_law_row", "_law_other", "_law_turn", "_law_words", "_law_code", "_law_closed", "_law_word_here", "_law_g", "_law_at"]) (sc := defScope s_law) (by decide +kernel)) (fun _ _ _ _ _ => (pg_name (i := 10) sc_law.nd rfl (Or.inl rfl))) (fun _ _ _ _ _ => pts_one (pt_cmpR (op_eqDK K (hu64 hr)) (pe_c c__law_rest hr (by decide) rfl (pa_cons (pv 4) (pa_cons (pv 10) (pa_cons (pv 2) pa_nil)))) (pe_tup pa_nil) (nomark _))) (fun _ _ _ _ _ => (pv 10)))))))
      (pss_cons (ps_setLc (i := 7) (own := [("_law_g", 17)]) (g := gName 17) (tt := tYes) rfl sc_law.nd rfl rfl (sw_true rfl rfl rfl (by decide +kernel)) (pi_list (pv 5)) (blkOk_by (N := ["_law_script", "_law_state_here", "_law_p", "_law_n", "_law_unit_here", "_law_due", "_law_degree", "_law_codes", "_law_rows_here", "_law_wide", "_law_row", "_law_other", "_law_turn", "_law_words", "_law_code", "_law_closed", "_law_word_here", "_law_g", "_law_at"]) (sc := defScope s_law) (by decide +kernel)) (fun _ _ _ _ _ => (pg_name (i := 17) sc_law.nd rfl (Or.inl rfl))) (fun _ _ _ _ _ => pts_nil) (fun _ _ _ _ _ => (pe_c c__law_multiples_of hr (by decide) rfl (pa_cons (pv 17) (pa_cons (pv 3) (pa_cons (pv 2) pa_nil))))))
      (pss_cons (ps_if (PW.pt (pw_or (pt_cmpR (op_neDK K (hu64 hr)) (pe_callTy (call_listK K) (by rfl) T.list (by decide +kernel) (pa_cons (pe_c c_divisors_of_unit hr (by decide) rfl (pa_cons (pv 2) (pa_cons (pv 3) pa_nil))) pa_nil)) (pv 5) (nomark _)) (pw_or1 (pt_cmpR (op_neDK K (hu64 hr)) (pe_lc (own := [("_law_code", 14)]) (g := gName 14) (tt := tYes) rfl sc_law.nd (pi_tup (pe_c c_all_cyclic hr (by decide) rfl (pa_cons (pv 2) (pa_cons (pv 3) pa_nil)))) (blkOk_by (N := ["_law_script", "_law_state_here", "_law_p", "_law_n", "_law_unit_here", "_law_due", "_law_degree", "_law_codes", "_law_rows_here", "_law_wide", "_law_row", "_law_other", "_law_turn", "_law_words", "_law_code", "_law_closed", "_law_word_here", "_law_g", "_law_at"]) (sc := defScope s_law) (by decide +kernel)) (fun _ _ _ _ _ => (pg_name (i := 14) sc_law.nd rfl (Or.inl rfl))) (fun _ _ _ _ _ => pts_nil) (fun _ _ _ _ _ => (pe_lcD (own := [("_law_word_here", 16)]) hr.hd rfl sc_law.nd (pd_m0 c_Code_words hr (by decide) (pv 14)) (hr.mono (by decide)) (blkOk_by (N := ["_law_script", "_law_state_here", "_law_p", "_law_n", "_law_unit_here", "_law_due", "_law_degree", "_law_codes", "_law_rows_here", "_law_wide", "_law_row", "_law_other", "_law_turn", "_law_words", "_law_code", "_law_closed", "_law_word_here", "_law_g", "_law_at"]) (sc := (scopeOf (outerComp ((defBody s_law).getD 7 (.Pass ⟨0, 0, 0, 0⟩))))) (by decide +kernel)) (by decide +kernel) (fun _ _ _ _ _ => (pg_name (i := 16) sc_law.nd rfl (Or.inl rfl))) (fun _ _ _ _ _ => (pv 16)) (hge_name rfl)))) (pv 7) (nomark _))))) (pss_one (ps_ret pe_bl)) pss_nil)
      (pss_cons (ps_set (i := 8) sc_law.nd rfl (Or.inl rfl) (pe_c c__law_rows hr (by decide) rfl (pa_cons (pv 1) (pa_cons (pv 3) (pa_cons (pv 2) (pa_cons (pe_op op_sub pe_int (pe_callTy call_int1 (by rfl) T.int (by decide +kernel) (pa_cons (pe_cmpR op_gt (pv 2) pe_int (nomark _)) pa_nil))) pa_nil))))))
      (pss_cons (ps_if (pt_cmpR op_eq (pe_c c__law_take hr (by decide) rfl (pa_cons (pv 1) (pa_cons pe_int pa_nil))) pe_int (nomark _)) (pss_cons (ps_set (i := 9) sc_law.nd rfl (Or.inl rfl) (pe_callTy (call_listK K) (by rfl) T.list (by decide +kernel) (pa_cons (pv 8) pa_nil)))
      (pss_cons (ps_for PassesOwn.never rfl (pi_list (pe_callTy (call_listK K) (by rfl) T.list (by decide +kernel) (pa_cons (pv 8) pa_nil))) (pg_name (i := 10) sc_law.nd rfl (Or.inl rfl))
      (pss_cons (ps_set (i := 11) sc_law.nd rfl (Or.inl rfl) (pv 10))
      (pss_one (ps_for PassesOwn.never rfl (pi_range1 rfl T.range (pa_cons (pv 3) pa_nil)) (pg_name (i := 12) sc_law.nd rfl (Or.inl rfl))
      (pss_cons (ps_set (i := 11) sc_law.nd rfl (Or.inl rfl) (pe_c c__law_shift hr (by decide) rfl (pa_cons (pv 11) pa_nil)))
      (pss_one (ps_expr (pe_bm PySem.F.plainAttrs_list PySem.F.slot_list_append PySem.F.type_list_append mt_append (pv 9) (pa_cons (pv 11) pa_nil)))))))))
      (pss_one (ps_set (i := 8) sc_law.nd rfl (Or.inl rfl) (pv 9))))) pss_nil)
      (pss_cons (ps_set (i := 13) sc_law.nd rfl (Or.inr rfl) (pe_c c__law_span hr (by decide) rfl (pa_cons (pv 8) (pa_cons (pv 3) (pa_cons (pv 2) pa_nil)))))
      (pss_cons (ps_set (i := 14) sc_law.nd rfl (Or.inl rfl) (pe_mk c_Code hr (by decide) rfl (pa_cons (pv 2) (pa_cons (pv 3) (pa_cons (pv 8) pa_nil)))))
      (pss_cons (ps_set (i := 15) sc_law.nd rfl (Or.inl rfl) (pe_cmpR op_eq (pe_callB (call_lenK K) (by rfl) T.len PySem.boot_len (pa_cons (pe_lc (own := [("_law_word_here", 16)]) (g := gName 16) rfl sc_law.nd (pi_list (pv 13)) (blkOk_by (N := ["_law_script", "_law_state_here", "_law_p", "_law_n", "_law_unit_here", "_law_due", "_law_degree", "_law_codes", "_law_rows_here", "_law_wide", "_law_row", "_law_other", "_law_turn", "_law_words", "_law_code", "_law_closed", "_law_word_here", "_law_g", "_law_at"]) (sc := defScope s_law) (by decide +kernel)) (fun _ _ _ _ _ => (pg_name (i := 16) sc_law.nd rfl (Or.inl rfl))) (fun _ _ _ _ _ => pts_one (pt_cmpR (op_notInDK K (hu65 hr)) (pe_c c__law_shift hr (by decide) rfl (pa_cons (pv 16) pa_nil)) (pv 13) (by rfl))) (fun _ _ _ _ _ => (pv 16))) pa_nil)) pe_int (nomark _)))
      (pss_cons (ps_if (PW.pt (pw_or (pt_cmpR op_ne (pe_c c_is_cyclic hr (by decide) rfl (pa_cons (pv 14) pa_nil)) (pv 15) (nomark _)) (pw_or (pt_cmpR op_ne (pv 15) (pe_cmpR (op_inDK K (hu65 hr)) (pv 13) (pv 7) (by rfl)) (nomark _)) (pw_or1 (pt_cmpR op_notBl (pe_c c_is_cyclic hr (by decide) rfl (pa_cons (pe_mk c_Code hr (by decide) rfl (pa_cons (pv 2) (pa_cons pe_int (pa_cons (pe_tup pa_nil) pa_nil)))) pa_nil)) pe_bl (nomark _)))))) (pss_one (ps_ret pe_bl)) pss_nil)
      (pss_cons (ps_set (i := 16) sc_law.nd rfl (Or.inl rfl) (pe_c c__law_word hr (by decide) rfl (pa_cons (pv 1) (pa_cons (pv 3) (pa_cons (pv 2) pa_nil)))))
      (pss_cons (ps_if (pt_cmpR (op_neDK K (hu64 hr)) (pe_c c_shifted hr (by decide) rfl (pa_cons (pv 16) pa_nil)) (pe_c c__law_shift hr (by decide) rfl (pa_cons (pv 16) pa_nil)) (nomark _)) (pss_one (ps_ret pe_bl)) pss_nil)
      (pss_cons (ps_if (pt_val (pv 15)) (pss_cons (ps_set (i := 17) sc_law.nd rfl (Or.inl rfl) (pe_ix (ix_listK K) (pv 5) (pe_bm PySem.F.plainAttrs_list PySem.F.slot_list_index PySem.F.type_list_index (mt_indexDK K (hu65 hr)) (pv 7) (pa_cons (pv 13) pa_nil)) (fun _ _ => rfl)))
      (pss_one (ps_if (PW.pt (pw_or (pt_cmpR (op_neDK K (hu64 hr)) (pe_cE0 c_generator_polynomial hr (by decide) rfl (pa_cons (pv 14) pa_nil)) (pv 17) (nomark _)) (pw_or1 (pt_cmpR (op_neDK K (hu64 hr)) (pe_c c__law_times hr (by decide) rfl (pa_cons (pe_cE0 c_check_polynomial hr (by decide) rfl (pa_cons (pv 14) pa_nil)) (pa_cons (pv 17) (pa_cons (pv 2) pa_nil)))) (pv 4) (nomark _))))) (pss_one (ps_ret pe_bl)) pss_nil))) (pss_one (ps_if (pt_cmpR (op_neDK K (hu64 hr)) (pe_c c__law_reasons hr (by decide) rfl (pa_cons (pv 14) pa_nil)) (pe_lst (pa_cons pe_str (pa_cons pe_str pa_nil))) (nomark _)) (pss_one (ps_ret pe_bl)) pss_nil)))
      (pss_cons (ps_set (i := 18) sc_law.nd rfl (Or.inl rfl) (pe_c c__law_take hr (by decide) rfl (pa_cons (pv 1) (pa_cons (pe_callB (call_lenK K) (by rfl) T.len PySem.boot_len (pa_cons (pv 5) pa_nil)) pa_nil))))
      (pss_cons (ps_if (pt_cmpR op_notBl (pe_cmpR (op_eqCd c_eq hr (by decide)) (pe_cE0 c_cyclic_code hr (by decide) rfl (pa_cons (pv 2) (pa_cons (pv 3) (pa_cons (pe_ix (ix_listK K) (pv 5) (pv 18) (fun _ _ => rfl)) pa_nil)))) (pe_mk c_Code hr (by decide) rfl (pa_cons (pv 2) (pa_cons (pv 3) (pa_cons (pe_ix (ix_listK K) (pv 7) (pv 18) (fun _ _ => rfl)) pa_nil)))) (nomark _)) pe_bl (nomark _)) (pss_one (ps_ret pe_bl)) pss_nil)
      (pss_cons (ps_for PassesOwn.never rfl (pi_list (pe_lst (pa_cons (pe_tup pa_nil) (pa_cons (pe_tup (pa_cons pe_int pa_nil)) (pa_cons pe_non (pa_cons (pe_callTy (call_listK K) (by rfl) T.list (by decide +kernel) (pa_cons (pe_ix (ix_listK K) (pv 5) (pv 18) (fun _ _ => rfl)) pa_nil)) (pa_cons (pe_op (op_catAK K) (pe_ix (ix_listK K) (pv 5) (pv 18) (fun _ _ => rfl)) (pe_tup (pa_cons pe_int pa_nil))) (pa_cons (pe_tup (pa_cons pe_int (pa_cons (pv 2) pa_nil))) (pa_cons (pe_tup (pa_cons pe_bl pa_nil)) (pa_cons (pe_op (op_catAK K) (pv 4) (pe_tup (pa_cons pe_int pa_nil))) (pa_cons (pe_c c__law_times hr (by decide) rfl (pa_cons (pv 4) (pa_cons (pe_tup (pa_cons pe_int (pa_cons pe_int pa_nil))) (pa_cons (pv 2) pa_nil)))) pa_nil))))))))))) (pg_name (i := 17) sc_law.nd rfl (Or.inl rfl))
      (pss_one (ps_if (pt_not (pt_val (pe_c c__law_refuses hr (by decide) rfl (pa_cons (pv 2) (pa_cons (pv 3) (pa_cons (pv 17) pa_nil)))))) (pss_one (ps_ret pe_bl)) pss_nil)))
      (pss_one (ps_ret pe_bl)))))))))))))))))))))), ?_⟩
    refine ⟨_, rfl, a, ns, rfl, ha, fun l x y H1 s1 hln hl hst => ?_⟩
    refine ⟨_, rfl, l, x, y, rfl, hl, hst, fun p H2 x2 y2 b2 hl2 hst2 hp => ?_⟩
    have hp7 := hp.pos
    refine ⟨_, rfl, by show 8 ≤ sizeLine; decide, fun t ht => ⟨_, rfl, t, _, p, .int (bnd p), rfl, rfl, SqL.of upd_same, bnd_at hp, ?_⟩⟩
    have hlt : l ≠ t := ne_of_none hl2 ht
    refine ⟨l, x2, y2, bnd p, rfl, by rw [upd_ne hlt]; exact hl2, hst2, (bnd_pos hp).1, (bnd_pos hp).2, fun v x3 y3 h0 h1 hst3 => ⟨_, _, rfl, rfl, ?_⟩⟩
    obtain ⟨n, hn, hring⟩ := bnd_ring hp h0 h1
    show gName 3 (V.int (1 + v)) _ _ _
    rw [hn]
    have hn1 := hring.n
    generalize hH3 : upd (upd H2 t _) l (stL x3 y3) = H3
    have hl3 : H3 l = some (stL x3 y3) := by rw [← hH3]; exact upd_same
    clear hH3
    refine ⟨_, rfl, _, rfl, p, n, rfl, hp, hn1.1, by omega, fun ru H4 s4 hu => ?_⟩
    refine ⟨by show 0 ≤ sizeLine; decide, fun d0 hd0 => ?_⟩
    have s5 : Same H4 (upd H4 d0 (.lst [])) := (Same.refl H4).put hd0
    have hl4 := s4 _ _ hl3
    have hld : l ≠ d0 := ne_of_none hl4 hd0
    refine ⟨_, rfl, _, _, rfl, rfl, _, rfl, by omega, by omega, ?_⟩
    have en1 : (((n : Nat) : Int) + 1).toNat = n + 1 := by omega
    rw [en1]
    refine for_range (lo := 0) (n := n + 1) (fun i σ H' => ∃ dd us x6, σ = [some (.ref a), some (.ref l), some (.int p), some (.int n), some ru, some (.ref dd), x6, none, none, none, none, none, none, none, none, none, none, none, none] ∧
      H' l = some (stL x3 y3) ∧ Tp H' ru (unitPoly p n) ∧ dd ≠ l ∧ H' dd = some (.lst us) ∧ Tps H' us (dueTo p n i) ∧ us.length ≤ 1000 * i) ⟨d0, [], _, rfl, s5 _ _ hl4, hu.mono s5, hld.symm, upd_same, .nil, Nat.le_refl _⟩ ?_ ?_
    · rintro i σ H' hi ⟨dd, us, x6, rfl, e1, e2, e3, e4, e5, e6⟩
      rw [Int.zero_add]
      have hi' : i ≤ n := by omega
      refine ⟨_, rfl, _, rfl, _, rfl, i, p, rfl, hring.tab hi', fun m H5 ws s6 hmn hm hws => ?_⟩
      have hmlen : (monics i p).length ≤ 1000 := by
        unfold monics
        rw [List.length_map, tuplesOf_len]
        exact (hring.tab hi').2.2
      refine ⟨m, rfl, ⟨_, SqL.of hm⟩, fun D hD => lc_gen (monics i p) (fun row => if (rem (unitPoly p n) row p).length == 0 then some row else none) Tp (walks_list (SqL.of hm)) (plen hws) ?_ hD Tp.monoD ?_ ?_⟩
      · exact small1000 (by rw [plen hws]; exact hmlen)
      · rintro j xv z H6 Q1 Qn hx hz s7 - hno hyes
        obtain ⟨z', hz', tz⟩ := pget hws hx
        obtain rfl : z' = z := by rw [hz'] at hz; exact Option.some.inj hz
        obtain ⟨m1, m2, m3⟩ := monics_len (List.mem_of_getElem? hz')
        refine ⟨_, rfl, _, rfl, _, rfl, ru, xv, unitPoly p n, z', p, rfl, e2.mono (s6.trans s7), tz.mono s7, ⟨hp, m3, by rw [m2]; exact inv_one hp, by rw [unitPoly_len p hn1.1]; omega, by omega⟩, fun r H7 s8 q8 => ⟨by show 0 ≤ sizeLine; decide, fun t2 ht2 => ?_⟩⟩
        have s9 : Same H7 (upd H7 t2 (.tup [])) := (Same.refl H7).put ht2
        refine ⟨wD (rem (unitPoly p n) z' p), wD [], (q8.mono s9).dp, Tp.dp ⟨t2, rfl, upd_same⟩, wD_shaped _, wD_shaped _, _, rfl, ?_⟩
        rw [eqv_wD]
        refine ite2 (fun c => ?_) (fun c => ?_)
        · have c' : rem (unitPoly p n) z' p = [] := by simpa using c
          exact ⟨xv, rfl, hyes z' (if_pos (by rw [c']; rfl)) xv _ (s8.trans s9) ((tz.mono s7).mono (s8.trans s9))⟩
        · have c' : ¬ rem (unitPoly p n) z' p = [] := by simpa using c
          exact hno (if_neg (by simpa using c')) _ (s8.trans s9)
      · intro H6 ys s7 hD6 hys
        rw [filt_if] at hys
        have e4' := (s6.trans s7) _ _ e4
        have hyl : ys.length ≤ 1000 := by rw [plen hys]; exact Nat.le_trans (List.length_filter_le _ _) hmlen
        refine ⟨dd, D, us, ys, rfl, rfl, e4', hD6, Nat.le_of_lt (Nat.lt_of_le_of_lt (show us.length + ys.length ≤ 7000 by omega) (by decide)), fun d2 hd2 => ?_⟩
        have s8 : Same H6 (upd H6 d2 (.lst (us ++ ys))) := (Same.refl H6).put hd2
        have s9 := (s6.trans s7).trans s8
        refine ⟨d2, us ++ ys, _, rfl, s9 _ _ e1, e2.mono s9, (ne_of_none ((s6.trans s7) _ _ e1) hd2).symm, upd_same, ?_, by rw [List.length_append]; omega⟩
        have edue : dueTo p n (i + 1) = dueTo p n i ++ (monics i p).filter fun row => (rem (unitPoly p n) row p).length == 0 := by
          unfold dueTo
          rw [List.range_succ, List.foldl_append]
          rfl
        rw [edue]
        exact papp (Tps.mono s9 e5) (Tps.mono s8 hys)
    · rintro σ H5 ⟨dd, us, x6, rfl, e1, e2, e3, e4, e5, -⟩
      have edue : dueTo p n (n + 1) = divisors p n := (divs_due hring).symm
      rw [edue] at e5
      have hlen := plen e5
      have hdl := divs_len hring
      -- the due codes
      refine ⟨_, rfl, dd, rfl, ⟨_, SqL.of e4⟩, fun D hD => lc_map (divisors p n) (fun g => wordsOf p n (genRows n g)) (fun H v ws => ∃ a us, v = .ref a ∧ a ≠ l ∧ a ≠ D ∧ H a = some (.lst us) ∧ Tps H us ws) (walks_list (SqL.of e4)) hlen (small1000 (by omega)) hD ?_ ?_ ?_⟩
      · rintro Ha Hb v ws b ⟨a1, us1, rfl, n1, n2, h1, h2⟩
        exact ⟨a1, us1, rfl, n1, n2, b.2 _ _ n2 h1, Paired.mapP h2 fun _ _ q => q.but b⟩
      · rintro i xv z H6 Q1 hx hz s6 ⟨ll, hD6⟩ q
        obtain ⟨z', hz', tz⟩ := pget e5 hx
        obtain rfl : z' = z := by rw [hz'] at hz; exact Option.some.inj hz
        have hv := dv_ok hring z' (List.mem_of_getElem? hz')
        refine ⟨_, rfl, _, rfl, _, rfl, xv, z', n, p, rfl, tz.mono s6, hv.wd, hv.one, hv.le, hn1.1, hring.tab (Nat.le_refl n), fun m H7 ws s7 hmn hm hws => ?_⟩
        exact q _ _ s7 ⟨m, ws, rfl, (ne_of_none (s6 _ _ e1) hmn).symm, (ne_of_none hD6 hmn).symm, hm, hws⟩
      · intro H6 cs s6 hD6 hcs
        have hDl : D ≠ l := (ne_of_none e1 hD).symm
        have hcs' : Paired (LsV l H6) cs ((divisors p n).map fun g => wordsOf p n (genRows n g)) := Paired.mapP hcs fun v ws q => by
          obtain ⟨a1, us1, e, n1, _, h1, h2⟩ := q
          exact ⟨a1, us1, e, n1, h1, h2⟩
        clear hcs
        have f1 := s6 _ _ e1
        have f2 := e2.mono s6
        have f4 := s6 _ _ e4
        have f5 := Tps.mono s6 e5
        clear e1 e2 e4 e5 hD
        -- the long test
        refine ⟨_, rfl, _, rfl, p, n, rfl, hring, fun ta us2 H7 s7 hta hus2 => ⟨ta, _, rfl, .inr (SqT.of hta), fun l2 hl2 => ⟨_, rfl, ?_⟩⟩⟩
        have s8 := s7.put hl2 (o := .lst us2)
        have s78 : Same H7 (upd H7 l2 (.lst us2)) := (Same.refl H7).put hl2
        refine ⟨.list ((divisors p n).map wD), .list ((divisors p n).map wD), .lst (SqL.of upd_same) (Tps.mono s78 hus2).dp, .lst (SqL.of (s8 _ _ f4)) (Tps.mono s8 f5).dp, wDl_shaped _, wDl_shaped _, _, rfl, ?_⟩
        rw [eqv_wDl]
        rw [decide_eq_true rfl]
        refine iteF ?_
        refine ⟨_, rfl, _, rfl, p, n, rfl, hring, fun tc us3 H9 s9 htc hus3 => ⟨tc, rfl, ⟨_, SqT.of htc⟩, fun D2 hD2 => lc_map ((divisors p n).map (cyclicCode p n)) (fun c => sortBy leW (wordsRaw c)) (fun H v ws => ∃ a us, v = .ref a ∧ a ≠ l ∧ a ≠ D2 ∧ H a = some (.lst us) ∧ Tps H us ws) (walks_tup (SqT.of htc)) (plen hus3) (small1000 (by rw [plen hus3, List.length_map]; omega)) hD2 ?_ ?_ ?_⟩⟩
        · rintro Ha Hb v ws b ⟨a1, us1, rfl, n1, n2, h1, h2⟩
          exact ⟨a1, us1, rfl, n1, n2, b.2 _ _ n2 h1, Paired.mapP h2 fun _ _ q => q.but b⟩
        · rintro i xv c H10 Q1 hx hz s10 ⟨ll, hD10⟩ q
          obtain ⟨c', hc', tc'⟩ := pget hus3 hx
          obtain rfl : c' = c := by rw [hc'] at hz; exact Option.some.inj hz
          obtain ⟨g, hg, rfl⟩ := List.mem_map.mp (List.mem_of_getElem? hc')
          have hcv := tc'.mono s10
          obtain ⟨ac, dc, t3, q3, u3, rfl, ha3, _⟩ := id hcv
          have hpre := (hring.cyc hg).pre
          refine ⟨_, rfl, ac, dc, _, rfl, ha3, rfl, _, ⟨.ref ac, cyclicCode p n g, rfl, hcv, cdOk_of hpre, hn1.1, ?_, rfl⟩, ?_, ?_, fun D4 H11 vs hD4 s11 hD4' hts => ?_⟩
          · exact codes_pow hring g hg
          · exact words_ne' hring g hg
          · exact small1000 (by rw [(sortBy_perm leW _).length_eq]; exact words_len hring g hg)
          · have f10 := ((s8.trans s9).trans s10) _ _ f1
            exact q _ _ s11 ⟨D4, vs, rfl, (ne_of_none f10 hD4).symm, (ne_of_none hD10 hD4).symm, hD4', hts⟩
        · intro H10 ws3 s10 hD10 hws3
          have ecod : ((divisors p n).map (cyclicCode p n)).map (fun c => sortBy leW (wordsRaw c)) = duec p n := by
            unfold duec
            rw [List.map_map]
            exact List.map_congr_left fun g hg => codes_words hring g hg
          rw [ecod] at hws3
          have s610 := (s8.trans s9).trans s10
          refine ⟨_, rfl, .list ((duec p n).map lD), .list ((duec p n).map lD), .lst (SqL.of hD10) (dpAll_of (fun v ws q => ?_) hws3), .lst (SqL.of (s610 _ _ hD6)) (dpAll_of (fun v ws q => (q.mono s610).dp) hcs'), lDs_shaped _, lDs_shaped _, _, rfl, ?_⟩
          · obtain ⟨a1, us1, rfl, n1, _, h1, h2⟩ := q
            exact .lst (SqL.of h1) h2.dp
          rw [eqv_lDs, decide_eq_true rfl]
          refine iteF ?_
          have g1 := s610 _ _ f1
          have g2 := f2.mono s610
          have g4 := s610 _ _ f4
          have g5 := Tps.mono s610 f5
          have g6 := s610 _ _ hD6
          have g7 : Paired (LsV l H10) cs (duec p n) := Paired.mapP hcs' fun v ws q => q.mono s610
          clear hws3 hD10 ecod hus3 htc hta hus2 f1 f2 f4 f5 hcs' hD6
          -- the rows
          obtain ⟨most, hm1, hm2⟩ : ∃ most : Nat, (2 : Int) - (if decide (3 < p) = true then 1 else 0) = ((most : Nat) : Int) ∧ most ≤ 2 := by
            by_cases c : 3 < p
            · exact ⟨1, by simp [c], by omega⟩
            · exact ⟨2, by simp [c], by omega⟩
          refine ⟨_, rfl, _, rfl, _, rfl, _, rfl, _, _, rfl, rfl, .inr ⟨_, rfl, _, _, rfl, rfl, ?_⟩⟩
          refine ⟨l, x3, y3, n, p, most, by show [V.ref l, V.int n, V.int p, V.int (2 - if decide (3 < p) = true then 1 else 0)] = _; rw [hm1], g1, hst3, hp, hn1.2, hm2, fun lr H11 rs rows x4 y4 b11 hl11 hst11 hlrn hlr hrs hrl hrw => ?_⟩
          have hlrl : lr ≠ l := (ne_of_none g1 hlrn).symm
          have L11 : LSt l H11 p n ru dd us D cs := LSt.but b11 ⟨g2, e3, g4, g5, hDl, g6, g7⟩
          clear g1 g2 g4 g5 g6 g7 b11 hlrn s610 s8 s78 s7 s9 s10
          refine ⟨_, rfl, l, x4, y4, 2, rfl, hl11, hst11, by omega, by omega, fun v5 x5 y5 _ _ hst5 => ⟨rfl, _, rfl, ?_⟩⟩
          have b12 : But l H11 (upd H11 l (stL x5 y5)) := But.upd hl11
          have L12 := L11.but b12
          have hlr12 : (upd H11 l (stL x5 y5)) lr = some (.lst rs) := b12.2 _ _ hlrl hlr
          have hrs12 : Tps (upd H11 l (stL x5 y5)) rs rows := Paired.mapP hrs fun _ _ q => q.but b12
          have hl12 : (upd H11 l (stL x5 y5)) l = some (stL x5 y5) := upd_same
          generalize upd H11 l (stL x5 y5) = H12 at L12 hlr12 hrs12 hl12
          clear L11 b12 hl11 hlr hrs
          have hrsl := plen hrs12
          have hrl2 : rows.length ≤ 2 := by omega
          refine ite2 (fun _ => ?_) (fun _ => ?_)
          · refine ⟨_, rfl, lr, _, rfl, .inl (SqL.of hlr12), fun lw hlw => ?_⟩
            have s13 : Same H12 (upd H12 lw (.lst rs)) := (Same.refl H12).put hlw
            have hlwl : lw ≠ l := (ne_of_none hl12 hlw).symm
            refine ⟨_, rfl, lr, _, rfl, .inl (SqL.of (s13 _ _ hlr12)), fun l3 hl3' => ?_⟩
            have s14 := s13.put hl3' (o := .lst rs)
            have hw3 : lw ≠ l3 := ne_of_none upd_same hl3'
            refine ⟨l3, rfl, ⟨_, SqL.of upd_same⟩, for_list (xs := rs) (fun i σ H' => ∃ ws wrows x10 x11 x12, σ = [some (.ref a), some (.ref l), some (.int p), some (.int n), some ru, some (.ref dd), x6, some (.ref D), some (.ref lr), some (.ref lw), x10, x11, x12, none, none, none, none, none, none] ∧
              Same H12 H' ∧ H' lw = some (.lst ws) ∧ Tps H' ws wrows ∧ (∀ r ∈ wrows, Wn p n r) ∧ wrows.length ≤ 2 + 6 * i ∧ H' l3 = some (.lst rs)) ?_ ?_ ?_ ?_⟩
            · exact ⟨rs, rows, _, _, _, rfl, s14, by rw [upd_ne hw3]; exact upd_same, Tps.mono s14 hrs12, hrw, by omega, upd_same⟩
            · rintro i σ H' _ ⟨_, _, _, _, _, _, _, _, _, _, _, q⟩
              exact SqL.of q
            · rintro i xv σ H' hxv ⟨ws, wrows, x10, x11, x12, rfl, L, q2, q3, q4, q5, q6⟩
              obtain ⟨row, hrow, trow⟩ := pget (Tps.mono L hrs12) hxv
              have hi2 : i < rows.length := (List.getElem?_eq_some_iff.mp hrow).1
              have wrow := hrw row (List.mem_of_getElem? hrow)
              refine ⟨_, rfl, _, rfl, _, rfl, by omega, by omega, ?_⟩
              have en2 : ((n : Nat) : Int).toNat = n := by omega
              rw [en2]
              refine for_range (lo := 0) (n := n) (fun j σ H' => ∃ ws wrows vo other x12, σ = [some (.ref a), some (.ref l), some (.int p), some (.int n), some ru, some (.ref dd), x6, some (.ref D), some (.ref lr), some (.ref lw), some xv, some vo, x12, none, none, none, none, none, none] ∧
                Same H12 H' ∧ H' lw = some (.lst ws) ∧ Tps H' ws wrows ∧ (∀ r ∈ wrows, Wn p n r) ∧ wrows.length ≤ 2 + 6 * i + j ∧ H' l3 = some (.lst rs) ∧ Tp H' vo other ∧ Wn p n other) ⟨ws, wrows, xv, row, _, rfl, L, q2, q3, q4, by omega, q6, trow, wrow⟩ ?_ ?_
              · rintro j σ H2' hj ⟨ws2, wrows2, vo, other, x12', rfl, L2, r2, r3, r4, r5, r6, r8, r9⟩
                have hne : other ≠ [] := fun e => by have := r9.1; rw [e] at this; simp at this; omega
                refine ⟨_, rfl, vo, other, rfl, r8, hne, by rw [r9.1]; omega, fun v2 H3' t1 t2 => ?_⟩
                have r2' := t1 _ _ r2
                have hwsl := plen r3
                refine ⟨_, rfl, .inl ⟨rfl, _, SqL.of r2'⟩, _, rfl, lw, ws2, v2, rfl, rfl, r2', small1000 (by omega), ?_⟩
                have b9 : But lw H3' (upd H3' lw (.lst (ws2 ++ [v2]))) := But.upd r2'
                refine ⟨ws2 ++ [v2], wrows2 ++ [shiftW other], v2, shiftW other, _, rfl, Same.own (L2.trans t1) hlw, upd_same, papp (Paired.mapP (Tps.mono t1 r3) fun _ _ q => q.but b9) (.cons (t2.but b9) .nil), fun r hr => ?_, by rw [List.length_append, List.length_singleton]; omega, by rw [upd_ne hw3.symm]; exact t1 _ _ r6, t2.but b9, shiftW_wn r9⟩
                rcases List.mem_append.mp hr with hr | hr
                · exact r4 r hr
                · rw [List.mem_singleton.mp hr]; exact shiftW_wn r9
              · rintro σ H2' ⟨ws2, wrows2, vo, other, x12', rfl, L2, r2, r3, r4, r5, r6, r8, r9⟩
                exact ⟨ws2, wrows2, _, _, _, rfl, L2, r2, r3, r4, by omega, r6⟩
            · rintro σ H' ⟨ws, wrows, x10, x11, x12, rfl, L, q2, q3, q4, q5, q6⟩
              refine ⟨_, rfl, ?_⟩
              have L14 := L12.mono L
              have hl14 := L _ _ hl12
              have hwl : wrows.length ≤ 100 := by omega
              have hlw' : lw ≠ l := hlwl
              clear L12 hlr12 hrs12 hl12 s13 s14 hlw hl3' q6 q5 hrw hlrl
              have hwsl := plen q3
              refine ⟨_, rfl, _, rfl, _, rfl, lw, ws, wrows, n, p, rfl, q2, q3, q4, hn1.1, hring.tab (Nat.le_refl n), fun lk H15 wks s15 hlkn hlk hwks => ?_⟩
              have hwks : Tps H15 wks (wordsOf p n wrows) := hwks
              have hrk : ∀ w ∈ wordsOf p n wrows, Wn p n w := fun w hw => ((wordsOf_mem hp q4 w).mp hw).wn hp q4
              have hwlen : (wordsOf p n wrows).length ≤ 1000 := wordsOf_len hring q4
              have hkl := plen hwks
              -- the code
              refine ⟨_, rfl, _, rfl, _, rfl, fun x dx hx hdx hne => ?_⟩
              have s16 : Same H15 (upd (upd H15 dx (.own x)) x (.ins C dx [])) := ((Same.refl H15).put hdx).put (by rw [upd_ne hne.symm]; exact hx)
              refine ⟨x, dx, .ref lw, wrows, n, p, rfl, upd_same, ⟨lw, ws, rfl, .inl (s16 _ _ (s15 _ _ q2)), Tps.mono (s15.trans s16) q3⟩, hring.code (by omega) q4, fun H17 k17 hcv => ⟨rfl, ?_⟩⟩
              have s17 : Same H15 H17 := fun b o e => k17 b o (fun z => by rw [z, hx] at e; cases e) (s16 _ _ e)
              have L17 := (L14.mono s15).mono s17
              have hl17 := s17 _ _ (s15 _ _ hl14)
              have hlk17 := s17 _ _ hlk
              have hwk17 := Tps.mono s17 hwks
              have hlkl : lk ≠ l := (ne_of_none hl14 hlkn).symm
              have hcok : CdOk (mkCode p n wrows) := cdOk_of (hring.code (by omega) q4)
              generalize hcode : mkCode p n wrows = code at hcv hcok
              clear s16 hx hdx k17 s17 s15 L14 hl14 q2 q3 hlk hwks
              -- closed
              refine ⟨_, rfl, lk, rfl, ⟨_, SqL.of hlk17⟩, fun D5 hD5 => lc_gen (wordsOf p n wrows) (fun w => if !(decide (shiftW w ∈ wordsOf p n wrows)) then some w else none) Tp (walks_list (SqL.of hlk17)) hkl (small1000 (by omega)) hD5 Tp.monoD ?_ ?_⟩
              · rintro j xv z H18 Q1 Qn hx hz s18 - hno hyes
                obtain ⟨z', hz', tz⟩ := pget hwk17 hx
                obtain rfl : z' = z := by rw [hz'] at hz; exact Option.some.inj hz
                have hzw := hrk z' (List.mem_of_getElem? hz')
                have hzn : z' ≠ [] := fun e => by have := hzw.1; rw [e] at this; simp at this; omega
                refine ⟨_, rfl, xv, z', rfl, tz.mono s18, hzn, by rw [hzw.1]; omega, fun r H19 s19 q19 => ⟨_, rfl, wD (shiftW z'), (wordsOf p n wrows).map wD, q19.dp, .lst (SqL.of ((s18.trans s19) _ _ hlk17)) (Tps.mono (s18.trans s19) hwk17).dp, wD_shaped _, wDl_shaped _, _, rfl, ?_⟩⟩
                rw [anyD]
                refine ite2 (fun c => ?_) (fun c => ?_)
                · exact ⟨xv, rfl, hyes z' (if_pos c) xv _ s19 ((tz.mono s18).mono s19)⟩
                · exact hno (if_neg c) _ s19
              intro H18 ys s18 hD18 hys
              rw [filt_if] at hys
              refine ⟨_, _, rfl, .inl (SqL.of hD18), rfl, ?_⟩
              obtain ⟨b, hb, hbc⟩ : ∃ b, decide (V.int ((ys.length : Nat) : Int) = V.int 0) = b ∧ (b = true ↔ Closed p n wrows) := ⟨_, rfl, by rw [plen hys]; exact closed_flag hring q4⟩
              show gName 15 (V.bl (decide (V.int ((ys.length : Nat) : Int) = V.int 0))) _ _ _
              rw [hb]
              have L18 := L17.mono s18
              have hl18 := s18 _ _ hl17
              have hlk18 := s18 _ _ hlk17
              have hwk18 := Tps.mono s18 hwk17
              have hcv18 := hcv.mono s18
              clear L17 hl17 hlk17 hwk17 hcv s18 hD18 hys hD5
              have ecyc : isCyclic code = b := by
                rw [← hcode, Bool.eq_iff_iff, hbc]
                exact cyclic_iff hp hn1.1 q4
              have emem : decide (wordsOf p n wrows ∈ duec p n) = b := by
                rw [Bool.eq_iff_iff, decide_eq_true_eq, hbc]
                exact due_iff hring q4
              -- the middle test
              refine ⟨_, rfl, .ref x, code, rfl, hcv18, hcok, fun H19 s19 => ⟨_, rfl, rfl, _, rfl, ?_⟩⟩
              rw [ecyc, decide_eq_true rfl]
              refine iteF ?_
              refine ⟨_, rfl, _, rfl, _, rfl, lD (wordsOf p n wrows), (duec p n).map lD, .lst (SqL.of (s19 _ _ hlk18)) (Tps.mono s19 hwk18).dp, .lst (SqL.of (L18.mono s19).c) (dpAll_of (fun v ws q => q.dp) (L18.mono s19).cw), wDl_shaped _, lDs_shaped _, rfl, _, rfl, ?_⟩
              rw [anyL, emem, decide_eq_true rfl]
              refine iteF ?_
              refine ⟨_, rfl, by show 0 ≤ sizeLine; decide, fun t0 ht0 x2 dx2 hx2 hdx2 hne2 => ?_⟩
              have s20 := s19.put ht0 (o := .tup [])
              have s21 := (s20.put hdx2 (o := .own x2)).put (o := .ins C dx2 []) (a := x2) (by rw [upd_ne hne2.symm]; exact hx2)
              refine ⟨x2, dx2, .ref t0, [], 0, p, rfl, upd_same, ⟨t0, [], rfl, .inr ?_, .nil⟩, code0 hp, fun H22 k22 hcv2 => ⟨rfl, ?_⟩⟩
              · have hb1 : t0 ≠ dx2 := ne_of_none upd_same hdx2
                have hb2 : t0 ≠ x2 := ne_of_none upd_same hx2
                rw [upd_ne hb2, upd_ne hb1]
                exact upd_same
              have s22 : Same H18 H22 := fun b o e => k22 b o (fun z => by rw [z] at e; have := s20 _ _ e; rw [hx2] at this; cases this) (s21 _ _ e)
              refine ⟨.ref x2, mkCode p 0 [], rfl, hcv2, cdOk_of (code0 hp), fun H23 s23 => ⟨_, _, rfl, rfl, _, rfl, ?_⟩⟩
              rw [show isCyclic (mkCode p 0 []) = false from rfl, decide_eq_true rfl]
              refine iteF ?_
              have L23 := (L18.mono s22).mono s23
              have hl23 := s23 _ _ (s22 _ _ hl18)
              have hlk23 := s23 _ _ (s22 _ _ hlk18)
              have hwk23 := (Tps.mono (s22.trans s23) hwk18)
              have hcv23 := hcv18.mono (s22.trans s23)
              clear L18 hl18 hlk18 hwk18 hcv18 s19 s20 s21 s22 k22 s23 hcv2 hx2 hdx2 ht0
              -- a word shifted
              refine ⟨_, rfl, _, rfl, _, rfl, l, x5, y5, n, p, rfl, hl23, hst5, hp, hn1.2, fun rw' H24 wd x7 y7 b24 hl24 hst24 hwd htw => ?_⟩
              have L24 := L23.but b24
              have hlk24 := b24.2 _ _ hlkl hlk23
              have hwk24 : Tps H24 wks (wordsOf p n wrows) := Paired.mapP hwk23 fun _ _ q => q.but b24
              have hcv24 := hcv23.but b24
              clear L23 hl23 hlk23 hwk23 hcv23 b24
              have hwdn : wd ≠ [] := fun e => by have := hwd.1; rw [e] at this; simp at this; omega
              refine ⟨_, rfl, rw', wd, rfl, htw, hwdn, by rw [hwd.1]; omega, fun r1 H25 s25 q25 => ⟨_, rfl, rw', wd, rfl, htw.mono s25, hwdn, by rw [hwd.1]; omega, fun r2 H26 s26 q26 => ⟨wD (shiftW wd), wD (shiftW wd), (q25.mono s26).dp, q26.dp, wD_shaped _, wD_shaped _, _, rfl, ?_⟩⟩⟩
              rw [eqv_wD, decide_eq_true rfl]
              refine iteF ?_
              have L26 := (L24.mono s25).mono s26
              have hl26 := s26 _ _ (s25 _ _ hl24)
              have hlk26 := s26 _ _ (s25 _ _ hlk24)
              have hwk26 := Tps.mono (s25.trans s26) hwk24
              have hcv26 := hcv24.mono (s25.trans s26)
              clear L24 hl24 hlk24 hwk24 hcv24 s25 s26 q25 q26
              refine ⟨_, rfl, b, rfl, ?_⟩
              cases b with
              | true =>
                refine iteT (B := True) ?_
                have hin : wordsOf p n wrows ∈ duec p n := of_decide_eq_true emem
                obtain ⟨j, hj1, hj2, hj3⟩ := first_idx hin
                have hj4 : j < (divisors p n).length := by unfold duec at hj1; rw [List.length_map] at hj1; exact hj1
                have hgj : (divisors p n)[j]? = some (divisors p n)[j] := List.getElem?_eq_getElem hj4
                have hgm : (divisors p n)[j] ∈ divisors p n := List.getElem_mem hj4
                have hgw : wordsOf p n (genRows n (divisors p n)[j]) = wordsOf p n wrows := by
                  unfold duec at hj2
                  rw [List.getElem?_map, hgj] at hj2
                  exact Option.some.inj hj2
                obtain ⟨vg, hvg, tg⟩ := pget2 L26.dw hgj
                generalize hgg : (divisors p n)[j] = g at hgj hgm hgw tg
                have hcg : code = cyclicCode p n g := by
                  rw [← hcode]
                  exact mkCode_eq hp q4 (dv_rws hring hp hgm) ((wordsOf_eq hp q4 (dv_rws hring hp hgm)).mp hgw.symm)
                have G := gen_facts hring hgm
                refine ⟨_, rfl, _, rfl, .inl ⟨rfl, _, SqL.of L26.c⟩, _, rfl, D, .ref lk, lD (wordsOf p n wrows), (duec p n).map lD, j, lD (wordsOf p n wrows), rfl, rfl, .lst (SqL.of L26.c) (dpAll_of (fun v ws q => q.dp) L26.cw), .lst (SqL.of hlk26) hwk26.dp, lDs_shaped _, wDl_shaped _, by rw [List.getElem?_map, hj2]; rfl, by rw [eqv_lD]; simp, fun m z hm hz => ?_, dd, us, _, vg, rfl, rfl, SqL.of L26.d, atI_nat hvg, ?_⟩
                · rw [List.getElem?_map] at hz
                  cases e : (duec p n)[m]? with
                  | none => rw [e] at hz; cases hz
                  | some u =>
                    rw [e] at hz
                    obtain rfl := Option.some.inj hz
                    rw [eqv_lD]
                    exact decide_eq_false fun c => hj3 m hm (by rw [e, c])
                refine ⟨_, rfl, .ref x, code, rfl, hcv26, hcok, (fun e => by rw [ecyc] at e; cases e), fun _ => ⟨by rw [hcg]; exact G.pre, fun r H27 s27 hr27 => ⟨_, rfl, wD g, wD g, ?_, (tg.mono s27).dp, wD_shaped _, wD_shaped _, _, rfl, ?_⟩⟩⟩
                · rw [hcg, G.gen] at hr27
                  exact hr27.dp
                rw [eqv_wD, decide_eq_true rfl]
                refine iteF ?_
                refine ⟨_, rfl, .ref x, code, rfl, hcv26.mono s27, hcok, (fun e => by rw [ecyc] at e; cases e), fun _ => ⟨by rw [hcg]; exact G.pre, by rw [hcg, G.gen]; exact G.div, fun r2 H28 s28 hr28 => ?_⟩⟩
                rw [hcg] at hr28
                have hgv := (dv_ok hring g hgm).le
                refine ⟨_, rfl, _, rfl, r2, vg, checkPoly (cyclicCode p n g), g, p, rfl, hr28, (tg.mono s27).mono s28, hp, G.wd, G.len, by omega, fun r3 H29 s29 hr29 => ⟨_, rfl, wD (unitPoly p n), wD (unitPoly p n), ?_, (((L26.u.mono s27).mono s28).mono s29).dp, wD_shaped _, wD_shaped _, _, rfl, ?_⟩⟩
                · rw [G.mul] at hr29
                  exact hr29.dp
                rw [eqv_wD, decide_eq_true rfl]
                refine iteF ?_
                have s30 := (s27.trans s28).trans s29
                have L30 := L26.mono s30
                have hl30 := s30 _ _ hl26
                generalize H29 = H30 at L30 hl30
                have hpos : 0 < us.length := by
                  rw [hlen]
                  exact List.length_pos_of_mem (ring_split hring).2
                refine ⟨_, rfl, _, rfl, dd, us, rfl, .inl (SqL.of L30.d), l, x7, y7, ((us.length : Nat) : Int), rfl, hl30, hst24, by omega, by omega, fun v8 x8 y8 hv0 hv1 hst8 => ?_⟩
                have b31 : But l H30 (upd H30 l (stL x8 y8)) := But.upd hl30
                have L31 := L30.but b31
                generalize upd H30 l (stL x8 y8) = H31 at L31
                clear L30 hl30 b31
                obtain ⟨at', hat⟩ : ∃ at' : Nat, v8 = ((at' : Nat) : Int) := ⟨v8.toNat, by omega⟩
                subst hat
                have hat1 : at' < (divisors p n).length := by omega
                have hgj2 : (divisors p n)[at']? = some (divisors p n)[at'] := List.getElem?_eq_getElem hat1
                have hgm2 : (divisors p n)[at'] ∈ divisors p n := List.getElem_mem hat1
                have hcj2 : (duec p n)[at']? = some (wordsOf p n (genRows n (divisors p n)[at'])) := by unfold duec; rw [List.getElem?_map, hgj2]; rfl
                obtain ⟨vh, hvh, th⟩ := pget2 L31.dw hgj2
                obtain ⟨vc, hvc, tc⟩ := pget2 L31.cw hcj2
                generalize (divisors p n)[at'] = g2 at hgj2 hgm2 hcj2 th tc
                have hv2 := dv_ok hring g2 hgm2
                have hr2 := dv_rws hring hp hgm2
                refine ⟨_, rfl, _, rfl, _, rfl, _, rfl, dd, us, _, vh, rfl, rfl, SqL.of L31.d, atI_nat hvh, vh, p, n, true, rfl, hp, hn1.1, by omega, .inl ⟨g2, th, by have := hv2.le; omega, hv2.dv.symm⟩, (fun z => by cases z), fun _ => ⟨g2, th, hring.cyc hgm2, fun v9 H32 s32 hcv9 => ?_⟩⟩
                refine ⟨_, rfl, _, rfl, _, rfl, _, rfl, D, cs, _, vc, rfl, rfl, SqL.of (s32 _ _ L31.c), atI_nat hvc, fun xb dxb hxb hdxb hneb => ?_⟩
                obtain ⟨ac, uc, rfl, hacl, hac, huc⟩ := id tc
                have s33 : Same H32 (upd (upd H32 dxb (.own xb)) xb (.ins C dxb [])) := ((Same.refl H32).put hdxb).put (by rw [upd_ne hneb.symm]; exact hxb)
                have hrg : Rws p n (wordsOf p n (genRows n g2)) := fun w hw => ((wordsOf_mem hp hr2 w).mp hw).wn hp hr2
                refine ⟨xb, dxb, .ref ac, wordsOf p n (genRows n g2), n, p, rfl, upd_same, ⟨ac, uc, rfl, .inl (s33 _ _ (s32 _ _ hac)), Tps.mono (s32.trans s33) huc⟩, hring.code (wordsOf_len hring hr2) hrg, fun H34 k34 hcvb => ⟨rfl, ?_⟩⟩
                have s34 : Same H32 H34 := fun b o e => k34 b o (fun z => by rw [z, hxb] at e; cases e) (s33 _ _ e)
                have ecode : mkCode p n (wordsOf p n (genRows n g2)) = cyclicCode p n g2 := mkCode_eq hp hrg hr2 (words_span hp hr2)
                rw [ecode] at hcvb
                have hcva := hcv9.mono s34
                obtain ⟨aa, da, ta3, qa, ua, ea, haa, _⟩ := id hcva
                obtain ⟨ab, db, tb3, qb, ub, eb, hab, _⟩ := id hcvb
                subst ea
                cases eb
                refine ⟨⟨aa, xb, da, db, _, _, rfl, rfl, haa, hab, cyclicCode p n g2, hcva, hcvb, (cdOk_of (hring.cyc hgm2).pre).most⟩, fun H35 s35 => ⟨_, _, rfl, rfl, _, rfl, ?_⟩⟩
                rw [decide_eq_true rfl]
                refine iteF ?_
                have s36 : Same H31 H35 := (s32.trans s34).trans s35
                have L36 := L31.mono s36
                have th36 := th.mono s36
                clear L31 th
                have RR := refuse_facts hring hgm2
                -- the nine arguments
                refine ⟨by show 0 ≤ sizeLine; decide, fun t1 h1 => ?_⟩
                have z1 := (Same.refl H35).put h1 (o := .tup [])
                refine ⟨by show 1 ≤ sizeLine; decide, fun t2 h2 => ?_⟩
                have z2 := z1.put h2 (o := .tup [.int 0])
                have w1 := upd_ne (H := upd H35 t1 (.tup [])) (o := .tup [.int 0]) (ne_of_none upd_same h2)
                refine ⟨_, rfl, _, rfl, dd, us, _, vh, rfl, rfl, SqL.of (z2 _ _ L36.d), atI_nat hvh, ?_⟩
                obtain ⟨tg, rfl, htg⟩ := id th36
                refine ⟨tg, _, rfl, .inr (SqT.of (z2 _ _ htg)), fun l4 h4 => ?_⟩
                have z4 := z2.put h4 (o := .lst (g2.map V.int))
                refine ⟨_, rfl, _, rfl, dd, us, _, .ref tg, rfl, rfl, SqL.of (z4 _ _ L36.d), atI_nat hvh, by show 1 ≤ sizeLine; decide, fun t5 h5 => ?_⟩
                have z5 := z4.put h5 (o := .tup [.int 0])
                refine cat_tp (a := g2) (b := [0]) ⟨tg, rfl, z5 _ _ htg⟩ ⟨t5, rfl, upd_same⟩ (by have := hv2.le; simp; omega) fun r5 H40 z6 q5 => ?_
                have z7 := z5.trans z6
                refine ⟨_, rfl, by show 2 ≤ sizeLine; decide, fun t6 h6 => ?_⟩
                have z8 := z7.put h6 (o := .tup [.int 1, .int p])
                refine ⟨by show 1 ≤ sizeLine; decide, fun t7 h7 => ?_⟩
                have z9 := z8.put h7 (o := .tup [.bl true])
                refine ⟨_, rfl, by show 1 ≤ sizeLine; decide, fun t8 h8 => ?_⟩
                have z10 := z9.put h8 (o := .tup [.int 1])
                refine cat_tp (a := unitPoly p n) (b := [1]) (L36.u.mono z10) ⟨t8, rfl, upd_same⟩ (by rw [unitPoly_len p hn1.1]; simp; omega) fun r8 H41 z11 q8 => ?_
                have z12 := z10.trans z11
                refine ⟨_, rfl, by show 2 ≤ sizeLine; decide, fun t9 h9 => ?_⟩
                have z13 := z12.put h9 (o := .tup [.int 0, .int 1])
                have z1213 : Same H41 (upd H41 t9 (.tup [.int 0, .int 1])) := (Same.refl H41).put h9
                refine ⟨_, rfl, ru, .ref t9, unitPoly p n, [0, 1], p, rfl, L36.u.mono z13, ⟨t9, rfl, upd_same⟩, hp, unit_wd hp n, by rw [unitPoly_len p hn1.1]; omega, by simp, fun r9 H42 z14 q9 => ⟨by show 9 ≤ sizeLine; decide, fun L hL => ?_⟩⟩
                have c41 := z1213.trans z14
                have c8 := z11.trans c41
                have c7 := ((Same.refl _).put h8 (o := .tup [.int 1])).trans c8
                have c6 := ((Same.refl _).put h7 (o := .tup [.bl true])).trans c7
                have c40 := ((Same.refl _).put h6 (o := .tup [.int 1, .int p])).trans c6
                have cd5 := z6.trans c40
                have c4 := ((Same.refl _).put h5 (o := .tup [.int 0])).trans cd5
                have c2 := ((Same.refl _).put h4 (o := .lst (g2.map V.int))).trans c4
                have c1 := ((Same.refl _).put h2 (o := .tup [.int 0])).trans c2
                have e1 := c1 _ _ upd_same
                have e2 := c2 _ _ upd_same
                have e4 := c4 _ _ upd_same
                have e6 := c6 _ _ upd_same
                have e7 := c7 _ _ upd_same
                have e5 := q5.mono c40
                have e8 := q8.mono c41
                have items : ∀ (i : Nat) (v : V), [V.ref t1, .ref t2, .non, .ref l4, r5, .ref t6, .ref t7, r8, r9][i]? = some v → DArg H42 v (unitPoly p n) p false := by
                  intro i v hv
                  have hd : ∀ w ∈ [[], [0], g2 ++ [0], [1, p], unitPoly p n ++ [1], times (unitPoly p n) [0, 1] p], ∀ v, Tp H42 v w → DArg H42 v (unitPoly p n) p false := fun w hw v tv => .inl ⟨w, tv, (RR w hw).1, (RR w hw).2⟩
                  match i, hv with
                  | 0, hv => cases hv; exact hd [] (by simp) _ ⟨t1, rfl, e1⟩
                  | 1, hv => cases hv; exact hd [0] (by simp) _ ⟨t2, rfl, e2⟩
                  | 2, hv => cases hv; exact .inr ⟨rfl, .inl rfl⟩
                  | 3, hv => cases hv; exact .inr ⟨rfl, .inr (.inl ⟨l4, _, rfl, e4⟩)⟩
                  | 4, hv => cases hv; exact hd (g2 ++ [0]) (by simp) _ e5
                  | 5, hv => cases hv; exact hd [1, p] (by simp) _ ⟨t6, rfl, e6⟩
                  | 6, hv => cases hv; exact .inr ⟨rfl, .inr (.inr ⟨t7, rfl, e7⟩)⟩
                  | 7, hv => cases hv; exact hd (unitPoly p n ++ [1]) (by simp) _ e8
                  | 8, hv => cases hv; exact hd (times (unitPoly p n) [0, 1] p) (by simp) _ q9
                  | i + 9, hv => simp at hv
                have sL : Same H42 (upd H42 L (.lst [V.ref t1, .ref t2, .non, .ref l4, r5, .ref t6, .ref t7, r8, r9])) := (Same.refl H42).put hL
                refine ⟨L, rfl, ⟨_, SqL.of upd_same⟩, for_list (xs := [V.ref t1, .ref t2, .non, .ref l4, r5, .ref t6, .ref t7, r8, r9]) (fun i σ H' => σ[2]? = some (some (.int p)) ∧ σ[3]? = some (some (.int n)) ∧ σ.length = 19 ∧ Same (upd H42 L (.lst [V.ref t1, .ref t2, .non, .ref l4, r5, .ref t6, .ref t7, r8, r9])) H') ⟨rfl, rfl, rfl, Same.refl _⟩ ?_ ?_ ?_⟩
                · rintro i σ H' _ ⟨_, _, _, sm⟩
                  exact SqL.of (sm _ _ upd_same)
                · rintro i v σ H' hv ⟨i1, i2, i3, sm⟩
                  refine ⟨_, by rw [List.getElem?_set_ne (by decide)]; exact i1, _, by rw [List.getElem?_set_ne (by decide)]; exact i2, _, by rw [List.getElem?_set_self (by omega)], v, p, n, rfl, hp, hn1.1, by omega, (items i v hv).mono (sL.trans sm), fun H50 s50 => ⟨_, rfl, ite2 (fun c => by simp at c) (fun _ => ⟨by rw [List.getElem?_set_ne (by decide)]; exact i1, by rw [List.getElem?_set_ne (by decide)]; exact i2, by rw [List.length_set]; exact i3, sm.trans s50⟩)⟩⟩
                · rintro σ H' _
                  exact k H'
              | false =>
                refine iteF ?_
                refine ⟨_, rfl, .ref x, code, rfl, hcv26, hcok, ecyc, fun lq H27 s27 hlq => ⟨by show 2 ≤ sizeLine; decide, fun t9 ht9 => ?_⟩⟩
                have s28 := s27.put ht9 (o := .lst [.str "cyclic", .str "cyclic"])
                have hd9 : ∀ {a : Addr} {H : Hp}, H a = some (.lst [.str "cyclic", .str "cyclic"]) → Dp K H (.ref a) (.list [.str "cyclic", .str "cyclic"]) := fun e => .lst (SqL.of e) (.cons (.str _) (.cons (.str _) .nil))
                refine ⟨.list [.str "cyclic", .str "cyclic"], .list [.str "cyclic", .str "cyclic"], hd9 (by rw [upd_ne (ne_of_none hlq ht9)]; exact hlq), hd9 upd_same, by decide +kernel, by decide +kernel, _, rfl, ?_⟩
                rw [show PyData.eqv (.list [.str "cyclic", .str "cyclic"]) (.list [.str "cyclic", .str "cyclic"]) = true by decide +kernel]
                refine iteF ?_
                have L30 := L26.mono s28
                have hl30 := s28 _ _ hl26
                generalize upd H27 t9 (.lst [.str "cyclic", .str "cyclic"]) = H30 at L30 hl30
                have hpos : 0 < us.length := by
                  rw [hlen]
                  exact List.length_pos_of_mem (ring_split hring).2
                refine ⟨_, rfl, _, rfl, dd, us, rfl, .inl (SqL.of L30.d), l, x7, y7, ((us.length : Nat) : Int), rfl, hl30, hst24, by omega, by omega, fun v8 x8 y8 hv0 hv1 hst8 => ?_⟩
                have b31 : But l H30 (upd H30 l (stL x8 y8)) := But.upd hl30
                have L31 := L30.but b31
                generalize upd H30 l (stL x8 y8) = H31 at L31
                clear L30 hl30 b31
                obtain ⟨at', hat⟩ : ∃ at' : Nat, v8 = ((at' : Nat) : Int) := ⟨v8.toNat, by omega⟩
                subst hat
                have hat1 : at' < (divisors p n).length := by omega
                have hgj2 : (divisors p n)[at']? = some (divisors p n)[at'] := List.getElem?_eq_getElem hat1
                have hgm2 : (divisors p n)[at'] ∈ divisors p n := List.getElem_mem hat1
                have hcj2 : (duec p n)[at']? = some (wordsOf p n (genRows n (divisors p n)[at'])) := by unfold duec; rw [List.getElem?_map, hgj2]; rfl
                obtain ⟨vh, hvh, th⟩ := pget2 L31.dw hgj2
                obtain ⟨vc, hvc, tc⟩ := pget2 L31.cw hcj2
                generalize (divisors p n)[at'] = g2 at hgj2 hgm2 hcj2 th tc
                have hv2 := dv_ok hring g2 hgm2
                have hr2 := dv_rws hring hp hgm2
                refine ⟨_, rfl, _, rfl, _, rfl, _, rfl, dd, us, _, vh, rfl, rfl, SqL.of L31.d, atI_nat hvh, vh, p, n, true, rfl, hp, hn1.1, by omega, .inl ⟨g2, th, by have := hv2.le; omega, hv2.dv.symm⟩, (fun z => by cases z), fun _ => ⟨g2, th, hring.cyc hgm2, fun v9 H32 s32 hcv9 => ?_⟩⟩
                refine ⟨_, rfl, _, rfl, _, rfl, _, rfl, D, cs, _, vc, rfl, rfl, SqL.of (s32 _ _ L31.c), atI_nat hvc, fun xb dxb hxb hdxb hneb => ?_⟩
                obtain ⟨ac, uc, rfl, hacl, hac, huc⟩ := id tc
                have s33 : Same H32 (upd (upd H32 dxb (.own xb)) xb (.ins C dxb [])) := ((Same.refl H32).put hdxb).put (by rw [upd_ne hneb.symm]; exact hxb)
                have hrg : Rws p n (wordsOf p n (genRows n g2)) := fun w hw => ((wordsOf_mem hp hr2 w).mp hw).wn hp hr2
                refine ⟨xb, dxb, .ref ac, wordsOf p n (genRows n g2), n, p, rfl, upd_same, ⟨ac, uc, rfl, .inl (s33 _ _ (s32 _ _ hac)), Tps.mono (s32.trans s33) huc⟩, hring.code (wordsOf_len hring hr2) hrg, fun H34 k34 hcvb => ⟨rfl, ?_⟩⟩
                have s34 : Same H32 H34 := fun b o e => k34 b o (fun z => by rw [z, hxb] at e; cases e) (s33 _ _ e)
                have ecode : mkCode p n (wordsOf p n (genRows n g2)) = cyclicCode p n g2 := mkCode_eq hp hrg hr2 (words_span hp hr2)
                rw [ecode] at hcvb
                have hcva := hcv9.mono s34
                obtain ⟨aa, da, ta3, qa, ua, ea, haa, _⟩ := id hcva
                obtain ⟨ab, db, tb3, qb, ub, eb, hab, _⟩ := id hcvb
                subst ea
                cases eb
                refine ⟨⟨aa, xb, da, db, _, _, rfl, rfl, haa, hab, cyclicCode p n g2, hcva, hcvb, (cdOk_of (hring.cyc hgm2).pre).most⟩, fun H35 s35 => ⟨_, _, rfl, rfl, _, rfl, ?_⟩⟩
                rw [decide_eq_true rfl]
                refine iteF ?_
                have s36 : Same H31 H35 := (s32.trans s34).trans s35
                have L36 := L31.mono s36
                have th36 := th.mono s36
                clear L31 th
                have RR := refuse_facts hring hgm2
                -- the nine arguments
                refine ⟨by show 0 ≤ sizeLine; decide, fun t1 h1 => ?_⟩
                have z1 := (Same.refl H35).put h1 (o := .tup [])
                refine ⟨by show 1 ≤ sizeLine; decide, fun t2 h2 => ?_⟩
                have z2 := z1.put h2 (o := .tup [.int 0])
                have w1 := upd_ne (H := upd H35 t1 (.tup [])) (o := .tup [.int 0]) (ne_of_none upd_same h2)
                refine ⟨_, rfl, _, rfl, dd, us, _, vh, rfl, rfl, SqL.of (z2 _ _ L36.d), atI_nat hvh, ?_⟩
                obtain ⟨tg, rfl, htg⟩ := id th36
                refine ⟨tg, _, rfl, .inr (SqT.of (z2 _ _ htg)), fun l4 h4 => ?_⟩
                have z4 := z2.put h4 (o := .lst (g2.map V.int))
                refine ⟨_, rfl, _, rfl, dd, us, _, .ref tg, rfl, rfl, SqL.of (z4 _ _ L36.d), atI_nat hvh, by show 1 ≤ sizeLine; decide, fun t5 h5 => ?_⟩
                have z5 := z4.put h5 (o := .tup [.int 0])
                refine cat_tp (a := g2) (b := [0]) ⟨tg, rfl, z5 _ _ htg⟩ ⟨t5, rfl, upd_same⟩ (by have := hv2.le; simp; omega) fun r5 H40 z6 q5 => ?_
                have z7 := z5.trans z6
                refine ⟨_, rfl, by show 2 ≤ sizeLine; decide, fun t6 h6 => ?_⟩
                have z8 := z7.put h6 (o := .tup [.int 1, .int p])
                refine ⟨by show 1 ≤ sizeLine; decide, fun t7 h7 => ?_⟩
                have z9 := z8.put h7 (o := .tup [.bl true])
                refine ⟨_, rfl, by show 1 ≤ sizeLine; decide, fun t8 h8 => ?_⟩
                have z10 := z9.put h8 (o := .tup [.int 1])
                refine cat_tp (a := unitPoly p n) (b := [1]) (L36.u.mono z10) ⟨t8, rfl, upd_same⟩ (by rw [unitPoly_len p hn1.1]; simp; omega) fun r8 H41 z11 q8 => ?_
                have z12 := z10.trans z11
                refine ⟨_, rfl, by show 2 ≤ sizeLine; decide, fun t9 h9 => ?_⟩
                have z13 := z12.put h9 (o := .tup [.int 0, .int 1])
                have z1213 : Same H41 (upd H41 t9 (.tup [.int 0, .int 1])) := (Same.refl H41).put h9
                refine ⟨_, rfl, ru, .ref t9, unitPoly p n, [0, 1], p, rfl, L36.u.mono z13, ⟨t9, rfl, upd_same⟩, hp, unit_wd hp n, by rw [unitPoly_len p hn1.1]; omega, by simp, fun r9 H42 z14 q9 => ⟨by show 9 ≤ sizeLine; decide, fun L hL => ?_⟩⟩
                have c41 := z1213.trans z14
                have c8 := z11.trans c41
                have c7 := ((Same.refl _).put h8 (o := .tup [.int 1])).trans c8
                have c6 := ((Same.refl _).put h7 (o := .tup [.bl true])).trans c7
                have c40 := ((Same.refl _).put h6 (o := .tup [.int 1, .int p])).trans c6
                have cd5 := z6.trans c40
                have c4 := ((Same.refl _).put h5 (o := .tup [.int 0])).trans cd5
                have c2 := ((Same.refl _).put h4 (o := .lst (g2.map V.int))).trans c4
                have c1 := ((Same.refl _).put h2 (o := .tup [.int 0])).trans c2
                have e1 := c1 _ _ upd_same
                have e2 := c2 _ _ upd_same
                have e4 := c4 _ _ upd_same
                have e6 := c6 _ _ upd_same
                have e7 := c7 _ _ upd_same
                have e5 := q5.mono c40
                have e8 := q8.mono c41
                have items : ∀ (i : Nat) (v : V), [V.ref t1, .ref t2, .non, .ref l4, r5, .ref t6, .ref t7, r8, r9][i]? = some v → DArg H42 v (unitPoly p n) p false := by
                  intro i v hv
                  have hd : ∀ w ∈ [[], [0], g2 ++ [0], [1, p], unitPoly p n ++ [1], times (unitPoly p n) [0, 1] p], ∀ v, Tp H42 v w → DArg H42 v (unitPoly p n) p false := fun w hw v tv => .inl ⟨w, tv, (RR w hw).1, (RR w hw).2⟩
                  match i, hv with
                  | 0, hv => cases hv; exact hd [] (by simp) _ ⟨t1, rfl, e1⟩
                  | 1, hv => cases hv; exact hd [0] (by simp) _ ⟨t2, rfl, e2⟩
                  | 2, hv => cases hv; exact .inr ⟨rfl, .inl rfl⟩
                  | 3, hv => cases hv; exact .inr ⟨rfl, .inr (.inl ⟨l4, _, rfl, e4⟩)⟩
                  | 4, hv => cases hv; exact hd (g2 ++ [0]) (by simp) _ e5
                  | 5, hv => cases hv; exact hd [1, p] (by simp) _ ⟨t6, rfl, e6⟩
                  | 6, hv => cases hv; exact .inr ⟨rfl, .inr (.inr ⟨t7, rfl, e7⟩)⟩
                  | 7, hv => cases hv; exact hd (unitPoly p n ++ [1]) (by simp) _ e8
                  | 8, hv => cases hv; exact hd (times (unitPoly p n) [0, 1] p) (by simp) _ q9
                  | i + 9, hv => simp at hv
                have sL : Same H42 (upd H42 L (.lst [V.ref t1, .ref t2, .non, .ref l4, r5, .ref t6, .ref t7, r8, r9])) := (Same.refl H42).put hL
                refine ⟨L, rfl, ⟨_, SqL.of upd_same⟩, for_list (xs := [V.ref t1, .ref t2, .non, .ref l4, r5, .ref t6, .ref t7, r8, r9]) (fun i σ H' => σ[2]? = some (some (.int p)) ∧ σ[3]? = some (some (.int n)) ∧ σ.length = 19 ∧ Same (upd H42 L (.lst [V.ref t1, .ref t2, .non, .ref l4, r5, .ref t6, .ref t7, r8, r9])) H') ⟨rfl, rfl, rfl, Same.refl _⟩ ?_ ?_ ?_⟩
                · rintro i σ H' _ ⟨_, _, _, sm⟩
                  exact SqL.of (sm _ _ upd_same)
                · rintro i v σ H' hv ⟨i1, i2, i3, sm⟩
                  refine ⟨_, by rw [List.getElem?_set_ne (by decide)]; exact i1, _, by rw [List.getElem?_set_ne (by decide)]; exact i2, _, by rw [List.getElem?_set_self (by omega)], v, p, n, rfl, hp, hn1.1, by omega, (items i v hv).mono (sL.trans sm), fun H50 s50 => ⟨_, rfl, ite2 (fun c => by simp at c) (fun _ => ⟨by rw [List.getElem?_set_ne (by decide)]; exact i1, by rw [List.getElem?_set_ne (by decide)]; exact i2, by rw [List.length_set]; exact i3, sm.trans s50⟩)⟩⟩
                · rintro σ H' _
                  exact k H'
          · have L14 := L12
            have hl14 := hl12
            have hwl : rows.length ≤ 100 := by omega
            have q2 := hlr12
            have q3 := hrs12
            have q4 := hrw
            have hlw' : lr ≠ l := hlrl
            generalize hh : H12 = H' at *
            generalize hh2 : lr = lw at *
            generalize hh3 : rs = ws at *
            generalize hh4 : rows = wrows at *
            · skip
              have hwsl := plen q3
              refine ⟨_, rfl, _, rfl, _, rfl, lw, ws, wrows, n, p, rfl, q2, q3, q4, hn1.1, hring.tab (Nat.le_refl n), fun lk H15 wks s15 hlkn hlk hwks => ?_⟩
              have hwks : Tps H15 wks (wordsOf p n wrows) := hwks
              have hrk : ∀ w ∈ wordsOf p n wrows, Wn p n w := fun w hw => ((wordsOf_mem hp q4 w).mp hw).wn hp q4
              have hwlen : (wordsOf p n wrows).length ≤ 1000 := wordsOf_len hring q4
              have hkl := plen hwks
              -- the code
              refine ⟨_, rfl, _, rfl, _, rfl, fun x dx hx hdx hne => ?_⟩
              have s16 : Same H15 (upd (upd H15 dx (.own x)) x (.ins C dx [])) := ((Same.refl H15).put hdx).put (by rw [upd_ne hne.symm]; exact hx)
              refine ⟨x, dx, .ref lw, wrows, n, p, rfl, upd_same, ⟨lw, ws, rfl, .inl (s16 _ _ (s15 _ _ q2)), Tps.mono (s15.trans s16) q3⟩, hring.code (by omega) q4, fun H17 k17 hcv => ⟨rfl, ?_⟩⟩
              have s17 : Same H15 H17 := fun b o e => k17 b o (fun z => by rw [z, hx] at e; cases e) (s16 _ _ e)
              have L17 := (L14.mono s15).mono s17
              have hl17 := s17 _ _ (s15 _ _ hl14)
              have hlk17 := s17 _ _ hlk
              have hwk17 := Tps.mono s17 hwks
              have hlkl : lk ≠ l := (ne_of_none hl14 hlkn).symm
              have hcok : CdOk (mkCode p n wrows) := cdOk_of (hring.code (by omega) q4)
              generalize hcode : mkCode p n wrows = code at hcv hcok
              clear s16 hx hdx k17 s17 s15 L14 hl14 q2 q3 hlk hwks
              -- closed
              refine ⟨_, rfl, lk, rfl, ⟨_, SqL.of hlk17⟩, fun D5 hD5 => lc_gen (wordsOf p n wrows) (fun w => if !(decide (shiftW w ∈ wordsOf p n wrows)) then some w else none) Tp (walks_list (SqL.of hlk17)) hkl (small1000 (by omega)) hD5 Tp.monoD ?_ ?_⟩
              · rintro j xv z H18 Q1 Qn hx hz s18 - hno hyes
                obtain ⟨z', hz', tz⟩ := pget hwk17 hx
                obtain rfl : z' = z := by rw [hz'] at hz; exact Option.some.inj hz
                have hzw := hrk z' (List.mem_of_getElem? hz')
                have hzn : z' ≠ [] := fun e => by have := hzw.1; rw [e] at this; simp at this; omega
                refine ⟨_, rfl, xv, z', rfl, tz.mono s18, hzn, by rw [hzw.1]; omega, fun r H19 s19 q19 => ⟨_, rfl, wD (shiftW z'), (wordsOf p n wrows).map wD, q19.dp, .lst (SqL.of ((s18.trans s19) _ _ hlk17)) (Tps.mono (s18.trans s19) hwk17).dp, wD_shaped _, wDl_shaped _, _, rfl, ?_⟩⟩
                rw [anyD]
                refine ite2 (fun c => ?_) (fun c => ?_)
                · exact ⟨xv, rfl, hyes z' (if_pos c) xv _ s19 ((tz.mono s18).mono s19)⟩
                · exact hno (if_neg c) _ s19
              intro H18 ys s18 hD18 hys
              rw [filt_if] at hys
              refine ⟨_, _, rfl, .inl (SqL.of hD18), rfl, ?_⟩
              obtain ⟨b, hb, hbc⟩ : ∃ b, decide (V.int ((ys.length : Nat) : Int) = V.int 0) = b ∧ (b = true ↔ Closed p n wrows) := ⟨_, rfl, by rw [plen hys]; exact closed_flag hring q4⟩
              show gName 15 (V.bl (decide (V.int ((ys.length : Nat) : Int) = V.int 0))) _ _ _
              rw [hb]
              have L18 := L17.mono s18
              have hl18 := s18 _ _ hl17
              have hlk18 := s18 _ _ hlk17
              have hwk18 := Tps.mono s18 hwk17
              have hcv18 := hcv.mono s18
              clear L17 hl17 hlk17 hwk17 hcv s18 hD18 hys hD5
              have ecyc : isCyclic code = b := by
                rw [← hcode, Bool.eq_iff_iff, hbc]
                exact cyclic_iff hp hn1.1 q4
              have emem : decide (wordsOf p n wrows ∈ duec p n) = b := by
                rw [Bool.eq_iff_iff, decide_eq_true_eq, hbc]
                exact due_iff hring q4
              -- the middle test
              refine ⟨_, rfl, .ref x, code, rfl, hcv18, hcok, fun H19 s19 => ⟨_, rfl, rfl, _, rfl, ?_⟩⟩
              rw [ecyc, decide_eq_true rfl]
              refine iteF ?_
              refine ⟨_, rfl, _, rfl, _, rfl, lD (wordsOf p n wrows), (duec p n).map lD, .lst (SqL.of (s19 _ _ hlk18)) (Tps.mono s19 hwk18).dp, .lst (SqL.of (L18.mono s19).c) (dpAll_of (fun v ws q => q.dp) (L18.mono s19).cw), wDl_shaped _, lDs_shaped _, rfl, _, rfl, ?_⟩
              rw [anyL, emem, decide_eq_true rfl]
              refine iteF ?_
              refine ⟨_, rfl, by show 0 ≤ sizeLine; decide, fun t0 ht0 x2 dx2 hx2 hdx2 hne2 => ?_⟩
              have s20 := s19.put ht0 (o := .tup [])
              have s21 := (s20.put hdx2 (o := .own x2)).put (o := .ins C dx2 []) (a := x2) (by rw [upd_ne hne2.symm]; exact hx2)
              refine ⟨x2, dx2, .ref t0, [], 0, p, rfl, upd_same, ⟨t0, [], rfl, .inr ?_, .nil⟩, code0 hp, fun H22 k22 hcv2 => ⟨rfl, ?_⟩⟩
              · have hb1 : t0 ≠ dx2 := ne_of_none upd_same hdx2
                have hb2 : t0 ≠ x2 := ne_of_none upd_same hx2
                rw [upd_ne hb2, upd_ne hb1]
                exact upd_same
              have s22 : Same H18 H22 := fun b o e => k22 b o (fun z => by rw [z] at e; have := s20 _ _ e; rw [hx2] at this; cases this) (s21 _ _ e)
              refine ⟨.ref x2, mkCode p 0 [], rfl, hcv2, cdOk_of (code0 hp), fun H23 s23 => ⟨_, _, rfl, rfl, _, rfl, ?_⟩⟩
              rw [show isCyclic (mkCode p 0 []) = false from rfl, decide_eq_true rfl]
              refine iteF ?_
              have L23 := (L18.mono s22).mono s23
              have hl23 := s23 _ _ (s22 _ _ hl18)
              have hlk23 := s23 _ _ (s22 _ _ hlk18)
              have hwk23 := (Tps.mono (s22.trans s23) hwk18)
              have hcv23 := hcv18.mono (s22.trans s23)
              clear L18 hl18 hlk18 hwk18 hcv18 s19 s20 s21 s22 k22 s23 hcv2 hx2 hdx2 ht0
              -- a word shifted
              refine ⟨_, rfl, _, rfl, _, rfl, l, x5, y5, n, p, rfl, hl23, hst5, hp, hn1.2, fun rw' H24 wd x7 y7 b24 hl24 hst24 hwd htw => ?_⟩
              have L24 := L23.but b24
              have hlk24 := b24.2 _ _ hlkl hlk23
              have hwk24 : Tps H24 wks (wordsOf p n wrows) := Paired.mapP hwk23 fun _ _ q => q.but b24
              have hcv24 := hcv23.but b24
              clear L23 hl23 hlk23 hwk23 hcv23 b24
              have hwdn : wd ≠ [] := fun e => by have := hwd.1; rw [e] at this; simp at this; omega
              refine ⟨_, rfl, rw', wd, rfl, htw, hwdn, by rw [hwd.1]; omega, fun r1 H25 s25 q25 => ⟨_, rfl, rw', wd, rfl, htw.mono s25, hwdn, by rw [hwd.1]; omega, fun r2 H26 s26 q26 => ⟨wD (shiftW wd), wD (shiftW wd), (q25.mono s26).dp, q26.dp, wD_shaped _, wD_shaped _, _, rfl, ?_⟩⟩⟩
              rw [eqv_wD, decide_eq_true rfl]
              refine iteF ?_
              have L26 := (L24.mono s25).mono s26
              have hl26 := s26 _ _ (s25 _ _ hl24)
              have hlk26 := s26 _ _ (s25 _ _ hlk24)
              have hwk26 := Tps.mono (s25.trans s26) hwk24
              have hcv26 := hcv24.mono (s25.trans s26)
              clear L24 hl24 hlk24 hwk24 hcv24 s25 s26 q25 q26
              refine ⟨_, rfl, b, rfl, ?_⟩
              cases b with
              | true =>
                refine iteT (B := True) ?_
                have hin : wordsOf p n wrows ∈ duec p n := of_decide_eq_true emem
                obtain ⟨j, hj1, hj2, hj3⟩ := first_idx hin
                have hj4 : j < (divisors p n).length := by unfold duec at hj1; rw [List.length_map] at hj1; exact hj1
                have hgj : (divisors p n)[j]? = some (divisors p n)[j] := List.getElem?_eq_getElem hj4
                have hgm : (divisors p n)[j] ∈ divisors p n := List.getElem_mem hj4
                have hgw : wordsOf p n (genRows n (divisors p n)[j]) = wordsOf p n wrows := by
                  unfold duec at hj2
                  rw [List.getElem?_map, hgj] at hj2
                  exact Option.some.inj hj2
                obtain ⟨vg, hvg, tg⟩ := pget2 L26.dw hgj
                generalize hgg : (divisors p n)[j] = g at hgj hgm hgw tg
                have hcg : code = cyclicCode p n g := by
                  rw [← hcode]
                  exact mkCode_eq hp q4 (dv_rws hring hp hgm) ((wordsOf_eq hp q4 (dv_rws hring hp hgm)).mp hgw.symm)
                have G := gen_facts hring hgm
                refine ⟨_, rfl, _, rfl, .inl ⟨rfl, _, SqL.of L26.c⟩, _, rfl, D, .ref lk, lD (wordsOf p n wrows), (duec p n).map lD, j, lD (wordsOf p n wrows), rfl, rfl, .lst (SqL.of L26.c) (dpAll_of (fun v ws q => q.dp) L26.cw), .lst (SqL.of hlk26) hwk26.dp, lDs_shaped _, wDl_shaped _, by rw [List.getElem?_map, hj2]; rfl, by rw [eqv_lD]; simp, fun m z hm hz => ?_, dd, us, _, vg, rfl, rfl, SqL.of L26.d, atI_nat hvg, ?_⟩
                · rw [List.getElem?_map] at hz
                  cases e : (duec p n)[m]? with
                  | none => rw [e] at hz; cases hz
                  | some u =>
                    rw [e] at hz
                    obtain rfl := Option.some.inj hz
                    rw [eqv_lD]
                    exact decide_eq_false fun c => hj3 m hm (by rw [e, c])
                refine ⟨_, rfl, .ref x, code, rfl, hcv26, hcok, (fun e => by rw [ecyc] at e; cases e), fun _ => ⟨by rw [hcg]; exact G.pre, fun r H27 s27 hr27 => ⟨_, rfl, wD g, wD g, ?_, (tg.mono s27).dp, wD_shaped _, wD_shaped _, _, rfl, ?_⟩⟩⟩
                · rw [hcg, G.gen] at hr27
                  exact hr27.dp
                rw [eqv_wD, decide_eq_true rfl]
                refine iteF ?_
                refine ⟨_, rfl, .ref x, code, rfl, hcv26.mono s27, hcok, (fun e => by rw [ecyc] at e; cases e), fun _ => ⟨by rw [hcg]; exact G.pre, by rw [hcg, G.gen]; exact G.div, fun r2 H28 s28 hr28 => ?_⟩⟩
                rw [hcg] at hr28
                have hgv := (dv_ok hring g hgm).le
                refine ⟨_, rfl, _, rfl, r2, vg, checkPoly (cyclicCode p n g), g, p, rfl, hr28, (tg.mono s27).mono s28, hp, G.wd, G.len, by omega, fun r3 H29 s29 hr29 => ⟨_, rfl, wD (unitPoly p n), wD (unitPoly p n), ?_, (((L26.u.mono s27).mono s28).mono s29).dp, wD_shaped _, wD_shaped _, _, rfl, ?_⟩⟩
                · rw [G.mul] at hr29
                  exact hr29.dp
                rw [eqv_wD, decide_eq_true rfl]
                refine iteF ?_
                have s30 := (s27.trans s28).trans s29
                have L30 := L26.mono s30
                have hl30 := s30 _ _ hl26
                generalize H29 = H30 at L30 hl30
                have hpos : 0 < us.length := by
                  rw [hlen]
                  exact List.length_pos_of_mem (ring_split hring).2
                refine ⟨_, rfl, _, rfl, dd, us, rfl, .inl (SqL.of L30.d), l, x7, y7, ((us.length : Nat) : Int), rfl, hl30, hst24, by omega, by omega, fun v8 x8 y8 hv0 hv1 hst8 => ?_⟩
                have b31 : But l H30 (upd H30 l (stL x8 y8)) := But.upd hl30
                have L31 := L30.but b31
                generalize upd H30 l (stL x8 y8) = H31 at L31
                clear L30 hl30 b31
                obtain ⟨at', hat⟩ : ∃ at' : Nat, v8 = ((at' : Nat) : Int) := ⟨v8.toNat, by omega⟩
                subst hat
                have hat1 : at' < (divisors p n).length := by omega
                have hgj2 : (divisors p n)[at']? = some (divisors p n)[at'] := List.getElem?_eq_getElem hat1
                have hgm2 : (divisors p n)[at'] ∈ divisors p n := List.getElem_mem hat1
                have hcj2 : (duec p n)[at']? = some (wordsOf p n (genRows n (divisors p n)[at'])) := by unfold duec; rw [List.getElem?_map, hgj2]; rfl
                obtain ⟨vh, hvh, th⟩ := pget2 L31.dw hgj2
                obtain ⟨vc, hvc, tc⟩ := pget2 L31.cw hcj2
                generalize (divisors p n)[at'] = g2 at hgj2 hgm2 hcj2 th tc
                have hv2 := dv_ok hring g2 hgm2
                have hr2 := dv_rws hring hp hgm2
                refine ⟨_, rfl, _, rfl, _, rfl, _, rfl, dd, us, _, vh, rfl, rfl, SqL.of L31.d, atI_nat hvh, vh, p, n, true, rfl, hp, hn1.1, by omega, .inl ⟨g2, th, by have := hv2.le; omega, hv2.dv.symm⟩, (fun z => by cases z), fun _ => ⟨g2, th, hring.cyc hgm2, fun v9 H32 s32 hcv9 => ?_⟩⟩
                refine ⟨_, rfl, _, rfl, _, rfl, _, rfl, D, cs, _, vc, rfl, rfl, SqL.of (s32 _ _ L31.c), atI_nat hvc, fun xb dxb hxb hdxb hneb => ?_⟩
                obtain ⟨ac, uc, rfl, hacl, hac, huc⟩ := id tc
                have s33 : Same H32 (upd (upd H32 dxb (.own xb)) xb (.ins C dxb [])) := ((Same.refl H32).put hdxb).put (by rw [upd_ne hneb.symm]; exact hxb)
                have hrg : Rws p n (wordsOf p n (genRows n g2)) := fun w hw => ((wordsOf_mem hp hr2 w).mp hw).wn hp hr2
                refine ⟨xb, dxb, .ref ac, wordsOf p n (genRows n g2), n, p, rfl, upd_same, ⟨ac, uc, rfl, .inl (s33 _ _ (s32 _ _ hac)), Tps.mono (s32.trans s33) huc⟩, hring.code (wordsOf_len hring hr2) hrg, fun H34 k34 hcvb => ⟨rfl, ?_⟩⟩
                have s34 : Same H32 H34 := fun b o e => k34 b o (fun z => by rw [z, hxb] at e; cases e) (s33 _ _ e)
                have ecode : mkCode p n (wordsOf p n (genRows n g2)) = cyclicCode p n g2 := mkCode_eq hp hrg hr2 (words_span hp hr2)
                rw [ecode] at hcvb
                have hcva := hcv9.mono s34
                obtain ⟨aa, da, ta3, qa, ua, ea, haa, _⟩ := id hcva
                obtain ⟨ab, db, tb3, qb, ub, eb, hab, _⟩ := id hcvb
                subst ea
                cases eb
                refine ⟨⟨aa, xb, da, db, _, _, rfl, rfl, haa, hab, cyclicCode p n g2, hcva, hcvb, (cdOk_of (hring.cyc hgm2).pre).most⟩, fun H35 s35 => ⟨_, _, rfl, rfl, _, rfl, ?_⟩⟩
                rw [decide_eq_true rfl]
                refine iteF ?_
                have s36 : Same H31 H35 := (s32.trans s34).trans s35
                have L36 := L31.mono s36
                have th36 := th.mono s36
                clear L31 th
                have RR := refuse_facts hring hgm2
                -- the nine arguments
                refine ⟨by show 0 ≤ sizeLine; decide, fun t1 h1 => ?_⟩
                have z1 := (Same.refl H35).put h1 (o := .tup [])
                refine ⟨by show 1 ≤ sizeLine; decide, fun t2 h2 => ?_⟩
                have z2 := z1.put h2 (o := .tup [.int 0])
                have w1 := upd_ne (H := upd H35 t1 (.tup [])) (o := .tup [.int 0]) (ne_of_none upd_same h2)
                refine ⟨_, rfl, _, rfl, dd, us, _, vh, rfl, rfl, SqL.of (z2 _ _ L36.d), atI_nat hvh, ?_⟩
                obtain ⟨tg, rfl, htg⟩ := id th36
                refine ⟨tg, _, rfl, .inr (SqT.of (z2 _ _ htg)), fun l4 h4 => ?_⟩
                have z4 := z2.put h4 (o := .lst (g2.map V.int))
                refine ⟨_, rfl, _, rfl, dd, us, _, .ref tg, rfl, rfl, SqL.of (z4 _ _ L36.d), atI_nat hvh, by show 1 ≤ sizeLine; decide, fun t5 h5 => ?_⟩
                have z5 := z4.put h5 (o := .tup [.int 0])
                refine cat_tp (a := g2) (b := [0]) ⟨tg, rfl, z5 _ _ htg⟩ ⟨t5, rfl, upd_same⟩ (by have := hv2.le; simp; omega) fun r5 H40 z6 q5 => ?_
                have z7 := z5.trans z6
                refine ⟨_, rfl, by show 2 ≤ sizeLine; decide, fun t6 h6 => ?_⟩
                have z8 := z7.put h6 (o := .tup [.int 1, .int p])
                refine ⟨by show 1 ≤ sizeLine; decide, fun t7 h7 => ?_⟩
                have z9 := z8.put h7 (o := .tup [.bl true])
                refine ⟨_, rfl, by show 1 ≤ sizeLine; decide, fun t8 h8 => ?_⟩
                have z10 := z9.put h8 (o := .tup [.int 1])
                refine cat_tp (a := unitPoly p n) (b := [1]) (L36.u.mono z10) ⟨t8, rfl, upd_same⟩ (by rw [unitPoly_len p hn1.1]; simp; omega) fun r8 H41 z11 q8 => ?_
                have z12 := z10.trans z11
                refine ⟨_, rfl, by show 2 ≤ sizeLine; decide, fun t9 h9 => ?_⟩
                have z13 := z12.put h9 (o := .tup [.int 0, .int 1])
                have z1213 : Same H41 (upd H41 t9 (.tup [.int 0, .int 1])) := (Same.refl H41).put h9
                refine ⟨_, rfl, ru, .ref t9, unitPoly p n, [0, 1], p, rfl, L36.u.mono z13, ⟨t9, rfl, upd_same⟩, hp, unit_wd hp n, by rw [unitPoly_len p hn1.1]; omega, by simp, fun r9 H42 z14 q9 => ⟨by show 9 ≤ sizeLine; decide, fun L hL => ?_⟩⟩
                have c41 := z1213.trans z14
                have c8 := z11.trans c41
                have c7 := ((Same.refl _).put h8 (o := .tup [.int 1])).trans c8
                have c6 := ((Same.refl _).put h7 (o := .tup [.bl true])).trans c7
                have c40 := ((Same.refl _).put h6 (o := .tup [.int 1, .int p])).trans c6
                have cd5 := z6.trans c40
                have c4 := ((Same.refl _).put h5 (o := .tup [.int 0])).trans cd5
                have c2 := ((Same.refl _).put h4 (o := .lst (g2.map V.int))).trans c4
                have c1 := ((Same.refl _).put h2 (o := .tup [.int 0])).trans c2
                have e1 := c1 _ _ upd_same
                have e2 := c2 _ _ upd_same
                have e4 := c4 _ _ upd_same
                have e6 := c6 _ _ upd_same
                have e7 := c7 _ _ upd_same
                have e5 := q5.mono c40
                have e8 := q8.mono c41
                have items : ∀ (i : Nat) (v : V), [V.ref t1, .ref t2, .non, .ref l4, r5, .ref t6, .ref t7, r8, r9][i]? = some v → DArg H42 v (unitPoly p n) p false := by
                  intro i v hv
                  have hd : ∀ w ∈ [[], [0], g2 ++ [0], [1, p], unitPoly p n ++ [1], times (unitPoly p n) [0, 1] p], ∀ v, Tp H42 v w → DArg H42 v (unitPoly p n) p false := fun w hw v tv => .inl ⟨w, tv, (RR w hw).1, (RR w hw).2⟩
                  match i, hv with
                  | 0, hv => cases hv; exact hd [] (by simp) _ ⟨t1, rfl, e1⟩
                  | 1, hv => cases hv; exact hd [0] (by simp) _ ⟨t2, rfl, e2⟩
                  | 2, hv => cases hv; exact .inr ⟨rfl, .inl rfl⟩
                  | 3, hv => cases hv; exact .inr ⟨rfl, .inr (.inl ⟨l4, _, rfl, e4⟩)⟩
                  | 4, hv => cases hv; exact hd (g2 ++ [0]) (by simp) _ e5
                  | 5, hv => cases hv; exact hd [1, p] (by simp) _ ⟨t6, rfl, e6⟩
                  | 6, hv => cases hv; exact .inr ⟨rfl, .inr (.inr ⟨t7, rfl, e7⟩)⟩
                  | 7, hv => cases hv; exact hd (unitPoly p n ++ [1]) (by simp) _ e8
                  | 8, hv => cases hv; exact hd (times (unitPoly p n) [0, 1] p) (by simp) _ q9
                  | i + 9, hv => simp at hv
                have sL : Same H42 (upd H42 L (.lst [V.ref t1, .ref t2, .non, .ref l4, r5, .ref t6, .ref t7, r8, r9])) := (Same.refl H42).put hL
                refine ⟨L, rfl, ⟨_, SqL.of upd_same⟩, for_list (xs := [V.ref t1, .ref t2, .non, .ref l4, r5, .ref t6, .ref t7, r8, r9]) (fun i σ H' => σ[2]? = some (some (.int p)) ∧ σ[3]? = some (some (.int n)) ∧ σ.length = 19 ∧ Same (upd H42 L (.lst [V.ref t1, .ref t2, .non, .ref l4, r5, .ref t6, .ref t7, r8, r9])) H') ⟨rfl, rfl, rfl, Same.refl _⟩ ?_ ?_ ?_⟩
                · rintro i σ H' _ ⟨_, _, _, sm⟩
                  exact SqL.of (sm _ _ upd_same)
                · rintro i v σ H' hv ⟨i1, i2, i3, sm⟩
                  refine ⟨_, by rw [List.getElem?_set_ne (by decide)]; exact i1, _, by rw [List.getElem?_set_ne (by decide)]; exact i2, _, by rw [List.getElem?_set_self (by omega)], v, p, n, rfl, hp, hn1.1, by omega, (items i v hv).mono (sL.trans sm), fun H50 s50 => ⟨_, rfl, ite2 (fun c => by simp at c) (fun _ => ⟨by rw [List.getElem?_set_ne (by decide)]; exact i1, by rw [List.getElem?_set_ne (by decide)]; exact i2, by rw [List.length_set]; exact i3, sm.trans s50⟩)⟩⟩
                · rintro σ H' _
                  exact k H'
              | false =>
                refine iteF ?_
                refine ⟨_, rfl, .ref x, code, rfl, hcv26, hcok, ecyc, fun lq H27 s27 hlq => ⟨by show 2 ≤ sizeLine; decide, fun t9 ht9 => ?_⟩⟩
                have s28 := s27.put ht9 (o := .lst [.str "cyclic", .str "cyclic"])
                have hd9 : ∀ {a : Addr} {H : Hp}, H a = some (.lst [.str "cyclic", .str "cyclic"]) → Dp K H (.ref a) (.list [.str "cyclic", .str "cyclic"]) := fun e => .lst (SqL.of e) (.cons (.str _) (.cons (.str _) .nil))
                refine ⟨.list [.str "cyclic", .str "cyclic"], .list [.str "cyclic", .str "cyclic"], hd9 (by rw [upd_ne (ne_of_none hlq ht9)]; exact hlq), hd9 upd_same, by decide +kernel, by decide +kernel, _, rfl, ?_⟩
                rw [show PyData.eqv (.list [.str "cyclic", .str "cyclic"]) (.list [.str "cyclic", .str "cyclic"]) = true by decide +kernel]
                refine iteF ?_
                have L30 := L26.mono s28
                have hl30 := s28 _ _ hl26
                generalize upd H27 t9 (.lst [.str "cyclic", .str "cyclic"]) = H30 at L30 hl30
                have hpos : 0 < us.length := by
                  rw [hlen]
                  exact List.length_pos_of_mem (ring_split hring).2
                refine ⟨_, rfl, _, rfl, dd, us, rfl, .inl (SqL.of L30.d), l, x7, y7, ((us.length : Nat) : Int), rfl, hl30, hst24, by omega, by omega, fun v8 x8 y8 hv0 hv1 hst8 => ?_⟩
                have b31 : But l H30 (upd H30 l (stL x8 y8)) := But.upd hl30
                have L31 := L30.but b31
                generalize upd H30 l (stL x8 y8) = H31 at L31
                clear L30 hl30 b31
                obtain ⟨at', hat⟩ : ∃ at' : Nat, v8 = ((at' : Nat) : Int) := ⟨v8.toNat, by omega⟩
                subst hat
                have hat1 : at' < (divisors p n).length := by omega
                have hgj2 : (divisors p n)[at']? = some (divisors p n)[at'] := List.getElem?_eq_getElem hat1
                have hgm2 : (divisors p n)[at'] ∈ divisors p n := List.getElem_mem hat1
                have hcj2 : (duec p n)[at']? = some (wordsOf p n (genRows n (divisors p n)[at'])) := by unfold duec; rw [List.getElem?_map, hgj2]; rfl
                obtain ⟨vh, hvh, th⟩ := pget2 L31.dw hgj2
                obtain ⟨vc, hvc, tc⟩ := pget2 L31.cw hcj2
                generalize (divisors p n)[at'] = g2 at hgj2 hgm2 hcj2 th tc
                have hv2 := dv_ok hring g2 hgm2
                have hr2 := dv_rws hring hp hgm2
                refine ⟨_, rfl, _, rfl, _, rfl, _, rfl, dd, us, _, vh, rfl, rfl, SqL.of L31.d, atI_nat hvh, vh, p, n, true, rfl, hp, hn1.1, by omega, .inl ⟨g2, th, by have := hv2.le; omega, hv2.dv.symm⟩, (fun z => by cases z), fun _ => ⟨g2, th, hring.cyc hgm2, fun v9 H32 s32 hcv9 => ?_⟩⟩
                refine ⟨_, rfl, _, rfl, _, rfl, _, rfl, D, cs, _, vc, rfl, rfl, SqL.of (s32 _ _ L31.c), atI_nat hvc, fun xb dxb hxb hdxb hneb => ?_⟩
                obtain ⟨ac, uc, rfl, hacl, hac, huc⟩ := id tc
                have s33 : Same H32 (upd (upd H32 dxb (.own xb)) xb (.ins C dxb [])) := ((Same.refl H32).put hdxb).put (by rw [upd_ne hneb.symm]; exact hxb)
                have hrg : Rws p n (wordsOf p n (genRows n g2)) := fun w hw => ((wordsOf_mem hp hr2 w).mp hw).wn hp hr2
                refine ⟨xb, dxb, .ref ac, wordsOf p n (genRows n g2), n, p, rfl, upd_same, ⟨ac, uc, rfl, .inl (s33 _ _ (s32 _ _ hac)), Tps.mono (s32.trans s33) huc⟩, hring.code (wordsOf_len hring hr2) hrg, fun H34 k34 hcvb => ⟨rfl, ?_⟩⟩
                have s34 : Same H32 H34 := fun b o e => k34 b o (fun z => by rw [z, hxb] at e; cases e) (s33 _ _ e)
                have ecode : mkCode p n (wordsOf p n (genRows n g2)) = cyclicCode p n g2 := mkCode_eq hp hrg hr2 (words_span hp hr2)
                rw [ecode] at hcvb
                have hcva := hcv9.mono s34
                obtain ⟨aa, da, ta3, qa, ua, ea, haa, _⟩ := id hcva
                obtain ⟨ab, db, tb3, qb, ub, eb, hab, _⟩ := id hcvb
                subst ea
                cases eb
                refine ⟨⟨aa, xb, da, db, _, _, rfl, rfl, haa, hab, cyclicCode p n g2, hcva, hcvb, (cdOk_of (hring.cyc hgm2).pre).most⟩, fun H35 s35 => ⟨_, _, rfl, rfl, _, rfl, ?_⟩⟩
                rw [decide_eq_true rfl]
                refine iteF ?_
                have s36 : Same H31 H35 := (s32.trans s34).trans s35
                have L36 := L31.mono s36
                have th36 := th.mono s36
                clear L31 th
                have RR := refuse_facts hring hgm2
                -- the nine arguments
                refine ⟨by show 0 ≤ sizeLine; decide, fun t1 h1 => ?_⟩
                have z1 := (Same.refl H35).put h1 (o := .tup [])
                refine ⟨by show 1 ≤ sizeLine; decide, fun t2 h2 => ?_⟩
                have z2 := z1.put h2 (o := .tup [.int 0])
                have w1 := upd_ne (H := upd H35 t1 (.tup [])) (o := .tup [.int 0]) (ne_of_none upd_same h2)
                refine ⟨_, rfl, _, rfl, dd, us, _, vh, rfl, rfl, SqL.of (z2 _ _ L36.d), atI_nat hvh, ?_⟩
                obtain ⟨tg, rfl, htg⟩ := id th36
                refine ⟨tg, _, rfl, .inr (SqT.of (z2 _ _ htg)), fun l4 h4 => ?_⟩
                have z4 := z2.put h4 (o := .lst (g2.map V.int))
                refine ⟨_, rfl, _, rfl, dd, us, _, .ref tg, rfl, rfl, SqL.of (z4 _ _ L36.d), atI_nat hvh, by show 1 ≤ sizeLine; decide, fun t5 h5 => ?_⟩
                have z5 := z4.put h5 (o := .tup [.int 0])
                refine cat_tp (a := g2) (b := [0]) ⟨tg, rfl, z5 _ _ htg⟩ ⟨t5, rfl, upd_same⟩ (by have := hv2.le; simp; omega) fun r5 H40 z6 q5 => ?_
                have z7 := z5.trans z6
                refine ⟨_, rfl, by show 2 ≤ sizeLine; decide, fun t6 h6 => ?_⟩
                have z8 := z7.put h6 (o := .tup [.int 1, .int p])
                refine ⟨by show 1 ≤ sizeLine; decide, fun t7 h7 => ?_⟩
                have z9 := z8.put h7 (o := .tup [.bl true])
                refine ⟨_, rfl, by show 1 ≤ sizeLine; decide, fun t8 h8 => ?_⟩
                have z10 := z9.put h8 (o := .tup [.int 1])
                refine cat_tp (a := unitPoly p n) (b := [1]) (L36.u.mono z10) ⟨t8, rfl, upd_same⟩ (by rw [unitPoly_len p hn1.1]; simp; omega) fun r8 H41 z11 q8 => ?_
                have z12 := z10.trans z11
                refine ⟨_, rfl, by show 2 ≤ sizeLine; decide, fun t9 h9 => ?_⟩
                have z13 := z12.put h9 (o := .tup [.int 0, .int 1])
                have z1213 : Same H41 (upd H41 t9 (.tup [.int 0, .int 1])) := (Same.refl H41).put h9
                refine ⟨_, rfl, ru, .ref t9, unitPoly p n, [0, 1], p, rfl, L36.u.mono z13, ⟨t9, rfl, upd_same⟩, hp, unit_wd hp n, by rw [unitPoly_len p hn1.1]; omega, by simp, fun r9 H42 z14 q9 => ⟨by show 9 ≤ sizeLine; decide, fun L hL => ?_⟩⟩
                have c41 := z1213.trans z14
                have c8 := z11.trans c41
                have c7 := ((Same.refl _).put h8 (o := .tup [.int 1])).trans c8
                have c6 := ((Same.refl _).put h7 (o := .tup [.bl true])).trans c7
                have c40 := ((Same.refl _).put h6 (o := .tup [.int 1, .int p])).trans c6
                have cd5 := z6.trans c40
                have c4 := ((Same.refl _).put h5 (o := .tup [.int 0])).trans cd5
                have c2 := ((Same.refl _).put h4 (o := .lst (g2.map V.int))).trans c4
                have c1 := ((Same.refl _).put h2 (o := .tup [.int 0])).trans c2
                have e1 := c1 _ _ upd_same
                have e2 := c2 _ _ upd_same
                have e4 := c4 _ _ upd_same
                have e6 := c6 _ _ upd_same
                have e7 := c7 _ _ upd_same
                have e5 := q5.mono c40
                have e8 := q8.mono c41
                have items : ∀ (i : Nat) (v : V), [V.ref t1, .ref t2, .non, .ref l4, r5, .ref t6, .ref t7, r8, r9][i]? = some v → DArg H42 v (unitPoly p n) p false := by
                  intro i v hv
                  have hd : ∀ w ∈ [[], [0], g2 ++ [0], [1, p], unitPoly p n ++ [1], times (unitPoly p n) [0, 1] p], ∀ v, Tp H42 v w → DArg H42 v (unitPoly p n) p false := fun w hw v tv => .inl ⟨w, tv, (RR w hw).1, (RR w hw).2⟩
                  match i, hv with
                  | 0, hv => cases hv; exact hd [] (by simp) _ ⟨t1, rfl, e1⟩
                  | 1, hv => cases hv; exact hd [0] (by simp) _ ⟨t2, rfl, e2⟩
                  | 2, hv => cases hv; exact .inr ⟨rfl, .inl rfl⟩
                  | 3, hv => cases hv; exact .inr ⟨rfl, .inr (.inl ⟨l4, _, rfl, e4⟩)⟩
                  | 4, hv => cases hv; exact hd (g2 ++ [0]) (by simp) _ e5
                  | 5, hv => cases hv; exact hd [1, p] (by simp) _ ⟨t6, rfl, e6⟩
                  | 6, hv => cases hv; exact .inr ⟨rfl, .inr (.inr ⟨t7, rfl, e7⟩)⟩
                  | 7, hv => cases hv; exact hd (unitPoly p n ++ [1]) (by simp) _ e8
                  | 8, hv => cases hv; exact hd (times (unitPoly p n) [0, 1] p) (by simp) _ q9
                  | i + 9, hv => simp at hv
                have sL : Same H42 (upd H42 L (.lst [V.ref t1, .ref t2, .non, .ref l4, r5, .ref t6, .ref t7, r8, r9])) := (Same.refl H42).put hL
                refine ⟨L, rfl, ⟨_, SqL.of upd_same⟩, for_list (xs := [V.ref t1, .ref t2, .non, .ref l4, r5, .ref t6, .ref t7, r8, r9]) (fun i σ H' => σ[2]? = some (some (.int p)) ∧ σ[3]? = some (some (.int n)) ∧ σ.length = 19 ∧ Same (upd H42 L (.lst [V.ref t1, .ref t2, .non, .ref l4, r5, .ref t6, .ref t7, r8, r9])) H') ⟨rfl, rfl, rfl, Same.refl _⟩ ?_ ?_ ?_⟩
                · rintro i σ H' _ ⟨_, _, _, sm⟩
                  exact SqL.of (sm _ _ upd_same)
                · rintro i v σ H' hv ⟨i1, i2, i3, sm⟩
                  refine ⟨_, by rw [List.getElem?_set_ne (by decide)]; exact i1, _, by rw [List.getElem?_set_ne (by decide)]; exact i2, _, by rw [List.getElem?_set_self (by omega)], v, p, n, rfl, hp, hn1.1, by omega, (items i v hv).mono (sL.trans sm), fun H50 s50 => ⟨_, rfl, ite2 (fun c => by simp at c) (fun _ => ⟨by rw [List.getElem?_set_ne (by decide)]; exact i1, by rw [List.getElem?_set_ne (by decide)]; exact i2, by rw [List.length_set]; exact i3, sm.trans s50⟩)⟩⟩
                · rintro σ H' _
                  exact k H'
end
end Wk
set_option maxHeartbeats 0
namespace Wk
open PySem PySem.Spec PyProof.Rows L2
open C8 (Cal Met Mak)

/-! ### what the head tells of the defs -/
abbrev dOf (x : Str) (st : Stmt) : He.DefD := ⟨(x, none), x, x, defArgs st, defBody st, defScope st, [], []⟩
abbrev mOf (x m q : Str) (st : Stmt) : He.DefD := ⟨(x, some m), m, q, defArgs st, defBody st, defScope st, [], []⟩
def fnA : List He.DefD := [mOf "Code" "__eq__" "Code.__eq__" s_Code___eq__, dOf "is_integer" s_is_integer, dOf "check_prime" s_check_prime, dOf "is_word" s_is_word, dOf "power" s_power, dOf "add" s_add, dOf "scaled" s_scaled, dOf "cleared" s_cleared, dOf "inverse" s_inverse, dOf "reduced" s_reduced, mOf "Code" "__init__" "Code.__init__" s_Code___init__, mOf "Code" "words" "Code.words" s_Code_words, dOf "_law_all" s__law_all, dOf "_law_monics" s__law_monics, dOf "_law_scaled" s__law_scaled, dOf "_law_sum" s__law_sum, dOf "_law_span" s__law_span, dOf "_law_multiples_of" s__law_multiples_of, dOf "_law_take" s__law_take, dOf "_law_prime" s__law_prime, dOf "trimmed" s_trimmed, dOf "divided" s_divided, dOf "made_monic" s_made_monic, dOf "common_divisor" s_common_divisor, mOf "Code" "holds" "Code.holds" s_Code_holds]
def fnB : List He.DefD := [dOf "shifted" s_shifted, dOf "is_cyclic" s_is_cyclic, dOf "check_length" s_check_length, dOf "unit_polynomial" s_unit_polynomial, dOf "generator_polynomial" s_generator_polynomial, dOf "check_polynomial" s_check_polynomial, dOf "_law_reasons" s__law_reasons, dOf "is_divisor" s_is_divisor, dOf "cyclic_code" s_cyclic_code, dOf "_law_refuses" s__law_refuses, dOf "_law_trimmed" s__law_trimmed, dOf "_law_rest" s__law_rest, dOf "_law_word" s__law_word, dOf "_law_rows" s__law_rows, dOf "_law_shift" s__law_shift, dOf "_law_state" s__law_state, dOf "_law_times" s__law_times, dOf "_law_unit" s__law_unit, dOf "monic_rows" s_monic_rows, dOf "first_factor" s_first_factor, dOf "factors_of_unit" s_factors_of_unit, dOf "times" s_times, dOf "divisors_of_unit" s_divisors_of_unit, dOf "all_cyclic" s_all_cyclic, dOf "law" s_law]
def fnL : List He.DefD := fnA ++ fnB
def faA : List He.Fa := [.glo "is_integer", .glo "check_prime", .glo "is_word", .glo "power", .glo "add", .glo "scaled", .glo "cleared", .glo "inverse", .glo "reduced", .glo "_law_all", .glo "_law_monics", .glo "_law_scaled", .glo "_law_sum", .glo "_law_span", .glo "_law_multiples_of", .glo "_law_take", .glo "_law_prime", .glo "trimmed", .glo "divided", .glo "made_monic", .glo "common_divisor", .glo "shifted", .glo "is_cyclic", .glo "check_length", .glo "unit_polynomial", .glo "generator_polynomial", .glo "check_polynomial", .glo "_law_reasons", .glo "is_divisor", .glo "cyclic_code", .glo "_law_refuses", .glo "_law_trimmed", .glo "_law_rest", .glo "_law_word", .glo "_law_rows", .glo "_law_shift", .glo "_law_state", .glo "_law_times", .glo "_law_unit", .glo "monic_rows", .glo "first_factor", .glo "factors_of_unit", .glo "times", .glo "divisors_of_unit", .glo "all_cyclic", .glo "law"]
def faB : List He.Fa := [.free "len", .free "tuple", .free "range", .free "list", .free "int", .free "bool", .free "abs", .free "max", .free "sorted", .free "isinstance", .free "super", .int "MOST_LENGTH" 12, .int "MOST_WORDS" 4096, .glo "PRIMES", .glo "Code", .glo "Malformed", .glo "Refused", .cls "Code", .noat "Code" "p", .noat "Code" "n", .noat "Code" "rows", .noat "Code" "k", .noat "Code" "_pivots", .mkr "Code", .meth "Code" "holds", .meth "Code" "words", .meth "Code" "__eq__", .exc "Malformed", .exm "Malformed" "Malformed" true, .exm "Refused" "Refused" true]
def faL : List He.Fa := faA ++ faB
abbrev PP : Program := PySem.Challenge.pw_weightkeepers_k35_whole_cyclic_codes
abbrev cRef (K : PySem.W.Frag) : Addr := He.ga K "Refused"
abbrev iRef (K : PySem.W.Frag) : Addr := He.ma K (cRef K) "__init__"
abbrev cCode (K : PySem.W.Frag) : Addr := He.ga K "Code"
/-- the def of Refused's __init__ by its row: name, arguments, body, scope, the names of its cells -/
abbrev RefW : Type := Option (Str × Str × Arguments × FuncBody × Scope × Addr × List Str × Addr)
def refObs (K : PySem.W.Frag) : RefW := match K.lookup (iRef K) with
  | some ⟨_, _, .func fd, _⟩ => some (fd.name, fd.qualname, fd.params, fd.body, fd.scope, fd.globals, fd.closure.map (·.1), fd.builtins)
  | _ => none
def refVal : RefW := some ("__init__", "Refused.__init__", defArgs s_Refused_init, .stmts (defBody s_Refused_init), defScope s_Refused_init, mainGlobals, ["__class__"], builtinsNs)
/-- its cell is the class's, its code is the file's, it has no defaults -/
def refB (P : Program) (K : PySem.W.Frag) : Bool := match K.lookup (iRef K) with
  | some ⟨_, _, .func fd, _⟩ => (match fd.closure, fd.code, fd.defaults with
    | [(_, cc)], .ref cda, .none => PySem.W.codeIn K (.ref cda) "Refused.__init__" &&
      ((match K.lookup cc with
        | some ⟨_, _, .cell (some (.ref r)), _⟩ => decide (r = cRef K)
        | _ => false) &&
      (match K.lookup cda with
        | some ⟨_, _, .fields vs, _⟩ => (match (vs[2]? : Option Value) with
          | some (Value.str file _) => (P.main.file : Str) == file
          | _ => false)
        | _ => false))
    | _, _, _ => false)
  | _ => false
/-- an own exception's class as it is laid -/
def clsB (K : PySem.W.Frag) (C : Addr) : Bool := match K.lookup C with
  | some ⟨.type "type", _, .cls cd, sl⟩ => (match cd.mro, sl.toList with
    | .ref C' :: bm, [_, _, _, _, some (.builtin n), _] => C' == C && (n == "ValueError.__new__" && (!cd.hasDel && (cd.hasDict && PySem.HandSPX.refsVE bm)))
    | _, _ => false)
  | _ => false
def exB (P : Program) (K : PySem.W.Frag) : Bool :=
  decide (PySem.W.findIn K (.ref (cCode K)) "__class__" = some (some (.builtin "object.__class__"))) &&
  (decide (PySem.W.specialIn K (.builtin "object.__class__") "__get__" = some (some (.builtin "getset_descriptor.__get__"))) &&
  (decide (PySem.W.takesIn K (.builtin "object.__class__") = some true) &&
  (decide (PySem.W.mroIn K (cCode K) (.type "object") = some true) &&
  (He.tupB K "PRIMES" [.int 2, .int 3, .int 5, .int 7] &&
  (clsB K (cRef K) &&
  (decide (PySem.W.findIn K (.ref (cRef K)) "__setattr__" = some (some (.builtin "object.__setattr__"))) &&
  (decide (PySem.W.subIn K (.ref (cRef K)) (.type "BaseException") = some true) &&
  (decide (PySem.W.typeIn K (.ref (cRef K)) = some (.type "type")) &&
  (PySem.W.keepIn K (.ref (cRef K)) &&
  (xfB K (cRef K) &&
  (decide (PySem.W.findIn K (.ref (cRef K)) "__init__" = some (some (.ref (iRef K)))) &&
  (decide (PySem.W.typeIn K (.ref (iRef K)) = some (.type "function")) &&
  (decide (PySem.W.findIn K (.ref (cRef K)) "reason" = some none) &&
  (refB P K &&
  (decide ((P.main.scope.names.lookup ("super" : Str)).isSome = false) &&
  (decide (PySem.W.nsIn K cStatics "thirdparty.any" = some none) &&
  (decide (PySem.W.ks_superIn K (cRef K) (cRef K) "__init__" = some (some (.builtin "ValueError.__init__"))) &&
  (decide (PySem.W.subIn K (.ref (cRef K)) (.type "ValueError") = some true) &&
  decide (PySem.W.mroIn K (cRef K) (.ref (cRef K)) = some true)))))))))))))))))))
section
variable {P : Program} {K : PySem.W.Frag} {mg : Str → Option Value}
theorem exB_ok (h : exB P K = true) : CodeTy K (cCode K) ∧ (∀ H, SqT K H (He.ga K "PRIMES") [.int 2, .int 3, .int 5, .int 7]) ∧ clsB K (cRef K) = true ∧
    PySem.W.findIn K (.ref (cRef K)) "__setattr__" = some (some (.builtin "object.__setattr__")) ∧ PySem.W.subIn K (.ref (cRef K)) (.type "BaseException") = some true ∧
    PySem.W.typeIn K (.ref (cRef K)) = some (.type "type") ∧ PySem.W.keepIn K (.ref (cRef K)) = true ∧ XfC K (cRef K) ∧ PySem.W.findIn K (.ref (cRef K)) "__init__" = some (some (.ref (iRef K))) ∧
    PySem.W.typeIn K (.ref (iRef K)) = some (.type "function") ∧ PySem.W.findIn K (.ref (cRef K)) "reason" = some none ∧ refB P K = true ∧ (P.main.scope.names.lookup ("super" : Str)).isSome = false ∧
    PySem.W.nsIn K cStatics "thirdparty.any" = some none ∧ PySem.W.ks_superIn K (cRef K) (cRef K) "__init__" = some (some (.builtin "ValueError.__init__")) ∧ PySem.W.subIn K (.ref (cRef K)) (.type "ValueError") = some true ∧
    PySem.W.mroIn K (cRef K) (.ref (cRef K)) = some true := by
  unfold exB at h
  obtain ⟨h1, h⟩ := He.ba h
  obtain ⟨h2, h⟩ := He.ba h
  obtain ⟨h3, h⟩ := He.ba h
  obtain ⟨h4, h⟩ := He.ba h
  obtain ⟨h5, h⟩ := He.ba h
  obtain ⟨h6, h⟩ := He.ba h
  obtain ⟨h7, h⟩ := He.ba h
  obtain ⟨h8, h⟩ := He.ba h
  obtain ⟨h9, h⟩ := He.ba h
  obtain ⟨h10, h⟩ := He.ba h
  obtain ⟨h11, h⟩ := He.ba h
  obtain ⟨h12, h⟩ := He.ba h
  obtain ⟨h13, h⟩ := He.ba h
  obtain ⟨h14, h⟩ := He.ba h
  obtain ⟨h15, h⟩ := He.ba h
  obtain ⟨h16, h⟩ := He.ba h
  obtain ⟨h17, h⟩ := He.ba h
  obtain ⟨h18, h⟩ := He.ba h
  obtain ⟨h19, h20⟩ := He.ba h
  exact ⟨⟨of_decide_eq_true h1, of_decide_eq_true h2, of_decide_eq_true h3, of_decide_eq_true h4⟩, fun H => He.tupB_ok h5 H, h6, of_decide_eq_true h7, of_decide_eq_true h8, of_decide_eq_true h9, h10, xfB_ok h11, of_decide_eq_true h12,
    of_decide_eq_true h13, of_decide_eq_true h14, h15, of_decide_eq_true h16, of_decide_eq_true h17, of_decide_eq_true h18, of_decide_eq_true h19, of_decide_eq_true h20⟩
theorem codeTy_of (h : exB P K = true) : CodeTy K (cCode K) := (exB_ok h).1
theorem primes_of (h : exB P K = true) (H : Hp) : SqT K H (He.ga K "PRIMES") [.int 2, .int 3, .int 5, .int 7] := (exB_ok h).2.1 H
theorem clsB_ok {C : Addr} (h : clsB K C = true) : ∃ nm q N bs bm sn sub ab col dd k0 k1 k2 k3 k5, K.lookup C = some (excClassObj nm q C N bs bm true sn sub ab col dd k0 k1 k2 k3 k5 "ValueError.__new__") ∧ PySem.HandSPX.refsVE bm = true := by
  unfold clsB at h
  split at h
  · rename_i dd cd sl ho
    split at h
    · rename_i C' bm k0 k1 k2 k3 n k5 hm hs
      simp only [Bool.and_eq_true, beq_iff_eq, Bool.not_eq_true'] at h
      obtain ⟨rfl, rfl, hdel, hdict, hv⟩ := h
      obtain ⟨nm, bs, mro, ns, qn, hd, sn, sub, ab, col, del⟩ := cd
      dsimp only at hm hdel hdict
      subst hm hdel hdict
      have hsl : sl = #[k0, k1, k2, k3, some (.builtin "ValueError.__new__"), k5] := by
        obtain ⟨l⟩ := sl
        simp only at hs
        rw [hs]
      subst hsl
      exact ⟨nm, qn, ns, bs, bm, sn, sub, ab, col, dd, k0, k1, k2, k3, k5, ho, hv⟩
    · cases h
  · cases h
theorem refTxt_of (gR : mg "Refused" = some (.ref (cRef K))) (noS : mg "super" = none) (te : PySem.W.exmOne K (.ref (cRef K)) (.ref (cRef K)) = some true) (h : exB P K = true) (e : refObs K = refVal) :
    ∃ fI cc cda, RefTxt P K mg (cRef K) fI cc cda := by
  obtain ⟨_, _, hcl, sa, ex, ty, kC, xf, iC, tI, noR, hb, top, op, sup, subV, subR⟩ := exB_ok h
  unfold refObs at e
  unfold refB at hb
  split at e
  · rename_i oc od fd osl q
    rw [q] at hb
    obtain ⟨n1, n2, n3, n4, n5, n6, n7, n8, n9, n10, n11, n12, n13, n14, n15⟩ := fd
    have e2 : (some (n1, n2, n3, n4, n5, n6, n7.map (·.1), n15) : RefW) = (some ("__init__", "Refused.__init__", defArgs s_Refused_init, .stmts (defBody s_Refused_init), defScope s_Refused_init, mainGlobals, ["__class__"], builtinsNs) : RefW) := e
    simp only [Option.some.injEq, Prod.mk.injEq] at e2
    obtain ⟨h1, h2, h3, h4, h5, h6, h7, h8⟩ := e2
    subst h1 h2 h3 h4 h5 h6 h8
    dsimp only at hb
    split at hb
    · rename_i nn cc cda
      have hnn : nn = ("__class__" : Str) := by simpa using h7
      subst hnn
      obtain ⟨b1, b2⟩ := He.ba hb
      obtain ⟨b2, b3⟩ := He.ba b2
      refine ⟨iRef K, cc, cda, ⟨⟨clsB_ok hcl, sa, ex, ty, kC⟩, xf, gR, iC, tI, noR, te, ⟨_, _, _, _, _, _, _, _, q⟩, b1, ?_, ?_, noS, top, op, sup, subV, subR⟩⟩
      · split at b3
        · rename_i ccl cdd vs ccs hq
          split at b3
          · rename_i file tf hv
            exact ⟨_, _, _, _, _, _, hq, hv, b3⟩
          · cases b3
        · cases b3
      · split at b2
        · rename_i cl cld r csl hq
          obtain rfl : r = cRef K := of_decide_eq_true b2
          exact ⟨_, _, _, hq⟩
        · cases b2
    · cases hb
  · cases e
theorem txt_mk (h1 : mg "len" = none) (h2 : mg "tuple" = none) (h3 : mg "range" = none) (h4 : mg "list" = none) (h5 : mg "int" = none) (h6 : mg "bool" = none) (h7 : mg "abs" = none) (h8 : mg "max" = none) (h9 : mg "sorted" = none) (h10 : mg "isinstance" = none)
    (i1 : ∃ t, mg "MOST_LENGTH" = some (.int 12 t)) (i2 : ∃ t, mg "MOST_WORDS" = some (.int 4096 t)) : Txt K mg := by
  obtain ⟨t1, i1⟩ := i1
  obtain ⟨t2, i2⟩ := i2
  exact ⟨h1, h2, h3, h4, h5, h6, h7, h8, h9, h10, h2, ⟨_, i1, t1, rfl⟩, ⟨_, i2, t2, rfl⟩⟩
theorem fun_ofD {x qual : Str} {st : Stmt} {f : Addr} {fd : FuncData} (F : FunD K x qual (defArgs st) (defBody st) (defScope st) [] [] f fd) : Fun K x qual st f fd := by
  obtain ⟨⟨oc, od, dV, kV, doc, pm, an, cdv, ct, osl, rfl, lk, hcd, hD, _⟩, kp⟩ := F
  rcases hD with ⟨_, rfl⟩ | ⟨e, _⟩
  · exact ⟨⟨oc, od, kV, doc, pm, an, cdv, ct, osl, rfl, lk, hcd⟩, kp⟩
  · exact absurd rfl e
end
/-! ### the Hook -/
def frQ (n : Nat) (g : Addr → Option Obj) : PySem.W.Frag := He.frG g (He.asD g n ++ [cStatics])
abbrev AlQ : Type := Bool × He.AlD × RefW
def obQ (K : PySem.W.Frag) : AlQ := (exB PP K, He.obsD faL fnL K, refObs K)
def valQ : AlQ := (true, He.valD fnL, refVal)
def hkQ (n : Nat) : PySem.W.Hook where
  α := AlQ
  obs := fun s => obQ (frQ n s.heap.get?)
  val := fun _ => valQ
  says := fun _ h => ∃ K : PySem.W.Frag, K.In h ∧ obQ K = valQ
  of := fun _ _ e => ⟨_, He.frG_in, e⟩
  keeps := fun _ _ _ ⟨K, hK, c⟩ k => ⟨K, PySem.W.Frag.In.keeps hK k, c⟩
theorem obQ_ok {K : PySem.W.Frag} (e : obQ K = valQ) : exB PP K = true ∧ He.SaysD faL fnL K ∧ refObs K = refVal :=
  ⟨congrArg (fun z : AlQ => z.1) e, congrArg (fun z : AlQ => z.2.1) e, congrArg (fun z : AlQ => z.2.2) e⟩

end Wk
namespace Wk
open PySem PySem.Spec PyProof.Rows L2
open C8 (Cal Met Mak)

theorem facts {w : World} {K : PySem.W.Frag} {h : Heap} {mg : Str → Option Value} {f : Addr} (X : K.In h) (G : h.Ns mainGlobals mg) (hfa : mg ("law" : Str) = some (.ref f)) (c : He.SaysD faL fnL K) (cx : exB PP K = true) (ct : refObs K = refVal) :
    ∃ fd : FuncData, (∀ (s : Shared) (v : Value), BindsTo s fd ⟨[v], []⟩ [("_law_script", v)]) ∧ ∀ base : Heap, K.In base → base.Ns mainGlobals mg → FnOk PP w K mg base CX0 8 f fd ["_law_script"] (sp_law K) := by
  have T : Txt K mg := txt_mk (He.free_ok X G (c.fact 46 (f := .free "len") rfl)) (He.free_ok X G (c.fact 47 (f := .free "tuple") rfl)) (He.free_ok X G (c.fact 48 (f := .free "range") rfl)) (He.free_ok X G (c.fact 49 (f := .free "list") rfl)) (He.free_ok X G (c.fact 50 (f := .free "int") rfl)) (He.free_ok X G (c.fact 51 (f := .free "bool") rfl)) (He.free_ok X G (c.fact 52 (f := .free "abs") rfl)) (He.free_ok X G (c.fact 53 (f := .free "max") rfl)) (He.free_ok X G (c.fact 54 (f := .free "sorted") rfl)) (He.free_ok X G (c.fact 55 (f := .free "isinstance") rfl)) (He.int_ok X G (c.fact 57 (f := .int "MOST_LENGTH" 12) rfl)) (He.int_ok X G (c.fact 58 (f := .int "MOST_WORDS" 4096) rfl))
  have hCl : Cls K (He.ga K "Code") := He.cls_ok (c.fact 63 (f := .cls "Code") rfl)
  have hC : CodeC K (He.ga K "Code") := ⟨hCl, He.noat_ok (c.fact 64 (f := .noat "Code" "p") rfl), He.noat_ok (c.fact 65 (f := .noat "Code" "n") rfl), He.noat_ok (c.fact 66 (f := .noat "Code" "rows") rfl), He.noat_ok (c.fact 67 (f := .noat "Code" "k") rfl), He.noat_ok (c.fact 68 (f := .noat "Code" "_pivots") rfl)⟩
  have gC : mg "Code" = some (.ref (He.ga K "Code")) := He.glo_ok X G (c.fact 60 (f := .glo "Code") rfl)
  have hMk : Mk K (He.ga K "Code") (He.ma K (He.ga K "Code") "__init__") := He.mkr_ok (c.fact 69 (f := .mkr "Code") rfl)
  have hm_holds : Meth K (He.ga K "Code") "holds" (He.ma K (He.ga K "Code") "holds") := He.meth_ok (c.fact 70 (f := .meth "Code" "holds") rfl)
  have hm_words : Meth K (He.ga K "Code") "words" (He.ma K (He.ga K "Code") "words") := He.meth_ok (c.fact 71 (f := .meth "Code" "words") rfl)
  have hm___eq__ : Meth K (He.ga K "Code") "__eq__" (He.ma K (He.ga K "Code") "__eq__") := He.meth_ok (c.fact 72 (f := .meth "Code" "__eq__") rfl)
  have TC : CodeTy K (He.ga K "Code") := codeTy_of cx
  obtain ⟨q1, q2, q3, q4⟩ := He.exc_ok (c.fact 73 (f := .exc "Malformed") rfl)
  have TM : MalTxt K mg (He.ga K "Malformed") := ⟨He.glo_ok X G (c.fact 61 (f := .glo "Malformed") rfl), q1, q2, q3, q4, He.exm_ok (c.fact 74 (f := .exm "Malformed" "Malformed" true) rfl)⟩
  obtain ⟨fI, cc, cda, TR⟩ := refTxt_of (mg := mg) (He.glo_ok X G (c.fact 62 (f := .glo "Refused") rfl)) (He.free_ok X G (c.fact 56 (f := .free "super") rfl)) (He.exm_ok (c.fact 75 (f := .exm "Refused" "Refused" true) rfl)) cx ct
  have gP : mg "PRIMES" = some (.ref (He.ga K "PRIMES")) := He.glo_ok X G (c.fact 59 (f := .glo "PRIMES") rfl)
  have hP : ∀ H, SqT K H (He.ga K "PRIMES") [.int 2, .int 3, .int 5, .int 7] := fun H => primes_of cx H
  obtain ⟨fd_Code___eq__, E_Code___eq__⟩ := c.def_ 0 (d := mOf "Code" "__eq__" "Code.__eq__" s_Code___eq__) rfl
  have F_Code___eq__ : Fun K "__eq__" "Code.__eq__" s_Code___eq__ (He.ma K (He.ga K "Code") "__eq__") fd_Code___eq__ := fun_ofD E_Code___eq__
  have b_Code___eq__ : Binds K fd_Code___eq__ ["self", "other"] [] := F_Code___eq__.binds fun _ _ _ _ _ _ us hl => match us, hl with | [_, _], _ => rfl
  obtain ⟨fd_is_integer, E_is_integer⟩ := c.def_ 1 (d := dOf "is_integer" s_is_integer) rfl
  have F_is_integer : Fun K "is_integer" "is_integer" s_is_integer (He.ga K "is_integer") fd_is_integer := fun_ofD E_is_integer
  have b_is_integer : Binds K fd_is_integer ["value"] [] := F_is_integer.binds fun _ _ _ _ _ _ us hl => match us, hl with | [_], _ => rfl
  obtain ⟨fd_check_prime, E_check_prime⟩ := c.def_ 2 (d := dOf "check_prime" s_check_prime) rfl
  have F_check_prime : Fun K "check_prime" "check_prime" s_check_prime (He.ga K "check_prime") fd_check_prime := fun_ofD E_check_prime
  have b_check_prime : Binds K fd_check_prime ["p"] [] := F_check_prime.binds fun _ _ _ _ _ _ us hl => match us, hl with | [_], _ => rfl
  obtain ⟨fd_is_word, E_is_word⟩ := c.def_ 3 (d := dOf "is_word" s_is_word) rfl
  have F_is_word : Fun K "is_word" "is_word" s_is_word (He.ga K "is_word") fd_is_word := fun_ofD E_is_word
  have b_is_word : Binds K fd_is_word ["value", "p", "n"] [] := F_is_word.binds fun _ _ _ _ _ _ us hl => match us, hl with | [_, _, _], _ => rfl
  obtain ⟨fd_power, E_power⟩ := c.def_ 4 (d := dOf "power" s_power) rfl
  have F_power : Fun K "power" "power" s_power (He.ga K "power") fd_power := fun_ofD E_power
  have b_power : Binds K fd_power ["a", "k"] [] := F_power.binds fun _ _ _ _ _ _ us hl => match us, hl with | [_, _], _ => rfl
  obtain ⟨fd_add, E_add⟩ := c.def_ 5 (d := dOf "add" s_add) rfl
  have F_add : Fun K "add" "add" s_add (He.ga K "add") fd_add := fun_ofD E_add
  have b_add : Binds K fd_add ["v", "w", "p"] [] := F_add.binds fun _ _ _ _ _ _ us hl => match us, hl with | [_, _, _], _ => rfl
  obtain ⟨fd_scaled, E_scaled⟩ := c.def_ 6 (d := dOf "scaled" s_scaled) rfl
  have F_scaled : Fun K "scaled" "scaled" s_scaled (He.ga K "scaled") fd_scaled := fun_ofD E_scaled
  have b_scaled : Binds K fd_scaled ["v", "a", "p"] [] := F_scaled.binds fun _ _ _ _ _ _ us hl => match us, hl with | [_, _, _], _ => rfl
  obtain ⟨fd_cleared, E_cleared⟩ := c.def_ 7 (d := dOf "cleared" s_cleared) rfl
  have F_cleared : Fun K "cleared" "cleared" s_cleared (He.ga K "cleared") fd_cleared := fun_ofD E_cleared
  have b_cleared : Binds K fd_cleared ["row", "head", "at", "p"] [] := F_cleared.binds fun _ _ _ _ _ _ us hl => match us, hl with | [_, _, _, _], _ => rfl
  obtain ⟨fd_inverse, E_inverse⟩ := c.def_ 8 (d := dOf "inverse" s_inverse) rfl
  have F_inverse : Fun K "inverse" "inverse" s_inverse (He.ga K "inverse") fd_inverse := fun_ofD E_inverse
  have b_inverse : Binds K fd_inverse ["a", "p"] [] := F_inverse.binds fun _ _ _ _ _ _ us hl => match us, hl with | [_, _], _ => rfl
  obtain ⟨fd_reduced, E_reduced⟩ := c.def_ 9 (d := dOf "reduced" s_reduced) rfl
  have F_reduced : Fun K "reduced" "reduced" s_reduced (He.ga K "reduced") fd_reduced := fun_ofD E_reduced
  have b_reduced : Binds K fd_reduced ["rows", "width", "p"] [] := F_reduced.binds fun _ _ _ _ _ _ us hl => match us, hl with | [_, _, _], _ => rfl
  obtain ⟨fd_Code___init__, E_Code___init__⟩ := c.def_ 10 (d := mOf "Code" "__init__" "Code.__init__" s_Code___init__) rfl
  have F_Code___init__ : Fun K "__init__" "Code.__init__" s_Code___init__ (He.ma K (He.ga K "Code") "__init__") fd_Code___init__ := fun_ofD E_Code___init__
  have b_Code___init__ : Binds K fd_Code___init__ ["self", "p", "n", "rows"] [] := F_Code___init__.binds fun _ _ _ _ _ _ us hl => match us, hl with | [_, _, _, _], _ => rfl
  obtain ⟨fd_Code_words, E_Code_words⟩ := c.def_ 11 (d := mOf "Code" "words" "Code.words" s_Code_words) rfl
  have F_Code_words : Fun K "words" "Code.words" s_Code_words (He.ma K (He.ga K "Code") "words") fd_Code_words := fun_ofD E_Code_words
  have b_Code_words : Binds K fd_Code_words ["self"] [] := F_Code_words.binds fun _ _ _ _ _ _ us hl => match us, hl with | [_], _ => rfl
  obtain ⟨fd__law_all, E__law_all⟩ := c.def_ 12 (d := dOf "_law_all" s__law_all) rfl
  have F__law_all : Fun K "_law_all" "_law_all" s__law_all (He.ga K "_law_all") fd__law_all := fun_ofD E__law_all
  have b__law_all : Binds K fd__law_all ["_law_n", "_law_p"] [] := F__law_all.binds fun _ _ _ _ _ _ us hl => match us, hl with | [_, _], _ => rfl
  obtain ⟨fd__law_monics, E__law_monics⟩ := c.def_ 13 (d := dOf "_law_monics" s__law_monics) rfl
  have F__law_monics : Fun K "_law_monics" "_law_monics" s__law_monics (He.ga K "_law_monics") fd__law_monics := fun_ofD E__law_monics
  have b__law_monics : Binds K fd__law_monics ["_law_degree", "_law_p"] [] := F__law_monics.binds fun _ _ _ _ _ _ us hl => match us, hl with | [_, _], _ => rfl
  obtain ⟨fd__law_scaled, E__law_scaled⟩ := c.def_ 14 (d := dOf "_law_scaled" s__law_scaled) rfl
  have F__law_scaled : Fun K "_law_scaled" "_law_scaled" s__law_scaled (He.ga K "_law_scaled") fd__law_scaled := fun_ofD E__law_scaled
  have b__law_scaled : Binds K fd__law_scaled ["_law_v", "_law_a", "_law_p"] [] := F__law_scaled.binds fun _ _ _ _ _ _ us hl => match us, hl with | [_, _, _], _ => rfl
  obtain ⟨fd__law_sum, E__law_sum⟩ := c.def_ 15 (d := dOf "_law_sum" s__law_sum) rfl
  have F__law_sum : Fun K "_law_sum" "_law_sum" s__law_sum (He.ga K "_law_sum") fd__law_sum := fun_ofD E__law_sum
  have b__law_sum : Binds K fd__law_sum ["_law_v", "_law_w", "_law_p"] [] := F__law_sum.binds fun _ _ _ _ _ _ us hl => match us, hl with | [_, _, _], _ => rfl
  obtain ⟨fd__law_span, E__law_span⟩ := c.def_ 16 (d := dOf "_law_span" s__law_span) rfl
  have F__law_span : Fun K "_law_span" "_law_span" s__law_span (He.ga K "_law_span") fd__law_span := fun_ofD E__law_span
  have b__law_span : Binds K fd__law_span ["_law_rows_here", "_law_n", "_law_p"] [] := F__law_span.binds fun _ _ _ _ _ _ us hl => match us, hl with | [_, _, _], _ => rfl
  obtain ⟨fd__law_multiples_of, E__law_multiples_of⟩ := c.def_ 17 (d := dOf "_law_multiples_of" s__law_multiples_of) rfl
  have F__law_multiples_of : Fun K "_law_multiples_of" "_law_multiples_of" s__law_multiples_of (He.ga K "_law_multiples_of") fd__law_multiples_of := fun_ofD E__law_multiples_of
  have b__law_multiples_of : Binds K fd__law_multiples_of ["_law_g", "_law_n", "_law_p"] [] := F__law_multiples_of.binds fun _ _ _ _ _ _ us hl => match us, hl with | [_, _, _], _ => rfl
  obtain ⟨fd__law_take, E__law_take⟩ := c.def_ 18 (d := dOf "_law_take" s__law_take) rfl
  have F__law_take : Fun K "_law_take" "_law_take" s__law_take (He.ga K "_law_take") fd__law_take := fun_ofD E__law_take
  have b__law_take : Binds K fd__law_take ["_law_state_here", "_law_m"] [] := F__law_take.binds fun _ _ _ _ _ _ us hl => match us, hl with | [_, _], _ => rfl
  obtain ⟨fd__law_prime, E__law_prime⟩ := c.def_ 19 (d := dOf "_law_prime" s__law_prime) rfl
  have F__law_prime : Fun K "_law_prime" "_law_prime" s__law_prime (He.ga K "_law_prime") fd__law_prime := fun_ofD E__law_prime
  have b__law_prime : Binds K fd__law_prime ["_law_state_here"] [] := F__law_prime.binds fun _ _ _ _ _ _ us hl => match us, hl with | [_], _ => rfl
  obtain ⟨fd_trimmed, E_trimmed⟩ := c.def_ 20 (d := dOf "trimmed" s_trimmed) rfl
  have F_trimmed : Fun K "trimmed" "trimmed" s_trimmed (He.ga K "trimmed") fd_trimmed := fun_ofD E_trimmed
  have b_trimmed : Binds K fd_trimmed ["row"] [] := F_trimmed.binds fun _ _ _ _ _ _ us hl => match us, hl with | [_], _ => rfl
  obtain ⟨fd_divided, E_divided⟩ := c.def_ 21 (d := dOf "divided" s_divided) rfl
  have F_divided : Fun K "divided" "divided" s_divided (He.ga K "divided") fd_divided := fun_ofD E_divided
  have b_divided : Binds K fd_divided ["a", "b", "p"] [] := F_divided.binds fun _ _ _ _ _ _ us hl => match us, hl with | [_, _, _], _ => rfl
  obtain ⟨fd_made_monic, E_made_monic⟩ := c.def_ 22 (d := dOf "made_monic" s_made_monic) rfl
  have F_made_monic : Fun K "made_monic" "made_monic" s_made_monic (He.ga K "made_monic") fd_made_monic := fun_ofD E_made_monic
  have b_made_monic : Binds K fd_made_monic ["a", "p"] [] := F_made_monic.binds fun _ _ _ _ _ _ us hl => match us, hl with | [_, _], _ => rfl
  obtain ⟨fd_common_divisor, E_common_divisor⟩ := c.def_ 23 (d := dOf "common_divisor" s_common_divisor) rfl
  have F_common_divisor : Fun K "common_divisor" "common_divisor" s_common_divisor (He.ga K "common_divisor") fd_common_divisor := fun_ofD E_common_divisor
  have b_common_divisor : Binds K fd_common_divisor ["a", "b", "p"] [] := F_common_divisor.binds fun _ _ _ _ _ _ us hl => match us, hl with | [_, _, _], _ => rfl
  obtain ⟨fd_Code_holds, E_Code_holds⟩ := c.def_ 24 (d := mOf "Code" "holds" "Code.holds" s_Code_holds) rfl
  have F_Code_holds : Fun K "holds" "Code.holds" s_Code_holds (He.ma K (He.ga K "Code") "holds") fd_Code_holds := fun_ofD E_Code_holds
  have b_Code_holds : Binds K fd_Code_holds ["self", "value"] [] := F_Code_holds.binds fun _ _ _ _ _ _ us hl => match us, hl with | [_, _], _ => rfl
  obtain ⟨fd_shifted, E_shifted⟩ := c.def_ 25 (d := dOf "shifted" s_shifted) rfl
  have F_shifted : Fun K "shifted" "shifted" s_shifted (He.ga K "shifted") fd_shifted := fun_ofD E_shifted
  have b_shifted : Binds K fd_shifted ["word"] [] := F_shifted.binds fun _ _ _ _ _ _ us hl => match us, hl with | [_], _ => rfl
  obtain ⟨fd_is_cyclic, E_is_cyclic⟩ := c.def_ 26 (d := dOf "is_cyclic" s_is_cyclic) rfl
  have F_is_cyclic : Fun K "is_cyclic" "is_cyclic" s_is_cyclic (He.ga K "is_cyclic") fd_is_cyclic := fun_ofD E_is_cyclic
  have b_is_cyclic : Binds K fd_is_cyclic ["code"] [] := F_is_cyclic.binds fun _ _ _ _ _ _ us hl => match us, hl with | [_], _ => rfl
  obtain ⟨fd_check_length, E_check_length⟩ := c.def_ 27 (d := dOf "check_length" s_check_length) rfl
  have F_check_length : Fun K "check_length" "check_length" s_check_length (He.ga K "check_length") fd_check_length := fun_ofD E_check_length
  have b_check_length : Binds K fd_check_length ["p", "n"] [] := F_check_length.binds fun _ _ _ _ _ _ us hl => match us, hl with | [_, _], _ => rfl
  obtain ⟨fd_unit_polynomial, E_unit_polynomial⟩ := c.def_ 28 (d := dOf "unit_polynomial" s_unit_polynomial) rfl
  have F_unit_polynomial : Fun K "unit_polynomial" "unit_polynomial" s_unit_polynomial (He.ga K "unit_polynomial") fd_unit_polynomial := fun_ofD E_unit_polynomial
  have b_unit_polynomial : Binds K fd_unit_polynomial ["p", "n"] [] := F_unit_polynomial.binds fun _ _ _ _ _ _ us hl => match us, hl with | [_, _], _ => rfl
  obtain ⟨fd_generator_polynomial, E_generator_polynomial⟩ := c.def_ 29 (d := dOf "generator_polynomial" s_generator_polynomial) rfl
  have F_generator_polynomial : Fun K "generator_polynomial" "generator_polynomial" s_generator_polynomial (He.ga K "generator_polynomial") fd_generator_polynomial := fun_ofD E_generator_polynomial
  have b_generator_polynomial : Binds K fd_generator_polynomial ["code"] [] := F_generator_polynomial.binds fun _ _ _ _ _ _ us hl => match us, hl with | [_], _ => rfl
  obtain ⟨fd_check_polynomial, E_check_polynomial⟩ := c.def_ 30 (d := dOf "check_polynomial" s_check_polynomial) rfl
  have F_check_polynomial : Fun K "check_polynomial" "check_polynomial" s_check_polynomial (He.ga K "check_polynomial") fd_check_polynomial := fun_ofD E_check_polynomial
  have b_check_polynomial : Binds K fd_check_polynomial ["code"] [] := F_check_polynomial.binds fun _ _ _ _ _ _ us hl => match us, hl with | [_], _ => rfl
  obtain ⟨fd__law_reasons, E__law_reasons⟩ := c.def_ 31 (d := dOf "_law_reasons" s__law_reasons) rfl
  have F__law_reasons : Fun K "_law_reasons" "_law_reasons" s__law_reasons (He.ga K "_law_reasons") fd__law_reasons := fun_ofD E__law_reasons
  have b__law_reasons : Binds K fd__law_reasons ["_law_code"] [] := F__law_reasons.binds fun _ _ _ _ _ _ us hl => match us, hl with | [_], _ => rfl
  obtain ⟨fd_is_divisor, E_is_divisor⟩ := c.def_ 32 (d := dOf "is_divisor" s_is_divisor) rfl
  have F_is_divisor : Fun K "is_divisor" "is_divisor" s_is_divisor (He.ga K "is_divisor") fd_is_divisor := fun_ofD E_is_divisor
  have b_is_divisor : Binds K fd_is_divisor ["unit", "g", "p"] [] := F_is_divisor.binds fun _ _ _ _ _ _ us hl => match us, hl with | [_, _, _], _ => rfl
  obtain ⟨fd_cyclic_code, E_cyclic_code⟩ := c.def_ 33 (d := dOf "cyclic_code" s_cyclic_code) rfl
  have F_cyclic_code : Fun K "cyclic_code" "cyclic_code" s_cyclic_code (He.ga K "cyclic_code") fd_cyclic_code := fun_ofD E_cyclic_code
  have b_cyclic_code : Binds K fd_cyclic_code ["p", "n", "g"] [] := F_cyclic_code.binds fun _ _ _ _ _ _ us hl => match us, hl with | [_, _, _], _ => rfl
  obtain ⟨fd__law_refuses, E__law_refuses⟩ := c.def_ 34 (d := dOf "_law_refuses" s__law_refuses) rfl
  have F__law_refuses : Fun K "_law_refuses" "_law_refuses" s__law_refuses (He.ga K "_law_refuses") fd__law_refuses := fun_ofD E__law_refuses
  have b__law_refuses : Binds K fd__law_refuses ["_law_p", "_law_n", "_law_g"] [] := F__law_refuses.binds fun _ _ _ _ _ _ us hl => match us, hl with | [_, _, _], _ => rfl
  obtain ⟨fd__law_trimmed, E__law_trimmed⟩ := c.def_ 35 (d := dOf "_law_trimmed" s__law_trimmed) rfl
  have F__law_trimmed : Fun K "_law_trimmed" "_law_trimmed" s__law_trimmed (He.ga K "_law_trimmed") fd__law_trimmed := fun_ofD E__law_trimmed
  have b__law_trimmed : Binds K fd__law_trimmed ["_law_row"] [] := F__law_trimmed.binds fun _ _ _ _ _ _ us hl => match us, hl with | [_], _ => rfl
  obtain ⟨fd__law_rest, E__law_rest⟩ := c.def_ 36 (d := dOf "_law_rest" s__law_rest) rfl
  have F__law_rest : Fun K "_law_rest" "_law_rest" s__law_rest (He.ga K "_law_rest") fd__law_rest := fun_ofD E__law_rest
  have b__law_rest : Binds K fd__law_rest ["_law_a", "_law_b", "_law_p"] [] := F__law_rest.binds fun _ _ _ _ _ _ us hl => match us, hl with | [_, _, _], _ => rfl
  obtain ⟨fd__law_word, E__law_word⟩ := c.def_ 37 (d := dOf "_law_word" s__law_word) rfl
  have F__law_word : Fun K "_law_word" "_law_word" s__law_word (He.ga K "_law_word") fd__law_word := fun_ofD E__law_word
  have b__law_word : Binds K fd__law_word ["_law_state_here", "_law_n", "_law_p"] [] := F__law_word.binds fun _ _ _ _ _ _ us hl => match us, hl with | [_, _, _], _ => rfl
  obtain ⟨fd__law_rows, E__law_rows⟩ := c.def_ 38 (d := dOf "_law_rows" s__law_rows) rfl
  have F__law_rows : Fun K "_law_rows" "_law_rows" s__law_rows (He.ga K "_law_rows") fd__law_rows := fun_ofD E__law_rows
  have b__law_rows : Binds K fd__law_rows ["_law_state_here", "_law_n", "_law_p", "_law_most"] [] := F__law_rows.binds fun _ _ _ _ _ _ us hl => match us, hl with | [_, _, _, _], _ => rfl
  obtain ⟨fd__law_shift, E__law_shift⟩ := c.def_ 39 (d := dOf "_law_shift" s__law_shift) rfl
  have F__law_shift : Fun K "_law_shift" "_law_shift" s__law_shift (He.ga K "_law_shift") fd__law_shift := fun_ofD E__law_shift
  have b__law_shift : Binds K fd__law_shift ["_law_word_here"] [] := F__law_shift.binds fun _ _ _ _ _ _ us hl => match us, hl with | [_], _ => rfl
  obtain ⟨fd__law_state, E__law_state⟩ := c.def_ 40 (d := dOf "_law_state" s__law_state) rfl
  have F__law_state : Fun K "_law_state" "_law_state" s__law_state (He.ga K "_law_state") fd__law_state := fun_ofD E__law_state
  have b__law_state : Binds K fd__law_state ["_law_script"] [] := F__law_state.binds fun _ _ _ _ _ _ us hl => match us, hl with | [_], _ => rfl
  obtain ⟨fd__law_times, E__law_times⟩ := c.def_ 41 (d := dOf "_law_times" s__law_times) rfl
  have F__law_times : Fun K "_law_times" "_law_times" s__law_times (He.ga K "_law_times") fd__law_times := fun_ofD E__law_times
  have b__law_times : Binds K fd__law_times ["_law_a", "_law_b", "_law_p"] [] := F__law_times.binds fun _ _ _ _ _ _ us hl => match us, hl with | [_, _, _], _ => rfl
  obtain ⟨fd__law_unit, E__law_unit⟩ := c.def_ 42 (d := dOf "_law_unit" s__law_unit) rfl
  have F__law_unit : Fun K "_law_unit" "_law_unit" s__law_unit (He.ga K "_law_unit") fd__law_unit := fun_ofD E__law_unit
  have b__law_unit : Binds K fd__law_unit ["_law_p", "_law_n"] [] := F__law_unit.binds fun _ _ _ _ _ _ us hl => match us, hl with | [_, _], _ => rfl
  obtain ⟨fd_monic_rows, E_monic_rows⟩ := c.def_ 43 (d := dOf "monic_rows" s_monic_rows) rfl
  have F_monic_rows : Fun K "monic_rows" "monic_rows" s_monic_rows (He.ga K "monic_rows") fd_monic_rows := fun_ofD E_monic_rows
  have b_monic_rows : Binds K fd_monic_rows ["degree", "p"] [] := F_monic_rows.binds fun _ _ _ _ _ _ us hl => match us, hl with | [_, _], _ => rfl
  obtain ⟨fd_first_factor, E_first_factor⟩ := c.def_ 44 (d := dOf "first_factor" s_first_factor) rfl
  have F_first_factor : Fun K "first_factor" "first_factor" s_first_factor (He.ga K "first_factor") fd_first_factor := fun_ofD E_first_factor
  have b_first_factor : Binds K fd_first_factor ["a", "p", "low"] [] := F_first_factor.binds fun _ _ _ _ _ _ us hl => match us, hl with | [_, _, _], _ => rfl
  obtain ⟨fd_factors_of_unit, E_factors_of_unit⟩ := c.def_ 45 (d := dOf "factors_of_unit" s_factors_of_unit) rfl
  have F_factors_of_unit : Fun K "factors_of_unit" "factors_of_unit" s_factors_of_unit (He.ga K "factors_of_unit") fd_factors_of_unit := fun_ofD E_factors_of_unit
  have b_factors_of_unit : Binds K fd_factors_of_unit ["p", "n"] [] := F_factors_of_unit.binds fun _ _ _ _ _ _ us hl => match us, hl with | [_, _], _ => rfl
  obtain ⟨fd_times, E_times⟩ := c.def_ 46 (d := dOf "times" s_times) rfl
  have F_times : Fun K "times" "times" s_times (He.ga K "times") fd_times := fun_ofD E_times
  have b_times : Binds K fd_times ["a", "b", "p"] [] := F_times.binds fun _ _ _ _ _ _ us hl => match us, hl with | [_, _, _], _ => rfl
  obtain ⟨fd_divisors_of_unit, E_divisors_of_unit⟩ := c.def_ 47 (d := dOf "divisors_of_unit" s_divisors_of_unit) rfl
  have F_divisors_of_unit : Fun K "divisors_of_unit" "divisors_of_unit" s_divisors_of_unit (He.ga K "divisors_of_unit") fd_divisors_of_unit := fun_ofD E_divisors_of_unit
  have b_divisors_of_unit : Binds K fd_divisors_of_unit ["p", "n"] [] := F_divisors_of_unit.binds fun _ _ _ _ _ _ us hl => match us, hl with | [_, _], _ => rfl
  obtain ⟨fd_all_cyclic, E_all_cyclic⟩ := c.def_ 48 (d := dOf "all_cyclic" s_all_cyclic) rfl
  have F_all_cyclic : Fun K "all_cyclic" "all_cyclic" s_all_cyclic (He.ga K "all_cyclic") fd_all_cyclic := fun_ofD E_all_cyclic
  have b_all_cyclic : Binds K fd_all_cyclic ["p", "n"] [] := F_all_cyclic.binds fun _ _ _ _ _ _ us hl => match us, hl with | [_, _], _ => rfl
  obtain ⟨fd_law, E_law⟩ := c.def_ 49 (d := dOf "law" s_law) rfl
  have F_law : Fun K "law" "law" s_law (He.ga K "law") fd_law := fun_ofD E_law
  have b_law : Binds K fd_law ["_law_script"] [] := F_law.binds fun _ _ _ _ _ _ us hl => match us, hl with | [_], _ => rfl
  have e := hfa.symm.trans (He.glo_ok X G (c.fact 45 (f := .glo "law") rfl))
  cases e
  refine ⟨fd_law, fun s v => (FunD.bindsA (ps := ["_law_script"]) E_law fun _ _ _ _ _ _ us hl => match us, hl with | [_], _ => rfl) s [v] rfl, fun base _ _ => ?_⟩
  have c_eq : EqC PP w K mg base 2 (He.ga K "Code") := ⟨_, _, _, (ok_Code___eq__ F_Code___eq__ T hC gC TC).mono (by decide), hm___eq__.at_, hm___eq__.fn, b_Code___eq__⟩
  have c_is_integer : Cal PP w K mg base 1 "is_integer" sp_is_integer [] := ⟨_, _, _, [], ok_is_integer F_is_integer T, He.glo_ok X G (c.fact 0 (f := .glo "is_integer") rfl), F_is_integer.kp, b_is_integer, .nil⟩
  have c_check_prime : Cal PP w K mg base 2 "check_prime" sp_check_prime [] := ⟨_, _, _, [], ok_check_prime F_check_prime T c_is_integer gP hP, He.glo_ok X G (c.fact 1 (f := .glo "check_prime") rfl), F_check_prime.kp, b_check_prime, .nil⟩
  have c_is_word : Cal PP w K mg base 2 "is_word" sp_is_word [] := ⟨_, _, _, [], ok_is_word F_is_word T c_is_integer, He.glo_ok X G (c.fact 2 (f := .glo "is_word") rfl), F_is_word.kp, b_is_word, .nil⟩
  have c_power : Cal PP w K mg base 1 "power" sp_power [] := ⟨_, _, _, [], ok_power F_power T, He.glo_ok X G (c.fact 3 (f := .glo "power") rfl), F_power.kp, b_power, .nil⟩
  have c_add : Cal PP w K mg base 1 "add" sp_add [] := ⟨_, _, _, [], ok_add F_add T, He.glo_ok X G (c.fact 4 (f := .glo "add") rfl), F_add.kp, b_add, .nil⟩
  have c_scaled : Cal PP w K mg base 1 "scaled" sp_scaled [] := ⟨_, _, _, [], ok_scaled F_scaled T, He.glo_ok X G (c.fact 5 (f := .glo "scaled") rfl), F_scaled.kp, b_scaled, .nil⟩
  have c_cleared : Cal PP w K mg base 2 "cleared" sp_cleared [] := ⟨_, _, _, [], ok_cleared F_cleared T c_add c_scaled, He.glo_ok X G (c.fact 6 (f := .glo "cleared") rfl), F_cleared.kp, b_cleared, .nil⟩
  have c_inverse : Cal PP w K mg base 1 "inverse" sp_inverse [] := ⟨_, _, _, [], ok_inverse F_inverse T, He.glo_ok X G (c.fact 7 (f := .glo "inverse") rfl), F_inverse.kp, b_inverse, .nil⟩
  have c_reduced : Cal PP w K mg base 3 "reduced" sp_reduced [] := ⟨_, _, _, [], ok_reduced F_reduced T c_cleared c_inverse c_scaled, He.glo_ok X G (c.fact 8 (f := .glo "reduced") rfl), F_reduced.kp, b_reduced, .nil⟩
  have c_Code : Mak PP w K mg base 4 "Code" (He.ga K "Code") (sp_Code___init__ (He.ga K "Code")) [] := ⟨_, _, _, [], hMk, ok_Code___init__ F_Code___init__ T hC c_check_prime c_is_integer c_is_word c_power c_reduced, gC, b_Code___init__, .nil⟩
  have c_Code_words : MetG PP w K mg base 2 (He.ga K "Code") "words" (gp_Code_words (He.ga K "Code")) := ⟨_, _, _, hCl, hm_words, ok_Code_words F_Code_words T hC c_add c_scaled, b_Code_words⟩
  have c__law_all : Cal PP w K mg base 1 "_law_all" sp__law_all [] := ⟨_, _, _, [], ok__law_all F__law_all T, He.glo_ok X G (c.fact 9 (f := .glo "_law_all") rfl), F__law_all.kp, b__law_all, .nil⟩
  have c__law_monics : Cal PP w K mg base 2 "_law_monics" sp__law_monics [] := ⟨_, _, _, [], ok__law_monics F__law_monics T c__law_all, He.glo_ok X G (c.fact 10 (f := .glo "_law_monics") rfl), F__law_monics.kp, b__law_monics, .nil⟩
  have c__law_scaled : Cal PP w K mg base 1 "_law_scaled" sp__law_scaled [] := ⟨_, _, _, [], ok__law_scaled F__law_scaled T, He.glo_ok X G (c.fact 11 (f := .glo "_law_scaled") rfl), F__law_scaled.kp, b__law_scaled, .nil⟩
  have c__law_sum : Cal PP w K mg base 1 "_law_sum" sp__law_sum [] := ⟨_, _, _, [], ok__law_sum F__law_sum T, He.glo_ok X G (c.fact 12 (f := .glo "_law_sum") rfl), F__law_sum.kp, b__law_sum, .nil⟩
  have c__law_span : Cal PP w K mg base 2 "_law_span" sp__law_span [] := ⟨_, _, _, [], ok__law_span F__law_span T c__law_scaled c__law_sum, He.glo_ok X G (c.fact 13 (f := .glo "_law_span") rfl), F__law_span.kp, b__law_span, .nil⟩
  have c__law_multiples_of : Cal PP w K mg base 3 "_law_multiples_of" sp__law_multiples_of [] := ⟨_, _, _, [], ok__law_multiples_of F__law_multiples_of T c__law_span, He.glo_ok X G (c.fact 14 (f := .glo "_law_multiples_of") rfl), F__law_multiples_of.kp, b__law_multiples_of, .nil⟩
  have c__law_take : Cal PP w K mg base 1 "_law_take" sp__law_take [] := ⟨_, _, _, [], ok__law_take F__law_take T, He.glo_ok X G (c.fact 15 (f := .glo "_law_take") rfl), F__law_take.kp, b__law_take, .nil⟩
  have c__law_prime : Cal PP w K mg base 2 "_law_prime" sp__law_prime [] := ⟨_, _, _, [], ok__law_prime F__law_prime T c__law_take, He.glo_ok X G (c.fact 16 (f := .glo "_law_prime") rfl), F__law_prime.kp, b__law_prime, .nil⟩
  have c_trimmed : Cal PP w K mg base 1 "trimmed" sp_trimmed [] := ⟨_, _, _, [], ok_trimmed F_trimmed T, He.glo_ok X G (c.fact 17 (f := .glo "trimmed") rfl), F_trimmed.kp, b_trimmed, .nil⟩
  have c_divided : Cal PP w K mg base 2 "divided" sp_divided [] := ⟨_, _, _, [], ok_divided F_divided T c_inverse c_trimmed, He.glo_ok X G (c.fact 18 (f := .glo "divided") rfl), F_divided.kp, b_divided, .nil⟩
  have c_made_monic : Cal PP w K mg base 2 "made_monic" sp_made_monic [] := ⟨_, _, _, [], ok_made_monic F_made_monic T c_inverse, He.glo_ok X G (c.fact 19 (f := .glo "made_monic") rfl), F_made_monic.kp, b_made_monic, .nil⟩
  have c_common_divisor : Cal PP w K mg base 3 "common_divisor" sp_common_divisor [] := ⟨_, _, _, [], ok_common_divisor F_common_divisor T c_divided c_made_monic, He.glo_ok X G (c.fact 20 (f := .glo "common_divisor") rfl), F_common_divisor.kp, b_common_divisor, .nil⟩
  have c_Code_holds : Met PP w K mg base 3 (He.ga K "Code") "holds" (sp_Code_holds (He.ga K "Code")) [] := ⟨_, _, _, [], hCl, hm_holds, ok_Code_holds F_Code_holds T hC c_add c_is_word c_scaled, b_Code_holds, .nil⟩
  have c_shifted : Cal PP w K mg base 1 "shifted" sp_shifted [] := ⟨_, _, _, [], ok_shifted F_shifted T, He.glo_ok X G (c.fact 21 (f := .glo "shifted") rfl), F_shifted.kp, b_shifted, .nil⟩
  have c_is_cyclic : Cal PP w K mg base 4 "is_cyclic" (sp_is_cyclic (He.ga K "Code")) [] := ⟨_, _, _, [], ok_is_cyclic F_is_cyclic T hC c_Code_holds c_shifted, He.glo_ok X G (c.fact 22 (f := .glo "is_cyclic") rfl), F_is_cyclic.kp, b_is_cyclic, .nil⟩
  have c_check_length : Cal PP w K mg base 3 "check_length" sp_check_length [] := ⟨_, _, _, [], ok_check_length F_check_length T c_check_prime c_is_integer, He.glo_ok X G (c.fact 23 (f := .glo "check_length") rfl), F_check_length.kp, b_check_length, .nil⟩
  have c_unit_polynomial : Cal PP w K mg base 4 "unit_polynomial" sp_unit_polynomial [] := ⟨_, _, _, [], ok_unit_polynomial F_unit_polynomial T c_check_length, He.glo_ok X G (c.fact 24 (f := .glo "unit_polynomial") rfl), F_unit_polynomial.kp, b_unit_polynomial, .nil⟩
  have c_generator_polynomial : CalE PP w K mg base 5 "generator_polynomial" (sp_generator_polynomial (He.ga K "Code") (He.ga K "Refused")) := ⟨_, _, _, ok_generator_polynomial F_generator_polynomial T hC TM TR c_common_divisor c_is_cyclic c_trimmed c_unit_polynomial, He.glo_ok X G (c.fact 25 (f := .glo "generator_polynomial") rfl), F_generator_polynomial.kp, b_generator_polynomial⟩
  have c_check_polynomial : CalE PP w K mg base 6 "check_polynomial" (sp_check_polynomial (He.ga K "Code") (He.ga K "Refused")) := ⟨_, _, _, ok_check_polynomial F_check_polynomial T hC TM TR c_divided c_generator_polynomial c_unit_polynomial, He.glo_ok X G (c.fact 26 (f := .glo "check_polynomial") rfl), F_check_polynomial.kp, b_check_polynomial⟩
  have c__law_reasons : Cal PP w K mg base 7 "_law_reasons" (sp__law_reasons (He.ga K "Code")) [] := ⟨_, _, _, [], ok__law_reasons F__law_reasons T hC TM TR c_check_polynomial c_generator_polynomial, He.glo_ok X G (c.fact 27 (f := .glo "_law_reasons") rfl), F__law_reasons.kp, b__law_reasons, .nil⟩
  have c_is_divisor : Cal PP w K mg base 3 "is_divisor" sp_is_divisor [] := ⟨_, _, _, [], ok_is_divisor F_is_divisor T c_divided c_is_integer, He.glo_ok X G (c.fact 28 (f := .glo "is_divisor") rfl), F_is_divisor.kp, b_is_divisor, .nil⟩
  have c_cyclic_code : CalE PP w K mg base 6 "cyclic_code" (sp_cyclic_code (He.ga K "Code") (He.ga K "Malformed")) := ⟨_, _, _, ok_cyclic_code F_cyclic_code T hC TM TR c_Code c_is_divisor c_power c_unit_polynomial, He.glo_ok X G (c.fact 29 (f := .glo "cyclic_code") rfl), F_cyclic_code.kp, b_cyclic_code⟩
  have c__law_refuses : Cal PP w K mg base 7 "_law_refuses" sp__law_refuses [] := ⟨_, _, _, [], ok__law_refuses F__law_refuses T hC TM TR c_cyclic_code, He.glo_ok X G (c.fact 30 (f := .glo "_law_refuses") rfl), F__law_refuses.kp, b__law_refuses, .nil⟩
  have c__law_trimmed : Cal PP w K mg base 1 "_law_trimmed" sp__law_trimmed [] := ⟨_, _, _, [], ok__law_trimmed F__law_trimmed T, He.glo_ok X G (c.fact 31 (f := .glo "_law_trimmed") rfl), F__law_trimmed.kp, b__law_trimmed, .nil⟩
  have c__law_rest : Cal PP w K mg base 2 "_law_rest" sp__law_rest [] := ⟨_, _, _, [], ok__law_rest F__law_rest T c__law_trimmed, He.glo_ok X G (c.fact 32 (f := .glo "_law_rest") rfl), F__law_rest.kp, b__law_rest, .nil⟩
  have c__law_word : Cal PP w K mg base 2 "_law_word" sp__law_word [] := ⟨_, _, _, [], ok__law_word F__law_word T c__law_take, He.glo_ok X G (c.fact 33 (f := .glo "_law_word") rfl), F__law_word.kp, b__law_word, .nil⟩
  have c__law_rows : Cal PP w K mg base 3 "_law_rows" sp__law_rows [] := ⟨_, _, _, [], ok__law_rows F__law_rows T c__law_take c__law_word, He.glo_ok X G (c.fact 34 (f := .glo "_law_rows") rfl), F__law_rows.kp, b__law_rows, .nil⟩
  have c__law_shift : Cal PP w K mg base 1 "_law_shift" sp__law_shift [] := ⟨_, _, _, [], ok__law_shift F__law_shift T, He.glo_ok X G (c.fact 35 (f := .glo "_law_shift") rfl), F__law_shift.kp, b__law_shift, .nil⟩
  have c__law_state : Cal PP w K mg base 1 "_law_state" (sp__law_state K) [] := ⟨_, _, _, [], ok__law_state F__law_state T, He.glo_ok X G (c.fact 36 (f := .glo "_law_state") rfl), F__law_state.kp, b__law_state, .nil⟩
  have c__law_times : Cal PP w K mg base 2 "_law_times" sp__law_times [] := ⟨_, _, _, [], ok__law_times F__law_times T c__law_trimmed, He.glo_ok X G (c.fact 37 (f := .glo "_law_times") rfl), F__law_times.kp, b__law_times, .nil⟩
  have c__law_unit : Cal PP w K mg base 1 "_law_unit" sp__law_unit [] := ⟨_, _, _, [], ok__law_unit F__law_unit T, He.glo_ok X G (c.fact 38 (f := .glo "_law_unit") rfl), F__law_unit.kp, b__law_unit, .nil⟩
  have c_monic_rows : CalG PP w K mg base 1 "monic_rows" gp_monic_rows := ⟨_, _, _, ok_monic_rows F_monic_rows T, He.glo_ok X G (c.fact 39 (f := .glo "monic_rows") rfl), F_monic_rows.kp, b_monic_rows⟩
  have c_first_factor : Cal PP w K mg base 3 "first_factor" sp_first_factor [] := ⟨_, _, _, [], ok_first_factor F_first_factor T c_divided c_monic_rows, He.glo_ok X G (c.fact 40 (f := .glo "first_factor") rfl), F_first_factor.kp, b_first_factor, .nil⟩
  have c_factors_of_unit : Cal PP w K mg base 5 "factors_of_unit" sp_factors_of_unit [] := ⟨_, _, _, [], ok_factors_of_unit F_factors_of_unit T c_divided c_first_factor c_unit_polynomial, He.glo_ok X G (c.fact 41 (f := .glo "factors_of_unit") rfl), F_factors_of_unit.kp, b_factors_of_unit, .nil⟩
  have c_times : Cal PP w K mg base 2 "times" sp_times [] := ⟨_, _, _, [], ok_times F_times T c_trimmed, He.glo_ok X G (c.fact 42 (f := .glo "times") rfl), F_times.kp, b_times, .nil⟩
  have c_divisors_of_unit : Cal PP w K mg base 6 "divisors_of_unit" sp_divisors_of_unit [] := ⟨_, _, _, [], ok_divisors_of_unit F_divisors_of_unit T c_factors_of_unit c_times, He.glo_ok X G (c.fact 43 (f := .glo "divisors_of_unit") rfl), F_divisors_of_unit.kp, b_divisors_of_unit, .nil⟩
  have c_all_cyclic : Cal PP w K mg base 7 "all_cyclic" (sp_all_cyclic (He.ga K "Code")) [] := ⟨_, _, _, [], ok_all_cyclic F_all_cyclic T hC TM TR c_cyclic_code c_divisors_of_unit c_power, He.glo_ok X G (c.fact 44 (f := .glo "all_cyclic") rfl), F_all_cyclic.kp, b_all_cyclic, .nil⟩
  exact ok_law F_law T hC TM TR c_Code c_Code_words c__law_monics c__law_multiples_of c__law_prime c__law_reasons c__law_refuses c__law_rest c__law_rows c__law_shift c__law_span c__law_state c__law_take c__law_times c__law_unit c__law_word c_all_cyclic c_check_polynomial c_cyclic_code c_divisors_of_unit c_generator_polynomial c_is_cyclic c_shifted c_eq
end Wk
namespace Wk
open PySem PySem.Spec PyProof.Rows L2
open C8 (Cal Met Mak)

def lA : List Str := ["_wall", "Fault", "Malformed", "Refused", "is_integer", "inverse", "power", "is_word", "add", "scaled", "reduced", "cleared", "DIGITS", "written", "PRIMES", "MOST_LENGTH", "MOST_WORDS", "check_prime", "Code", "trimmed", "times", "divided", "made_monic", "common_divisor", "check_length", "unit_polynomial", "monic_rows", "first_factor"]
def lB : List Str := ["factors_of_unit", "divisors_of_unit", "shifted", "is_cyclic", "cyclic_code", "is_divisor", "all_cyclic", "generator_polynomial", "check_polynomial", "_law_state", "_law_take", "_law_sum", "_law_scaled", "_law_span", "_law_all", "_law_word", "_law_prime", "_law_rows", "_law_trimmed", "_law_times", "_law_unit", "_law_rest", "_law_monics", "_law_shift", "_law_multiples_of", "_law_reasons", "_law_refuses"]
abbrev RR : PySem.W.OpenRow := PySem.W.OpenLaw.row PySem.Challenge.rw_weightkeepers_k35_whole_cyclic_codes
def ob (s : PySem.W.SharedT) : AlQ := obQ (frQ 4 (HandSHeadRun.getT s))
theorem ob_eq (s : PySem.W.SharedT) : ob s = (hkQ 4).obs s.abs := by
  have e : HandSHeadRun.getT s = s.abs.heap.get? := funext fun a => HandSHeadRun.getT_eq s a
  unfold ob
  rw [e] <;> rfl
theorem run (w : World) : HandSHeadRun.RunEq RR (PySem.W.view RR.prog [62]) (hkQ 4) ob 4000 (lA ++ lB) w := by
  intro os
  kernel_rfl

end Wk
set_option autoImplicit true
set_option maxRecDepth 512
set_option maxHeartbeats 200000
open PySem PySem.W PySem.Calls PyProof.Rows
set_option maxRecDepth 100000 in
set_option maxHeartbeats 0 in
theorem PySem.Challenge.cw_weightkeepers_k35_whole_cyclic_codes_holds : PySem.Challenge.rw_weightkeepers_k35_whole_cyclic_codes.Holds := by
  w_on; o_law
  refine HandSHeadRun.head_any (r := OpenLaw.row PySem.Challenge.rw_weightkeepers_k35_whole_cyclic_codes) (q := view (OpenLaw.row PySem.Challenge.rw_weightkeepers_k35_whole_cyclic_codes).prog [62]) (H := Wk.hkQ 4) (ob := Wk.ob) (M := 4000) (loose := Wk.lA ++ Wk.lB) (d := HandSHeadRun.topDef (OpenLaw.row PySem.Challenge.rw_weightkeepers_k35_whole_cyclic_codes).prog 62) (kwd := []) Wk.ob_eq
    (by kernel_rfl) (fun s => by kernel_rfl) Wk.run (by kernel_rfl) (by kernel_rfl) (by kernel_rfl) (by rfl) (by first | assumption | decide +kernel) (by decide +kernel) ⟨rfl, rfl, rfl, rfl, rfl, by decide +kernel⟩ ?hw ?hc
  case hw => w_witness2
  case hc =>
    refine L2.walk_ofE (l := PySem.Challenge.rw_weightkeepers_k35_whole_cyclic_codes) (n := 63) (k := 8) (x := "_law_script") (CX := L2.CX0) rfl (by decide) (by kernel_rfl) ⟨rfl, by decide, by decide⟩ ?F (fun _ _ _ _ z => z)
    intro w mg fa h Y G hmg0
    obtain ⟨K, KX, c⟩ := Y
    obtain ⟨c1, c2, c3⟩ := Wk.obQ_ok c
    have hmg : mg ("law" : PySem.Str) = some (.ref fa) := by
      have e : (HandSHeadRun.topDef (OpenLaw.row PySem.Challenge.rw_weightkeepers_k35_whole_cyclic_codes).prog 62).name = ("law" : PySem.Str) := by kernel_rfl
      rw [← e]
      exact hmg0
    obtain ⟨fd, hb, hF⟩ := Wk.facts (w := w) KX G hmg c2 c1 c3
    exact ⟨K, fd, Wk.sp_law K, KX, hb, fun H a ns hl _ hS => ⟨a, ns, rfl, hS, fun _ => rfl⟩, hF⟩
