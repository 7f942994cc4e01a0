import PyProof.Rows.All
import Wide.All
import OpenK.AllK
import Wide.FinOn
import PySem.Challenge.RW_packhall_k34_whole_told_and_back
import HandS.ForMost
import HandS.Style
import HandS.IsInst
import HandS.NoneIn
import HandS.Codes
import HandS.Walk
set_option Elab.async false
set_option linter.all false
set_option maxRecDepth 100000
set_option maxHeartbeats 4000000
/-! K34Math: the plain law of copies. A piece is a sign or a copy; greedy tellings are as short as any. No program in sight. -/
namespace K34
/-- a piece of a telling -/
inductive Pc where
  | sg (s : Int)
  | cp (b t : Nat)
def Pc.size : Pc → Nat
  | .sg _ => 1
  | .cp _ t => t
def sizes : List Pc → Nat
  | [] => 0
  | c :: r => c.size + sizes r
theorem sizes_append : ∀ (l r : List Pc), sizes (l ++ r) = sizes l + sizes r
  | [], r => by simp [sizes]
  | c :: l, r => by
    simp only [List.cons_append, sizes]
    rw [sizes_append l r]
    omega
/-- t signs from a on are those from j on -/
def Mt (x : List Int) (j a t : Nat) : Prop := a + t ≤ x.length ∧ ∀ i, i < t → x[j + i]? = x[a + i]?
/-- t is the length of the longest copy that begins at a -/
def Lg (x : List Int) (a t : Nat) : Prop := (0 < t → ∃ j, j < a ∧ Mt x j a t) ∧ ∀ j t', j < a → Mt x j a t' → t' ≤ t
theorem Lg.unique {x : List Int} {a t u : Nat} (h : Lg x a t) (k : Lg x a u) : t = u := by
  have h1 : t ≤ u := by
    rcases Nat.eq_zero_or_pos t with e | e
    · omega
    · obtain ⟨j, hj, m⟩ := h.1 e
      exact k.2 j t hj m
  have h2 : u ≤ t := by
    rcases Nat.eq_zero_or_pos u with e | e
    · omega
    · obtain ⟨j, hj, m⟩ := k.1 e
      exact h.2 j u hj m
  omega
/-- a piece tells what stands at a -/
def Tells (x : List Int) (a : Nat) : Pc → Prop
  | .sg s => x[a]? = some s
  | .cp b t => 1 ≤ b ∧ b ≤ a ∧ 1 ≤ t ∧ Mt x (a - b) a t
/-- pieces tell what stands from a on -/
def Tl (x : List Int) : Nat → List Pc → Prop
  | a, [] => a = x.length
  | a, c :: r => Tells x a c ∧ Tl x (a + c.size) r
/-- one of the longest pieces at a -/
def Best (x : List Int) (a : Nat) (c : Pc) : Prop := ∃ t, Lg x a t ∧ match c with
  | .sg s => t = 0 ∧ x[a]? = some s
  | .cp b u => u = t ∧ 1 ≤ t ∧ 1 ≤ b ∧ b ≤ a ∧ Mt x (a - b) a t
def Gr (x : List Int) : Nat → List Pc → Prop
  | a, [] => a = x.length
  | a, c :: r => Best x a c ∧ Gr x (a + c.size) r
/-- each piece but the last one as long as can be -/
def IsL (x : List Int) : Nat → List Pc → Prop
  | _, [] => True
  | _, [_] => True
  | a, c :: d :: r => (∃ t, Lg x a t ∧ max 1 t = c.size ∧ ∀ s, c = .sg s → t = 0) ∧ IsL x (a + c.size) (d :: r)
theorem Tells.pos {x : List Int} {a : Nat} {c : Pc} (h : Tells x a c) : 1 ≤ c.size ∧ a + c.size ≤ x.length := by
  cases c with
  | sg s =>
    have e : x[a]? = some s := h
    have := (List.getElem?_eq_some_iff.mp e).1
    exact ⟨Nat.le_refl _, this⟩
  | cp b t => exact ⟨h.2.2.1, h.2.2.2.1⟩
theorem Best.tells {x : List Int} {a : Nat} {c : Pc} (h : Best x a c) : Tells x a c := by
  obtain ⟨t, _, h⟩ := h
  cases c with
  | sg s => exact h.2
  | cp b u =>
    obtain ⟨rfl, h1, h2, h3, h4⟩ := h
    exact ⟨h2, h3, h1, h4⟩
theorem Best.lg {x : List Int} {a : Nat} {c : Pc} (h : Best x a c) : ∃ t, Lg x a t ∧ max 1 t = c.size ∧ ∀ s, c = .sg s → t = 0 := by
  obtain ⟨t, l, h⟩ := h
  refine ⟨t, l, ?_⟩
  cases c with
  | sg s =>
    obtain ⟨rfl, _⟩ := h
    exact ⟨rfl, fun _ _ => rfl⟩
  | cp b u =>
    obtain ⟨rfl, h1, _⟩ := h
    exact ⟨by show max 1 u = u; omega, fun s e => nomatch e⟩
theorem Gr.tl {x : List Int} : ∀ {p : List Pc} {a : Nat}, Gr x a p → Tl x a p
  | [], _, h => h
  | _ :: _, _, h => ⟨h.1.tells, Gr.tl h.2⟩
theorem Tl.le {x : List Int} : ∀ {p : List Pc} {a : Nat}, Tl x a p → a ≤ x.length
  | [], a, h => Nat.le_of_eq h
  | c :: _, a, h => by
    have := h.1.pos
    omega
theorem Tl.size {x : List Int} : ∀ {p : List Pc} {a : Nat}, Tl x a p → a + sizes p = x.length
  | [], a, h => h
  | c :: r, a, h => by
    have := Tl.size h.2
    simp only [sizes]
    omega
theorem Tl.len {x : List Int} : ∀ {p : List Pc} {a : Nat}, Tl x a p → a + p.length ≤ x.length
  | [], a, h => Nat.le_of_eq h
  | c :: r, a, h => by
    have h1 := Tl.len h.2
    have h2 := h.1.pos
    simp only [List.length_cons]
    omega
/-- a greedy telling is as short as any -/
theorem short {x : List Int} : ∀ {p q : List Pc} {a a' : Nat}, Tl x a p → Gr x a' q → a ≤ a' → q.length ≤ p.length
  | _, [], _, _, _, _, _ => Nat.zero_le _
  | [], g :: gs, a, a', h, k, l => by
    have e : a = x.length := h
    have := k.1.tells.pos
    omega
  | c :: r, g :: gs, a, a', h, k, l => by
    have key : a + c.size ≤ a' + g.size := by
      have hg := k.1.tells.pos
      by_cases hlt : a + c.size ≤ a'
      · omega
      · cases c with
        | sg s =>
          have : (Pc.sg s).size = 1 := rfl
          omega
        | cp b t =>
          obtain ⟨h1, h2, h3, h4, h5⟩ := h.1
          have es : (Pc.cp b t).size = t := rfl
          rw [es] at hlt ⊢
          obtain ⟨u, lu, eu, _⟩ := k.1.lg
          have m : Mt x (a' - b) a' (a + t - a') := by
            refine ⟨by omega, fun i hi => ?_⟩
            have := h5 (a' - a + i) (by omega)
            rw [show a - b + (a' - a + i) = a' - b + i by omega, show a + (a' - a + i) = a' + i by omega] at this
            exact this
          have := lu.2 (a' - b) _ (by omega) m
          omega
    have ih := short h.2 k.2 key
    simp only [List.length_cons]
    omega
theorem Gr.same {x : List Int} {p q : List Pc} {a : Nat} (h : Gr x a p) (k : Gr x a q) : p.length = q.length :=
  Nat.le_antisymm (short k.tl h (Nat.le_refl _)) (short h.tl k (Nat.le_refl _))
theorem isL_len {x : List Int} : ∀ {p q : List Pc} {a : Nat}, Tl x a p → IsL x a p → Gr x a q → p.length ≤ q.length
  | [], _, _, _, _, _ => Nat.zero_le _
  | c :: r, [], a, h, _, k => by
    have e : a = x.length := k
    have := h.1.pos
    omega
  | [_], _ :: _, _, _, _, _ => by simp
  | c :: d :: r, g :: gs, a, h, l, k => by
    obtain ⟨⟨t, l1, l2, _⟩, l3⟩ := l
    obtain ⟨u, m1, m2, _⟩ := k.1.lg
    have e : t = u := l1.unique m1
    have es : c.size = g.size := by omega
    have ih := isL_len h.2 l3 (es ▸ k.2)
    simp only [List.length_cons] at ih ⊢
    omega
theorem Gr.isL {x : List Int} : ∀ {p : List Pc} {a : Nat}, Gr x a p → IsL x a p
  | [], _, _ => trivial
  | [_], _, _ => trivial
  | _ :: _ :: _, _, h => ⟨h.1.lg, Gr.isL h.2⟩
/-! ### beginnings -/
theorem mt_take {x : List Int} {m j a t : Nat} (hj : j < a) (hm : m ≤ x.length) : Mt (x.take m) j a t ↔ Mt x j a t ∧ a + t ≤ m := by
  have el : (x.take m).length = m := by rw [List.length_take]; omega
  unfold Mt
  rw [el]
  constructor
  · rintro ⟨h1, h2⟩
    refine ⟨⟨by omega, fun i hi => ?_⟩, h1⟩
    have := h2 i hi
    rw [List.getElem?_take_of_lt (by omega), List.getElem?_take_of_lt (by omega)] at this
    exact this
  · rintro ⟨⟨h1, h2⟩, h3⟩
    refine ⟨h3, fun i hi => ?_⟩
    rw [List.getElem?_take_of_lt (by omega), List.getElem?_take_of_lt (by omega)]
    exact h2 i hi
theorem lg_take {x : List Int} {m a t : Nat} (h : Lg x a t) (h1 : a + max 1 t ≤ m) (h2 : m ≤ x.length) : Lg (x.take m) a t := by
  refine ⟨fun ht => ?_, fun j t' hj k => ?_⟩
  · obtain ⟨j, hj, k⟩ := h.1 ht
    exact ⟨j, hj, (mt_take hj h2).mpr ⟨k, by omega⟩⟩
  · exact h.2 j t' hj ((mt_take hj h2).mp k).1
theorem best_take {x : List Int} {m a : Nat} {c : Pc} (h : Best x a c) (h1 : a + c.size ≤ m) (h2 : m ≤ x.length) : Best (x.take m) a c := by
  obtain ⟨t, l, h⟩ := h
  cases c with
  | sg s =>
    obtain ⟨rfl, e⟩ := h
    have h1' : a + 1 ≤ m := h1
    refine ⟨0, lg_take l (by omega) h2, rfl, ?_⟩
    rw [List.getElem?_take_of_lt (by omega)]
    exact e
  | cp b u =>
    obtain ⟨rfl, k1, k2, k3, k4⟩ := h
    have h1' : a + u ≤ m := h1
    exact ⟨u, lg_take l (by omega) h2, rfl, k1, k2, k3, (mt_take (by omega) h2).mpr ⟨k4, h1'⟩⟩
theorem Gr.head {x : List Int} {m : Nat} (hm : m ≤ x.length) : ∀ {p : List Pc} {a k : Nat}, Gr x a p → a + sizes (p.take k) = m → Gr (x.take m) a (p.take k)
  | [], a, k, h, e => by
    simp only [List.take_nil, sizes] at e ⊢
    show a = (x.take m).length
    rw [List.length_take]
    omega
  | c :: r, a, 0, h, e => by
    simp only [List.take_zero, sizes] at e ⊢
    show a = (x.take m).length
    rw [List.length_take]
    omega
  | c :: r, a, k + 1, h, e => by
    simp only [List.take_succ_cons, sizes] at e ⊢
    exact ⟨best_take h.1 (by omega) hm, Gr.head hm h.2 (by omega)⟩
theorem sizes_take : ∀ (p : List Pc) (k : Nat), sizes (p.take k) ≤ sizes p
  | [], _ => by simp
  | _ :: _, 0 => Nat.zero_le _
  | c :: r, k + 1 => by
    simp only [List.take_succ_cons, sizes]
    have := sizes_take r k
    omega
/-! ### what a telling leads to -/
def cpy (acc : List Int) (b : Nat) : Nat → List Int
  | 0 => acc
  | t + 1 => cpy acc b t ++ [(cpy acc b t).getD (acc.length + t - b) 0]
def put (acc : List Int) : Pc → List Int
  | .sg s => acc ++ [s]
  | .cp b t => cpy acc b t
def expand (p : List Pc) (acc : List Int) : List Int := p.foldl put acc
theorem cpy_length (acc : List Int) (b : Nat) : ∀ t, (cpy acc b t).length = acc.length + t
  | 0 => rfl
  | t + 1 => by
    simp only [cpy, List.length_append, cpy_length acc b t, List.length_cons, List.length_nil]
    omega
theorem put_length (acc : List Int) : ∀ c : Pc, (put acc c).length = acc.length + c.size
  | .sg s => by simp [put, Pc.size]
  | .cp b t => cpy_length acc b t
theorem expand_length : ∀ (p : List Pc) (acc : List Int), (expand p acc).length = acc.length + sizes p
  | [], acc => rfl
  | c :: r, acc => by
    show (expand r (put acc c)).length = _
    rw [expand_length r, put_length]
    simp only [sizes]
    omega
theorem take_more {α : Type} : ∀ {l : List α} {i : Nat} {x : α}, l[i]? = some x → l.take (i + 1) = l.take i ++ [x]
  | [], i, x, h => by simp at h
  | a :: l, 0, x, h => by
    have e : a = x := Option.some.inj h
    subst e
    rfl
  | a :: l, i + 1, x, h => by
    have ih := take_more (l := l) (i := i) (x := x) h
    show a :: l.take (i + 1) = a :: l.take i ++ [x]
    rw [ih]
    rfl
theorem expand_snoc {p : List Pc} {i : Nat} {c : Pc} (acc : List Int) (h : p[i]? = some c) : expand (p.take (i + 1)) acc = put (expand (p.take i) acc) c := by
  unfold expand
  rw [take_more h, List.foldl_append]
  rfl
theorem cpy_take {x : List Int} {a b : Nat} (hb : 1 ≤ b) (hba : b ≤ a) : ∀ {t : Nat}, Mt x (a - b) a t → cpy (x.take a) b t = x.take (a + t)
  | 0, _ => rfl
  | t + 1, h => by
    have h1 : Mt x (a - b) a t := ⟨by have := h.1; omega, fun i hi => h.2 i (by omega)⟩
    have hl := h.1
    show cpy (x.take a) b t ++ [(cpy (x.take a) b t).getD ((x.take a).length + t - b) 0] = _
    rw [cpy_take hb hba h1]
    have e1 : (x.take a).length = a := by rw [List.length_take]; omega
    have hx : a + t < x.length := by omega
    have e2 := h.2 t (by omega)
    rw [List.getElem?_eq_getElem hx] at e2
    have e3 : (x.take (a + t)).getD (a + t - b) 0 = x[a + t] := by
      rw [List.getD_eq_getElem?_getD, List.getElem?_take_of_lt (by omega), show a + t - b = a - b + t by omega, e2]
      rfl
    rw [e1, e3]
    exact (take_more (List.getElem?_eq_getElem hx)).symm
theorem put_take {x : List Int} {a : Nat} {c : Pc} (h : Tells x a c) : put (x.take a) c = x.take (a + c.size) := by
  cases c with
  | sg s =>
    show x.take a ++ [s] = x.take (a + 1)
    exact (take_more h).symm
  | cp b t =>
    obtain ⟨h1, h2, h3, h4⟩ := h
    exact cpy_take h1 h2 h4
theorem Tl.leads {x : List Int} : ∀ {p : List Pc} {a : Nat}, Tl x a p → expand p (x.take a) = x
  | [], a, h => by
    have e : a = x.length := h
    show x.take a = x
    rw [e, List.take_length]
  | c :: r, a, h => by
    show expand r (put (x.take a) c) = x
    rw [put_take h.1]
    exact Tl.leads h.2
/-- behind the first k pieces -/
theorem Tl.leadsTo {x : List Int} : ∀ {p : List Pc} {a k : Nat}, Tl x a p → expand (p.take k) (x.take a) = x.take (a + sizes (p.take k))
  | [], a, k, h => by simp [expand, sizes]
  | c :: r, a, 0, h => by simp [expand, sizes]
  | c :: r, a, k + 1, h => by
    simp only [List.take_succ_cons, sizes]
    show expand (r.take k) (put (x.take a) c) = _
    rw [put_take h.1, Tl.leadsTo h.2]
    congr 1
    omega
/-- what may stand behind n signs: signs from 0 to 255, copies from no farther back than there are signs; at most 400 in all -/
def Vd : Nat → List Pc → Prop
  | n, [] => n ≤ 400
  | n, .sg s :: r => (0 ≤ s ∧ s < 256) ∧ Vd (n + 1) r
  | n, .cp b t :: r => (1 ≤ b ∧ b ≤ n ∧ 1 ≤ t) ∧ Vd (n + t) r
theorem Vd.size : ∀ {p : List Pc} {n : Nat}, Vd n p → n + sizes p ≤ 400
  | [], _, h => h
  | .sg _ :: _, _, h => by
    have := Vd.size h.2
    simp only [sizes, Pc.size]
    omega
  | .cp _ _ :: _, _, h => by
    have := Vd.size h.2
    simp only [sizes, Pc.size]
    omega
/-- one piece is one -/
def PcOk : Pc → Prop
  | .sg s => 0 ≤ s ∧ s < 256
  | .cp b t => 1 ≤ b ∧ 1 ≤ t
/-- one piece behind n signs -/
def V1 (n : Nat) : Pc → Prop
  | .sg s => 0 ≤ s ∧ s < 256
  | .cp b t => 1 ≤ b ∧ b ≤ n ∧ 1 ≤ t
theorem V1.ok {n : Nat} {c : Pc} (h : V1 n c) : PcOk c := by
  cases c with
  | sg s => exact h
  | cp b t => exact ⟨h.1, h.2.2⟩
theorem Vd.cons {n : Nat} {c : Pc} {r : List Pc} : Vd n (c :: r) ↔ V1 n c ∧ Vd (n + c.size) r := by
  cases c <;> exact Iff.rfl
theorem Vd.at : ∀ {p : List Pc} {n i : Nat} {c : Pc}, Vd n p → p[i]? = some c → V1 (n + sizes (p.take i)) c ∧ n + sizes (p.take i) + c.size ≤ 400
  | [], _, _, _, _, e => by simp at e
  | d :: r, n, 0, c, h, e => by
    have e : d = c := Option.some.inj e
    subst e
    have h2 := Vd.cons.mp h
    have := Vd.size h2.2
    simp only [List.take_zero, sizes, Nat.add_zero]
    exact ⟨h2.1, by omega⟩
  | d :: r, n, i + 1, c, h, e => by
    have h2 := Vd.cons.mp h
    have := Vd.at (i := i) (c := c) h2.2 e
    simp only [List.take_succ_cons, sizes]
    rw [show n + (d.size + sizes (r.take i)) = n + d.size + sizes (r.take i) by omega]
    exact this
theorem Vd.ok : ∀ {p : List Pc} {n : Nat}, Vd n p → ∀ c ∈ p, PcOk c
  | [], _, _, _, h => by simp at h
  | d :: r, n, h, c, hc => by
    have h2 := Vd.cons.mp h
    rcases List.mem_cons.mp hc with e | e
    · subst e
      exact h2.1.ok
    · exact Vd.ok h2.2 c e
theorem Vd.take : ∀ {p : List Pc} {n : Nat} (k : Nat), Vd n p → Vd n (p.take k)
  | [], _, _, h => by simpa using h
  | d :: r, n, 0, h => by
    have := Vd.size h
    show n ≤ 400
    omega
  | d :: r, n, k + 1, h => by
    have h2 := Vd.cons.mp h
    exact Vd.cons.mpr ⟨h2.1, Vd.take k h2.2⟩
theorem Vd.snoc : ∀ {p : List Pc} {n : Nat} {c : Pc}, Vd n p → V1 (n + sizes p) c → n + sizes p + c.size ≤ 400 → Vd n (p ++ [c])
  | [], n, c, h, h1, h2 => Vd.cons.mpr ⟨by simpa [sizes] using h1, show n + c.size ≤ 400 by simpa [sizes] using h2⟩
  | d :: r, n, c, h, h1, h2 => by
    have h3 := Vd.cons.mp h
    simp only [sizes] at h1 h2
    exact Vd.cons.mpr ⟨h3.1, Vd.snoc h3.2 (by rw [Nat.add_assoc]; exact h1) (by omega)⟩
/-- signs from 0 to 255, at most 400 -/
def Txt (x : List Int) : Prop := x.length ≤ 400 ∧ ∀ s ∈ x, 0 ≤ s ∧ s < 256
theorem Tl.vd {x : List Int} (hx : Txt x) : ∀ {p : List Pc} {a : Nat}, Tl x a p → Vd a p
  | [], a, h => by
    have e : a = x.length := h
    have := hx.1
    show a ≤ 400
    omega
  | c :: r, a, h => by
    refine Vd.cons.mpr ⟨?_, Tl.vd hx h.2⟩
    cases c with
    | sg s =>
      have e : x[a]? = some s := h.1
      exact hx.2 s (List.mem_of_getElem? e)
    | cp b t => exact ⟨h.1.1, h.1.2.1, h.1.2.2.1⟩
theorem Txt.take {x : List Int} (h : Txt x) (k : Nat) : Txt (x.take k) :=
  ⟨by rw [List.length_take]; have := h.1; omega, fun s hs => h.2 s (List.mem_of_mem_take hs)⟩
/-- copies put on signs -/
theorem cpy_pre (acc : List Int) (b : Nat) : ∀ (t : Nat) {i : Nat}, i < acc.length → (cpy acc b t)[i]? = acc[i]?
  | 0, _, _ => rfl
  | t + 1, i, h => by
    show (cpy acc b t ++ [_])[i]? = _
    rw [List.getElem?_append_left (by rw [cpy_length]; omega)]
    exact cpy_pre acc b t h
theorem put_pre (acc : List Int) (c : Pc) {i : Nat} (h : i < acc.length) : (put acc c)[i]? = acc[i]? := by
  cases c with
  | sg s => exact List.getElem?_append_left h
  | cp b t => exact cpy_pre acc b t h
theorem expand_pre : ∀ (p : List Pc) (acc : List Int) {i : Nat}, i < acc.length → (expand p acc)[i]? = acc[i]?
  | [], _, _, _ => rfl
  | c :: r, acc, i, h => by
    show (expand r (put acc c))[i]? = _
    rw [expand_pre r (put acc c) (by rw [put_length]; omega), put_pre acc c h]
theorem cpy_at (acc : List Int) {b : Nat} (hb : 1 ≤ b) (hba : b ≤ acc.length) : ∀ (t i : Nat), i < t → (cpy acc b t)[acc.length - b + i]? = (cpy acc b t)[acc.length + i]?
  | 0, _, h => by omega
  | t + 1, i, h => by
    have el := cpy_length acc b t
    by_cases hi : i < t
    · show (cpy acc b t ++ [_])[acc.length - b + i]? = (cpy acc b t ++ [_])[acc.length + i]?
      rw [List.getElem?_append_left (by omega), List.getElem?_append_left (by omega)]
      exact cpy_at acc hb hba t i hi
    · have e : i = t := by omega
      subst e
      show (cpy acc b i ++ [(cpy acc b i).getD (acc.length + i - b) 0])[acc.length - b + i]? = (cpy acc b i ++ [(cpy acc b i).getD (acc.length + i - b) 0])[acc.length + i]?
      rw [List.getElem?_append_left (by omega), List.getElem?_append_right (by omega), el, Nat.sub_self]
      have hlt : acc.length - b + i < (cpy acc b i).length := by omega
      rw [show acc.length + i - b = acc.length - b + i by omega, List.getD_eq_getElem?_getD, List.getElem?_eq_getElem hlt]
      rfl
/-- a telling tells the text to which it leads -/
theorem tl_expand : ∀ (p : List Pc) (acc : List Int), Vd acc.length p → Tl (expand p acc) acc.length p
  | [], acc, _ => rfl
  | c :: r, acc, h => by
    have h2 := Vd.cons.mp h
    refine ⟨?_, ?_⟩
    · cases c with
      | sg s =>
        show (expand r (acc ++ [s]))[acc.length]? = some s
        rw [expand_pre r (acc ++ [s]) (by simp)]
        simp
      | cp b t =>
        obtain ⟨k1, k2, k3⟩ := h2.1
        refine ⟨k1, k2, k3, ?_, fun i hi => ?_⟩
        · show acc.length + t ≤ (expand r (cpy acc b t)).length
          rw [expand_length, cpy_length]
          omega
        · show (expand r (cpy acc b t))[acc.length - b + i]? = (expand r (cpy acc b t))[acc.length + i]?
          rw [expand_pre r _ (by rw [cpy_length]; omega), expand_pre r _ (by rw [cpy_length]; omega)]
          exact cpy_at acc k1 k2 t i hi
    · have e := put_length acc c
      show Tl (expand r (put acc c)) (acc.length + c.size) r
      rw [← e]
      exact tl_expand r (put acc c) (by rw [e]; exact h2.2)
theorem cpy_all {P : Int → Prop} (acc : List Int) (b : Nat) (hb : 1 ≤ b) (hba : b ≤ acc.length) (h : ∀ s ∈ acc, P s) : ∀ t, ∀ s ∈ cpy acc b t, P s
  | 0 => h
  | t + 1 => by
    intro s hs
    have hs : s ∈ cpy acc b t ++ [(cpy acc b t).getD (acc.length + t - b) 0] := hs
    rcases List.mem_append.mp hs with e | e
    · exact cpy_all acc b hb hba h t s e
    · have e : s = (cpy acc b t).getD (acc.length + t - b) 0 := by simpa using e
      have hlt : acc.length + t - b < (cpy acc b t).length := by rw [cpy_length]; omega
      rw [List.getD_eq_getElem?_getD, List.getElem?_eq_getElem hlt] at e
      have e : s = (cpy acc b t)[acc.length + t - b] := e
      rw [e]
      exact cpy_all acc b hb hba h t _ (List.getElem_mem hlt)
theorem expand_all {P : Int → Prop} (hP : ∀ s, 0 ≤ s → s < 256 → P s) : ∀ (p : List Pc) (acc : List Int), Vd acc.length p → (∀ s ∈ acc, P s) → ∀ s ∈ expand p acc, P s
  | [], _, _, h => h
  | c :: r, acc, v, h => by
    have h2 := Vd.cons.mp v
    show ∀ s ∈ expand r (put acc c), P s
    refine expand_all hP r (put acc c) (by rw [put_length]; exact h2.2) ?_
    cases c with
    | sg s =>
      intro z hz
      rcases List.mem_append.mp (show z ∈ acc ++ [s] from hz) with e | e
      · exact h z e
      · have e : z = s := by simpa using e
        subst e
        exact hP z h2.1.1 h2.1.2
    | cp b t => exact cpy_all acc b h2.1.1 h2.1.2.1 h t
theorem txt_expand {p : List Pc} (h : Vd 0 p) : Txt (expand p []) :=
  ⟨by rw [expand_length]; have := h.size; simpa using this, expand_all (fun _ a b => ⟨a, b⟩) p [] h (fun _ hs => by simp at hs)⟩
/-! ### long texts that come again and again -/
structure Again (x : List Int) (p : Nat) : Prop where
  p1 : 1 ≤ p
  p5 : p ≤ 5
  long : 200 ≤ x.length
  per : ∀ i, i + p < x.length → x[i + p]? = x[i]?
theorem Again.mt {x : List Int} {p j a t : Nat} (h : Again x p) (hj : j < a) (ha : a ≤ x.length) (m : Mt x j a t) (ht : p ≤ t) : Mt x j a (x.length - a) := by
  refine ⟨by omega, fun i => ?_⟩
  induction i using Nat.strongRecOn with
  | ind i ih =>
    intro hi
    by_cases hlt : i < t
    · exact m.2 i hlt
    · have p1 := h.p1
      have e := ih (i - p) (by omega) (by omega)
      have e1 := h.per (j + (i - p)) (by omega)
      have e2 := h.per (a + (i - p)) (by omega)
      rw [show j + (i - p) + p = j + i by omega] at e1
      rw [show a + (i - p) + p = a + i by omega] at e2
      rw [e1, e2]
      exact e
theorem Again.back {x : List Int} {p a : Nat} (h : Again x p) (ha : a ≤ x.length) (hp : p ≤ a) : Mt x (a - p) a (x.length - a) := by
  refine ⟨by omega, fun i hi => ?_⟩
  have := h.per (a - p + i) (by omega)
  rw [show a - p + i + p = a + i by omega] at this
  exact this.symm
/-- the last of the longest pieces is a copy of at least two signs -/
theorem Again.last {x : List Int} {p : Nat} (h : Again x p) : ∀ {q : List Pc} {a : Nat}, Gr x a q → a ≤ 9 → ∃ r b t, q = r ++ [.cp b t] ∧ 2 ≤ t
  | [], a, g, ha => by
    have e : a = x.length := g
    have := h.long
    omega
  | [c], a, g, ha => by
    have e : a + c.size = x.length := g.2
    have := h.long
    cases c with
    | sg s =>
      have : (Pc.sg s).size = 1 := rfl
      omega
    | cp b t =>
      have : (Pc.cp b t).size = t := rfl
      exact ⟨[], b, t, rfl, by omega⟩
  | c :: d :: r, a, g, ha => by
    have h5 := h.p5
    have hl := h.long
    have hd := g.2.1.tells.pos
    obtain ⟨t, l, et, _⟩ := g.1.lg
    have key : a + c.size ≤ 9 := by
      by_cases hp : p ≤ a
      · have := l.2 (a - p) _ (by have := h.p1; omega) (h.back (by omega) hp)
        omega
      · by_cases h6 : t ≤ 5
        · omega
        · obtain ⟨j, hj, m⟩ := l.1 (by omega)
          have := l.2 j _ hj (h.mt hj (by omega) m (by omega))
          omega
    obtain ⟨r', b, t', e, ht⟩ := Again.last h g.2 key
    exact ⟨c :: r', b, t', by rw [e]; rfl, ht⟩
/-- the last one parted -/
theorem parted_tl {x : List Int} {b t c : Nat} (h1 : 1 ≤ c) (h2 : c < t) : ∀ {r : List Pc} {a : Nat}, Tl x a (r ++ [.cp b t]) → Tl x a (r ++ [.cp b c, .cp b (t - c)])
  | [], a, h => by
    obtain ⟨⟨k1, k2, k3, k4, k5⟩, e⟩ := h
    have e : a + t = x.length := e
    refine ⟨⟨k1, k2, h1, by omega, fun i hi => k5 i (by omega)⟩, ⟨k1, ?_, by omega, ?_, fun i hi => ?_⟩, ?_⟩
    · show b ≤ a + c
      omega
    · show a + c + (t - c) ≤ x.length
      omega
    · show x[a + c - b + i]? = x[a + c + i]?
      have := k5 (c + i) (by omega)
      rw [show a - b + (c + i) = a + c - b + i by omega, show a + (c + i) = a + c + i by omega] at this
      exact this
    · show a + c + (t - c) = x.length
      omega
  | _ :: _, _, h => ⟨h.1, parted_tl h1 h2 h.2⟩
theorem parted_not {x : List Int} {b t c : Nat} (h1 : 1 ≤ c) (h2 : c < t) : ∀ {r : List Pc} {a : Nat}, Gr x a (r ++ [.cp b t]) → ¬ IsL x a (r ++ [.cp b c, .cp b (t - c)])
  | [], a, g, l => by
    obtain ⟨⟨u, l1, l2, _⟩, _⟩ := l
    obtain ⟨v, m1, m2, _⟩ := g.1.lg
    have e := l1.unique m1
    have e1 : (Pc.cp b c).size = c := rfl
    have e2 : (Pc.cp b t).size = t := rfl
    omega
  | [d], a, g, l => parted_not h1 h2 (r := []) g.2 l.2
  | d :: d' :: r, a, g, l => parted_not h1 h2 (r := d' :: r) g.2 l.2
theorem flat_length (w : List Int) : ∀ k : Nat, (List.replicate k w).flatten.length = k * w.length
  | 0 => by simp
  | k + 1 => by
    rw [List.replicate_succ, List.flatten_cons, List.length_append, flat_length w k, Nat.succ_mul, Nat.add_comm]
theorem flat_snoc (w : List Int) : ∀ k : Nat, (List.replicate (k + 1) w).flatten = (List.replicate k w).flatten ++ w
  | 0 => by simp
  | k + 1 => by
    have e1 : (List.replicate (k + 1 + 1) w).flatten = w ++ (List.replicate (k + 1) w).flatten := by rw [List.replicate_succ, List.flatten_cons]
    have e2 : (List.replicate (k + 1) w).flatten = w ++ (List.replicate k w).flatten := by rw [List.replicate_succ, List.flatten_cons]
    rw [e1, flat_snoc w k, ← List.append_assoc, ← e2, flat_snoc w k]
theorem again_of {w : List Int} {n : Nat} (h1 : 1 ≤ w.length) (h5 : w.length ≤ 5) (hn : 200 ≤ n) (hn' : n ≤ 400) : Again ((List.replicate 400 w).flatten.take n) w.length ∧ ((List.replicate 400 w).flatten.take n).length = n := by
  have el : ((List.replicate 400 w).flatten.take n).length = n := by
    rw [List.length_take, flat_length]
    have : 400 * 1 ≤ 400 * w.length := Nat.mul_le_mul_left _ h1
    omega
  refine ⟨⟨h1, h5, by omega, fun i hi => ?_⟩, el⟩
  rw [el] at hi
  rw [List.getElem?_take_of_lt hi, List.getElem?_take_of_lt (by omega)]
  have e1 : (List.replicate 400 w).flatten = w ++ (List.replicate 399 w).flatten := by
    rw [show (400 : Nat) = 399 + 1 from rfl, List.replicate_succ, List.flatten_cons]
  have e2 : (List.replicate 400 w).flatten = (List.replicate 399 w).flatten ++ w := flat_snoc w 399
  have e3 : (List.replicate 400 w).flatten[i + w.length]? = (List.replicate 399 w).flatten[i]? := by
    rw [e1, List.getElem?_append_right (by omega), Nat.add_sub_cancel]
  have hl : i < (List.replicate 399 w).flatten.length := by
    rw [flat_length]
    have : 399 * 1 ≤ 399 * w.length := Nat.mul_le_mul_left _ h1
    omega
  rw [e3, e2, List.getElem?_append_left hl]
theorem txt_again {w : List Int} {n : Nat} (hn' : n ≤ 400) (hw : ∀ s ∈ w, 0 ≤ s ∧ s < 256) : Txt ((List.replicate 400 w).flatten.take n) := by
  refine ⟨by rw [List.length_take]; omega, fun s hs => ?_⟩
  have := List.mem_of_mem_take hs
  rw [List.mem_flatten] at this
  obtain ⟨l, hl, h⟩ := this
  rw [List.mem_replicate] at hl
  exact hw s (hl.2 ▸ h)
/-! ### where a copy may begin -/
def agree (x : List Int) (j a t : Nat) : Bool := (List.range t).all fun i => x[j + i]? == x[a + i]?
def sts (x : List Int) (a t : Nat) : List Nat := (List.range a).filter fun j => agree x j a t
theorem agree_iff {x : List Int} {j a t : Nat} : agree x j a t = true ↔ ∀ i, i < t → x[j + i]? = x[a + i]? := by
  unfold agree
  rw [List.all_eq_true]
  constructor
  · intro h i hi
    exact eq_of_beq (h i (List.mem_range.mpr hi))
  · intro h i hi
    rw [h i (List.mem_range.mp hi)]
    exact beq_self_eq_true _
theorem agree_succ (x : List Int) (j a t : Nat) : agree x j a (t + 1) = (agree x j a t && (x[j + t]? == x[a + t]?)) := by
  unfold agree
  rw [List.range_succ, List.all_append]
  simp
theorem agree_one (x : List Int) (j a : Nat) : agree x j a 1 = (x[j]? == x[a]?) := by
  simp [agree]
theorem sts_succ (x : List Int) (a t : Nat) : sts x a (t + 1) = (sts x a t).filter fun j => x[j + t]? == x[a + t]? := by
  unfold sts
  rw [List.filter_filter]
  congr 1
  funext j
  rw [agree_succ, Bool.and_comm]
theorem mem_sts {x : List Int} {a t j : Nat} (h : j ∈ sts x a t) (hl : a + t ≤ x.length) : j < a ∧ Mt x j a t := by
  unfold sts at h
  rw [List.mem_filter, List.mem_range] at h
  exact ⟨h.1, hl, agree_iff.mp h.2⟩
theorem sts_none {x : List Int} {a t : Nat} (h : sts x a (t + 1) = []) {j t' : Nat} (hj : j < a) (m : Mt x j a t') : t' ≤ t := by
  by_cases hlt : t' ≤ t
  · exact hlt
  · have : j ∈ sts x a (t + 1) := by
      unfold sts
      rw [List.mem_filter, List.mem_range]
      exact ⟨hj, agree_iff.mpr fun i hi => m.2 i (by omega)⟩
    rw [h] at this
    simp at this
theorem lg_none {x : List Int} {a : Nat} (h : sts x a 1 = []) : Lg x a 0 := ⟨fun z => absurd z (by omega), fun _ _ hj m => sts_none h hj m⟩
theorem lg_some {x : List Int} {a t j : Nat} (hj : j ∈ sts x a t) (hl : a + t ≤ x.length) (h : a + t = x.length ∨ sts x a (t + 1) = []) : Lg x a t := by
  obtain ⟨j1, m⟩ := mem_sts hj hl
  refine ⟨fun _ => ⟨j, j1, m⟩, fun i t' hi k => ?_⟩
  rcases h with h | h
  · have := k.1
    omega
  · exact sts_none h hi k
theorem sts_len (x : List Int) (a t : Nat) : (sts x a t).length ≤ a := by
  unfold sts
  have := List.length_filter_le (fun j => agree x j a t) (List.range a)
  rw [List.length_range] at this
  exact this
theorem last_of {l : List Nat} (h : l ≠ []) : ∃ j, l[l.length - 1]? = some j ∧ j ∈ l := by
  have hl : 0 < l.length := List.length_pos_iff.mpr h
  exact ⟨l[l.length - 1], List.getElem?_eq_getElem (by omega), List.getElem_mem _⟩
/-- whole numbers of places -/
def nv (l : List Nat) : List Int := l.map fun (j : Nat) => (j : Int)
theorem nv_nil {l : List Nat} (h : nv l = []) : l = [] := by
  cases l with
  | nil => rfl
  | cons a r => simp [nv] at h
theorem nv_snoc (l : List Nat) (j : Nat) : nv l ++ [(j : Int)] = nv (l ++ [j]) := by
  unfold nv
  rw [List.map_append]
  rfl
theorem nv_at {l : List Nat} {i j : Nat} (h : l[i]? = some j) : (nv l)[i]? = some (j : Int) := by
  unfold nv
  rw [List.getElem?_map, h]
  rfl
theorem nv_of {l : List Nat} {i : Nat} {z : Int} (h : (nv l)[i]? = some z) : ∃ j, l[i]? = some j ∧ z = (j : Int) := by
  unfold nv at h
  rw [List.getElem?_map] at h
  cases e : l[i]? with
  | none =>
    rw [e] at h
    cases h
  | some j =>
    rw [e] at h
    exact ⟨j, rfl, (Option.some.inj h).symm⟩
theorem nv_len (l : List Nat) : (nv l).length = l.length := by
  unfold nv
  rw [List.length_map]
theorem filter_t {p : Nat → Bool} {l : List Nat} {j : Nat} (h : p j = true) : (l ++ [j]).filter p = l.filter p ++ [j] := by
  rw [List.filter_append, List.filter_cons, if_pos h]
  rfl
theorem filter_f {p : Nat → Bool} {l : List Nat} {j : Nat} (h : p j = false) : (l ++ [j]).filter p = l.filter p := by
  rw [List.filter_append, List.filter_cons, if_neg (by rw [h]; exact Bool.false_ne_true)]
  simp
end K34

/-! K34Base: the text by places, what the top has, heaps, data compared. -/
namespace K34
open PySem PySem.Spec PyProof.Rows L2
/-! ### the text -/
def top (i : Nat) : Stmt := PySem.Challenge.pw_packhall_k34_whole_told_and_back.main.body.getD i (.Pass ⟨0, 0, 0, 0⟩)
abbrev sWhole : Stmt := top 7
abbrev sPiece : Stmt := top 8
abbrev sSize : Stmt := top 9
abbrev sText : Stmt := top 10
abbrev sLong : Stmt := top 11
abbrev sCopies : Stmt := top 12
abbrev sTells : Stmt := top 13
abbrev sIs : Stmt := top 14
abbrev sCell : Stmt := top 16
abbrev sStir : Stmt := top 17
abbrev sMade : Stmt := top 18
abbrev sReach : Stmt := top 19
abbrev sLst : Stmt := top 20
abbrev sLng : Stmt := top 21
abbrev sLaw : Stmt := top 22
theorem scWhole : FnScope ["thing"] ["thing"] (defScope sWhole) := ⟨rfl, rfl, rfl, by decide +kernel, rfl, by decide +kernel, by decide +kernel⟩
theorem scPiece : FnScope ["piece", "number"] ["piece"] (defScope sPiece) := ⟨rfl, rfl, rfl, by decide +kernel, rfl, by decide +kernel, by decide +kernel⟩
theorem scSize : FnScope ["piece"] ["piece"] (defScope sSize) := ⟨rfl, rfl, rfl, by decide +kernel, rfl, by decide +kernel, by decide +kernel⟩
theorem scText : FnScope ["telling", "found", "piece", "k"] ["telling"] (defScope sText) := ⟨rfl, rfl, rfl, by decide +kernel, rfl, by decide +kernel, by decide +kernel⟩
theorem scLong : FnScope ["text", "at", "starts", "times", "more", "k"] ["text", "at"] (defScope sLong) := ⟨rfl, rfl, rfl, by decide +kernel, rfl, by decide +kernel, by decide +kernel⟩
theorem scCopies : FnScope ["text", "found", "at", "back", "times"] ["text"] (defScope sCopies) := ⟨rfl, rfl, rfl, by decide +kernel, rfl, by decide +kernel, by decide +kernel⟩
theorem scTells : FnScope ["text", "at", "piece"] ["text", "at", "piece"] (defScope sTells) := ⟨rfl, rfl, rfl, by decide +kernel, rfl, by decide +kernel, by decide +kernel⟩
theorem scIs : FnScope ["text", "telling", "piece", "at", "number", "times"] ["text", "telling"] (defScope sIs) := ⟨rfl, rfl, rfl, by decide +kernel, rfl, by decide +kernel, by decide +kernel⟩
theorem scCell : FnScope ["script", "k"] ["script", "k"] (defScope sCell) := ⟨rfl, rfl, rfl, by decide +kernel, rfl, by decide +kernel, by decide +kernel⟩
theorem scStir : FnScope ["cell", "k", "number"] ["cell", "k"] (defScope sStir) := ⟨rfl, rfl, rfl, by decide +kernel, rfl, by decide +kernel, by decide +kernel⟩
theorem scMade : FnScope ["script", "first", "base", "telling", "many", "cell", "k", "number", "piece", "size"] ["script"] (defScope sMade) := ⟨rfl, rfl, rfl, by decide +kernel, rfl, by decide +kernel, by decide +kernel⟩
theorem scReach : FnScope ["text", "at", "starts", "many", "longer", "k"] ["text", "at"] (defScope sReach) := ⟨rfl, rfl, rfl, by decide +kernel, rfl, by decide +kernel, by decide +kernel⟩
theorem scLst : FnScope ["text", "found", "at", "many", "start"] ["text"] (defScope sLst) := ⟨rfl, rfl, rfl, by decide +kernel, rfl, by decide +kernel, by decide +kernel⟩
theorem scLng : FnScope ["script", "number", "word", "text", "told", "best", "back", "many", "cut", "j"] ["script"] (defScope sLng) := ⟨rfl, rfl, rfl, by decide +kernel, rfl, by decide +kernel, by decide +kernel⟩
theorem scLaw : FnScope ["script", "made", "text", "told", "k", "part"] ["script"] (defScope sLaw) := ⟨rfl, rfl, rfl, by decide +kernel, rfl, by decide +kernel, by decide +kernel⟩
/-- the built-ins are still themselves; the text's three constants -/
structure Bi (mg : Str → Option Value) : Prop where
  len : mg "len" = none
  range : mg "range" = none
  isinstance : mg "isinstance" = none
  all : mg "all" = none
  sum : mg "sum" = none
  max : mg "max" = none
  min : mg "min" = none
  int : mg "int" = none
  list : mg "list" = none
  tuple : mg "tuple" = none
  bool : mg "bool" = none
  enumerate : mg "enumerate" = none
  sign : ∃ t, mg "SIGN" = some (.str "sign" t)
  copy : ∃ t, mg "COPY" = some (.str "copy" t)
  most : ∃ t, mg "MOST" = some (.int 400 t)
theorem ifT {c : Bool} {A B : Prop} (e : c = true) (h : A) : if c = true then A else B := by
  rw [if_pos e]
  exact h
theorem ifF {c : Bool} {A B : Prop} (e : c = false) (h : B) : if c = true then A else B := by
  rw [e]
  exact iteF h
theorem bl_t {c : Bool} (e : c = true) : V.bl c = .bl true := by rw [e]
theorem bl_f {c : Bool} (e : c = false) : V.bl c = .bl false := by rw [e]
theorem q_t {Q : VK} {H : Hp} {c : Bool} (e : c = true) (h : Q (.bl true) H) : Q (.bl c) H := by
  rw [e]
  exact h
theorem q_f {Q : VK} {H : Hp} {c : Bool} (e : c = false) (h : Q (.bl false) H) : Q (.bl c) H := by
  rw [e]
  exact h
/-! ### heaps -/
theorem same_upd {H : Hp} {p : Addr} {o : HO} (h : H p = none) : Same H (upd H p o) := fun b x e => by
  rw [upd_ne (ne_of_none e h)]
  exact e
/-- an object that came behind H may change -/
theorem same_set {H H1 : Hp} {p : Addr} {o : HO} (s : Same H H1) (h : H p = none) : Same H (upd H1 p o) := fun b x e => by
  rw [upd_ne (ne_of_none e h)]
  exact s _ _ e
theorem same_none {H H1 : Hp} {p : Addr} (s : Same H H1) (h : H1 p = none) : H p = none := by
  cases e : H p with
  | none => rfl
  | some o =>
    rw [s p o e] at h
    cases h
theorem same_new {H H1 : Hp} {p : Addr} {o : HO} (s : Same H H1) (h : H1 p = none) : Same H (upd H1 p o) := s.trans (same_upd h)
theorem Same.sqt {K : PySem.W.Frag} {H H' : Hp} {a : Addr} {xs : List V} (e : Same H H') (h : SqT K H a xs) : SqT K H' a xs := h.imp (fun r => r.imp (e _ _) fun ⟨o, k⟩ => ⟨o, e _ _ k⟩) id
theorem tyTup {K : PySem.W.Frag} {H : Hp} {a : Addr} {xs : List V} (h : SqT K H a xs) : TyX K H (.ref a) (.type "tuple") := by
  rcases h with (h | ⟨o, h⟩) | ⟨o, its, n, h, c, _⟩
  · exact .base (.tup h)
  · exact .fTuple h
  · exact .kTuple h c
theorem le_line {n : Nat} (h : n ≤ 100000) : n ≤ sizeLine := Nat.le_trans h (by decide)
theorem lt_line {n : Nat} (h : n ≤ 100000) : n < sizeLine := Nat.lt_of_le_of_lt h (by decide)
/-- a text in the heap -/
abbrev iv (x : List Int) : List V := x.map V.int
theorem iv_at {x : List Int} {i : Nat} {z : Int} (h : x[i]? = some z) : (iv x)[i]? = some (.int z) := by
  rw [List.getElem?_map, h]
  rfl
theorem iv_of {x : List Int} {i : Nat} {v : V} (h : (iv x)[i]? = some v) : ∃ z, x[i]? = some z ∧ v = .int z := by
  rw [List.getElem?_map] at h
  cases e : x[i]? with
  | none =>
    rw [e] at h
    cases h
  | some z =>
    rw [e] at h
    exact ⟨z, rfl, (Option.some.inj h).symm⟩
/-- a piece in the heap -/
def pcV : Pc → List V
  | .sg s => [.str "sign", .int s]
  | .cp b t => [.str "copy", .int b, .int t]
/-- the pieces at addresses -/
def Pcs (K : PySem.W.Frag) (H : Hp) (ps : List Addr) (p : List Pc) : Prop := ps.length = p.length ∧ ∀ (i : Nat) (q : Addr) (c : Pc), ps[i]? = some q → p[i]? = some c → SqT K H q (pcV c)
/-- a telling in the heap -/
def Tel (K : PySem.W.Frag) (H : Hp) (a : Addr) (p : List Pc) : Prop := ∃ ps : List Addr, SqL K H a (ps.map V.ref) ∧ Pcs K H ps p
theorem Pcs.same {K : PySem.W.Frag} {H H' : Hp} {ps : List Addr} {p : List Pc} (s : Same H H') (h : Pcs K H ps p) : Pcs K H' ps p := ⟨h.1, fun i q c e1 e2 => Same.sqt s (h.2 i q c e1 e2)⟩
theorem Tel.same {K : PySem.W.Frag} {H H' : Hp} {a : Addr} {p : List Pc} (s : Same H H') (h : Tel K H a p) : Tel K H' a p := by
  obtain ⟨ps, h1, h2⟩ := h
  exact ⟨ps, s.seq h1, h2.same s⟩
theorem Pcs.nil {K : PySem.W.Frag} {H : Hp} : Pcs K H [] [] := ⟨rfl, fun i q c e => by simp at e⟩
theorem Pcs.snoc {K : PySem.W.Frag} {H : Hp} {ps : List Addr} {p : List Pc} {q : Addr} {c : Pc} (h : Pcs K H ps p) (hq : SqT K H q (pcV c)) : Pcs K H (ps ++ [q]) (p ++ [c]) := by
  refine ⟨by simp [h.1], fun i r d e1 e2 => ?_⟩
  by_cases hi : i < ps.length
  · rw [List.getElem?_append_left hi] at e1
    rw [List.getElem?_append_left (by rw [← h.1]; exact hi)] at e2
    exact h.2 i r d e1 e2
  · rw [List.getElem?_append_right (by omega)] at e1
    rw [List.getElem?_append_right (by rw [← h.1]; omega), ← h.1] at e2
    cases e : i - ps.length with
    | zero =>
      rw [e] at e1 e2
      have e1 : q = r := Option.some.inj e1
      have e2 : c = d := Option.some.inj e2
      subst e1 e2
      exact hq
    | succ j =>
      rw [e] at e1
      simp at e1
theorem Pcs.take {K : PySem.W.Frag} {H : Hp} {ps : List Addr} {p : List Pc} (k : Nat) (h : Pcs K H ps p) : Pcs K H (ps.take k) (p.take k) := by
  refine ⟨by rw [List.length_take, List.length_take, h.1], fun i q c e1 e2 => ?_⟩
  rw [List.getElem?_take] at e1 e2
  by_cases hi : i < k
  · rw [if_pos hi] at e1 e2
    exact h.2 i q c e1 e2
  · rw [if_neg hi] at e1
    cases e1
/-- an item of such a list is the address of its piece -/
theorem Pcs.item {K : PySem.W.Frag} {H : Hp} {ps : List Addr} {p : List Pc} (h : Pcs K H ps p) {i : Nat} {v : V} (e : (ps.map V.ref)[i]? = some v) : ∃ q c, v = .ref q ∧ p[i]? = some c ∧ SqT K H q (pcV c) := by
  rw [List.getElem?_map] at e
  cases e1 : ps[i]? with
  | none =>
    rw [e1] at e
    cases e
  | some q =>
    rw [e1] at e
    have hi : i < p.length := by
      rw [← h.1]
      exact (List.getElem?_eq_some_iff.mp e1).1
    exact ⟨q, p[i], (Option.some.inj e).symm, List.getElem?_eq_getElem hi, h.2 i q _ e1 (List.getElem?_eq_getElem hi)⟩
/-! ### data compared -/
theorem dp_ints {K : PySem.W.Frag} {H : Hp} : ∀ x : List Int, DpAll K H (iv x) (x.map PyData.int)
  | [] => .nil
  | z :: r => .cons (.int z) (dp_ints r)
theorem ints_lay : ∀ x : List Int, PyData.canLayAll0 (x.map PyData.int) = true
  | [] => rfl
  | z :: r => by
    simp only [List.map_cons, PyData.canLayAll0, PyData.canLay0, Bool.true_and]
    exact ints_lay r
theorem ints_depth : ∀ x : List Int, PyData.depthAll (x.map PyData.int) = 0
  | [] => rfl
  | z :: r => by
    simp only [List.map_cons, PyData.depthAll, PyData.depth, ints_depth r]
    rfl
theorem ints_shaped (x : List Int) : SeqAt.shaped (.list (x.map PyData.int)) = true := by
  have h2 : PyData.depth (.list (x.map PyData.int)) ≤ 64 := by
    simp only [PyData.depth, ints_depth]
    omega
  show (PyData.canLay0 (.list (x.map PyData.int)) && decide (PyData.depth (.list (x.map PyData.int)) ≤ 64)) = true
  rw [Bool.and_eq_true]
  exact ⟨by simp only [PyData.canLay0]; exact ints_lay x, decide_eq_true h2⟩
theorem eqvAll_ints : ∀ x y : List Int, PyData.eqvAll (x.map PyData.int) (y.map PyData.int) = decide (x = y)
  | [], [] => rfl
  | [], _ :: _ => rfl
  | _ :: _, [] => rfl
  | a :: r, b :: q => by
    simp only [List.map_cons, PyData.eqvAll, PyData.eqv, eqvAll_ints r q]
    by_cases h : a = b
    · subst h
      simp
    · simp [h]
/-- lists of whole numbers, by == -/
theorem eq_ints {K : PySem.W.Frag} {H : Hp} {a b : Addr} {x y : List Int} {Q : VK} (ha : SqL K H a (iv x)) (hb : SqL K H b (iv y)) (q : Q (.bl (decide (x = y))) H) : rEqD K (.ref a) (.ref b) H Q := by
  refine ⟨_, _, .lst ha (dp_ints x), .lst hb (dp_ints y), ints_shaped x, ints_shaped y, ?_⟩
  have e : PyData.eqv (.list (x.map PyData.int)) (.list (y.map PyData.int)) = decide (x = y) := by rw [PyData.eqv]; exact eqvAll_ints x y
  rw [e]
  exact q
theorem ne_ints {K : PySem.W.Frag} {H : Hp} {a b : Addr} {x y : List Int} {Q : VK} (ha : SqL K H a (iv x)) (hb : SqL K H b (iv y)) (q : Q (.bl (!decide (x = y))) H) : rNeD K (.ref a) (.ref b) H Q := by
  refine ⟨_, _, .lst ha (dp_ints x), .lst hb (dp_ints y), ints_shaped x, ints_shaped y, ?_⟩
  have e : PyData.eqv (.list (x.map PyData.int)) (.list (y.map PyData.int)) = decide (x = y) := by rw [PyData.eqv]; exact eqvAll_ints x y
  rw [e]
  exact q
/-! ### places from the end -/
theorem atI_neg {α : Type} {xs : List α} {b : Nat} {v : α} (h1 : 1 ≤ b) (h2 : b ≤ xs.length) (h : xs[xs.length - b]? = some v) : atI xs (-(b : Int)) = some v := by
  unfold atI ixN
  rw [if_neg (by omega), if_pos (by omega)]
  show xs[(-(b : Int) + (xs.length : Int)).toNat]? = some v
  rw [show (-(b : Int) + (xs.length : Int)).toNat = xs.length - b by omega]
  exact h
/-! ### slices -/
theorem cut_nat (xs : List V) {i j : Nat} (h : j ≤ xs.length) : cutV xs (some (i : Int)) (some (j : Int)) = (xs.take j).drop i := by
  unfold cutV
  rw [HT.sIx_nat, HT.sIx_nat, Nat.min_eq_left h, List.drop_take]
  by_cases hi : i ≤ xs.length
  · rw [Nat.min_eq_left hi]
  · rw [Nat.min_eq_right (by omega), show j - xs.length = 0 by omega, show j - i = 0 by omega, List.take_zero, List.take_zero]
theorem cut_to (xs : List V) {j : Nat} : cutV xs none (some (j : Int)) = xs.take j := by
  unfold cutV
  rw [HT.sIx_nat, HT.sIx_none, List.drop_zero, Nat.sub_zero]
  by_cases h : j ≤ xs.length
  · rw [Nat.min_eq_left h]
  · rw [Nat.min_eq_right (by omega), List.take_length, List.take_of_length_le (by omega)]
theorem cut_from (xs : List V) {i : Nat} (h : i ≤ xs.length) : cutV xs (some (i : Int)) none = xs.drop i := by
  unfold cutV
  rw [HT.sIx_nat, HT.sIx_none, Nat.min_eq_left h, List.take_of_length_le]
  rw [List.length_drop]
  omega
/-! ### calls of built-ins, said shorter -/
theorem bt_int : bootBuiltins "int" = some (.type "int") := by decide +kernel
theorem bt_bool : bootBuiltins "bool" = some (.type "bool") := by decide +kernel
theorem bt_tuple : bootBuiltins "tuple" = some (.type "tuple") := by decide +kernel
theorem bt_list : bootBuiltins "list" = some (.type "list") := by decide +kernel
theorem bt_isinstance : bootBuiltins "isinstance" = some (.builtin "isinstance") := by decide +kernel
theorem bt_all : bootBuiltins "all" = some (.builtin "all") := by decide +kernel
theorem bt_sum : bootBuiltins "sum" = some (.builtin "sum") := by decide +kernel
theorem bt_max : bootBuiltins "max" = some (.builtin "max") := by decide +kernel
theorem bt_min : bootBuiltins "min" = some (.builtin "min") := by decide +kernel
section
variable {X : Cx} {e d : Expr} {te td : TE} {p pos q1 q2 : Pos}
/-- len(e) of a list or a tuple -/
def tLen (K : PySem.W.Frag) (te : TE) : TE := fun σ H Q => te σ H fun x H1 => ∃ a ys, [x] = [V.ref a] ∧ (SqL K H1 a ys ∨ SqT K H1 a ys) ∧ Q (.int (ys.length : Nat)) H1
theorem pe_len (m : X.mg "len" = none) (he : PE X e te) (hg : Gl X "len" := by rfl) (hs : starEach [e] X.env = (false, eval e X.env) :: starEach [] X.env := by rfl) (hpl : (backTo pos (starEach [] X.env)).any (·.1) = false := by rfl) :
    PE X (.Call (.Name "len" p) [e] [] pos) (tLen X.K te) :=
   pe_callB (p := p) (pos := pos) call_len_seq hg m PySem.boot_len (pa_cons he pa_nil hs) (by decide) (by decide) hs hpl
end
end K34

namespace K34
open PySem PySem.Spec PyProof.Rows L2
section
variable {P : Program} {w : World} {K : PySem.W.Frag} {mg : Str → Option Value} {base : Heap}
/-! ### is_whole, is_piece, size_of -/
def spWhole : Sp := fun vs H Q _ => ∃ i : Int, vs = [.int i] ∧ Q (.bl true) H
theorem ok_whole {f : Addr} {fd : FuncData} {k : Nat} (F : Fun K "is_whole" "is_whole" sWhole f fd) (B : Bi mg) : FnOk P w K mg base CX0 (k + 1) f fd ["thing"] spWhole := by
  refine F.ok scWhole (fun vs H Q E h => ?_) (fun cdv A outer s H vs Q E hr h => ?_)
  · obtain ⟨i, rfl, _⟩ := h
    rfl
  · obtain ⟨i, rfl, q⟩ := h
    refine ⟨_, pss_one (ps_ret (pe_and (pe_callB call_isi (by rfl) B.isinstance bt_isinstance (pa_cons (pv 0) (pa_cons (pe_bltn (v := .ty "int") (by rfl) B.int bt_int rfl) pa_nil)))
      (pe_one (pe_not (pe_callB call_isi (by rfl) B.isinstance bt_isinstance (pa_cons (pv 0) (pa_cons (pe_bltn (v := .ty "bool") (by rfl) B.bool bt_bool rfl) pa_nil))))))), ?_⟩
    refine ⟨.int i, rfl, _, _, _, _, true, rfl, .ty _, .base (.int i), kit_ty (by decide +kernel), true, rfl, iteT ?_⟩
    exact ⟨.int i, rfl, _, _, _, _, false, rfl, .ty _, .base (.int i), kit_ty (by decide +kernel), false, rfl, q⟩
def spPiece (K : PySem.W.Frag) : Sp := fun vs H Q _ => ∃ (a : Addr) (c : Pc), vs = [.ref a] ∧ SqT K H a (pcV c) ∧ PcOk c ∧ ∀ H', Same H H' → Q (.bl true) H'
def spSize (K : PySem.W.Frag) : Sp := fun vs H Q _ => ∃ (a : Addr) (c : Pc), vs = [.ref a] ∧ SqT K H a (pcV c) ∧ Q (.int (c.size : Nat)) H
theorem ok_size {f : Addr} {fd : FuncData} {k : Nat} (F : Fun K "size_of" "size_of" sSize f fd) (B : Bi mg) : FnOk P w K mg base CX0 (k + 1) f fd ["piece"] (spSize K) := by
  refine F.ok scSize (fun vs H Q E h => ?_) (fun cdv A outer s H vs Q E hr h => ?_)
  · obtain ⟨a, c, rfl, _⟩ := h
    rfl
  · obtain ⟨a, c, rfl, hT, q⟩ := h
    obtain ⟨ts, hs⟩ := B.sign
    refine ⟨_, pss_cons (ps_if (pt_cmpR op_eq (pe_ix ix_tup (pv 0) pe_int (fun _ _ => rfl)) (pe_glob (v := .str "sign") rfl hs ⟨_, rfl⟩) (nomark _)) (pss_one (ps_ret pe_int)) pss_nil)
      (pss_one (ps_ret (pe_ix ix_tup (pv 0) pe_int (fun _ _ => rfl)))), ?_⟩
    cases c with
    | sg s =>
      refine ⟨.ref a, rfl, a, _, _, _, rfl, rfl, hT, atI_nat (j := 0) rfl, rfl, _, rfl, ?_⟩
      refine ifT (by decide) ?_
      exact q
    | cp b t =>
      refine ⟨.ref a, rfl, a, _, _, _, rfl, rfl, hT, atI_nat (j := 0) rfl, rfl, _, rfl, ?_⟩
      refine ifF (by decide) ?_
      exact ⟨.ref a, rfl, a, _, _, _, rfl, rfl, hT, atI_nat (j := 2) rfl, q⟩
end
end K34

namespace K34
open PySem PySem.Spec PyProof.Rows L2
section
variable {P : Program} {w : World} {K : PySem.W.Frag} {mg : Str → Option Value} {base : Heap}
/-! ### is_piece -/
def pcN : Pc → List Int
  | .sg s => [s]
  | .cp b t => [b, t]
theorem pc_cut (c : Pc) : cutV (pcV c) (some 1) none = iv (pcN c) := by
  cases c with
  | sg s => exact cut_from (pcV (.sg s)) (i := 1) (by simp [pcV])
  | cp b t => exact cut_from (pcV (.cp b t)) (i := 1) (by simp [pcV])
theorem pc_part (c : Pc) : ¬ (HT.sIx (pcV c).length 0 (some 1) = 0 ∧ HT.sIx (pcV c).length (pcV c).length none = (pcV c).length) := by
  cases c with
  | sg s =>
    intro h
    have := h.1
    revert this
    show ¬ (HT.sIx 2 0 (some 1) = 0)
    decide
  | cp b t =>
    intro h
    have := h.1
    revert this
    show ¬ (HT.sIx 3 0 (some 1) = 0)
    decide
theorem ok_piece {f fW : Addr} {fd fdW : FuncData} (F : Fun K "is_piece" "is_piece" sPiece f fd) (B : Bi mg) (FW : Fun K "is_whole" "is_whole" sWhole fW fdW) (bW : Binds K fdW ["thing"] []) (gW : mg "is_whole" = some (.ref fW)) :
    FnOk P w K mg base CX0 2 f fd ["piece"] (spPiece K) := by
  have GW : FnOk P w K mg base CX0 1 fW fdW ["thing"] spWhole := ok_whole FW B
  refine F.ok scPiece (fun vs H Q E h => ?_) (fun cdv A outer s H vs Q E hr h => ?_)
  · obtain ⟨a, c, rfl, _⟩ := h
    rfl
  · obtain ⟨a, c, rfl, hT, hc, q⟩ := h
    obtain ⟨ts, hs⟩ := B.sign
    obtain ⟨tc, hcp⟩ := B.copy
    refine ⟨_, pss_cons (ps_if (PW.pt (pw_or (pt_not (pt_val (pe_callB call_isi (by rfl) B.isinstance bt_isinstance (pa_cons (pv 0) (pa_cons (pe_bltn (v := .ty "tuple") (by rfl) B.tuple bt_tuple rfl) pa_nil)))))
        (pw_or (pt_cmpR op_lt (pe_len B.len (pv 0)) pe_int (nomark _))
        (pw_or1 (pt_not (pt_val (pe_callB (cr_all rfl) (by rfl) B.all bt_all (pa_cons
          (pe_lc (own := [("number", 1)]) (g := gName 1) (tt := tYes) rfl scPiece.nd (pi_tup (pe_slice sl_tup (pv 0) (po_some pe_int) po_none)) (blkOk_by (N := ["piece", "number"]) (sc := defScope sPiece) (by decide +kernel))
            (fun _ _ _ _ _ => pg_name (i := 1) scPiece.nd rfl (Or.inl rfl)) (fun _ _ _ _ _ => pts_nil) (fun _ _ _ _ _ => pe_call GW hr rfl gW FW.kp bW .nil pass0 (pa_cons (pv 1) pa_nil))) pa_nil))))))))
        (pss_one (ps_ret pe_bl)) pss_nil)
      (pss_cons (ps_if (pt_cmpR op_eq (pe_ix ix_tup (pv 0) pe_int (fun _ _ => rfl)) (pe_glob (v := .str "sign") rfl hs ⟨_, rfl⟩) (nomark _))
        (pss_one (ps_ret (pe_and (pe_cmpR op_eq (pe_len B.len (pv 0)) pe_int (nomark _)) (pe_and (pe_cmpR op_ge (pe_ix ix_tup (pv 0) pe_int (fun _ _ => rfl)) pe_int (nomark _)) (pe_one (pe_cmpR op_lt (pe_ix ix_tup (pv 0) pe_int (fun _ _ => rfl)) pe_int (nomark _))))))) pss_nil)
      (pss_one (ps_ret (pe_and (pe_cmpR op_eq (pe_ix ix_tup (pv 0) pe_int (fun _ _ => rfl)) (pe_glob (v := .str "copy") rfl hcp ⟨_, rfl⟩) (nomark _)) (pe_and (pe_cmpR op_eq (pe_len B.len (pv 0)) pe_int (nomark _))
        (pe_and (pe_cmpR op_gt (pe_ix ix_tup (pv 0) pe_int (fun _ _ => rfl)) pe_int (nomark _)) (pe_one (pe_cmpR op_gt (pe_ix ix_tup (pv 0) pe_int (fun _ _ => rfl)) pe_int (nomark _))))))))), ?_⟩
    -- not isinstance(piece, tuple)
    refine ⟨.ref a, rfl, _, _, _, _, true, rfl, .ty _, tyTup hT, kit_ty (by decide +kernel), true, rfl, iteF ?_⟩
    -- len(piece) < 2
    refine ⟨.ref a, rfl, a, _, rfl, .inr hT, _, _, rfl, rfl, _, rfl, ifF (decide_eq_false ?_) ?_⟩
    · cases c <;> (simp [pcV])
    -- not all([..])
    refine ⟨.ref a, rfl, 1, rfl, a, _, rfl, hT, pc_part c, fun p np => ?_⟩
    rw [pc_cut]
    refine ⟨p, rfl, ⟨_, .inl (.inl upd_same)⟩, fun D nD => ?_⟩
    have npD : p ≠ D := fun e => by
      rw [← e, upd_same] at nD
      cases nD
    have sP : Same H (upd H p (.tup (iv (pcN c)))) := same_upd np
    refine lc_tup (K := K) (a := p) (xs := iv (pcN c)) (fun i H' => Same H H' ∧ H' p = some (.tup (iv (pcN c))) ∧ H' D = some (.lst ((List.replicate i true).map V.bl)))
      ⟨same_new sP nD, by rw [upd_ne npD, upd_same], upd_same⟩ (fun i H' _ hP => .inl (.inl hP.2.1)) (fun i x H' hx hP => ?_) (fun H' hP => ?_)
    · obtain ⟨s1, ep, eD⟩ := hP
      obtain ⟨z, hz, rfl⟩ := iv_of hx
      refine ⟨rfl, .int z, rfl, z, rfl, _, eD, lt_line ?_, ?_⟩
      · have := (List.getElem?_eq_some_iff.mp hz).1
        have e : (pcN c).length ≤ 2 := by cases c <;> simp [pcN]
        rw [List.length_map, List.length_replicate]
        omega
      · refine ⟨same_set s1 (same_none sP nD), by rw [upd_ne npD]; exact ep, ?_⟩
        rw [upd_same, List.replicate_succ', List.map_append]
        rfl
    · obtain ⟨s1, ep, eD⟩ := hP
      refine ⟨D, _, rfl, .inl (.inl eD), true, ?_, iteF ?_⟩
      · have : ((List.replicate (iv (pcN c)).length true).all id) = true := by simp
        rw [this]
      · have hT' := Same.sqt s1 hT
        cases c with
        | sg z =>
          refine ⟨.ref a, rfl, a, _, _, _, rfl, rfl, hT', atI_nat (j := 0) rfl, rfl, _, rfl, ifT (by decide) ?_⟩
          refine ⟨.ref a, rfl, a, _, rfl, .inr hT', rfl, true, rfl, iteT ?_⟩
          refine ⟨.ref a, rfl, a, _, _, _, rfl, rfl, hT', atI_nat (j := 1) rfl, _, _, rfl, rfl, true, bl_t (decide_eq_true hc.1), iteT ?_⟩
          refine ⟨.ref a, rfl, a, _, _, _, rfl, rfl, hT', atI_nat (j := 1) rfl, _, _, rfl, rfl, ?_⟩
          exact q_t (Q := Q) (decide_eq_true hc.2) (q _ s1)
        | cp b t =>
          have hb : (0 : Int) < b := by have := hc.1; omega
          have ht : (0 : Int) < t := by have := hc.2; omega
          refine ⟨.ref a, rfl, a, _, _, _, rfl, rfl, hT', atI_nat (j := 0) rfl, rfl, _, rfl, ifF (by decide) ?_⟩
          refine ⟨.ref a, rfl, a, _, _, _, rfl, rfl, hT', atI_nat (j := 0) rfl, rfl, true, rfl, iteT ?_⟩
          refine ⟨.ref a, rfl, a, _, rfl, .inr hT', rfl, true, rfl, iteT ?_⟩
          refine ⟨.ref a, rfl, a, _, _, _, rfl, rfl, hT', atI_nat (j := 1) rfl, _, _, rfl, rfl, true, bl_t (decide_eq_true hb), iteT ?_⟩
          refine ⟨.ref a, rfl, a, _, _, _, rfl, rfl, hT', atI_nat (j := 2) rfl, _, _, rfl, rfl, ?_⟩
          exact q_t (Q := Q) (decide_eq_true ht) (q _ s1)
end
end K34

namespace K34
open PySem PySem.Spec PyProof.Rows L2
section
variable {P : Program} {w : World} {K : PySem.W.Frag} {mg : Str → Option Value} {base : Heap}
/-! ### text_by_copies -/
def spText (K : PySem.W.Frag) : Sp := fun vs H Q _ => ∃ (a : Addr) (p : List Pc), vs = [.ref a] ∧ Tel K H a p ∧ Vd 0 p ∧ ∀ H' r, Same H H' → H r = none → H' r = some (.lst (iv (expand p []))) → Q (.ref r) H'
theorem cpy_item {acc : List Int} {b k : Nat} (h1 : 1 ≤ b) (h2 : b ≤ acc.length) : atI (iv (cpy acc b k)) (-(b : Int)) = some (.int ((cpy acc b k).getD (acc.length + k - b) 0)) := by
  have el := cpy_length acc b k
  refine atI_neg h1 (by rw [List.length_map]; omega) ?_
  rw [List.length_map, el]
  refine iv_at ?_
  have hlt : acc.length + k - b < (cpy acc b k).length := by omega
  rw [List.getD_eq_getElem?_getD, List.getElem?_eq_getElem hlt]
  rfl
theorem iv_snoc (x : List Int) (z : Int) : iv x ++ [.int z] = iv (x ++ [z]) := by
  show x.map V.int ++ [.int z] = (x ++ [z]).map V.int
  rw [List.map_append]
  rfl
theorem ok_text {f fW fP fS : Addr} {fd fdW fdP fdS : FuncData} (F : Fun K "text_by_copies" "text_by_copies" sText f fd) (B : Bi mg) (FW : Fun K "is_whole" "is_whole" sWhole fW fdW) (bW : Binds K fdW ["thing"] []) (gW : mg "is_whole" = some (.ref fW))
    (FP : Fun K "is_piece" "is_piece" sPiece fP fdP) (bP : Binds K fdP ["piece"] []) (gP : mg "is_piece" = some (.ref fP)) (FS : Fun K "size_of" "size_of" sSize fS fdS) (bS : Binds K fdS ["piece"] []) (gS : mg "size_of" = some (.ref fS)) :
    FnOk P w K mg base CX0 3 f fd ["telling"] (spText K) := by
  have GP : FnOk P w K mg base CX0 2 fP fdP ["piece"] (spPiece K) := ok_piece FP B FW bW gW
  have GS : FnOk P w K mg base CX0 1 fS fdS ["piece"] (spSize K) := ok_size FS B
  refine F.ok scText (fun vs H Q E h => ?_) (fun cdv A outer s H vs Q E hr h => ?_)
  · obtain ⟨a, p, rfl, _⟩ := h
    rfl
  · obtain ⟨a, p, rfl, ⟨ps, hL, hP⟩, hv, q⟩ := h
    obtain ⟨ts, hs⟩ := B.sign
    obtain ⟨tc, hcp⟩ := B.copy
    obtain ⟨tm, hm⟩ := B.most
    refine ⟨_, pss_cons (ps_set (i := 1) scText.nd rfl (.inl rfl) (pe_lst pa_nil))
      (pss_cons (ps_for PassesOwn.never rfl (pi_list (pv 0)) (pg_name (i := 2) scText.nd rfl (.inl rfl))
        (pss_cons (ps_if (PW.pt (pw_or (pt_not (pt_val (pe_call GP hr rfl gP FP.kp bP .nil pass0 (pa_cons (pv 2) pa_nil))))
            (pw_or1 (PW.pt (pw_and (pt_cmpR op_eq (pe_ix ix_tup (pv 2) pe_int (fun _ _ => rfl)) (pe_glob (v := .str "copy") rfl hcp ⟨_, rfl⟩) (nomark _))
              (pw_and1 (pt_cmpR op_gt (pe_ix ix_tup (pv 2) pe_int (fun _ _ => rfl)) (pe_len B.len (pv 1)) (nomark _))))))))
          (pss_one ps_never) pss_nil)
        (pss_cons (ps_if (pt_cmpR op_gt (pe_op op_add (pe_len B.len (pv 1)) (pe_call GS (hr.mono (by decide)) rfl gS FS.kp bS .nil pass0 (pa_cons (pv 2) pa_nil))) (pe_glob (v := .int 400) rfl hm ⟨_, rfl⟩) (nomark _))
          (pss_one ps_never) pss_nil)
        (pss_one (ps_if (pt_cmpR op_eq (pe_ix ix_tup (pv 2) pe_int (fun _ _ => rfl)) (pe_glob (v := .str "sign") rfl hs ⟨_, rfl⟩) (nomark _))
          (pss_one (ps_expr (pe_bm PySem.F.plainAttrs_list PySem.F.slot_list_append PySem.F.type_list_append mt_append (pv 1) (pa_cons (pe_ix ix_tup (pv 2) pe_int (fun _ _ => rfl)) pa_nil))))
          (pss_one (ps_for PassesOwn.never rfl (pi_range1 rfl B.range (pa_cons (pe_ix ix_tup (pv 2) pe_int (fun _ _ => rfl)) pa_nil)) (pg_name (i := 3) scText.nd rfl (.inl rfl))
            (pss_one (ps_expr (pe_bm PySem.F.plainAttrs_list PySem.F.slot_list_append PySem.F.type_list_append mt_append (pv 1)
              (pa_cons (pe_ix ix_list (pv 1) (pe_un un_neg (pe_ix ix_tup (pv 2) pe_int (fun _ _ => rfl))) (fun _ _ => rfl)) pa_nil)))))))))))
      (pss_one (ps_ret (pv 1)))), ?_⟩
    -- found = []
    refine ⟨Nat.zero_le _, fun o no => ?_⟩
    have s1 : Same H (upd H o (.lst [])) := same_upd no
    refine ⟨.ref a, rfl, a, rfl, ⟨_, s1.seq hL⟩, for_list (K := K) (a := a) (xs := ps.map V.ref) (fun i σ H' => ∃ y2 y3, σ = [some (.ref a), some (.ref o), y2, y3] ∧ Same H H' ∧ H' o = some (.lst (iv (expand (p.take i) []))))
      ⟨none, none, rfl, s1, upd_same⟩ (fun i σ H' _ ⟨_, _, _, s2, _⟩ => s2.seq hL) ?_ ?_⟩
    · rintro i x σ H1 hx ⟨y2, y3, rfl, s2, eo⟩
      obtain ⟨r, c, rfl, hc, hT⟩ := hP.item hx
      have h1 := hv.at hc
      rw [Nat.zero_add] at h1
      obtain ⟨v1, v2⟩ := h1
      have hl : (expand (p.take i) []).length = sizes (p.take i) := by
        rw [expand_length]
        simp
      -- not is_piece(piece)
      refine ⟨.ref r, rfl, r, c, rfl, Same.sqt s2 hT, v1.ok, fun H2 s3 => ⟨true, rfl, iteF ?_⟩⟩
      have s4 : Same H H2 := s2.trans s3
      have eo2 := s3 _ _ eo
      have hT2 := Same.sqt s4 hT
      have step := expand_snoc [] hc
      cases c with
      | sg z =>
        refine ⟨.ref r, rfl, r, _, _, _, rfl, rfl, hT2, atI_nat (j := 0) rfl, rfl, _, rfl, ifF (by decide) (iteF ?_)⟩
        refine ⟨.ref o, rfl, o, _, rfl, .inl (.inl (.inl eo2)), .ref r, rfl, r, .sg z, rfl, hT2, _, _, rfl, rfl, _, _, rfl, rfl, _, rfl, ifF (decide_eq_false ?_) ?_⟩
        · rw [List.length_map, hl]
          show ¬ (400 : Int) < (sizes (p.take i) : Nat) + ((1 : Nat) : Int)
          have : (Pc.sg z).size = 1 := rfl
          omega
        refine ⟨.ref r, rfl, r, _, _, _, rfl, rfl, hT2, atI_nat (j := 0) rfl, rfl, _, rfl, ifT (by decide) ?_⟩
        refine ⟨.ref o, rfl, .inl ⟨rfl, _, .inl (.inl eo2)⟩, .ref r, rfl, r, _, _, _, rfl, rfl, hT2, atI_nat (j := 1) rfl, o, _, _, rfl, rfl, eo2, lt_line ?_, ?_⟩
        · rw [List.length_map, hl]
          omega
        refine ⟨some (.ref r), y3, rfl, same_set s4 no, ?_⟩
        rw [upd_same, step, iv_snoc]
        rfl
      | cp b t =>
        obtain ⟨b1, b2, b3⟩ := v1
        have et : (Pc.cp b t).size = t := rfl
        refine ⟨.ref r, rfl, r, _, _, _, rfl, rfl, hT2, atI_nat (j := 0) rfl, rfl, _, rfl, ifT (by decide) ?_⟩
        refine ⟨.ref r, rfl, r, _, _, _, rfl, rfl, hT2, atI_nat (j := 1) rfl, .ref o, rfl, o, _, rfl, .inl (.inl (.inl eo2)), _, _, rfl, rfl, _, rfl, ifF (decide_eq_false ?_) ?_⟩
        · rw [List.length_map, hl]
          omega
        refine ⟨.ref o, rfl, o, _, rfl, .inl (.inl (.inl eo2)), .ref r, rfl, r, .cp b t, rfl, hT2, _, _, rfl, rfl, _, _, rfl, rfl, _, rfl, ifF (decide_eq_false ?_) ?_⟩
        · rw [List.length_map, hl]
          omega
        refine ⟨.ref r, rfl, r, _, _, _, rfl, rfl, hT2, atI_nat (j := 0) rfl, rfl, _, rfl, ifF (by decide) ?_⟩
        refine ⟨.ref r, rfl, r, _, _, _, rfl, rfl, hT2, atI_nat (j := 2) rfl, _, rfl, by omega, by omega, for_range (lo := 0) (n := t)
          (fun j σ H' => ∃ y3, σ = [some (.ref a), some (.ref o), some (.ref r), y3] ∧ Same H H' ∧ H' o = some (.lst (iv (cpy (expand (p.take i) []) b j)))) ⟨y3, rfl, s4, eo2⟩ ?_ ?_⟩
        · rintro j σ H3 hj ⟨z3, rfl, s5, eo3⟩
          refine ⟨.ref o, rfl, .inl ⟨rfl, _, .inl (.inl eo3)⟩, .ref o, rfl, .ref r, rfl, r, _, _, _, rfl, rfl, Same.sqt s5 hT, atI_nat (j := 1) rfl, _, rfl, o, _, _, _, rfl, rfl, .inl (.inl eo3), cpy_item b1 (by omega), o, _, _, rfl, rfl, eo3, lt_line ?_, ?_⟩
          · rw [List.length_map, cpy_length, hl]
            omega
          refine ⟨_, rfl, same_set s5 no, ?_⟩
          rw [upd_same, iv_snoc]
          rfl
        · rintro σ H3 ⟨z3, rfl, s5, eo3⟩
          refine ⟨some (.ref r), z3, rfl, s5, ?_⟩
          rw [eo3, step]
          rfl
    · rintro σ H1 ⟨y2, y3, rfl, s2, eo⟩
      have ep : p.take (ps.map V.ref).length = p := by
        rw [List.length_map, hP.1, List.take_length]
      rw [ep] at eo
      exact ⟨.ref o, rfl, q _ o s2 no eo⟩
end
end K34

namespace K34
open PySem PySem.Spec PyProof.Rows L2
section
variable {P : Program} {w : World} {K : PySem.W.Frag} {mg : Str → Option Value} {base : Heap}
/-! ### longest_copy -/
/-- what is told of the longest copy: how far back, how long -/
def LgAt (x : List Int) (a b t : Nat) : Prop := Lg x a t ∧ (0 < t → 1 ≤ b ∧ b ≤ a ∧ Mt x (a - b) a t)
def spLong (K : PySem.W.Frag) : Sp := fun vs H Q _ => ∃ (p : Addr) (x : List Int) (a : Nat), vs = [.ref p, .int (a : Int)] ∧ SqL K H p (iv x) ∧ a < x.length ∧ x.length ≤ 400 ∧
  ∀ H' r (b t : Nat), Same H H' → H' r = some (.tup [.int (b : Int), .int (t : Int)]) → LgAt x a b t → Q (.ref r) H'
theorem iv_last {l : List Nat} {j : Nat} (h : l[l.length - 1]? = some j) (h0 : l ≠ []) : atI (iv (nv l)) (-1) = some (.int (j : Int)) := by
  have hl : 0 < l.length := List.length_pos_iff.mpr h0
  refine atI_neg (b := 1) (Nat.le_refl _) ?_ ?_
  · rw [List.length_map, nv_len]
    exact hl
  · rw [List.length_map, nv_len]
    exact iv_at (nv_at h)
theorem opt_beq {x : List Int} {i j : Nat} {y z : Int} (h1 : x[i]? = some y) (h2 : x[j]? = some z) : decide (V.int y = V.int z) = (x[i]? == x[j]?) := by
  rw [h1, h2]
  by_cases h : y = z
  · subst h
    simp
  · rw [decide_eq_false (fun e => h (V.int.inj e))]
    simp [h]
theorem ok_long {f : Addr} {fd : FuncData} {k : Nat} (F : Fun K "longest_copy" "longest_copy" sLong f fd) (B : Bi mg) : FnOk P w K mg base CX0 (k + 1) f fd ["text", "at"] (spLong K) := by
  refine F.ok scLong (fun vs H Q E h => ?_) (fun cdv A outer s H vs Q E hr h => ?_)
  · obtain ⟨p, x, a, rfl, _⟩ := h
    rfl
  · obtain ⟨p, x, a, rfl, hL, ha, hx, q⟩ := h
    refine ⟨_, pss_cons (ps_setLc (i := 2) (own := [("k", 5)]) (g := gName 5) rfl scLong.nd rfl rfl (sw_true rfl rfl rfl (by decide +kernel)) (pi_range1 rfl B.range (pa_cons (pv 1) pa_nil))
        (blkOk_by (N := ["text", "at", "starts", "times", "more", "k"]) (sc := defScope sLong) (by decide +kernel)) (fun _ _ _ _ _ => pg_name (i := 5) scLong.nd rfl (Or.inl rfl))
        (fun _ _ _ _ _ => pts_one (pt_cmpR op_eq (pe_ix (r := rIxL K) ix_list (pv 0) (pv 5) (fun _ _ => rfl)) (pe_ix (r := rIxL K) ix_list (pv 0) (pv 1) (fun _ _ => rfl)) (nomark _))) (fun _ _ _ _ _ => pv 5))
      (pss_cons (ps_if (pt_cmpR (op_eqD hr.units) (pv 2) (pe_lst pa_nil) (nomark _)) (pss_one (ps_ret (pe_tup (pa_cons pe_int (pa_cons pe_int pa_nil))))) pss_nil)
      (pss_cons (ps_set (i := 3) scLong.nd rfl (.inr rfl) pe_int)
      (pss_cons (ps_while PassesOwn.never (pt_cmpR op_lt (pe_op op_add (pv 1) (pv 3)) (pe_len B.len (pv 0)) (nomark _))
        (pss_cons (ps_setLc (i := 4) (own := [("k", 5)]) (g := gName 5) rfl scLong.nd rfl rfl (sw_true rfl rfl rfl (by decide +kernel)) (pi_list (pv 2))
          (blkOk_by (N := ["text", "at", "starts", "times", "more", "k"]) (sc := defScope sLong) (by decide +kernel)) (fun _ _ _ _ _ => pg_name (i := 5) scLong.nd rfl (Or.inl rfl))
          (fun _ _ _ _ _ => pts_one (pt_cmpR op_eq (pe_ix (r := rIxL K) ix_list (pv 0) (pe_op op_add (pv 5) (pv 3)) (fun _ _ => rfl)) (pe_ix (r := rIxL K) ix_list (pv 0) (pe_op op_add (pv 1) (pv 3)) (fun _ _ => rfl)) (nomark _))) (fun _ _ _ _ _ => pv 5))
        (pss_cons (ps_if (pt_cmpR (op_eqD hr.units) (pv 4) (pe_lst pa_nil) (nomark _)) (pss_one ps_break) pss_nil)
        (pss_cons (ps_set (i := 2) scLong.nd rfl (.inl rfl) (pv 4))
        (pss_one (ps_aug (i := 3) scLong.nd rfl (.inr rfl) pe_int ip_add))))))
      (pss_one (ps_ret (pe_tup (pa_cons (pe_op op_sub (pv 1) (pe_ix ix_list (pv 2) (pe_un un_neg pe_int) (fun _ _ => rfl))) (pa_cons (pv 3) pa_nil)))))))), ?_⟩
    -- starts = [k for k in range(at) if text[k] == text[at]]
    refine ⟨.int a, rfl, (a : Int), rfl, by omega, by omega, fun D nD => ?_⟩
    have s1 : Same H (upd H D (.lst [])) := same_upd nD
    refine lc_range (lo := 0) (n := a) (fun i H' => Same H H' ∧ H' D = some (.lst (iv (nv ((List.range i).filter fun j => agree x j a 1))))) ⟨s1, upd_same⟩ (fun i H1 hi hP => ?_) (fun H1 hP => ?_)
    · obtain ⟨s2, eD⟩ := hP
      have g1 : x[i]? = some x[i] := List.getElem?_eq_getElem (by omega)
      have g2 : x[a]? = some x[a] := List.getElem?_eq_getElem ha
      have ez : (0 : Int) + (i : Int) = ((i : Nat) : Int) := by omega
      refine ⟨rfl, .ref p, rfl, .int (0 + (i : Int)), rfl, p, _, _, _, rfl, rfl, s2.seq hL, at_of ez (iv_at g1), .ref p, rfl, .int a, rfl, p, _, _, _, rfl, rfl, s2.seq hL, at_of rfl (iv_at g2), rfl, _, rfl, ?_⟩
      rw [List.range_succ]
      refine ite2 (fun e => ?_) (fun e => ?_)
      · have e2 : agree x i a 1 = true := by
          rw [agree_one, ← opt_beq g1 g2]
          exact e
        rw [filter_t (p := fun j => agree x j a 1) e2]
        refine ⟨.int (0 + (i : Int)), rfl, _, eD, lt_line ?_, same_set s2 nD, ?_⟩
        · rw [List.length_map, nv_len]
          have := List.length_filter_le (fun j => agree x j a 1) (List.range i)
          rw [List.length_range] at this
          omega
        · rw [upd_same, ez, iv_snoc, nv_snoc]
      · have e2 : agree x i a 1 = false := by
          rw [agree_one, ← opt_beq g1 g2]
          exact Bool.eq_false_iff.mpr e
        rw [filter_f (p := fun j => agree x j a 1) e2]
        exact ⟨s2, eD⟩
    obtain ⟨s2, eD⟩ := hP
    have eD : H1 D = some (.lst (iv (nv (sts x a 1)))) := eD
    -- if starts == []
    refine ⟨.ref D, rfl, Nat.zero_le _, fun e ne => ?_⟩
    have s3 : Same H1 (upd H1 e (.lst [])) := same_upd ne
    refine eq_ints (y := []) (.inl (.inl (s3 _ _ eD))) (.inl (.inl upd_same)) ⟨_, rfl, ite2 (fun z => ?_) (fun z => ?_)⟩
    · have z := nv_nil (of_decide_eq_true z)
      refine ⟨le_line (by decide), fun r nr => ?_⟩
      exact q _ r 0 0 (same_new (s2.trans s3) nr) upd_same ⟨lg_none z, fun h => absurd h (by omega)⟩
    · have z : sts x a 1 ≠ [] := fun h => z (by rw [h]; rfl)
      have s4 : Same H (upd H1 e (.lst [])) := s2.trans s3
      have eD4 := s3 _ _ eD
      -- times = 1; the loop
      refine ⟨fun m σ H' => ∃ (st : Addr) (t : Nat) (y4 y5 : Option V), σ = [some (.ref p), some (.int (a : Int)), some (.ref st), some (.int (t : Int)), y4, y5] ∧ Same H H' ∧ H' st = some (.lst (iv (nv (sts x a t)))) ∧ sts x a t ≠ [] ∧ 1 ≤ t ∧ a + t ≤ x.length ∧ m = x.length - (a + t),
        ⟨_, D, 1, none, none, rfl, s4, eD4, z, Nat.le_refl _, ha, rfl⟩, ?_⟩
      rintro m σ H2 ⟨st, t, y4, y5, rfl, s5, est, hne, ht, hlen, rfl⟩
      have fin : ∀ (H3 : Hp) (j : Nat), Same H H3 → j ∈ sts x a t → (a + t = x.length ∨ sts x a (t + 1) = []) → ∀ r, H3 r = none → Q (.ref r) (upd H3 r (.tup [.int ((a : Int) - (j : Int)), .int (t : Int)])) := by
        intro H3 j s6 hj hd r nr
        obtain ⟨h1, h2⟩ := mem_sts hj hlen
        refine q _ r (a - j) t (same_new s6 nr) ?_ ⟨lg_some hj hlen hd, fun _ => ⟨by omega, by omega, ?_⟩⟩
        · rw [upd_same, show (a : Int) - (j : Int) = ((a - j : Nat) : Int) by omega]
        · rw [show a - (a - j) = j by omega]
          exact h2
      obtain ⟨jl, hjl, hjm⟩ := last_of hne
      refine ⟨.int a, rfl, .int t, rfl, _, _, rfl, rfl, .ref p, rfl, p, _, rfl, .inl (s5.seq hL), _, _, rfl, rfl, _, rfl, ite2 (fun e1 => ?_) (fun e1 => ?_)⟩
      · have e1 : a + t < x.length := by
          have h := of_decide_eq_true e1
          rw [List.length_map] at h
          omega
        refine ⟨fun σ' H' => ∃ (st : Addr) (y4 y5 : Option V), σ' = [some (.ref p), some (.int (a : Int)), some (.ref st), some (.int ((t + 1 : Nat) : Int)), y4, y5] ∧ Same H H' ∧ H' st = some (.lst (iv (nv (sts x a (t + 1))))) ∧ sts x a (t + 1) ≠ [], fun σ' H' hN => ?_, ?_⟩
        · obtain ⟨st', z4, z5, h1, h2, h3, h4⟩ := hN
          exact ⟨_, by omega, st', t + 1, z4, z5, h1, h2, h3, h4, by omega, by omega, rfl⟩
        -- more = [..]
        refine ⟨.ref st, rfl, st, rfl, ⟨_, .inl (.inl est)⟩, fun D2 nD2 => ?_⟩
        have s6 : Same H2 (upd H2 D2 (.lst [])) := same_upd nD2
        have nH : H D2 = none := same_none s5 nD2
        have nst : st ≠ D2 := ne_of_none est nD2
        refine lc_list (K := K) (a := st) (xs := iv (nv (sts x a t))) (fun i H' => Same H2 H' ∧ H' D2 = some (.lst (iv (nv (((sts x a t).take i).filter fun j => x[j + t]? == x[a + t]?))))) ⟨s6, upd_same⟩
          (fun i H' _ hP => .inl (.inl (hP.1 _ _ est))) (fun i v H3 hv hP => ?_) (fun H3 hP => ?_)
        · obtain ⟨s7, eD2⟩ := hP
          obtain ⟨z1, hz1, rfl⟩ := iv_of hv
          obtain ⟨j, hj, rfl⟩ := nv_of hz1
          obtain ⟨j1, _⟩ := mem_sts (List.mem_of_getElem? hj) hlen
          have g1 : x[j + t]? = some x[j + t] := List.getElem?_eq_getElem (by omega)
          have g2 : x[a + t]? = some x[a + t] := List.getElem?_eq_getElem e1
          have s8 := s5.trans s7
          refine ⟨rfl, .ref p, rfl, .int (j : Int), rfl, .int (t : Int), rfl, _, _, rfl, rfl, p, _, _, _, rfl, rfl, s8.seq hL, at_of (j := j + t) (by omega) (iv_at g1), .ref p, rfl, .int (a : Int), rfl, .int (t : Int), rfl, _, _, rfl, rfl, p, _, _, _, rfl, rfl, s8.seq hL, at_of (j := a + t) (by omega) (iv_at g2), rfl, _, rfl, ?_⟩
          rw [take_more hj]
          refine ite2 (fun e => ?_) (fun e => ?_)
          · have e2 : (x[j + t]? == x[a + t]?) = true := by
              rw [← opt_beq g1 g2]
              exact e
            rw [filter_t (p := fun j => x[j + t]? == x[a + t]?) e2]
            refine ⟨.int (j : Int), rfl, _, eD2, lt_line ?_, same_set s7 nD2, ?_⟩
            · rw [List.length_map, nv_len]
              have h1 := List.length_filter_le (fun j => x[j + t]? == x[a + t]?) ((sts x a t).take i)
              have h2 := sts_len x a t
              rw [List.length_take] at h1
              omega
            · rw [upd_same, iv_snoc, nv_snoc]
          · have e2 : (x[j + t]? == x[a + t]?) = false := by
              rw [← opt_beq g1 g2]
              exact Bool.eq_false_iff.mpr e
            rw [filter_f (p := fun j => x[j + t]? == x[a + t]?) e2]
            exact ⟨s7, eD2⟩
        obtain ⟨s7, eD2⟩ := hP
        have eD2 : H3 D2 = some (.lst (iv (nv (sts x a (t + 1))))) := by
          rw [eD2, List.length_map, nv_len, List.take_length, sts_succ]
        -- if more == []
        refine ⟨.ref D2, rfl, Nat.zero_le _, fun e3 ne3 => ?_⟩
        have s8 : Same H3 (upd H3 e3 (.lst [])) := same_upd ne3
        have s9 : Same H (upd H3 e3 (.lst [])) := (s5.trans s7).trans s8
        refine eq_ints (y := []) (.inl (.inl (s8 _ _ eD2))) (.inl (.inl upd_same)) ⟨_, rfl, ite2 (fun z => ?_) (fun z => ?_)⟩
        · have z := nv_nil (of_decide_eq_true z)
          exact ⟨.int a, rfl, .ref st, rfl, _, rfl, st, _, _, _, rfl, rfl, .inl (.inl (s8 _ _ (s7 _ _ est))), iv_last hjl hne, _, _, rfl, rfl, .int t, rfl, le_line (by simp), fin _ jl s9 hjm (.inr z)⟩
        · have z : sts x a (t + 1) ≠ [] := fun h => z (by rw [h]; rfl)
          exact ⟨.ref D2, rfl, .int t, rfl, _, _, rfl, rfl, D2, some (.ref D2), y5, rfl, s9, s8 _ _ eD2, z⟩
      · have e1 : a + t = x.length := by
          have h : ¬ ((a : Int) + (t : Int) < ((iv x).length : Nat)) := fun h => e1 (decide_eq_true h)
          rw [List.length_map] at h
          omega
        exact ⟨.int a, rfl, .ref st, rfl, _, rfl, st, _, _, _, rfl, rfl, .inl (.inl est), iv_last hjl hne, _, _, rfl, rfl, .int t, rfl, le_line (by simp), fin _ jl s5 hjm (.inl e1)⟩
end
end K34

namespace K34
open PySem PySem.Spec PyProof.Rows L2
/-! ### a list that grows leaves the tuples -/
theorem sqt_grow {K : PySem.W.Frag} {H : Hp} {o q : Addr} {ls xs : List V} {z : HO} (e : H o = some (.lst ls)) (h : SqT K H q xs) : SqT K (upd H o z) q xs := by
  rcases h with (h | ⟨ob, h⟩) | h
  · exact .inl (.inl (by rw [upd_ne (ne_of h e (by intro z; cases z))]; exact h))
  · exact .inl (.inr ⟨ob, by rw [upd_ne (ne_of h e (by intro z; cases z))]; exact h⟩)
  · exact .inr h
theorem pcs_grow {K : PySem.W.Frag} {H : Hp} {o : Addr} {ls : List V} {z : HO} {ps : List Addr} {p : List Pc} (e : H o = some (.lst ls)) (h : Pcs K H ps p) : Pcs K (upd H o z) ps p := ⟨h.1, fun i q c e1 e2 => sqt_grow e (h.2 i q c e1 e2)⟩
theorem ref_snoc (ps : List Addr) (q : Addr) : ps.map V.ref ++ [.ref q] = (ps ++ [q]).map V.ref := by
  rw [List.map_append]
  rfl
theorem gr_snoc {x : List Int} {a : Nat} {p : List Pc} {c : Pc} (h : ∀ q, Gr x a q → Gr x 0 (p ++ q)) (b : Best x a c) : ∀ q, Gr x (a + c.size) q → Gr x 0 ((p ++ [c]) ++ q) := fun q g => by
  rw [List.append_assoc]
  exact h (c :: q) ⟨b, g⟩
section
variable {P : Program} {w : World} {K : PySem.W.Frag} {mg : Str → Option Value} {base : Heap}
/-! ### copies_of -/
def spCopies (K : PySem.W.Frag) : Sp := fun vs H Q _ => ∃ (p : Addr) (x : List Int), vs = [.ref p] ∧ SqL K H p (iv x) ∧ x.length ≤ 400 ∧ ∀ H' r c, Same H H' → Tel K H' r c → Gr x 0 c → Q (.ref r) H'
theorem ok_copies {f fL : Addr} {fd fdL : FuncData} (F : Fun K "copies_of" "copies_of" sCopies f fd) (B : Bi mg) (FL : Fun K "longest_copy" "longest_copy" sLong fL fdL) (bL : Binds K fdL ["text", "at"] []) (gL : mg "longest_copy" = some (.ref fL)) :
    FnOk P w K mg base CX0 2 f fd ["text"] (spCopies K) := by
  have GL : FnOk P w K mg base CX0 1 fL fdL ["text", "at"] (spLong K) := ok_long FL B
  refine F.ok scCopies (fun vs H Q E h => ?_) (fun cdv A outer s H vs Q E hr h => ?_)
  · obtain ⟨p, x, rfl, _⟩ := h
    rfl
  · obtain ⟨p, x, rfl, hL, hx, q⟩ := h
    obtain ⟨ts, hs⟩ := B.sign
    obtain ⟨tc, hcp⟩ := B.copy
    refine ⟨_, pss_cons (ps_set (i := 1) scCopies.nd rfl (.inl rfl) (pe_lst pa_nil))
      (pss_cons (ps_set (i := 2) scCopies.nd rfl (.inl rfl) pe_int)
      (pss_cons (ps_while PassesOwn.never (pt_cmpR op_lt (pv 2) (pe_len B.len (pv 0)) (nomark _))
        (pss_cons (ps_asg (pe_call GL hr rfl gL FL.kp bL .nil pass0 (pa_cons (pv 0) (pa_cons (pv 2) pa_nil))) (pg_tup rfl (pgs_cons (pg_name (i := 3) scCopies.nd rfl (.inl rfl)) (pgs_cons (pg_name (i := 4) scCopies.nd rfl (.inl rfl)) pgs_nil))))
        (pss_one (ps_if (pt_cmpR op_eq (pv 4) pe_int (nomark _))
          (pss_cons (ps_expr (pe_bm PySem.F.plainAttrs_list PySem.F.slot_list_append PySem.F.type_list_append mt_append (pv 1)
              (pa_cons (pe_tup (pa_cons (pe_glob (v := .str "sign") rfl hs ⟨_, rfl⟩) (pa_cons (pe_ix ix_list (pv 0) (pv 2) (fun _ _ => rfl)) pa_nil))) pa_nil)))
            (pss_one (ps_aug (i := 2) scCopies.nd rfl (.inl rfl) pe_int ip_add)))
          (pss_cons (ps_expr (pe_bm PySem.F.plainAttrs_list PySem.F.slot_list_append PySem.F.type_list_append mt_append (pv 1)
              (pa_cons (pe_tup (pa_cons (pe_glob (v := .str "copy") rfl hcp ⟨_, rfl⟩) (pa_cons (pv 3) (pa_cons (pv 4) pa_nil)))) pa_nil)))
            (pss_one (ps_aug (i := 2) scCopies.nd rfl (.inl rfl) (pv 4) ip_add)))))))
      (pss_one (ps_ret (pv 1))))), ?_⟩
    refine ⟨Nat.zero_le _, fun o no => ?_⟩
    have s1 : Same H (upd H o (.lst [])) := same_upd no
    refine ⟨fun m σ H' => ∃ (a : Nat) (ps : List Addr) (cs : List Pc) (y3 y4 : Option V), σ = [some (.ref p), some (.ref o), some (.int (a : Int)), y3, y4] ∧ Same H H' ∧ H' o = some (.lst (ps.map V.ref)) ∧ Pcs K H' ps cs ∧ a ≤ x.length ∧ cs.length ≤ a ∧ (∀ q, Gr x a q → Gr x 0 (cs ++ q)) ∧ m = x.length - a,
      ⟨_, 0, [], [], none, none, rfl, s1, upd_same, Pcs.nil, Nat.zero_le _, Nat.le_refl _, fun q h => h, rfl⟩, ?_⟩
    rintro m σ H1 ⟨a, ps, cs, y3, y4, rfl, s2, eo, hP, ha, hcl, hG, rfl⟩
    refine ⟨.int a, rfl, .ref p, rfl, p, _, rfl, .inl (s2.seq hL), _, _, rfl, rfl, _, rfl, ite2 (fun e1 => ?_) (fun e1 => ?_)⟩
    · have e1 : a < x.length := by
        have h := of_decide_eq_true e1
        rw [List.length_map] at h
        omega
      refine ⟨fun σ' H' => ∃ (a' : Nat) (ps : List Addr) (cs : List Pc) (y3 y4 : Option V), σ' = [some (.ref p), some (.ref o), some (.int (a' : Int)), y3, y4] ∧ Same H H' ∧ H' o = some (.lst (ps.map V.ref)) ∧ Pcs K H' ps cs ∧ a < a' ∧ a' ≤ x.length ∧ cs.length ≤ a' ∧ (∀ q, Gr x a' q → Gr x 0 (cs ++ q)), fun σ' H' hN => ?_, ?_⟩
      · obtain ⟨a', ps', cs', z3, z4, h1, h2, h3, h4, h5, h6, h7, h8⟩ := hN
        exact ⟨_, by omega, a', ps', cs', z3, z4, h1, h2, h3, h4, h6, h7, h8, rfl⟩
      -- back, times = longest_copy(text, at)
      refine ⟨.ref p, rfl, .int a, rfl, p, x, a, rfl, s2.seq hL, e1, hx, fun H2 r b t s3 er hlg => ?_⟩
      have s4 := s2.trans s3
      have eo2 := s3 _ _ eo
      have hP2 := hP.same s3
      have hpl : (ps.map V.ref).length < sizeLine := lt_line (by rw [List.length_map, hP.1]; omega)
      have g1 : x[a]? = some x[a] := List.getElem?_eq_getElem e1
      refine ⟨r, _, rfl, .inl (.inl er), rfl, _, _, rfl, _, _, rfl, rfl, ?_⟩
      refine ⟨.int t, rfl, rfl, _, rfl, ite2 (fun e2 => ?_) (fun e2 => ?_)⟩
      · have e2 : t = 0 := by
          have h := V.int.inj (of_decide_eq_true e2)
          omega
        subst e2
        have hb : Best x a (.sg x[a]) := ⟨0, hlg.1, rfl, g1⟩
        have hG2 : ∀ q, Gr x (a + 1) q → Gr x 0 ((cs ++ [.sg x[a]]) ++ q) := gr_snoc hG hb
        refine ⟨.ref o, rfl, .inl ⟨rfl, _, .inl (.inl eo2)⟩, .ref p, rfl, .int a, rfl, p, _, _, _, rfl, rfl, s4.seq hL, at_of rfl (iv_at g1), le_line (by simp), fun u nu => ?_⟩
        have eo3 := same_upd (o := .tup [.str "sign", .int x[a]]) nu _ _ eo2
        refine ⟨o, _, _, rfl, rfl, eo3, hpl, ?_⟩
        refine ⟨.int a, rfl, _, _, rfl, rfl, a + 1, ps ++ [u], cs ++ [.sg x[a]], _, _, rfl, same_set (s4.trans (same_upd nu)) no, by rw [upd_same, ref_snoc], ?_, by omega, e1, ?_, hG2⟩
        · exact pcs_grow eo3 ((hP2.same (same_upd nu)).snoc (.inl (.inl upd_same)))
        · rw [List.length_append, List.length_singleton]
          omega
      · have e2 : 0 < t := by
          rcases Nat.eq_zero_or_pos t with h | h
          · exact absurd (by rw [h]; rfl) e2
          · exact h
        obtain ⟨b1, b2, hm⟩ := hlg.2 e2
        have hb : Best x a (.cp b t) := ⟨t, hlg.1, rfl, e2, b1, b2, hm⟩
        have hG2 : ∀ q, Gr x (a + t) q → Gr x 0 ((cs ++ [.cp b t]) ++ q) := gr_snoc hG hb
        refine ⟨.ref o, rfl, .inl ⟨rfl, _, .inl (.inl eo2)⟩, .int b, rfl, .int t, rfl, le_line (by simp), fun u nu => ?_⟩
        have eo3 := same_upd (o := .tup [.str "copy", .int (b : Int), .int (t : Int)]) nu _ _ eo2
        refine ⟨o, _, _, rfl, rfl, eo3, hpl, ?_⟩
        have hlen := hm.1
        refine ⟨.int a, rfl, .int t, rfl, _, _, rfl, rfl, a + t, ps ++ [u], cs ++ [.cp b t], _, _, rfl, same_set (s4.trans (same_upd nu)) no, by rw [upd_same, ref_snoc], ?_, by omega, hlen, ?_, hG2⟩
        · exact pcs_grow eo3 ((hP2.same (same_upd nu)).snoc (.inl (.inl upd_same)))
        · rw [List.length_append, List.length_singleton]
          omega
    · have e1 : a = x.length := by
        have h : ¬ ((a : Int) < ((iv x).length : Nat)) := fun h => e1 (decide_eq_true h)
        rw [List.length_map] at h
        omega
      have hg := hG [] e1
      rw [List.append_nil] at hg
      exact ⟨.ref o, rfl, q H1 o cs s2 ⟨ps, .inl (.inl eo), hP⟩ hg⟩
/-! ### piece_tells -/
def spTells (K : PySem.W.Frag) : Sp := fun vs H Q _ => ∃ (p r : Addr) (x : List Int) (a : Nat) (c : Pc), vs = [.ref p, .int (a : Int), .ref r] ∧ SqL K H p (iv x) ∧ SqT K H r (pcV c) ∧ Tells x a c ∧ ∀ H', Same H H' → Q (.bl true) H'
theorem iv_cut (x : List Int) (i j : Nat) : ((iv x).take j).drop i = iv ((x.take j).drop i) := by
  show ((x.map V.int).take j).drop i = ((x.take j).drop i).map V.int
  rw [List.map_drop, List.map_take]
theorem mt_cut {x : List Int} {j a t : Nat} (hj : j ≤ a) (m : Mt x j a t) : (x.take (a + t)).drop a = (x.take (j + t)).drop j := by
  have hl := m.1
  apply List.ext_getElem?
  intro i
  rw [List.getElem?_drop, List.getElem?_drop, List.getElem?_take, List.getElem?_take]
  by_cases h : i < t
  · rw [if_pos (by omega), if_pos (by omega)]
    exact (m.2 i h).symm
  · rw [if_neg (by omega), if_neg (by omega)]
theorem ok_tells {f : Addr} {fd : FuncData} {k : Nat} (F : Fun K "piece_tells" "piece_tells" sTells f fd) (B : Bi mg) : FnOk P w K mg base CX0 (k + 1) f fd ["text", "at", "piece"] (spTells K) := by
  refine F.ok scTells (fun vs H Q E h => ?_) (fun cdv A outer s H vs Q E hr h => ?_)
  · obtain ⟨p, r, x, a, c, rfl, _⟩ := h
    rfl
  · obtain ⟨p, r, x, a, c, rfl, hL, hT, ht, q⟩ := h
    obtain ⟨ts, hs⟩ := B.sign
    refine ⟨_, pss_cons (ps_if (pt_cmpR op_eq (pe_ix ix_tup (pv 2) pe_int (fun _ _ => rfl)) (pe_glob (v := .str "sign") rfl hs ⟨_, rfl⟩) (nomark _))
        (pss_one (ps_ret (pe_cmpR op_eq (pe_ix ix_list (pv 0) (pv 1) (fun _ _ => rfl)) (pe_ix ix_tup (pv 2) pe_int (fun _ _ => rfl)) (nomark _)))) pss_nil)
      (pss_cons (ps_if (pt_cmpR op_gt (pe_ix ix_tup (pv 2) pe_int (fun _ _ => rfl)) (pv 1) (nomark _)) (pss_one (ps_ret pe_bl)) pss_nil)
      (pss_one (ps_ret (pe_cmpR (op_eqD hr.units) (pe_slice sl_list (pv 0) (po_some (pv 1)) (po_some (pe_op op_add (pv 1) (pe_ix ix_tup (pv 2) pe_int (fun _ _ => rfl)))))
        (pe_slice sl_list (pv 0) (po_some (pe_op op_sub (pv 1) (pe_ix ix_tup (pv 2) pe_int (fun _ _ => rfl)))) (po_some (pe_op op_add (pe_op op_sub (pv 1) (pe_ix ix_tup (pv 2) pe_int (fun _ _ => rfl))) (pe_ix ix_tup (pv 2) pe_int (fun _ _ => rfl))))) (nomark _))))), ?_⟩
    cases c with
    | sg z =>
      have g1 : x[a]? = some z := ht
      refine ⟨.ref r, rfl, r, _, _, _, rfl, rfl, hT, atI_nat (j := 0) rfl, rfl, _, rfl, ifT (by decide) ?_⟩
      refine ⟨.ref p, rfl, .int a, rfl, p, _, _, _, rfl, rfl, hL, at_of rfl (iv_at g1), .ref r, rfl, r, _, _, _, rfl, rfl, hT, atI_nat (j := 1) rfl, rfl, ?_⟩
      exact q_t (Q := Q) (decide_eq_true rfl) (q _ (Same.refl _))
    | cp b t =>
      obtain ⟨b1, b2, t1, m⟩ := ht
      have hlen := m.1
      refine ⟨.ref r, rfl, r, _, _, _, rfl, rfl, hT, atI_nat (j := 0) rfl, rfl, _, rfl, ifF (by decide) ?_⟩
      refine ⟨.ref r, rfl, r, _, _, _, rfl, rfl, hT, atI_nat (j := 1) rfl, .int a, rfl, _, _, rfl, rfl, _, rfl, ifF (decide_eq_false ?_) ?_⟩
      · show ¬ ((a : Int) < (b : Int))
        omega
      refine ⟨.ref p, rfl, .int a, rfl, _, rfl, .int a, rfl, .ref r, rfl, r, _, _, _, rfl, rfl, hT, atI_nat (j := 2) rfl, _, _, rfl, rfl, _, rfl, p, _, rfl, hL, fun u nu => ?_⟩
      have s1 : Same H (upd H u (.lst (cutV (iv x) (some (a : Int)) (some ((a : Int) + (t : Int)))))) := same_upd nu
      have hT1 := Same.sqt s1 hT
      refine ⟨.ref p, rfl, .int a, rfl, .ref r, rfl, r, _, _, _, rfl, rfl, hT1, atI_nat (j := 1) rfl, _, _, rfl, rfl, _, rfl, .int a, rfl, .ref r, rfl, r, _, _, _, rfl, rfl, hT1, atI_nat (j := 1) rfl, _, _, rfl, rfl,
        .ref r, rfl, r, _, _, _, rfl, rfl, hT1, atI_nat (j := 2) rfl, _, _, rfl, rfl, _, rfl, p, _, rfl, s1.seq hL, fun v nv => ?_⟩
      have e1 : cutV (iv x) (some (a : Int)) (some ((a : Int) + (t : Int))) = iv ((x.take (a + t)).drop a) := by
        rw [show (a : Int) + (t : Int) = ((a + t : Nat) : Int) by omega, cut_nat _ (by rw [List.length_map]; exact hlen), iv_cut]
      have e2 : cutV (iv x) (some ((a : Int) - (b : Int))) (some ((a : Int) - (b : Int) + (t : Int))) = iv ((x.take (a - b + t)).drop (a - b)) := by
        rw [show (a : Int) - (b : Int) + (t : Int) = ((a - b + t : Nat) : Int) by omega, show (a : Int) - (b : Int) = ((a - b : Nat) : Int) by omega, cut_nat _ (by rw [List.length_map]; omega), iv_cut]
      rw [e1] at nv
      rw [e1, e2]
      refine eq_ints (.inl (.inl (same_upd nv _ _ upd_same))) (.inl (.inl upd_same)) ?_
      exact q_t (Q := Q) (decide_eq_true (mt_cut (by omega) m)) (q _ ((same_upd nu).trans (same_upd nv)))
end
end K34

namespace K34
open PySem PySem.Spec PyProof.Rows L2
/-! ### is_longest -/
def szs (cs : List Pc) : List Int := cs.map fun c => (c.size : Int)
theorem szs_sum : ∀ cs : List Pc, (szs cs).sum = (sizes cs : Int)
  | [] => rfl
  | c :: r => by
    have ih := szs_sum r
    show ((c.size : Int) :: szs r).sum = _
    rw [List.sum_cons, ih]
    simp only [sizes]
    omega
theorem drop_at {α : Type} {l : List α} {i : Nat} {c : α} (h : l[i]? = some c) : l.drop i = c :: l.drop (i + 1) := by
  obtain ⟨h1, h2⟩ := List.getElem?_eq_some_iff.mp h
  rw [← h2]
  exact List.drop_eq_getElem_cons h1
section
variable {P : Program} {w : World} {K : PySem.W.Frag} {mg : Str → Option Value} {base : Heap}
def spIs (K : PySem.W.Frag) : Sp := fun vs H Q _ => ∃ (p b : Addr) (x : List Int) (cs : List Pc), vs = [.ref p, .ref b] ∧ SqL K H p (iv x) ∧ Tel K H b cs ∧ Tl x 0 cs ∧ (∀ c ∈ cs, PcOk c) ∧ x.length ≤ 400 ∧
  ∀ H' r, Same H H' → (r = true ↔ IsL x 0 cs) → Q (.bl r) H'
theorem ok_is {f fW fP fS fL fT : Addr} {fd fdW fdP fdS fdL fdT : FuncData} (F : Fun K "is_longest" "is_longest" sIs f fd) (B : Bi mg) (FW : Fun K "is_whole" "is_whole" sWhole fW fdW) (bW : Binds K fdW ["thing"] []) (gW : mg "is_whole" = some (.ref fW))
    (FP : Fun K "is_piece" "is_piece" sPiece fP fdP) (bP : Binds K fdP ["piece"] []) (gP : mg "is_piece" = some (.ref fP)) (FS : Fun K "size_of" "size_of" sSize fS fdS) (bS : Binds K fdS ["piece"] []) (gS : mg "size_of" = some (.ref fS))
    (FL : Fun K "longest_copy" "longest_copy" sLong fL fdL) (bL : Binds K fdL ["text", "at"] []) (gL : mg "longest_copy" = some (.ref fL)) (FT : Fun K "piece_tells" "piece_tells" sTells fT fdT) (bT : Binds K fdT ["text", "at", "piece"] []) (gT : mg "piece_tells" = some (.ref fT)) :
    FnOk P w K mg base CX0 3 f fd ["text", "telling"] (spIs K) := by
  have GP : FnOk P w K mg base CX0 2 fP fdP ["piece"] (spPiece K) := ok_piece FP B FW bW gW
  have GS : FnOk P w K mg base CX0 1 fS fdS ["piece"] (spSize K) := ok_size FS B
  have GL : FnOk P w K mg base CX0 1 fL fdL ["text", "at"] (spLong K) := ok_long FL B
  have GT : FnOk P w K mg base CX0 1 fT fdT ["text", "at", "piece"] (spTells K) := ok_tells FT B
  refine F.ok scIs (fun vs H Q E h => ?_) (fun cdv A outer s H vs Q E hr h => ?_)
  · obtain ⟨p, b, x, cs, rfl, _⟩ := h
    rfl
  · obtain ⟨p, b, x, cs, rfl, hL, ⟨ps, hB, hP⟩, htl, hok, hx, q⟩ := h
    obtain ⟨ts, hs⟩ := B.sign
    have hr1 : Room 1 _ := hr.mono (by decide)
    refine ⟨_, pss_cons (ps_if (pt_not (pt_val (pe_callB (cr_all rfl) (by rfl) B.all bt_all (pa_cons
          (pe_lc (own := [("piece", 2)]) (g := gName 2) (tt := tYes) rfl scIs.nd (pi_list (pv 1)) (blkOk_by (N := ["text", "telling", "piece", "at", "number", "times"]) (sc := defScope sIs) (by decide +kernel))
            (fun _ _ _ _ _ => pg_name (i := 2) scIs.nd rfl (Or.inl rfl)) (fun _ _ _ _ _ => pts_nil) (fun _ _ _ _ _ => pe_call GP hr rfl gP FP.kp bP .nil pass0 (pa_cons (pv 2) pa_nil))) pa_nil)))) (pss_one (ps_ret pe_bl)) pss_nil)
      (pss_cons (ps_if (pt_cmpR op_ne (pe_callB (cr_sum rfl) (by rfl) B.sum bt_sum (pa_cons
          (pe_lc (own := [("piece", 2)]) (g := gName 2) (tt := tYes) rfl scIs.nd (pi_list (pv 1)) (blkOk_by (N := ["text", "telling", "piece", "at", "number", "times"]) (sc := defScope sIs) (by decide +kernel))
            (fun _ _ _ _ _ => pg_name (i := 2) scIs.nd rfl (Or.inl rfl)) (fun _ _ _ _ _ => pts_nil) (fun _ _ _ _ _ => pe_call GS hr1 rfl gS FS.kp bS .nil pass0 (pa_cons (pv 2) pa_nil))) pa_nil)) (pe_len B.len (pv 0)) (nomark _)) (pss_one (ps_ret pe_bl)) pss_nil)
      (pss_cons (ps_set (i := 3) scIs.nd rfl (.inl rfl) pe_int)
      (pss_cons (ps_for PassesOwn.never rfl (pi_enum (by rfl) B.enumerate (pa_cons (pv 1) pa_nil)) (pg_tup rfl (pgs_cons (pg_name (i := 4) scIs.nd rfl (.inl rfl)) (pgs_cons (pg_name (i := 2) scIs.nd rfl (.inl rfl)) pgs_nil)))
        (pss_cons (ps_if (pt_not (pt_val (pe_call GT hr1 rfl gT FT.kp bT .nil pass0 (pa_cons (pv 0) (pa_cons (pv 3) (pa_cons (pv 2) pa_nil)))))) (pss_one (ps_ret pe_bl)) pss_nil)
        (pss_cons (ps_set (i := 5) scIs.nd rfl (.inl rfl) (pe_ix ix_tup (pe_call GL hr1 rfl gL FL.kp bL .nil pass0 (pa_cons (pv 0) (pa_cons (pv 3) pa_nil))) pe_int (fun _ _ => rfl)))
        (pss_cons (ps_if (PW.pt (pw_and (pt_cmpR op_lt (pe_op op_add (pv 4) pe_int) (pe_len B.len (pv 1)) (nomark _))
          (pw_and1 (pt_cmpR op_ne (pe_callB (call_max2 rfl) (by rfl) B.max bt_max (pa_cons pe_int (pa_cons (pv 5) pa_nil))) (pe_call GS hr1 rfl gS FS.kp bS .nil pass0 (pa_cons (pv 2) pa_nil)) (nomark _))))) (pss_one (ps_ret pe_bl)) pss_nil)
        (pss_cons (ps_if (PW.pt (pw_and (pt_cmpR op_lt (pe_op op_add (pv 4) pe_int) (pe_len B.len (pv 1)) (nomark _))
          (pw_and (pt_cmpR op_eq (pe_ix ix_tup (pv 2) pe_int (fun _ _ => rfl)) (pe_glob (v := .str "sign") rfl hs ⟨_, rfl⟩) (nomark _)) (pw_and1 (pt_cmpR op_gt (pv 5) pe_int (nomark _)))))) (pss_one (ps_ret pe_bl)) pss_nil)
        (pss_one (ps_aug (i := 3) scIs.nd rfl (.inl rfl) (pe_call GS hr1 rfl gS FS.kp bS .nil pass0 (pa_cons (pv 2) pa_nil)) ip_add)))))))
      (pss_one (ps_ret pe_bl))))), ?_⟩
    have hcl : cs.length ≤ 400 := by
      have := htl.len
      omega
    have hpl : (ps.map V.ref).length = cs.length := by rw [List.length_map, hP.1]
    -- not all([is_piece(piece) for piece in telling])
    refine ⟨.ref b, rfl, b, rfl, ⟨_, hB⟩, fun D nD => ?_⟩
    refine lc_list (K := K) (a := b) (xs := ps.map V.ref) (fun i H' => Same H H' ∧ H' D = some (.lst ((List.replicate i true).map V.bl))) ⟨same_upd nD, upd_same⟩ (fun i H' _ hP => hP.1.seq hB) (fun i v H1 hv hQ => ?_) (fun H1 hQ => ?_)
    · obtain ⟨s1, eD⟩ := hQ
      obtain ⟨r, c, rfl, hc, hT⟩ := hP.item hv
      have hi : i < cs.length := (List.getElem?_eq_some_iff.mp hc).1
      refine ⟨rfl, .ref r, rfl, r, c, rfl, Same.sqt s1 hT, hok c (List.mem_of_getElem? hc), fun H2 s2 => ⟨_, s2 _ _ eD, lt_line ?_, same_set (s1.trans s2) nD, ?_⟩⟩
      · rw [List.length_map, List.length_replicate]
        omega
      · rw [upd_same, List.replicate_succ', List.map_append]
        rfl
    obtain ⟨s1, eD⟩ := hQ
    refine ⟨D, _, rfl, .inl (.inl eD), true, ?_, iteF ?_⟩
    · have : ((List.replicate (ps.map V.ref).length true).all id) = true := by simp
      rw [this]
    -- sum([size_of(piece) for piece in telling]) != len(text)
    refine ⟨.ref b, rfl, b, rfl, ⟨_, s1.seq hB⟩, fun D2 nD2 => ?_⟩
    have nH2 := same_none s1 nD2
    refine lc_list (K := K) (a := b) (xs := ps.map V.ref) (fun i H' => Same H H' ∧ H' D2 = some (.lst (iv (szs (cs.take i))))) ⟨same_set s1 nH2, upd_same⟩ (fun i H' _ hP => hP.1.seq hB) (fun i v H2 hv hQ => ?_) (fun H2 hQ => ?_)
    · obtain ⟨s2, eD2⟩ := hQ
      obtain ⟨r, c, rfl, hc, hT⟩ := hP.item hv
      have hi : i < cs.length := (List.getElem?_eq_some_iff.mp hc).1
      refine ⟨rfl, .ref r, rfl, r, c, rfl, Same.sqt s2 hT, _, eD2, lt_line ?_, same_set s2 nH2, ?_⟩
      · rw [List.length_map]
        unfold szs
        rw [List.length_map, List.length_take]
        omega
      · rw [upd_same, take_more hc, iv_snoc]
        unfold szs
        rw [List.map_append]
        rfl
    obtain ⟨s2, eD2⟩ := hQ
    rw [hpl, List.take_length] at eD2
    refine ⟨D2, szs cs, rfl, .inl (.inl eD2), .ref p, rfl, p, _, rfl, .inl (s2.seq hL), rfl, _, rfl, ifF ?_ ?_⟩
    · have e : (szs cs).sum = ((iv x).length : Int) := by
        rw [szs_sum, List.length_map, ← htl.size, Nat.zero_add]
      rw [e]
      simp
    -- at = 0; the loop
    refine ⟨.ref b, rfl, b, _, rfl, s2.seq hB, for_it (walk_enum (K := K) (a := b) (xs := ps.map V.ref)) (fun i σ H' => ∃ (a : Nat) (y2 y4 y5 : Option V), σ = [some (.ref p), some (.ref b), y2, some (.int (a : Int)), y4, y5] ∧ Same H H' ∧ Tl x a (cs.drop i) ∧ (IsL x a (cs.drop i) ↔ IsL x 0 cs))
      ⟨0, none, none, none, rfl, s2, htl, Iff.rfl⟩ (fun i σ H' _ ⟨_, _, _, _, _, s3, _⟩ => s3.seq hB) ?_ ?_⟩
    · rintro i v σ H3 H4 hi0 ⟨a, y2, y4, y5, rfl, s3, htl2, hiff⟩ ⟨T, z1, z2, rfl, nT, rfl, hz1, hv⟩
      cases (Option.some.inj hz1)
      obtain ⟨r, c, rfl, hc, hT⟩ := hP.item hv
      have hi : i < cs.length := (List.getElem?_eq_some_iff.mp hc).1
      rw [drop_at hc] at htl2 hiff
      obtain ⟨hte, htl3⟩ := htl2
      have hpos := hte.pos
      have s4 : Same H (upd H3 T (.tup [.int (i : Nat), .ref r])) := same_new s3 nT
      -- number, piece
      refine ⟨T, _, rfl, .inl (.inl upd_same), rfl, _, _, rfl, _, _, rfl, rfl, ?_⟩
      -- not piece_tells(text, at, piece)
      refine ⟨.ref p, rfl, .int a, rfl, .ref r, rfl, p, r, x, a, c, rfl, s4.seq hL, Same.sqt s4 hT, hte, fun H5 s5 => ⟨true, rfl, iteF ?_⟩⟩
      have s6 := s4.trans s5
      -- times = longest_copy(text, at)[1]
      refine ⟨.ref p, rfl, .int a, rfl, p, x, a, rfl, s6.seq hL, by omega, hx, fun H7 u bk t s7 eu hlg => ?_⟩
      have s8 := s6.trans s7
      have hT8 := Same.sqt s8 hT
      have hB8 := s8.seq hB
      refine ⟨u, _, _, _, rfl, rfl, .inl (.inl eu), atI_nat (j := 1) rfl, ?_⟩
      -- the first test
      refine ⟨.int (i : Nat), rfl, _, _, rfl, rfl, .ref b, rfl, b, _, rfl, .inl hB8, _, _, rfl, rfl, _, rfl, ite2 (fun e1 => ?_) (fun e1 => ?_)⟩
      · have e1 : i + 1 < cs.length := by
          have h := of_decide_eq_true e1
          rw [hpl] at h
          omega
        have e1' : (decide ((i : Int) + 1 < ((ps.map V.ref).length : Nat))) = true := by
          rw [hpl]
          exact decide_eq_true (by omega)
        obtain ⟨d, hd⟩ : ∃ d, cs[i + 1]? = some d := ⟨_, List.getElem?_eq_getElem e1⟩
        have ed := drop_at hd
        rw [ed] at hiff htl3
        have key : IsL x a (c :: d :: cs.drop (i + 1 + 1)) ↔ (max 1 t = c.size ∧ ∀ s, c = .sg s → t = 0) ∧ IsL x (a + c.size) (d :: cs.drop (i + 1 + 1)) := by
          constructor
          · rintro ⟨⟨t', h1, h2, h3⟩, h4⟩
            have e := h1.unique hlg.1
            subst e
            exact ⟨⟨h2, h3⟩, h4⟩
          · rintro ⟨⟨h2, h3⟩, h4⟩
            exact ⟨⟨t, hlg.1, h2, h3⟩, h4⟩
        have emax : (if (t : Int) > 1 then (t : Int) else 1) = ((max 1 t : Nat) : Int) := by
          split <;> omega
        refine ⟨.int t, rfl, _, _, rfl, .ref r, rfl, r, c, rfl, hT8, rfl, _, rfl, ite2 (fun e2 => ?_) (fun e2 => ?_)⟩
        · -- return False
          rw [emax] at e2
          refine q _ false s8 ⟨fun h => Bool.noConfusion h, fun h => ?_⟩
          have h2 := (key.mp (hiff.mpr h)).1.1
          rw [h2] at e2
          simp at e2
        · rw [emax] at e2
          have e2 : max 1 t = c.size := by
            by_cases h : max 1 t = c.size
            · exact h
            · refine absurd ?_ e2
              rw [Bool.not_eq_true', decide_eq_false_iff_not]
              intro z
              have z := V.int.inj z
              omega
          refine ⟨.int (i : Nat), rfl, _, _, rfl, rfl, .ref b, rfl, b, _, rfl, .inl hB8, _, _, rfl, rfl, _, rfl, ifT e1' ?_⟩
          cases c with
          | sg z =>
            refine ⟨.ref r, rfl, r, _, _, _, rfl, rfl, hT8, atI_nat (j := 0) rfl, rfl, _, rfl, ifT (by decide) ?_⟩
            refine ⟨.int t, rfl, _, _, rfl, rfl, _, rfl, ite2 (fun e3 => ?_) (fun e3 => ?_)⟩
            · have e3 := of_decide_eq_true e3
              refine q _ false s8 ⟨fun h => Bool.noConfusion h, fun h => ?_⟩
              have h2 := (key.mp (hiff.mpr h)).1.2 z rfl
              omega
            · have e3 : t = 0 := by
                have h : ¬ ((0 : Int) < (t : Int)) := fun h => e3 (decide_eq_true h)
                omega
              refine ⟨.int a, rfl, .ref r, rfl, r, .sg z, rfl, hT8, _, _, rfl, rfl, a + (Pc.sg z).size, some (.ref r), some (.int (i : Nat)), some (.int t), rfl, s8, ?_, ?_⟩
              · rw [ed]
                exact htl3
              · rw [ed, ← hiff]
                exact ⟨fun h => key.mpr ⟨⟨e2, fun _ _ => e3⟩, h⟩, fun h => (key.mp h).2⟩
          | cp b' t' =>
            refine ⟨.ref r, rfl, r, _, _, _, rfl, rfl, hT8, atI_nat (j := 0) rfl, rfl, _, rfl, ifF (by decide) (iteF ?_)⟩
            refine ⟨.int a, rfl, .ref r, rfl, r, .cp b' t', rfl, hT8, _, _, rfl, rfl, a + (Pc.cp b' t').size, some (.ref r), some (.int (i : Nat)), some (.int t), rfl, s8, ?_, ?_⟩
            · rw [ed]
              exact htl3
            · rw [ed, ← hiff]
              exact ⟨fun h => key.mpr ⟨⟨e2, fun _ h => nomatch h⟩, h⟩, fun h => (key.mp h).2⟩
      · have e1' : decide ((i : Int) + 1 < ((ps.map V.ref).length : Nat)) = false := Bool.eq_false_iff.mpr e1
        have e1 : i + 1 = cs.length := by
          have h := of_decide_eq_false e1'
          rw [hpl] at h
          omega
        have ed : cs.drop (i + 1) = [] := by
          rw [e1]
          exact List.drop_length
        refine iteF ?_
        refine ⟨.int (i : Nat), rfl, _, _, rfl, rfl, .ref b, rfl, b, _, rfl, .inl hB8, _, _, rfl, rfl, _, rfl, ifF e1' (iteF ?_)⟩
        refine ⟨.int a, rfl, .ref r, rfl, r, c, rfl, hT8, _, _, rfl, rfl, a + c.size, some (.ref r), some (.int (i : Nat)), some (.int t), rfl, s8, htl3, ?_⟩
        rw [ed] at hiff ⊢
        exact ⟨fun _ => hiff.mp trivial, fun _ => trivial⟩
    · rintro σ H3 ⟨a, y2, y4, y5, rfl, s3, _, hiff⟩
      have ed : cs.drop (ps.map V.ref).length = [] := by
        rw [hpl]
        exact List.drop_length
      rw [ed] at hiff
      exact q _ true s3 ⟨fun _ => hiff.mp trivial, fun _ => rfl⟩
end
end K34

namespace K34
open PySem PySem.Spec PyProof.Rows L2
/-! ### the law's helpers: _law_cell_at, _law_stir, _law_reach, _law_longest -/
theorem small_mod {a m : Int} (h0 : 0 < m) (h : m ≤ 2 ^ 32) : -(2 ^ 64) < a % m ∧ a % m < 2 ^ 64 := by
  have h1 := Int.emod_nonneg a (show m ≠ 0 by omega)
  have h2 := Int.emod_lt_of_pos a h0
  omega
theorem stir_end (a : Int) : 0 ≤ (a % 2147483629) * (a % 2147483629) % 2147483587 + a % 2147483629 := by
  have h1 := Int.emod_nonneg a (show (2147483629 : Int) ≠ 0 by decide)
  have h2 := Int.emod_nonneg ((a % 2147483629) * (a % 2147483629)) (show (2147483587 : Int) ≠ 0 by decide)
  omega
section
variable {P : Program} {w : World} {K : PySem.W.Frag} {mg : Str → Option Value} {base : Heap}
def spCell (K : PySem.W.Frag) : Sp := fun vs H Q _ => ∃ (a : Addr) (ns : List Int) (k : Nat), vs = [.ref a, .int (k : Int)] ∧ SqL K H a (iv ns) ∧ ∀ z, Q (.int z) H
theorem ok_cell {f : Addr} {fd : FuncData} {k : Nat} (F : Fun K "_law_cell_at" "_law_cell_at" sCell f fd) (B : Bi mg) : FnOk P w K mg base CX0 (k + 1) f fd ["script", "k"] (spCell K) := by
  refine F.ok scCell (fun vs H Q E h => ?_) (fun cdv A outer s H vs Q E hr h => ?_)
  · obtain ⟨a, ns, j, rfl, _⟩ := h
    rfl
  · obtain ⟨a, ns, j, rfl, hS, q⟩ := h
    refine ⟨_, pss_cons (ps_if (pt_cmpR op_lt (pv 1) (pe_len B.len (pv 0)) (nomark _)) (pss_one (ps_ret (pe_ix ix_list (pv 0) (pv 1) (fun _ _ => rfl)))) pss_nil) (pss_one (ps_ret pe_int)), ?_⟩
    refine ⟨.int j, rfl, .ref a, rfl, a, _, rfl, .inl hS, _, _, rfl, rfl, _, rfl, ite2 (fun e => ?_) (fun e => ?_)⟩
    · have e : j < ns.length := by
        have h := of_decide_eq_true e
        rw [List.length_map] at h
        omega
      exact ⟨.ref a, rfl, .int j, rfl, a, _, _, _, rfl, rfl, hS, at_of rfl (iv_at (List.getElem?_eq_getElem e)), q _⟩
    · exact q 0
def spStir : Sp := fun vs H Q _ => ∃ (c k : Int), vs = [.int c, .int k] ∧ ∀ z, 0 ≤ z → Q (.int z) H
theorem ok_stir {f : Addr} {fd : FuncData} {k : Nat} (F : Fun K "_law_stir" "_law_stir" sStir f fd) (B : Bi mg) : FnOk P w K mg base CX0 (k + 1) f fd ["cell", "k"] spStir := by
  refine F.ok scStir (fun vs H Q E h => ?_) (fun cdv A outer s H vs Q E hr h => ?_)
  · obtain ⟨c, j, rfl, _⟩ := h
    rfl
  · obtain ⟨c, j, rfl, q⟩ := h
    refine ⟨_, pss_cons (ps_set (i := 2) scStir.nd rfl (.inl rfl) (pe_op op_mod (pe_op op_add (pe_op op_add (pe_op op_mul (pe_op op_mod (pv 0) (pe_op op_pow pe_int pe_int)) pe_int) (pe_op op_mul pe_int (pv 1))) pe_int) pe_int))
      (pss_cons (ps_set (i := 2) scStir.nd rfl (.inl rfl) (pe_op op_mod (pe_op op_add (pe_op op_mul (pv 2) (pv 2)) (pe_op op_mul pe_int (pv 2))) pe_int))
      (pss_one (ps_ret (pe_op op_add (pe_op op_mod (pe_op op_mul (pv 2) (pv 2)) pe_int) (pv 2))))), ?_⟩
    refine ⟨.int c, rfl, _, _, rfl, rfl, ⟨by decide, by decide, by decide⟩, _, _, rfl, rfl, (show (0 : Int) < 10 ^ Int.toNat 15 by decide +kernel), _, _, rfl, rfl, .inr ⟨by decide, by decide⟩, .int j, rfl, _, _, rfl, rfl, .inl ⟨by decide, by decide⟩, _, _, rfl, rfl, _, _, rfl, rfl, _, _, rfl, rfl, (show (0 : Int) < 2147483647 by decide), ?_⟩
    refine ⟨_, rfl, _, rfl, _, _, rfl, rfl, .inl (small_mod (by decide) (by decide)), _, rfl, _, _, rfl, rfl, .inl ⟨by decide, by decide⟩, _, _, rfl, rfl, _, _, rfl, rfl, (show (0 : Int) < 2147483629 by decide), ?_⟩
    exact ⟨_, rfl, _, rfl, _, _, rfl, rfl, .inl (small_mod (by decide) (by decide)), _, _, rfl, rfl, (show (0 : Int) < 2147483587 by decide), _, rfl, _, _, rfl, rfl, q _ (stir_end _)⟩
end
end K34

namespace K34
open PySem PySem.Spec PyProof.Rows L2
/-! ### _law_reach -/
theorem head_of (l s : List Nat) : ∃ j : Nat, (((iv (nv l)) ++ iv (nv s)) ++ [V.int 0])[0]? = some (.int (j : Int)) ∧ (l ≠ [] → j ∈ l) ∧ (l = [] → s ≠ [] → j ∈ s) := by
  cases l with
  | cons a r => exact ⟨a, rfl, fun _ => List.mem_cons_self, fun h => nomatch h⟩
  | nil =>
    cases s with
    | cons a r => exact ⟨a, rfl, fun h => absurd rfl h, fun _ _ => List.mem_cons_self⟩
    | nil => exact ⟨0, rfl, fun h => absurd rfl h, fun _ h => absurd rfl h⟩
/-- where the loop stands: l are the longer ones, s those ahead -/
def Reach (x : List Int) (a t : Nat) (l s : List Nat) : Prop := a + t ≤ x.length ∧ ((l ≠ [] ∧ l = sts x a t ∧ 1 ≤ t) ∨ (l = [] ∧ sts x a (t + 1) = [] ∧ ((t = 0 ∧ s = []) ∨ (1 ≤ t ∧ s = sts x a t ∧ s ≠ []))))
theorem Reach.done {x : List Int} {a t : Nat} {l s : List Nat} (h : Reach x a t l s) (hd : l = [] ∨ a + t = x.length) {j : Nat} (h1 : l ≠ [] → j ∈ l) (h2 : l = [] → s ≠ [] → j ∈ s) : Lg x a t ∧ (0 < t → j < a ∧ Mt x j a t) := by
  obtain ⟨hl, h | h⟩ := h
  · obtain ⟨k1, k2, k3⟩ := h
    have hj := h1 k1
    rw [k2] at hj
    refine ⟨lg_some hj hl (.inl ?_), fun _ => mem_sts hj hl⟩
    rcases hd with e | e
    · exact absurd e k1
    · exact e
  · obtain ⟨k1, k2, k3 | k3⟩ := h
    · obtain ⟨rfl, _⟩ := k3
      exact ⟨lg_none k2, fun h => absurd h (by omega)⟩
    · obtain ⟨k4, k5, k6⟩ := k3
      have hj := h2 k1 k6
      rw [k5] at hj
      exact ⟨lg_some hj hl (.inr k2), fun _ => mem_sts hj hl⟩
section
variable {P : Program} {w : World} {K : PySem.W.Frag} {mg : Str → Option Value} {base : Heap}
def spReach (K : PySem.W.Frag) : Sp := fun vs H Q _ => ∃ (p : Addr) (x : List Int) (a : Nat), vs = [.ref p, .int (a : Int)] ∧ SqL K H p (iv x) ∧ a < x.length ∧ x.length ≤ 400 ∧
  ∀ H' r (t j : Nat), Same H H' → H' r = some (.lst [.int (t : Int), .int (j : Int)]) → Lg x a t → (0 < t → j < a ∧ Mt x j a t) → Q (.ref r) H'
theorem ok_reach {f : Addr} {fd : FuncData} {k : Nat} (F : Fun K "_law_reach" "_law_reach" sReach f fd) (B : Bi mg) : FnOk P w K mg base CX0 (k + 1) f fd ["text", "at"] (spReach K) := by
  refine F.ok scReach (fun vs H Q E h => ?_) (fun cdv A outer s H vs Q E hr h => ?_)
  · obtain ⟨p, x, a, rfl, _⟩ := h
    rfl
  · obtain ⟨p, x, a, rfl, hL, ha, hx, q⟩ := h
    refine ⟨_, pss_cons (ps_setLc (i := 2) (own := [("k", 5)]) (g := gName 5) rfl scReach.nd rfl rfl (sw_true rfl rfl rfl (by decide +kernel)) (pi_range1 rfl B.range (pa_cons (pv 1) pa_nil))
        (blkOk_by (N := ["text", "at", "starts", "many", "longer", "k"]) (sc := defScope sReach) (by decide +kernel)) (fun _ _ _ _ _ => pg_name (i := 5) scReach.nd rfl (Or.inl rfl))
        (fun _ _ _ _ _ => pts_one (pt_cmpR op_eq (pe_ix (r := rIxL K) ix_list (pv 0) (pv 5) (fun _ _ => rfl)) (pe_ix (r := rIxL K) ix_list (pv 0) (pv 1) (fun _ _ => rfl)) (nomark _))) (fun _ _ _ _ _ => pv 5))
      (pss_cons (ps_set (i := 3) scReach.nd rfl (.inr rfl) (pe_callTy call_int1 (by rfl) B.int bt_int (pa_cons (pe_cmpR (op_neD hr.units) (pv 2) (pe_lst pa_nil) (nomark _)) pa_nil)))
      (pss_cons (ps_set (i := 4) scReach.nd rfl (.inl rfl) (pv 2))
      (pss_cons (ps_while PassesOwn.never (PW.pt (pw_and (pt_cmpR (op_neD hr.units) (pv 4) (pe_lst pa_nil) (nomark _)) (pw_and1 (pt_cmpR op_lt (pe_op op_add (pv 1) (pv 3)) (pe_len B.len (pv 0)) (nomark _)))))
        (pss_cons (ps_set (i := 2) scReach.nd rfl (.inl rfl) (pv 4))
        (pss_cons (ps_setLc (i := 4) (own := [("k", 5)]) (g := gName 5) rfl scReach.nd rfl rfl (sw_true rfl rfl rfl (by decide +kernel)) (pi_list (pv 2))
          (blkOk_by (N := ["text", "at", "starts", "many", "longer", "k"]) (sc := defScope sReach) (by decide +kernel)) (fun _ _ _ _ _ => pg_name (i := 5) scReach.nd rfl (Or.inl rfl))
          (fun _ _ _ _ _ => pts_one (pt_cmpR op_eq (pe_ix (r := rIxL K) ix_list (pv 0) (pe_op op_add (pv 5) (pv 3)) (fun _ _ => rfl)) (pe_ix (r := rIxL K) ix_list (pv 0) (pe_op op_add (pv 1) (pv 3)) (fun _ _ => rfl)) (nomark _))) (fun _ _ _ _ _ => pv 5))
        (pss_one (ps_set (i := 3) scReach.nd rfl (.inr rfl) (pe_op op_add (pv 3) (pe_callTy call_int1 (by rfl) B.int bt_int (pa_cons (pe_cmpR (op_neD hr.units) (pv 4) (pe_lst pa_nil) (nomark _)) pa_nil))))))))
      (pss_one (ps_ret (pe_lst (pa_cons (pv 3) (pa_cons (pe_ix ix_list (pe_op op_cat (pe_op op_cat (pv 4) (pv 2)) (pe_lst (pa_cons pe_int pa_nil))) pe_int (fun _ _ => rfl)) pa_nil)))))))), ?_⟩
    -- starts = [k for k in range(at) if text[k] == text[at]]
    refine ⟨.int a, rfl, (a : Int), rfl, by omega, by omega, fun D nD => ?_⟩
    have s1 : Same H (upd H D (.lst [])) := same_upd nD
    refine lc_range (lo := 0) (n := a) (fun i H' => Same H H' ∧ H' D = some (.lst (iv (nv ((List.range i).filter fun j => agree x j a 1))))) ⟨s1, upd_same⟩ (fun i H1 hi hP => ?_) (fun H1 hP => ?_)
    · obtain ⟨s2, eD⟩ := hP
      have g1 : x[i]? = some x[i] := List.getElem?_eq_getElem (by omega)
      have g2 : x[a]? = some x[a] := List.getElem?_eq_getElem ha
      have ez : (0 : Int) + (i : Int) = ((i : Nat) : Int) := by omega
      refine ⟨rfl, .ref p, rfl, .int (0 + (i : Int)), rfl, p, _, _, _, rfl, rfl, s2.seq hL, at_of ez (iv_at g1), .ref p, rfl, .int a, rfl, p, _, _, _, rfl, rfl, s2.seq hL, at_of rfl (iv_at g2), rfl, _, rfl, ?_⟩
      rw [List.range_succ]
      refine ite2 (fun e => ?_) (fun e => ?_)
      · have e2 : agree x i a 1 = true := by
          rw [agree_one, ← opt_beq g1 g2]
          exact e
        rw [filter_t (p := fun j => agree x j a 1) e2]
        refine ⟨.int (0 + (i : Int)), rfl, _, eD, lt_line ?_, same_set s2 nD, ?_⟩
        · rw [List.length_map, nv_len]
          have := List.length_filter_le (fun j => agree x j a 1) (List.range i)
          rw [List.length_range] at this
          omega
        · rw [upd_same, ez, iv_snoc, nv_snoc]
      · have e2 : agree x i a 1 = false := by
          rw [agree_one, ← opt_beq g1 g2]
          exact Bool.eq_false_iff.mpr e
        rw [filter_f (p := fun j => agree x j a 1) e2]
        exact ⟨s2, eD⟩
    obtain ⟨s2, eD⟩ := hP
    have eD : H1 D = some (.lst (iv (nv (sts x a 1)))) := eD
    -- many = int(starts != [])
    refine ⟨.ref D, rfl, Nat.zero_le _, fun e ne => ?_⟩
    have s3 : Same H1 (upd H1 e (.lst [])) := same_upd ne
    refine ne_ints (y := []) (.inl (.inl (s3 _ _ eD))) (.inl (.inl upd_same)) (.inr ⟨_, rfl, ?_⟩)
    have s4 : Same H (upd H1 e (.lst [])) := s2.trans s3
    have eD4 := s3 _ _ eD
    obtain ⟨t0, et0, ht0⟩ : ∃ t0 : Nat, (if (!decide (nv (sts x a 1) = [])) = true then (1 : Int) else 0) = (t0 : Int) ∧ Reach x a t0 (sts x a 1) (sts x a 1) := by
      by_cases z : sts x a 1 = []
      · refine ⟨0, ?_, by omega, .inr ⟨z, z, .inl ⟨rfl, z⟩⟩⟩
        rw [z]
        rfl
      · refine ⟨1, ?_, by omega, .inl ⟨z, rfl, Nat.le_refl _⟩⟩
        rw [decide_eq_false (fun h => z (nv_nil h))]
        rfl
    rw [et0]
    -- longer = starts; the loop
    refine ⟨.ref D, rfl, fun m σ H' => ∃ (ps pl : Addr) (t : Nat) (l s : List Nat) (y5 : Option V), σ = [some (.ref p), some (.int (a : Int)), some (.ref ps), some (.int (t : Int)), some (.ref pl), y5] ∧ Same H H' ∧ H' pl = some (.lst (iv (nv l))) ∧ H' ps = some (.lst (iv (nv s))) ∧ s.length ≤ a ∧ l.length ≤ a ∧ Reach x a t l s ∧
        m = 2 * (x.length - (a + t)) + l.length.min 1, ⟨_, D, D, t0, sts x a 1, sts x a 1, none, rfl, s4, eD4, eD4, sts_len x a 1, sts_len x a 1, ht0, rfl⟩, ?_⟩
    rintro m σ H2 ⟨ps, pl, t, l, s', y5, rfl, s5, el, es, hs', hl', hR, rfl⟩
    have fin : (l = [] ∨ a + t = x.length) → ∀ H3, Same H H3 → ∀ r j, H3 r = none → (((iv (nv l)) ++ iv (nv s')) ++ [V.int 0])[0]? = some (.int (j : Nat)) → (l ≠ [] → j ∈ l) → (l = [] → s' ≠ [] → j ∈ s') → Q (.ref r) (upd H3 r (.lst [.int (t : Int), .int (j : Int)])) := by
      intro hd H3 s6 r j nr _ h1 h2
      obtain ⟨k1, k2⟩ := hR.done hd h1 h2
      exact q _ r t j (same_new s6 nr) upd_same k1 k2
    -- longer != []
    refine ⟨.ref pl, rfl, Nat.zero_le _, fun e2 ne2 => ?_⟩
    have s6 : Same H2 (upd H2 e2 (.lst [])) := same_upd ne2
    have s7 := s5.trans s6
    have el2 := s6 _ _ el
    have es2 := s6 _ _ es
    refine ne_ints (y := []) (.inl (.inl el2)) (.inl (.inl upd_same)) ⟨_, rfl, ?_⟩
    by_cases z : l = []
    · -- the loop's end
      refine ifF (by rw [z]; rfl) (iteF ?_)
      obtain ⟨j, hj, j1, j2⟩ := head_of l s'
      refine ⟨.int t, rfl, .ref pl, rfl, .ref ps, rfl, pl, ps, _, _, rfl, rfl, el2, es2, le_line ?_, fun u nu => ⟨le_line (by simp), fun v nv' => ?_⟩⟩
      · rw [List.length_map, List.length_map, nv_len, nv_len]
        omega
      refine ⟨u, v, _, _, rfl, rfl, same_upd nv' _ _ upd_same, upd_same, le_line ?_, fun w' nw => ?_⟩
      · rw [List.length_append, List.length_map, List.length_map, nv_len, nv_len]
        simp only [List.length_cons, List.length_nil]
        omega
      refine ⟨w', _, _, _, rfl, rfl, .inl (.inl upd_same), atI_nat (j := 0) hj, le_line (by simp), fun r nr => ?_⟩
      exact fin (.inl z) _ (((s7.trans (same_upd nu)).trans (same_upd nv')).trans (same_upd nw)) r j nr hj j1 j2
    · refine ifT (by rw [decide_eq_false (fun h => z (nv_nil h))]; rfl) ?_
      -- at + many < len(text)
      obtain ⟨hle, hR2⟩ := id hR
      obtain ⟨_, rl, rt⟩ : l ≠ [] ∧ l = sts x a t ∧ 1 ≤ t := by
        rcases hR2 with h | h
        · exact h
        · exact absurd h.1 z
      refine ⟨.int a, rfl, .int t, rfl, _, _, rfl, rfl, .ref p, rfl, p, _, rfl, .inl (s7.seq hL), _, _, rfl, rfl, _, rfl, ite2 (fun e1 => ?_) (fun e1 => ?_)⟩
      · have e1 : a + t < x.length := by
          have h := of_decide_eq_true e1
          rw [List.length_map] at h
          omega
        have hmin : l.length.min 1 = 1 := by
          have := List.length_pos_iff.mpr z
          exact Nat.min_eq_right this
        refine ⟨fun σ' H' => ∃ (ps pl : Addr) (t' : Nat) (l' s : List Nat) (y5 : Option V), σ' = [some (.ref p), some (.int (a : Int)), some (.ref ps), some (.int (t' : Int)), some (.ref pl), y5] ∧ Same H H' ∧ H' pl = some (.lst (iv (nv l'))) ∧ H' ps = some (.lst (iv (nv s))) ∧ s.length ≤ a ∧ l'.length ≤ a ∧ Reach x a t' l' s ∧
          2 * (x.length - (a + t')) + l'.length.min 1 < 2 * (x.length - (a + t)) + 1, fun σ' H' hN => ?_, ?_⟩
        · obtain ⟨ps', pl', t', l', s'', z5, h1, h2, h3, h4, h5, h6, h7, h8⟩ := hN
          rw [hmin]
          exact ⟨_, h8, ps', pl', t', l', s'', z5, h1, h2, h3, h4, h5, h6, h7, rfl⟩
        -- starts = longer; longer = [..]
        refine ⟨.ref pl, rfl, .ref pl, rfl, pl, rfl, ⟨_, .inl (.inl el2)⟩, fun D2 nD2 => ?_⟩
        have nH : H D2 = none := same_none s7 nD2
        rw [rl] at el2
        refine lc_list (K := K) (a := pl) (xs := iv (nv (sts x a t))) (fun i H' => Same (upd H2 e2 (.lst [])) H' ∧ H' D2 = some (.lst (iv (nv (((sts x a t).take i).filter fun j => x[j + t]? == x[a + t]?))))) ⟨same_upd nD2, upd_same⟩
          (fun i H' _ hP => .inl (.inl (hP.1 _ _ el2))) (fun i v H3 hv hP => ?_) (fun H3 hP => ?_)
        · obtain ⟨s8, eD2⟩ := hP
          obtain ⟨z1, hz1, rfl⟩ := iv_of hv
          obtain ⟨j, hj, rfl⟩ := nv_of hz1
          obtain ⟨j1, _⟩ := mem_sts (List.mem_of_getElem? hj) hle
          have g1 : x[j + t]? = some x[j + t] := List.getElem?_eq_getElem (by omega)
          have g2 : x[a + t]? = some x[a + t] := List.getElem?_eq_getElem e1
          have s9 := s7.trans s8
          refine ⟨rfl, .ref p, rfl, .int (j : Int), rfl, .int (t : Int), rfl, _, _, rfl, rfl, p, _, _, _, rfl, rfl, s9.seq hL, at_of (j := j + t) (by omega) (iv_at g1), .ref p, rfl, .int (a : Int), rfl, .int (t : Int), rfl, _, _, rfl, rfl, p, _, _, _, rfl, rfl, s9.seq hL, at_of (j := a + t) (by omega) (iv_at g2), rfl, _, rfl, ?_⟩
          rw [take_more hj]
          refine ite2 (fun e => ?_) (fun e => ?_)
          · have e2 : (x[j + t]? == x[a + t]?) = true := by
              rw [← opt_beq g1 g2]
              exact e
            rw [filter_t (p := fun j => x[j + t]? == x[a + t]?) e2]
            refine ⟨.int (j : Int), rfl, _, eD2, lt_line ?_, same_set s8 nD2, ?_⟩
            · rw [List.length_map, nv_len]
              have h1 := List.length_filter_le (fun j => x[j + t]? == x[a + t]?) ((sts x a t).take i)
              have h2 := sts_len x a t
              rw [List.length_take] at h1
              omega
            · rw [upd_same, iv_snoc, nv_snoc]
          · have e2 : (x[j + t]? == x[a + t]?) = false := by
              rw [← opt_beq g1 g2]
              exact Bool.eq_false_iff.mpr e
            rw [filter_f (p := fun j => x[j + t]? == x[a + t]?) e2]
            exact ⟨s8, eD2⟩
        obtain ⟨s8, eD2⟩ := hP
        have eD2 : H3 D2 = some (.lst (iv (nv (sts x a (t + 1))))) := by
          rw [eD2, List.length_map, nv_len, List.take_length, sts_succ]
        -- many = many + int(longer != [])
        refine ⟨.int t, rfl, .ref D2, rfl, Nat.zero_le _, fun e3 ne3 => ?_⟩
        have s9 : Same H3 (upd H3 e3 (.lst [])) := same_upd ne3
        have s10 : Same H (upd H3 e3 (.lst [])) := (s7.trans s8).trans s9
        refine ne_ints (y := []) (.inl (.inl (s9 _ _ eD2))) (.inl (.inl upd_same)) (.inr ⟨_, rfl, _, _, rfl, rfl, ?_⟩)
        by_cases z2 : sts x a (t + 1) = []
        · refine ⟨pl, D2, t, sts x a (t + 1), sts x a t, y5, ?_, s10, s9 _ _ eD2, s9 _ _ (s8 _ _ el2), sts_len x a t, sts_len x a (t + 1), ⟨hle, .inr ⟨z2, z2, .inr ⟨rt, rfl, rl ▸ z⟩⟩⟩, ?_⟩
          · rw [z2]
            show _ = [some (V.ref p), some (V.int (a : Int)), some (V.ref pl), some (V.int (t : Int)), some (V.ref D2), y5]
            simp [nv]
          · rw [z2]
            show 2 * (x.length - (a + t)) + 0 < _
            omega
        · refine ⟨pl, D2, t + 1, sts x a (t + 1), sts x a t, y5, ?_, s10, s9 _ _ eD2, s9 _ _ (s8 _ _ el2), sts_len x a t, sts_len x a (t + 1), ⟨e1, .inl ⟨z2, rfl, by omega⟩⟩, ?_⟩
          · have : decide (nv (sts x a (t + 1)) = []) = false := decide_eq_false (fun h => z2 (nv_nil h))
            rw [this]
            show _ = [some (V.ref p), some (V.int (a : Int)), some (V.ref pl), some (V.int ((t + 1 : Nat) : Int)), some (V.ref D2), y5]
            rfl
          · have := Nat.min_le_right (sts x a (t + 1)).length 1
            have h2 : (sts x a (t + 1)).length.min 1 ≤ 1 := this
            omega
      · have e1 : a + t = x.length := by
          have h : ¬ ((a : Int) + (t : Int) < ((iv x).length : Nat)) := fun h => e1 (decide_eq_true h)
          rw [List.length_map] at h
          omega
        obtain ⟨j, hj, j1, j2⟩ := head_of l s'
        refine ⟨.int t, rfl, .ref pl, rfl, .ref ps, rfl, pl, ps, _, _, rfl, rfl, el2, es2, le_line ?_, fun u nu => ⟨le_line (by simp), fun v nv' => ?_⟩⟩
        · rw [List.length_map, List.length_map, nv_len, nv_len]
          omega
        refine ⟨u, v, _, _, rfl, rfl, same_upd nv' _ _ upd_same, upd_same, le_line ?_, fun w' nw => ?_⟩
        · rw [List.length_append, List.length_map, List.length_map, nv_len, nv_len]
          simp only [List.length_cons, List.length_nil]
          omega
        refine ⟨w', _, _, _, rfl, rfl, .inl (.inl upd_same), atI_nat (j := 0) hj, le_line (by simp), fun r nr => ?_⟩
        exact fin (.inr e1) _ (((s7.trans (same_upd nu)).trans (same_upd nv')).trans (same_upd nw)) r j nr hj j1 j2
end
end K34

namespace K34
open PySem PySem.Spec PyProof.Rows L2
section
variable {P : Program} {w : World} {K : PySem.W.Frag} {mg : Str → Option Value} {base : Heap}
/-! ### _law_longest -/
theorem ok_lst {f fR : Addr} {fd fdR : FuncData} (F : Fun K "_law_longest" "_law_longest" sLst f fd) (B : Bi mg) (FR : Fun K "_law_reach" "_law_reach" sReach fR fdR) (bR : Binds K fdR ["text", "at"] []) (gR : mg "_law_reach" = some (.ref fR)) :
    FnOk P w K mg base CX0 2 f fd ["text"] (spCopies K) := by
  have GR : FnOk P w K mg base CX0 1 fR fdR ["text", "at"] (spReach K) := ok_reach FR B
  refine F.ok scLst (fun vs H Q E h => ?_) (fun cdv A outer s H vs Q E hr h => ?_)
  · obtain ⟨p, x, rfl, _⟩ := h
    rfl
  · obtain ⟨p, x, rfl, hL, hx, q⟩ := h
    refine ⟨_, pss_cons (ps_set (i := 1) scLst.nd rfl (.inl rfl) (pe_lst pa_nil))
      (pss_cons (ps_set (i := 2) scLst.nd rfl (.inl rfl) pe_int)
      (pss_cons (ps_while PassesOwn.never (pt_cmpR op_lt (pv 2) (pe_len B.len (pv 0)) (nomark _))
        (pss_cons (ps_asg (pe_call GR hr rfl gR FR.kp bR .nil pass0 (pa_cons (pv 0) (pa_cons (pv 2) pa_nil))) (pg_unl rfl (pgs_cons (pg_name (i := 3) scLst.nd rfl (.inl rfl)) (pgs_cons (pg_name (i := 4) scLst.nd rfl (.inl rfl)) pgs_nil))))
        (pss_cons (ps_if (pt_cmpR op_eq (pv 3) pe_int (nomark _))
          (pss_one (ps_expr (pe_bm PySem.F.plainAttrs_list PySem.F.slot_list_append PySem.F.type_list_append mt_append (pv 1)
              (pa_cons (pe_tup (pa_cons pe_str (pa_cons (pe_ix ix_list (pv 0) (pv 2) (fun _ _ => rfl)) pa_nil))) pa_nil))))
          (pss_one (ps_expr (pe_bm PySem.F.plainAttrs_list PySem.F.slot_list_append PySem.F.type_list_append mt_append (pv 1)
              (pa_cons (pe_tup (pa_cons pe_str (pa_cons (pe_op op_sub (pv 2) (pv 4)) (pa_cons (pv 3) pa_nil)))) pa_nil)))))
        (pss_one (ps_set (i := 2) scLst.nd rfl (.inl rfl) (pe_op op_add (pv 2) (pe_callB (call_max2 rfl) (by rfl) B.max bt_max (pa_cons pe_int (pa_cons (pv 3) pa_nil)))))))))
      (pss_one (ps_ret (pv 1))))), ?_⟩
    refine ⟨Nat.zero_le _, fun o no => ?_⟩
    have s1 : Same H (upd H o (.lst [])) := same_upd no
    refine ⟨fun m σ H' => ∃ (a : Nat) (ps : List Addr) (cs : List Pc) (y3 y4 : Option V), σ = [some (.ref p), some (.ref o), some (.int (a : Int)), y3, y4] ∧ Same H H' ∧ H' o = some (.lst (ps.map V.ref)) ∧ Pcs K H' ps cs ∧ a ≤ x.length ∧ cs.length ≤ a ∧ (∀ q, Gr x a q → Gr x 0 (cs ++ q)) ∧ m = x.length - a,
      ⟨_, 0, [], [], none, none, rfl, s1, upd_same, Pcs.nil, Nat.zero_le _, Nat.le_refl _, fun q h => h, rfl⟩, ?_⟩
    rintro m σ H1 ⟨a, ps, cs, y3, y4, rfl, s2, eo, hP, ha, hcl, hG, rfl⟩
    refine ⟨.int a, rfl, .ref p, rfl, p, _, rfl, .inl (s2.seq hL), _, _, rfl, rfl, _, rfl, ite2 (fun e1 => ?_) (fun e1 => ?_)⟩
    · have e1 : a < x.length := by
        have h := of_decide_eq_true e1
        rw [List.length_map] at h
        omega
      refine ⟨fun σ' H' => ∃ (a' : Nat) (ps : List Addr) (cs : List Pc) (y3 y4 : Option V), σ' = [some (.ref p), some (.ref o), some (.int (a' : Int)), y3, y4] ∧ Same H H' ∧ H' o = some (.lst (ps.map V.ref)) ∧ Pcs K H' ps cs ∧ a < a' ∧ a' ≤ x.length ∧ cs.length ≤ a' ∧ (∀ q, Gr x a' q → Gr x 0 (cs ++ q)), fun σ' H' hN => ?_, ?_⟩
      · obtain ⟨a', ps', cs', z3, z4, h1, h2, h3, h4, h5, h6, h7, h8⟩ := hN
        exact ⟨_, by omega, a', ps', cs', z3, z4, h1, h2, h3, h4, h6, h7, h8, rfl⟩
      -- many, start = _law_reach(text, at)
      refine ⟨.ref p, rfl, .int a, rfl, p, x, a, rfl, s2.seq hL, e1, hx, fun H2 r t j s3 er hlg hm => ?_⟩
      have s4 := s2.trans s3
      have eo2 := s3 _ _ eo
      have hP2 := hP.same s3
      have hpl : (ps.map V.ref).length < sizeLine := lt_line (by rw [List.length_map, hP.1]; omega)
      have g1 : x[a]? = some x[a] := List.getElem?_eq_getElem e1
      refine ⟨r, _, rfl, .inl (.inl er), rfl, _, _, rfl, _, _, rfl, rfl, ?_⟩
      refine ⟨.int t, rfl, rfl, _, rfl, ite2 (fun e2 => ?_) (fun e2 => ?_)⟩
      · have e2 : t = 0 := by
          have h := V.int.inj (of_decide_eq_true e2)
          omega
        subst e2
        have hb : Best x a (.sg x[a]) := ⟨0, hlg, rfl, g1⟩
        have hG2 : ∀ q, Gr x (a + 1) q → Gr x 0 ((cs ++ [.sg x[a]]) ++ q) := gr_snoc hG hb
        refine ⟨.ref o, rfl, .inl ⟨rfl, _, .inl (.inl eo2)⟩, .ref p, rfl, .int a, rfl, p, _, _, _, rfl, rfl, s4.seq hL, at_of rfl (iv_at g1), le_line (by simp), fun u nu => ?_⟩
        have eo3 := same_upd (o := .tup [.str "sign", .int x[a]]) nu _ _ eo2
        refine ⟨o, _, _, rfl, rfl, eo3, hpl, ?_⟩
        refine ⟨.int a, rfl, .int (0 : Nat), rfl, _, _, rfl, _, _, rfl, rfl, a + 1, ps ++ [u], cs ++ [.sg x[a]], _, _, rfl, same_set (s4.trans (same_upd nu)) no, by rw [upd_same, ref_snoc], ?_, by omega, e1, ?_, hG2⟩
        · exact pcs_grow eo3 ((hP2.same (same_upd nu)).snoc (.inl (.inl upd_same)))
        · rw [List.length_append, List.length_singleton]
          omega
      · have e2 : 0 < t := by
          rcases Nat.eq_zero_or_pos t with h | h
          · exact absurd (by rw [h]; rfl) e2
          · exact h
        obtain ⟨j1, hm⟩ := hm e2
        have hm2 : Mt x (a - (a - j)) a t := by
          rw [show a - (a - j) = j by omega]
          exact hm
        have hb : Best x a (.cp (a - j) t) := ⟨t, hlg, rfl, e2, by omega, by omega, hm2⟩
        have hG2 : ∀ q, Gr x (a + t) q → Gr x 0 ((cs ++ [.cp (a - j) t]) ++ q) := gr_snoc hG hb
        refine ⟨.ref o, rfl, .inl ⟨rfl, _, .inl (.inl eo2)⟩, .int a, rfl, .int j, rfl, _, _, rfl, rfl, .int t, rfl, le_line (by simp), fun u nu => ?_⟩
        have ej : (a : Int) - (j : Int) = ((a - j : Nat) : Int) := by omega
        have eo3 := same_upd (o := .tup [.str "copy", .int ((a : Int) - (j : Int)), .int (t : Int)]) nu _ _ eo2
        refine ⟨o, _, _, rfl, rfl, eo3, hpl, ?_⟩
        have hlen := hm.1
        have et : (if (t : Int) > 1 then (t : Int) else 1) = (t : Int) := by
          split <;> omega
        refine ⟨.int a, rfl, .int t, rfl, _, _, rfl, _, _, rfl, rfl, a + t, ps ++ [u], cs ++ [.cp (a - j) t], _, _, by rw [et]; rfl, same_set (s4.trans (same_upd nu)) no, by rw [upd_same, ref_snoc], ?_, by omega, hlen, ?_, hG2⟩
        · refine pcs_grow eo3 ((hP2.same (same_upd nu)).snoc (.inl (.inl ?_)))
          rw [upd_same]
          show some (HO.tup [V.str "copy", V.int ((a : Int) - (j : Int)), V.int (t : Int)]) = _
          rw [ej]
          rfl
        · rw [List.length_append, List.length_singleton]
          omega
    · have e1 : a = x.length := by
        have h : ¬ ((a : Int) < ((iv x).length : Nat)) := fun h => e1 (decide_eq_true h)
        rw [List.length_map] at h
        omega
      have hg := hG [] e1
      rw [List.append_nil] at hg
      exact ⟨.ref o, rfl, q H1 o cs s2 ⟨ps, .inl (.inl eo), hP⟩ hg⟩
end
end K34

namespace K34
open PySem PySem.Spec PyProof.Rows L2
/-! ### _law_made -/
theorem pick4 (y : Int) : ∃ b : Int, atI [V.int 2, V.int 3, V.int 16, V.int 256] (y % 4) = some (.int b) ∧ 2 ≤ b ∧ b ≤ 256 := by
  have h1 := Int.emod_nonneg y (show (4 : Int) ≠ 0 by decide)
  have h2 := Int.emod_lt_of_pos y (show (0 : Int) < 4 by decide)
  have h : y % 4 = 0 ∨ y % 4 = 1 ∨ y % 4 = 2 ∨ y % 4 = 3 := by omega
  rcases h with h | h | h | h
  · rw [h]
    exact ⟨2, rfl, by decide, by decide⟩
  · rw [h]
    exact ⟨3, rfl, by decide, by decide⟩
  · rw [h]
    exact ⟨16, rfl, by decide, by decide⟩
  · rw [h]
    exact ⟨256, rfl, by decide, by decide⟩
theorem pick3 (y : Int) : ∃ b : Int, atI [V.int 4, V.int 16, V.int 60] (y % 3) = some (.int b) ∧ 0 < b ∧ b ≤ 60 := by
  have h1 := Int.emod_nonneg y (show (3 : Int) ≠ 0 by decide)
  have h2 := Int.emod_lt_of_pos y (show (0 : Int) < 3 by decide)
  have h : y % 3 = 0 ∨ y % 3 = 1 ∨ y % 3 = 2 := by omega
  rcases h with h | h | h
  · rw [h]
    exact ⟨4, rfl, by decide, by decide⟩
  · rw [h]
    exact ⟨16, rfl, by decide, by decide⟩
  · rw [h]
    exact ⟨60, rfl, by decide, by decide⟩
theorem mod_in (y : Int) {b : Int} (h : 0 < b) : 0 ≤ y % b ∧ y % b < b := ⟨Int.emod_nonneg y (by omega), Int.emod_lt_of_pos y h⟩
/-- one more than a rest, as a number of places -/
theorem rest_nat (y : Int) {b : Int} (h : 0 < b) : ∃ n : Nat, 1 + y % b = (n : Int) ∧ 1 ≤ n ∧ (n : Int) ≤ b := by
  obtain ⟨h1, h2⟩ := mod_in y h
  exact ⟨(1 + y % b).toNat, by omega, by omega, by omega⟩
theorem pc_last (c : Pc) : ∃ z : Int, atI (pcV c) (-1) = some (.int z) ∧ atI [V.int 1, V.int z] (if decide (V.str (match c with | .sg _ => "sign" | .cp _ _ => "copy") = V.str "copy") = true then 1 else 0) = some (.int (c.size : Nat)) := by
  cases c with
  | sg s => exact ⟨s, atI_last [V.str "sign"] (.int s), rfl⟩
  | cp b t => exact ⟨t, atI_last [V.str "copy", V.int (b : Int)] (.int (t : Int)), rfl⟩
theorem pc_first (c : Pc) : (pcV c)[0]? = some (V.str (match c with | .sg _ => "sign" | .cp _ _ => "copy")) := by
  cases c <;> rfl
section
variable {P : Program} {w : World} {K : PySem.W.Frag} {mg : Str → Option Value} {base : Heap}
def spMade (K : PySem.W.Frag) : Sp := fun vs H Q _ => ∃ (a : Addr) (ns : List Int), vs = [.ref a] ∧ SqL K H a (iv ns) ∧ ns.length ≤ 63 ∧ ∀ H' r cs, Same H H' → Tel K H' r cs → Vd 0 cs → Q (.ref r) H'
theorem ok_made {f fC fT : Addr} {fd fdC fdT : FuncData} (F : Fun K "_law_made" "_law_made" sMade f fd) (B : Bi mg) (FC : Fun K "_law_cell_at" "_law_cell_at" sCell fC fdC) (bC : Binds K fdC ["script", "k"] []) (gC : mg "_law_cell_at" = some (.ref fC))
    (FT : Fun K "_law_stir" "_law_stir" sStir fT fdT) (bT : Binds K fdT ["cell", "k"] []) (gT : mg "_law_stir" = some (.ref fT)) :
    FnOk P w K mg base CX0 2 f fd ["script"] (spMade K) := by
  have GC : FnOk P w K mg base CX0 1 fC fdC ["script", "k"] (spCell K) := ok_cell FC B
  have GT : FnOk P w K mg base CX0 1 fT fdT ["cell", "k"] spStir := ok_stir FT B
  refine F.ok scMade (fun vs H Q E h => ?_) (fun cdv A outer s H vs Q E hr h => ?_)
  · obtain ⟨a, ns, rfl, _⟩ := h
    rfl
  · obtain ⟨a, ns, rfl, hS, hlen, q⟩ := h
    refine ⟨_, pss_cons (ps_set (i := 1) scMade.nd rfl (.inl rfl) (pe_call GC hr rfl gC FC.kp bC .nil pass0 (pa_cons (pv 0) (pa_cons pe_int pa_nil))))
      (pss_cons (ps_set (i := 2) scMade.nd rfl (.inl rfl) (pe_ix ix_list (pe_lst (pa_cons pe_int (pa_cons pe_int (pa_cons pe_int (pa_cons pe_int pa_nil))))) (pe_op op_mod (pe_op op_fdiv (pv 1) pe_int) pe_int) (fun _ _ => rfl)))
      (pss_cons (ps_set (i := 3) scMade.nd rfl (.inl rfl) (pe_lst pa_nil))
      (pss_cons (ps_set (i := 4) scMade.nd rfl (.inl rfl) pe_int)
      (pss_cons (ps_if (pt_cmpR op_eq (pe_op op_mod (pv 1) pe_int) pe_int (nomark _))
        (pss_cons (ps_set (i := 5) scMade.nd rfl (.inl rfl) (pe_call GC hr rfl gC FC.kp bC .nil pass0 (pa_cons (pv 0) (pa_cons pe_int pa_nil))))
        (pss_cons (ps_for PassesOwn.never rfl (pi_range1 rfl B.range (pa_cons (pe_op op_mod (pe_op op_fdiv (pv 1) pe_int) pe_int) pa_nil)) (pg_name (i := 6) scMade.nd rfl (.inl rfl))
          (pss_cons (ps_expr (pe_bm PySem.F.plainAttrs_list PySem.F.slot_list_append PySem.F.type_list_append mt_append (pv 3) (pa_cons (pe_tup (pa_cons pe_str (pa_cons (pe_op op_mod (pv 5) (pv 2)) pa_nil))) pa_nil)))
          (pss_one (ps_set (i := 5) scMade.nd rfl (.inl rfl) (pe_op op_fdiv (pv 5) (pv 2))))))
        (pss_one (ps_ret (pv 3))))) pss_nil)
      (pss_cons (ps_for PassesOwn.never rfl (pi_range2 rfl B.range (pa_cons pe_int (pa_cons (pe_callB (call_min2 rfl) (by rfl) B.min bt_min (pa_cons (pe_len B.len (pv 0)) (pa_cons pe_int pa_nil))) pa_nil))) (pg_name (i := 6) scMade.nd rfl (.inl rfl))
        (pss_cons (ps_set (i := 7) scMade.nd rfl (.inl rfl) (pe_call GT hr rfl gT FT.kp bT .nil pass0 (pa_cons (pe_ix ix_list (pv 0) (pv 6) (fun _ _ => rfl)) (pa_cons (pv 6) pa_nil))))
        (pss_cons (ps_set (i := 8) scMade.nd rfl (.inl rfl) (pe_tup (pa_cons pe_str (pa_cons (pe_op op_mod (pe_op op_fdiv (pv 7) pe_int) (pv 2)) pa_nil))))
        (C8.pss_cut (ps_if (PW.pt (pw_and (pt_cmpR op_gt (pv 4) pe_int (nomark _)) (pw_and1 (pt_cmpR op_gt (pe_op op_mod (pv 7) pe_int) pe_int (nomark _)))))
          (pss_one (ps_set (i := 8) scMade.nd rfl (.inl rfl) (pe_tup (pa_cons pe_str (pa_cons (pe_op op_add pe_int (pe_op op_mod (pe_op op_fdiv (pv 7) pe_int) (pv 4)))
            (pa_cons (pe_op op_add pe_int (pe_op op_mod (pe_op op_fdiv (pv 7) pe_int) (pe_ix ix_list (pe_lst (pa_cons pe_int (pa_cons pe_int (pa_cons pe_int pa_nil)))) (pe_op op_mod (pe_op op_fdiv (pv 7) pe_int) pe_int) (fun _ _ => rfl)))) pa_nil)))))) pss_nil)
        (pss_cons (ps_set (i := 9) scMade.nd rfl (.inl rfl) (pe_ix ix_list (pe_lst (pa_cons pe_int (pa_cons (pe_ix ix_tup (pv 8) (pe_un un_neg pe_int) (fun _ _ => rfl)) pa_nil)))
          (pe_callTy call_int1 (by rfl) B.int bt_int (pa_cons (pe_cmpR op_eq (pe_ix ix_tup (pv 8) pe_int (fun _ _ => rfl)) pe_str (nomark _)) pa_nil)) (fun _ _ => rfl)))
        (pss_one (ps_if (pt_cmpR op_le (pe_op op_add (pv 4) (pv 9)) pe_int (nomark _))
          (pss_cons (ps_expr (pe_bm PySem.F.plainAttrs_list PySem.F.slot_list_append PySem.F.type_list_append mt_append (pv 3) (pa_cons (pv 8) pa_nil)))
            (pss_one (ps_set (i := 4) scMade.nd rfl (.inl rfl) (pe_op op_add (pv 4) (pv 9))))) pss_nil)))))))
      (pss_one (ps_ret (pv 3)))))))), ?_⟩
    -- first
    refine ⟨.ref a, rfl, a, ns, 0, rfl, hS, fun first => ?_⟩
    -- base
    obtain ⟨b, hb, b1, b2⟩ := pick4 (first / 2)
    refine ⟨le_line (by simp), fun l nl => ?_⟩
    refine ⟨.int first, rfl, _, _, rfl, rfl, ⟨by decide, by decide⟩, _, _, rfl, rfl, (show (0 : Int) < 4 by decide), l, _, _, _, rfl, rfl, .inl (.inl upd_same), hb, ?_⟩
    -- telling, many
    refine ⟨Nat.zero_le _, fun o no => ?_⟩
    have s1 : Same H (upd (upd H l (.lst [V.int 2, V.int 3, V.int 16, V.int 256])) o (.lst [])) := (same_upd nl).trans (same_upd no)
    have nHo : H o = none := same_none (same_upd nl) no
    refine ⟨.int first, rfl, _, _, rfl, rfl, (show (0 : Int) < 2 by decide), rfl, _, rfl, ite2 (fun _ => ?_) (fun _ => ?_)⟩
    · -- none to sixty digits
      refine ⟨.ref a, rfl, a, ns, 1, rfl, s1.seq hS, fun cell => ?_⟩
      obtain ⟨d1, d2⟩ := mod_in (first / 8) (show (0 : Int) < 61 by decide)
      refine ⟨.int first, rfl, _, _, rfl, rfl, ⟨by decide, by decide⟩, _, _, rfl, rfl, (show (0 : Int) < 61 by decide), _, rfl, by omega, by omega, for_range (lo := 0) (n := (first / 8 % 61).toNat)
        (fun i σ H' => ∃ (cell : Int) (y6 : Option V) (ps : List Addr) (cs : List Pc), σ = [some (.ref a), some (.int first), some (.int b), some (.ref o), some (.int 0), some (.int cell), y6, none, none, none] ∧ Same H H' ∧ H' o = some (.lst (ps.map V.ref)) ∧ Pcs K H' ps cs ∧ Vd 0 cs ∧ sizes cs = i ∧ cs.length = i)
        ⟨cell, none, [], [], rfl, s1, upd_same, Pcs.nil, Nat.zero_le _, rfl, rfl⟩ ?_ ?_⟩
      · rintro i σ H1 hi ⟨cell, y6, ps, cs, rfl, s2, eo, hP, hv, hsz, hcl⟩
        have hi60 : i < 61 := by omega
        obtain ⟨m1, m2⟩ := mod_in cell (show 0 < b by omega)
        refine ⟨.ref o, rfl, .inl ⟨rfl, _, .inl (.inl eo)⟩, .int cell, rfl, .int b, rfl, _, _, rfl, rfl, (show 0 < b by omega), le_line (by simp), fun u nu => ?_⟩
        have eo3 := same_upd (o := .tup [.str "sign", .int (cell % b)]) nu _ _ eo
        refine ⟨o, _, _, rfl, rfl, eo3, lt_line (by rw [List.length_map, hP.1]; omega), ?_⟩
        refine ⟨.int cell, rfl, .int b, rfl, _, _, rfl, rfl, ⟨by omega, by omega⟩, cell / b, some (.int (0 + (i : Int))), ps ++ [u], cs ++ [.sg (cell % b)], rfl, same_set (s2.trans (same_upd nu)) nHo, by rw [upd_same, ref_snoc], ?_, ?_, ?_, ?_⟩
        · exact pcs_grow eo3 ((hP.same (same_upd nu)).snoc (.inl (.inl upd_same)))
        · refine hv.snoc ⟨m1, by omega⟩ ?_
          show 0 + sizes cs + 1 ≤ 400
          omega
        · rw [sizes_append, hsz]
          rfl
        · rw [List.length_append, hcl]
          rfl
      · rintro σ H1 ⟨cell, y6, ps, cs, rfl, s2, eo, hP, hv, _, _⟩
        exact ⟨.ref o, rfl, q H1 o cs s2 ⟨ps, .inl (.inl eo), hP⟩ hv⟩
    · -- by each cell a sign or a copy
      refine ⟨.ref a, rfl, a, _, rfl, .inl (s1.seq hS), _, _, rfl, ?_⟩
      have emin : (if (63 : Int) < ((iv ns).length : Nat) then (63 : Int) else ((iv ns).length : Nat)) = (ns.length : Int) := by
        rw [List.length_map]
        split <;> omega
      rw [emin]
      refine ⟨_, _, rfl, ⟨by omega, by omega, by omega, by omega⟩, for_range (lo := 1) (n := ((ns.length : Int) - 1).toNat)
        (fun i σ H' => ∃ (y6 y7 y8 y9 : Option V) (ps : List Addr) (cs : List Pc), σ = [some (.ref a), some (.int first), some (.int b), some (.ref o), some (.int (sizes cs : Nat)), none, y6, y7, y8, y9] ∧ Same H H' ∧ H' o = some (.lst (ps.map V.ref)) ∧ Pcs K H' ps cs ∧ Vd 0 cs ∧ cs.length ≤ i)
        ⟨none, none, none, none, [], [], rfl, s1, upd_same, Pcs.nil, Nat.zero_le _, Nat.le_refl _⟩ ?_ ?_⟩
      · rintro i σ H1 hi ⟨y6, y7, y8, y9, ps, cs, rfl, s2, eo, hP, hv, hcl⟩
        have hin : i + 1 < ns.length := by omega
        have ei : (1 : Int) + (i : Int) = ((i + 1 : Nat) : Int) := by omega
        have g1 : ns[i + 1]? = some ns[i + 1] := List.getElem?_eq_getElem hin
        -- number
        refine ⟨.ref a, rfl, .int (1 + (i : Int)), rfl, a, _, _, _, rfl, rfl, s2.seq hS, at_of ei (iv_at g1), .int (1 + (i : Int)), rfl, _, _, rfl, fun num hnum => ?_⟩
        -- piece
        obtain ⟨m1, m2⟩ := mod_in (num / 3) (show 0 < b by omega)
        refine ⟨.int num, rfl, _, _, rfl, rfl, ⟨by decide, by decide⟩, .int b, rfl, _, _, rfl, rfl, (show 0 < b by omega), le_line (by simp), fun u nu => ?_⟩
        have s3 : Same H1 (upd H1 u (.tup [.str "sign", .int (num / 3 % b)])) := same_upd nu
        refine ⟨fun σ' H' => ∃ (v : Addr) (c : Pc), σ' = [some (.ref a), some (.int first), some (.int b), some (.ref o), some (.int (sizes cs : Nat)), none, some (.int (1 + (i : Int))), some (.int num), some (.ref v), y9] ∧ Same H1 H' ∧ H' v = some (.tup (pcV c)) ∧ V1 (sizes cs) c, ?_, ?_⟩
        · refine ⟨.int (sizes cs : Nat), rfl, _, _, rfl, rfl, _, rfl, ite2 (fun e1 => ?_) (fun e1 => ?_)⟩
          · have e1 : (0 : Int) < (sizes cs : Nat) := of_decide_eq_true e1
            refine ⟨.int num, rfl, _, _, rfl, rfl, (show (0 : Int) < 3 by decide), _, _, rfl, rfl, _, rfl, ite2 (fun e2 => ?_) (fun e2 => ?_)⟩
            · obtain ⟨bn, eb, bn1, bn2⟩ := rest_nat (num / 3) e1
              obtain ⟨r, hr3, r1, r2⟩ := pick3 (num / 11)
              obtain ⟨tn, et, tn1, tn2⟩ := rest_nat (num / 30011) r1
              refine ⟨.int num, rfl, _, _, rfl, rfl, ⟨by decide, by decide⟩, .int (sizes cs : Nat), rfl, _, _, rfl, rfl, e1, _, _, rfl, rfl, .int num, rfl, _, _, rfl, rfl, ⟨by decide, by decide⟩, le_line (by simp), fun l2 nl2 => ?_⟩
              refine ⟨.int num, rfl, _, _, rfl, rfl, ⟨by decide, by decide⟩, _, _, rfl, rfl, (show (0 : Int) < 3 by decide), l2, _, _, _, rfl, rfl, .inl (.inl upd_same), hr3, _, _, rfl, rfl, r1, _, _, rfl, rfl, le_line (by simp), fun v nv' => ?_⟩
              refine ⟨v, .cp bn tn, rfl, (s3.trans (same_upd nl2)).trans (same_upd nv'), ?_, bn1, by omega, tn1⟩
              rw [upd_same]
              show some (HO.tup [V.str "copy", V.int (1 + num / 3 % (sizes cs : Nat)), V.int (1 + num / 30011 % r)]) = _
              rw [eb, et]
              rfl
            · exact ⟨u, .sg (num / 3 % b), rfl, s3, upd_same, m1, by omega⟩
          · exact iteF ⟨u, .sg (num / 3 % b), rfl, s3, upd_same, m1, by omega⟩
        · rintro σ' H2 ⟨v, c, rfl, s4, ev, hc1⟩
          obtain ⟨z, hz, hsz⟩ := pc_last c
          have eo2 := s4 _ _ eo
          have hP2 := hP.same s4
          refine ⟨.ref v, rfl, _, rfl, v, _, _, _, rfl, rfl, .inl (.inl ev), hz, le_line (by simp), fun l2 nl2 => ?_⟩
          have s5 : Same H2 (upd H2 l2 (.lst [V.int 1, V.int z])) := same_upd nl2
          refine ⟨.ref v, rfl, v, _, _, _, rfl, rfl, .inl (.inl (s5 _ _ ev)), atI_nat (j := 0) (pc_first c), rfl, .inr ⟨_, rfl, l2, _, _, _, rfl, rfl, .inl (.inl upd_same), hsz, ?_⟩⟩
          have s6 : Same H (upd H2 l2 (.lst [V.int 1, V.int z])) := (s2.trans s4).trans s5
          have eo3 := s5 _ _ eo2
          have hP3 := hP2.same s5
          refine ⟨.int (sizes cs : Nat), rfl, .int (c.size : Nat), rfl, _, _, rfl, rfl, _, _, rfl, rfl, _, rfl, ite2 (fun e3 => ?_) (fun e3 => ?_)⟩
          · have e3 : ((sizes cs : Nat) : Int) + (c.size : Nat) ≤ 400 := of_decide_eq_true e3
            refine ⟨.ref o, rfl, .inl ⟨rfl, _, .inl (.inl eo3)⟩, .ref v, rfl, o, _, _, rfl, rfl, eo3, lt_line (by rw [List.length_map, hP.1]; omega), ?_⟩
            have hsn : sizes (cs ++ [c]) = sizes cs + c.size := by
              rw [sizes_append]
              rfl
            refine ⟨.int (sizes cs : Nat), rfl, .int (c.size : Nat), rfl, _, _, rfl, rfl, some (.int (1 + (i : Int))), some (.int num), some (.ref v), some (.int (c.size : Nat)), ps ++ [v], cs ++ [c], ?_, same_set s6 nHo, by rw [upd_same, ref_snoc], ?_, ?_, ?_⟩
            · rw [hsn]
              rfl
            · exact pcs_grow eo3 (hP3.snoc (.inl (.inl (s5 _ _ ev))))
            · refine hv.snoc ?_ (by omega)
              rw [Nat.zero_add]
              exact hc1
            · rw [List.length_append, List.length_singleton]
              omega
          · exact ⟨some (.int (1 + (i : Int))), some (.int num), some (.ref v), some (.int (c.size : Nat)), ps, cs, rfl, s6, eo3, hP3, hv, by omega⟩
      · rintro σ H1 ⟨y6, y7, y8, y9, ps, cs, rfl, s2, eo, hP, hv, _⟩
        exact ⟨.ref o, rfl, q H1 o cs s2 ⟨ps, .inl (.inl eo), hP⟩ hv⟩
end
end K34

namespace K34
open PySem PySem.Spec PyProof.Rows L2
/-! ### _law_long -/
/-- a def of the text keeps its promise and may be called -/
def Ok (P : Program) (w : World) (K : PySem.W.Frag) (mg : Str → Option Value) (base : Heap) (k : Nat) (x : Str) (ps : List Str) (sp : Sp) : Prop :=
  ∃ f fd, mg x = some (.ref f) ∧ PySem.W.keepIn K (.ref f) = true ∧ Binds K fd ps [] ∧ FnOk P w K mg base CX0 k f fd ps sp
theorem iv_flat (x : List Int) (k : Nat) : (List.replicate k (iv x)).flatten = iv (List.replicate k x).flatten := by
  show (List.replicate k (x.map V.int)).flatten = ((List.replicate k x).flatten).map V.int
  rw [List.map_flatten, List.map_replicate]
theorem iv_take (x : List Int) (k : Nat) : (iv x).take k = iv (x.take k) := by
  show (x.map V.int).take k = (x.take k).map V.int
  rw [List.map_take]
theorem cut_last (xs : List V) (v : V) : cutV (xs ++ [v]) none (some (-1)) = xs := by
  unfold cutV
  have e : HT.sIx (xs ++ [v]).length (xs ++ [v]).length (some (-1)) = xs.length := by
    show (if (-1 : Int) < 0 then ((-1 : Int) + ((xs ++ [v]).length : Nat)).toNat else min (-1 : Int).toNat (xs ++ [v]).length) = xs.length
    rw [if_pos (by decide), List.length_append]
    simp only [List.length_cons, List.length_nil]
    omega
  rw [e, HT.sIx_none, List.drop_zero, Nat.sub_zero, List.take_append_of_le_length (Nat.le_refl _), List.take_length]
/-- the last of pieces at addresses -/
theorem Pcs.last {K : PySem.W.Frag} {H : Hp} {ps : List Addr} {r : List Pc} {c : Pc} (h : Pcs K H ps (r ++ [c])) : ∃ qs q, ps = qs ++ [q] ∧ Pcs K H qs r ∧ SqT K H q (pcV c) := by
  have hl := h.1
  rw [List.length_append, List.length_singleton] at hl
  have hne : ps ≠ [] := fun e => by
    rw [e] at hl
    simp at hl
  have e := List.dropLast_concat_getLast hne
  have h1 : Pcs K H ps.dropLast r := by
    have := h.take r.length
    rw [List.take_append_of_le_length (Nat.le_refl _), List.take_length] at this
    rw [List.dropLast_eq_take, show ps.length - 1 = r.length by omega]
    exact this
  refine ⟨ps.dropLast, ps.getLast hne, e.symm, h1, h.2 r.length _ c ?_ ?_⟩
  · rw [List.getElem?_eq_getElem (by omega), List.getLast_eq_getElem hne]
    congr 2
    omega
  · rw [List.getElem?_append_right (Nat.le_refl _), Nat.sub_self]
    rfl
section
variable {P : Program} {w : World} {K : PySem.W.Frag} {mg : Str → Option Value} {base : Heap}
def spLng (K : PySem.W.Frag) : Sp := fun vs H Q _ => ∃ (a : Addr) (ns : List Int), vs = [.ref a] ∧ SqL K H a (iv ns) ∧ ns.length ≤ 63 ∧ ∀ H', Same H H' → Q (.bl true) H'
theorem ok_lng {f : Addr} {fd : FuncData} (F : Fun K "_law_long" "_law_long" sLng f fd) (B : Bi mg) (KT : Ok P w K mg base 1 "_law_stir" ["cell", "k"] spStir) (KC : Ok P w K mg base 2 "copies_of" ["text"] (spCopies K)) (KB : Ok P w K mg base 2 "_law_longest" ["text"] (spCopies K))
    (KX : Ok P w K mg base 3 "text_by_copies" ["telling"] (spText K)) (KI : Ok P w K mg base 3 "is_longest" ["text", "telling"] (spIs K)) : FnOk P w K mg base CX0 4 f fd ["script"] (spLng K) := by
  obtain ⟨fT, fdT, gT, kT, bT, GT⟩ := KT
  obtain ⟨fC, fdC, gC, kC, bC, GC⟩ := KC
  obtain ⟨fB, fdB, gB, kB, bB, GB⟩ := KB
  obtain ⟨fX, fdX, gX, kX, bX, GX⟩ := KX
  obtain ⟨fI, fdI, gI, kI, bI, GI⟩ := KI
  refine F.ok scLng (fun vs H Q E h => ?_) (fun cdv A outer s H vs Q E hr h => ?_)
  · obtain ⟨a, ns, rfl, _⟩ := h
    rfl
  · obtain ⟨a, ns, rfl, hS, hlen, q⟩ := h
    have hr1 : Room 1 _ := hr.mono (by decide)
    have hr2 : Room 2 _ := hr.mono (by decide)
    refine ⟨_, pss_cons (ps_set (i := 1) scLng.nd rfl (.inr rfl) (pe_call GT hr1 rfl gT kT bT .nil pass0 (pa_cons (pe_callB (cr_sum rfl) (by rfl) B.sum bt_sum (pa_cons (pe_slice sl_list (pv 0) po_none (po_some pe_int)) pa_nil)) (pa_cons pe_int pa_nil))))
      (pss_cons (ps_setLc (i := 2) (own := [("j", 9)]) (g := gName 9) (tt := tYes) rfl scLng.nd rfl rfl (sw_true rfl rfl rfl (by decide +kernel)) (pi_range1 rfl B.range (pa_cons (pe_op op_add pe_int (pe_op op_mod (pv 1) pe_int)) pa_nil))
        (blkOk_by (N := ["script", "number", "word", "text", "told", "best", "back", "many", "cut", "j"]) (sc := defScope sLng) (by decide +kernel)) (fun _ _ _ _ _ => pg_name (i := 9) scLng.nd rfl (Or.inl rfl)) (fun _ _ _ _ _ => pts_nil)
        (fun _ _ _ _ _ => pe_op op_mod (pe_op op_fdiv (pv 1) (pe_op op_add (pe_op op_mul pe_int (pv 9)) pe_int)) pe_int))
      (pss_cons (ps_set (i := 3) scLng.nd rfl (.inl rfl) (pe_slice sl_list (pe_op op_rep (pv 2) pe_int) po_none (po_some (pe_op op_add pe_int (pe_op op_mod (pe_op op_fdiv (pv 1) pe_int) pe_int)))))
      (pss_cons (ps_set (i := 4) scLng.nd rfl (.inl rfl) (pe_call GC hr2 rfl gC kC bC .nil pass0 (pa_cons (pe_callTy call_list_of (by rfl) B.list bt_list (pa_cons (pv 3) pa_nil)) pa_nil)))
      (pss_cons (ps_set (i := 5) scLng.nd rfl (.inl rfl) (pe_call GB hr2 rfl gB kB bB .nil pass0 (pa_cons (pv 3) pa_nil)))
      (pss_cons (ps_if (PW.pt (pw_or (pt_cmpR (op_neD hr.units) (pe_call GX hr rfl gX kX bX .nil pass0 (pa_cons (pe_callTy call_list_of (by rfl) B.list bt_list (pa_cons (pv 4) pa_nil)) pa_nil)) (pv 3) (nomark _))
        (pw_or (pt_cmpR op_ne (pe_len B.len (pv 4)) (pe_len B.len (pv 5)) (nomark _))
        (pw_or1 (pt_cmpR op_notBl (pe_call GI hr rfl gI kI bI .nil pass0 (pa_cons (pe_callTy call_list_of (by rfl) B.list bt_list (pa_cons (pv 3) pa_nil)) (pa_cons (pe_callTy call_list_of (by rfl) B.list bt_list (pa_cons (pv 5) pa_nil)) pa_nil))) pe_bl (nomark _))))))
        (pss_one (ps_ret pe_bl)) pss_nil)
      (pss_cons (ps_asg (pe_ix ix_list (pv 5) (pe_un un_neg pe_int) (fun _ _ => rfl)) (pg_tup rfl (pgs_cons (pg_name (i := 2) scLng.nd rfl (.inl rfl)) (pgs_cons (pg_name (i := 6) scLng.nd rfl (.inl rfl)) (pgs_cons (pg_name (i := 7) scLng.nd rfl (.inl rfl)) pgs_nil)))))
      (pss_cons (ps_set (i := 8) scLng.nd rfl (.inl rfl) (pe_op op_add pe_int (pe_op op_mod (pe_op op_fdiv (pv 1) pe_int) (pe_op op_sub (pv 7) pe_int))))
      (pss_one (ps_ret (pe_cmpR op_isBl (pe_call GI hr rfl gI kI bI .nil pass0 (pa_cons (pe_callTy call_list_of (by rfl) B.list bt_list (pa_cons (pv 3) pa_nil))
        (pa_cons (pe_op op_cat (pe_slice sl_list (pv 5) po_none (po_some (pe_un un_neg pe_int))) (pe_lst (pa_cons (pe_tup (pa_cons (pv 2) (pa_cons (pv 6) (pa_cons (pv 8) pa_nil))))
          (pa_cons (pe_tup (pa_cons (pv 2) (pa_cons (pv 6) (pa_cons (pe_op op_sub (pv 7) (pv 8)) pa_nil)))) pa_nil)))) pa_nil))) pe_bl (nomark _))))))))))), ?_⟩
    -- number = _law_stir(sum(script[:63]), 9)
    refine ⟨.ref a, rfl, _, rfl, a, _, rfl, hS, fun l nl => ?_⟩
    have s1 : Same H (upd H l (.lst (cutV (iv ns) none (some 63)))) := same_upd nl
    refine ⟨l, ns.take 63, rfl, .inl (.inl ?_), _, _, rfl, fun num hnum => ?_⟩
    · rw [upd_same, show (63 : Int) = ((63 : Nat) : Int) from rfl, cut_to, iv_take]
    -- word
    obtain ⟨m1, m2⟩ := mod_in num (show (0 : Int) < 5 by decide)
    refine ⟨.int num, rfl, _, _, rfl, rfl, (show (0 : Int) < 5 by decide), _, _, rfl, rfl, _, rfl, (by omega), (by omega), fun D nD => ?_⟩
    have nHD := same_none s1 nD
    refine lc_range (lo := 0) (n := (1 + num % 5).toNat) (fun i H' => Same H H' ∧ ∃ wd : List Int, H' D = some (.lst (iv wd)) ∧ wd.length = i ∧ ∀ z ∈ wd, 0 ≤ z ∧ z < 256) ⟨same_set s1 nHD, [], upd_same, rfl, fun _ h => nomatch h⟩ (fun i H1 hi hP => ?_) (fun H1 hP => ?_)
    · obtain ⟨s2, wd, eD, hwl, hw⟩ := hP
      have hc : CDiv num (7 * (0 + (i : Int)) + 5) := ⟨by omega, by omega⟩
      refine ⟨rfl, .int num, rfl, .int (0 + (i : Int)), rfl, _, _, rfl, rfl, .inl ⟨by decide, by decide⟩, _, _, rfl, rfl, _, _, rfl, rfl, hc, _, _, rfl, rfl, (show (0 : Int) < 256 by decide), _, eD, lt_line (by rw [List.length_map]; omega), same_set s2 nHD, wd ++ [num / (7 * (0 + (i : Int)) + 5) % 256], ?_, by simp [hwl], fun z hz => ?_⟩
      · rw [upd_same, iv_snoc]
      · rcases List.mem_append.mp hz with h | h
        · exact hw z h
        · have e : z = num / (7 * (0 + (i : Int)) + 5) % 256 := by simpa using h
          rw [e]
          exact mod_in _ (by decide)
    obtain ⟨s2, wd, eD, hwl, hw⟩ := hP
    have hw1 : 1 ≤ wd.length := by omega
    have hw5 : wd.length ≤ 5 := by omega
    -- text = (word * 400)[:..]
    obtain ⟨d1, d2⟩ := mod_in (num / 11) (show (0 : Int) < 201 by decide)
    refine ⟨.ref D, rfl, D, _, _, rfl, rfl, eD, by decide, by decide, le_line (by rw [List.length_map]; show wd.length * 400 ≤ 100000; omega), fun p np => ?_⟩
    have s3 : Same H1 (upd H1 p (.lst (List.replicate (Int.toNat 400) (iv wd)).flatten)) := same_upd np
    refine ⟨.int num, rfl, _, _, rfl, rfl, ⟨by decide, by decide⟩, _, _, rfl, rfl, (show (0 : Int) < 201 by decide), _, _, rfl, rfl, _, rfl, p, _, rfl, .inl (.inl upd_same), fun tx ntx => ?_⟩
    obtain ⟨n, en, n1, n2⟩ : ∃ n : Nat, 200 + num / 11 % 201 = (n : Int) ∧ 200 ≤ n ∧ n ≤ 400 := ⟨(200 + num / 11 % 201).toNat, by omega, by omega, by omega⟩
    obtain ⟨hag, hxl⟩ := again_of hw1 hw5 n1 n2
    have htx : Txt ((List.replicate 400 wd).flatten.take n) := txt_again n2 hw
    have ex : cutV (List.replicate (Int.toNat 400) (iv wd)).flatten none (some (200 + num / 11 % 201)) = iv ((List.replicate 400 wd).flatten.take n) := by
      show cutV (List.replicate 400 (iv wd)).flatten none (some (200 + num / 11 % 201)) = _
      rw [en, cut_to, iv_flat, iv_take]
    have s4 := (s2.trans s3).trans (same_upd (o := .lst (iv ((List.replicate 400 wd).flatten.take n))) ntx)
    show tSeq _ _ _ _ (upd _ tx (.lst (cutV (List.replicate (Int.toNat 400) (iv wd)).flatten none (some (200 + num / 11 % 201)))))
    rw [ex]
    generalize (List.replicate 400 wd).flatten.take n = x at hag hxl htx s4 ⊢
    have hx : x.length ≤ 400 := htx.1
    have hL : SqL K (upd (upd H1 p (.lst (List.replicate (Int.toNat 400) (iv wd)).flatten)) tx (.lst (iv x))) tx (iv x) := .inl (.inl upd_same)
    generalize upd (upd H1 p (.lst (List.replicate (Int.toNat 400) (iv wd)).flatten)) tx (.lst (iv x)) = H2 at s4 hL ⊢
    -- told = copies_of(list(text))
    refine ⟨.ref tx, rfl, tx, _, rfl, .inl hL, fun l2 nl2 => ?_⟩
    have s5 : Same H2 (upd H2 l2 (.lst (iv x))) := same_upd nl2
    refine ⟨l2, x, rfl, .inl (.inl upd_same), hx, fun H3 td cs s6 hTd hgc => ?_⟩
    have s7 := s5.trans s6
    -- best = _law_longest(text)
    refine ⟨.ref tx, rfl, tx, x, rfl, s7.seq hL, hx, fun H4 bs ds s8 hBs hgd => ?_⟩
    have s9 := s7.trans s8
    have hTd4 := hTd.same s8
    obtain ⟨pt, hpt1, hpt2⟩ := hTd4
    obtain ⟨pb, hpb1, hpb2⟩ := hBs
    -- text_by_copies(list(told)) != text
    refine ⟨.ref td, rfl, td, _, rfl, .inl hpt1, fun l3 nl3 => ?_⟩
    have s10 : Same H4 (upd H4 l3 (.lst (pt.map V.ref))) := same_upd nl3
    have hvc : Vd 0 cs := hgc.tl.vd htx
    have hvd : Vd 0 ds := hgd.tl.vd htx
    refine ⟨l3, cs, rfl, ⟨pt, .inl (.inl upd_same), hpt2.same s10⟩, hvc, fun H5 tb s11 _ etb => ?_⟩
    have s12 := s10.trans s11
    have elead : expand cs [] = x := hgc.tl.leads
    rw [elead] at etb
    refine ⟨.ref tx, rfl, ne_ints (.inl (.inl etb)) ((s9.trans s12).seq hL) ⟨_, rfl, ifF (by simp) ?_⟩⟩
    -- len(told) != len(best)
    have elen : (pt.map V.ref).length = (pb.map V.ref).length := by
      rw [List.length_map, List.length_map, hpt2.1, hpb2.1, hgc.same hgd]
    refine ⟨.ref td, rfl, td, _, rfl, .inl (s12.seq hpt1), .ref bs, rfl, bs, _, rfl, .inl (s12.seq hpb1), rfl, _, rfl, ifF (by rw [elen]; simp) ?_⟩
    -- is_longest(list(text), list(best)) is not True
    refine ⟨.ref tx, rfl, tx, _, rfl, .inl ((s9.trans s12).seq hL), fun l4 nl4 => ?_⟩
    have s13 : Same H5 (upd H5 l4 (.lst (iv x))) := same_upd nl4
    refine ⟨.ref bs, rfl, bs, _, rfl, .inl ((s12.trans s13).seq hpb1), fun l5 nl5 => ?_⟩
    have s14 : Same (upd H5 l4 (.lst (iv x))) (upd (upd H5 l4 (.lst (iv x))) l5 (.lst (pb.map V.ref))) := same_upd nl5
    have s15 := (s12.trans s13).trans s14
    refine ⟨l4, l5, x, ds, rfl, .inl (.inl (s14 _ _ upd_same)), ⟨pb, .inl (.inl upd_same), hpb2.same s15⟩, hgd.tl, hvd.ok, hx, fun H6 r6 s16 hr6 => ?_⟩
    have er6 : r6 = true := hr6.mpr hgd.isL
    subst er6
    refine ⟨true, true, rfl, rfl, _, rfl, ifF (by simp) ?_⟩
    have s17 := s15.trans s16
    -- word, back, many = best[-1]
    obtain ⟨r, b, t, er, ht⟩ := hag.last hgd (by decide)
    subst er
    obtain ⟨qs, q0, eqs, hq1, hq2⟩ := hpb2.last
    subst eqs
    have hB6 := s17.seq hpb1
    rw [List.map_append] at hB6
    refine ⟨.ref bs, rfl, _, rfl, bs, _, _, _, rfl, rfl, hB6, atI_last (qs.map V.ref) (.ref q0), q0, _, rfl, Same.sqt s17 hq2, rfl, _, _, rfl, _, _, rfl, _, _, rfl, rfl, ?_⟩
    -- cut
    obtain ⟨c, ec, c1, c2⟩ := rest_nat (num / 401) (show (0 : Int) < (t : Int) - 1 by omega)
    have c3 : c < t := by omega
    refine ⟨.int num, rfl, _, _, rfl, rfl, ⟨by decide, by decide⟩, .int t, rfl, _, _, rfl, rfl, _, _, rfl, rfl, (show (0 : Int) < (t : Int) - 1 by omega), _, _, rfl, rfl, ?_⟩
    simp only [ec]
    -- the last one parted
    refine ⟨.ref tx, rfl, tx, _, rfl, .inl ((s9.trans s17).seq hL), fun l6 nl6 => ?_⟩
    have s18 : Same H6 (upd H6 l6 (.lst (iv x))) := same_upd nl6
    refine ⟨.ref bs, rfl, _, rfl, _, rfl, bs, _, rfl, s18.seq hB6, fun l7 nl7 => ?_⟩
    show tLst _ _ (upd _ l7 (.lst (cutV (qs.map V.ref ++ [V.ref q0]) none (some (-1))))) _
    rw [cut_last]
    have s19 : Same (upd H6 l6 (.lst (iv x))) (upd (upd H6 l6 (.lst (iv x))) l7 (.lst (qs.map V.ref))) := same_upd nl7
    refine ⟨.str "copy", rfl, .int b, rfl, .int c, rfl, le_line (by simp), fun u1 nu1 => ?_⟩
    refine ⟨.str "copy", rfl, .int b, rfl, .int t, rfl, .int c, rfl, _, _, rfl, rfl, le_line (by simp), fun u2 nu2 => ⟨le_line (by simp), fun l8 nl8 => ?_⟩⟩
    have s20 : Same (upd (upd H6 l6 (.lst (iv x))) l7 (.lst (qs.map V.ref))) (upd (upd (upd H6 l6 (.lst (iv x))) l7 (.lst (qs.map V.ref))) u1 (.tup [V.str "copy", V.int (b : Int), V.int (c : Int)])) := same_upd nu1
    have s21 := same_upd (o := .tup [V.str "copy", V.int (b : Int), V.int ((t : Int) - (c : Int))]) nu2
    have s22 := same_upd (o := .lst [V.ref u1, V.ref u2]) nl8
    have e7 := s22 _ _ (s21 _ _ (s20 _ _ (upd_same (H := upd H6 l6 (.lst (iv x))) (a := l7) (o := .lst (qs.map V.ref)))))
    have hqs : qs.length ≤ 400 := by
      have h1 := hgd.tl.len
      have h2 := hq1.1
      rw [List.length_append] at h1
      omega
    refine ⟨l7, l8, _, _, rfl, rfl, e7, upd_same, le_line ?_, fun l9 nl9 => ?_⟩
    · rw [List.length_map]
      simp only [List.length_cons, List.length_nil]
      omega
    have s23 := same_upd (o := .lst (qs.map V.ref ++ [V.ref u1, V.ref u2])) nl9
    have s24 := ((s20.trans s21).trans s22).trans s23
    have hu1 := s23 _ _ (s22 _ _ (s21 _ _ (upd_same (H := upd (upd H6 l6 (.lst (iv x))) l7 (.lst (qs.map V.ref))) (a := u1) (o := .tup [V.str "copy", V.int (b : Int), V.int (c : Int)]))))
    have hu2 := s23 _ _ (s22 _ _ (upd_same (H := upd (upd (upd H6 l6 (.lst (iv x))) l7 (.lst (qs.map V.ref))) u1 (.tup [V.str "copy", V.int (b : Int), V.int (c : Int)])) (a := u2) (o := .tup [V.str "copy", V.int (b : Int), V.int ((t : Int) - (c : Int))])))
    have etc : (t : Int) - (c : Int) = ((t - c : Nat) : Int) := by omega
    have hq3 := (((hq1.same s17).same (s18.trans (s19.trans s24))).snoc (c := .cp b c) (.inl (.inl hu1))).snoc (c := .cp b (t - c)) (q := u2) (.inl (.inl (by
      rw [hu2, etc]
      rfl)))
    rw [List.append_assoc, List.append_assoc] at hq3
    have hq4 : Pcs K _ (qs ++ [u1, u2]) (r ++ [.cp b c, .cp b (t - c)]) := hq3
    have htl := parted_tl (b := b) c1 c3 hgd.tl
    refine ⟨l6, l9, x, r ++ [.cp b c, .cp b (t - c)], rfl, .inl (.inl (s24 _ _ (s19 _ _ upd_same))), ⟨qs ++ [u1, u2], .inl (.inl ?_), hq4⟩, htl, (htl.vd htx).ok, hx, fun H7 r7 s25 hr7 => ?_⟩
    · rw [List.map_append]
      exact upd_same
    · have er7 : r7 = false := by
        cases r7 with
        | false => rfl
        | true => exact absurd (hr7.mp rfl) (parted_not c1 c3 hgd)
      subst er7
      refine ⟨false, false, rfl, rfl, ?_⟩
      exact q_t (Q := Q) (by decide) (q _ (s4.trans (s9.trans (s17.trans (s18.trans (s19.trans (s24.trans s25)))))))
end
end K34

namespace K34
open PySem PySem.Spec PyProof.Rows L2
/-! ### law -/
/-- range(0, l, c), few and small numbers -/
theorem rg_up {l c : Int} (hc : 1 ≤ c) (hc2 : c ≤ 1000) (hl : 0 ≤ l) (hl2 : l ≤ 1000) : ∃ n : Nat, RgC 0 l c n ∧ ∀ i : Nat, i < n → 0 ≤ (i : Int) * c ∧ (i : Int) * c < l := by
  have hn := rangeSize_pos hc hl
  have h1 : 0 ≤ (l + c - 1) / c := Int.ediv_nonneg (by omega) (by omega)
  have h2 : (l + c - 1) / c ≤ l + c - 1 := Int.ediv_le_self _ (by omega)
  refine ⟨((l + c - 1) / c).toNat, ⟨by omega, by omega, ?_, by omega⟩, fun i hi => start_inside hc hl (by omega) (by omega)⟩
  unfold Builtin.Range.small
  rw [hn]
  have hp : c > 0 := by omega
  simp only [Builtin.Range.rangeFitsLong, Bool.and_eq_true, Bool.or_eq_true, decide_eq_true_eq, beq_iff_eq, hp, if_true]
  omega
section
variable {P : Program} {w : World} {K : PySem.W.Frag} {mg : Str → Option Value} {base : Heap}
def spLaw (K : PySem.W.Frag) : Sp := fun vs H Q _ => ∃ (a : Addr) (ns : List Int), vs = [.ref a] ∧ SqL K H a (iv ns) ∧ ns.length ≤ 63 ∧ ∀ H', Q (.bl true) H'
theorem ok_law {f : Addr} {fd : FuncData} (F : Fun K "law" "law" sLaw f fd) (B : Bi mg) (KM : Ok P w K mg base 2 "_law_made" ["script"] (spMade K)) (KC : Ok P w K mg base 2 "copies_of" ["text"] (spCopies K))
    (KX : Ok P w K mg base 3 "text_by_copies" ["telling"] (spText K)) (KI : Ok P w K mg base 3 "is_longest" ["text", "telling"] (spIs K)) (KG : Ok P w K mg base 4 "_law_long" ["script"] (spLng K)) : FnOk P w K mg base CX0 5 f fd ["script"] (spLaw K) := by
  obtain ⟨fM, fdM, gM, kM, bM, GM⟩ := KM
  obtain ⟨fC, fdC, gC, kC, bC, GC⟩ := KC
  obtain ⟨fX, fdX, gX, kX, bX, GX⟩ := KX
  obtain ⟨fI, fdI, gI, kI, bI, GI⟩ := KI
  obtain ⟨fG, fdG, gG, kG, bG, GG⟩ := KG
  refine F.ok scLaw (fun vs H Q E h => ?_) (fun cdv A outer s H vs Q E hr h => ?_)
  · obtain ⟨a, ns, rfl, _⟩ := h
    rfl
  · obtain ⟨a, ns, rfl, hS, hlen, q⟩ := h
    have hr2 : Room 2 _ := hr.mono (by decide)
    have hr3 : Room 3 _ := hr.mono (by decide)
    refine ⟨_, pss_cons (ps_set (i := 1) scLaw.nd rfl (.inl rfl) (pe_call GM hr2 rfl gM kM bM .nil pass0 (pa_cons (pv 0) pa_nil)))
      (pss_cons (ps_set (i := 2) scLaw.nd rfl (.inl rfl) (pe_call GX hr3 rfl gX kX bX .nil pass0 (pa_cons (pe_callTy call_list_of (by rfl) B.list bt_list (pa_cons (pv 1) pa_nil)) pa_nil)))
      (pss_cons (ps_set (i := 3) scLaw.nd rfl (.inl rfl) (pe_call GC hr2 rfl gC kC bC .nil pass0 (pa_cons (pe_callTy call_list_of (by rfl) B.list bt_list (pa_cons (pv 2) pa_nil)) pa_nil)))
      (pss_cons (ps_if (pt_cmpR (op_neD hr.units) (pe_call GX hr3 rfl gX kX bX .nil pass0 (pa_cons (pe_callTy call_list_of (by rfl) B.list bt_list (pa_cons (pv 3) pa_nil)) pa_nil)) (pv 2) (nomark _)) (pss_one (ps_ret pe_bl)) pss_nil)
      (pss_cons (ps_if (PW.pt (pw_or (pt_cmpR op_gt (pe_len B.len (pv 3)) (pe_len B.len (pv 2)) (nomark _)) (pw_or1 (pt_cmpR op_gt (pe_len B.len (pv 3)) (pe_len B.len (pv 1)) (nomark _))))) (pss_one (ps_ret pe_bl)) pss_nil)
      (C8.pss_cut (ps_if (PW.pt (pw_and (pt_val (pe_call GI hr3 rfl gI kI bI .nil pass0 (pa_cons (pe_callTy call_list_of (by rfl) B.list bt_list (pa_cons (pv 2) pa_nil)) (pa_cons (pe_callTy call_list_of (by rfl) B.list bt_list (pa_cons (pv 1) pa_nil)) pa_nil))))
        (pw_and1 (pt_cmpR op_ne (pe_len B.len (pv 1)) (pe_len B.len (pv 3)) (nomark _))))) (pss_one (ps_ret pe_bl)) pss_nil)
      (pss_cons (ps_for PassesOwn.never rfl (pi_range3 rfl B.range (pa_cons pe_int (pa_cons (pe_len B.len (pv 3)) (pa_cons (pe_op op_add pe_int (pe_op op_fdiv (pe_len B.len (pv 3)) pe_int)) pa_nil)))) (pg_name (i := 4) scLaw.nd rfl (.inl rfl))
        (pss_cons (ps_set (i := 5) scLaw.nd rfl (.inl rfl) (pe_call GX hr3 rfl gX kX bX .nil pass0 (pa_cons (pe_slice sl_list (pv 3) po_none (po_some (pv 4))) pa_nil)))
        (pss_one (ps_if (PW.pt (pw_or (pt_cmpR (op_neD hr.units) (pv 5) (pe_slice sl_list (pv 2) po_none (po_some (pe_len B.len (pv 5)))) (nomark _))
          (pw_or1 (pt_cmpR op_ne (pe_len B.len (pe_call GC hr2 rfl gC kC bC .nil pass0 (pa_cons (pe_callTy call_list_of (by rfl) B.list bt_list (pa_cons (pv 5) pa_nil)) pa_nil))) (pv 4) (nomark _))))) (pss_one (ps_ret pe_bl)) pss_nil))))
      (pss_one (ps_ret (pe_call GG hr rfl gG kG bG .nil pass0 (pa_cons (pv 0) pa_nil)))))))))), ?_⟩
    -- made
    refine ⟨.ref a, rfl, a, ns, rfl, hS, hlen, fun H1 ma ms s1 hM hvm => ?_⟩
    obtain ⟨pm, hpm1, hpm2⟩ := hM
    -- text
    refine ⟨.ref ma, rfl, ma, _, rfl, .inl hpm1, fun l1 nl1 => ?_⟩
    have s2 : Same H1 (upd H1 l1 (.lst (pm.map V.ref))) := same_upd nl1
    refine ⟨l1, ms, rfl, ⟨pm, .inl (.inl upd_same), hpm2.same s2⟩, hvm, fun H2 tx s3 _ ex => ?_⟩
    have s4 := s2.trans s3
    have htx : Txt (expand ms []) := txt_expand hvm
    have htl : Tl (expand ms []) 0 ms := tl_expand ms [] hvm
    generalize expand ms [] = x at ex htx htl
    have hx : x.length ≤ 400 := htx.1
    -- told
    refine ⟨.ref tx, rfl, tx, _, rfl, .inl (.inl (.inl ex)), fun l2 nl2 => ?_⟩
    have s5 : Same H2 (upd H2 l2 (.lst (iv x))) := same_upd nl2
    refine ⟨l2, x, rfl, .inl (.inl upd_same), hx, fun H3 td cs s6 hTd hg => ?_⟩
    have s7 := s5.trans s6
    have ex3 := s7 _ _ ex
    obtain ⟨pt, hpt1, hpt2⟩ := hTd
    have hvc : Vd 0 cs := hg.tl.vd htx
    have hcl := hg.tl.len
    rw [Nat.zero_add] at hcl
    -- text_by_copies(list(told)) != text
    refine ⟨.ref td, rfl, td, _, rfl, .inl hpt1, fun l3 nl3 => ?_⟩
    have s8 : Same H3 (upd H3 l3 (.lst (pt.map V.ref))) := same_upd nl3
    refine ⟨l3, cs, rfl, ⟨pt, .inl (.inl upd_same), hpt2.same s8⟩, hvc, fun H4 tb s9 _ etb => ?_⟩
    have s10 := s8.trans s9
    have elead : expand cs [] = x := hg.tl.leads
    rw [elead] at etb
    refine ⟨.ref tx, rfl, ne_ints (.inl (.inl etb)) (.inl (.inl (s10 _ _ ex3))) ⟨_, rfl, ifF (by simp) ?_⟩⟩
    -- len(told) > len(text) or len(told) > len(made)
    have ept : (pt.map V.ref).length = cs.length := by rw [List.length_map, hpt2.1]
    have epm : (pm.map V.ref).length = ms.length := by rw [List.length_map, hpm2.1]
    have hsh : cs.length ≤ ms.length := short htl hg (Nat.le_refl _)
    refine ⟨.ref td, rfl, td, _, rfl, .inl (s10.seq hpt1), .ref tx, rfl, tx, _, rfl, .inl (.inl (.inl (s10 _ _ ex3))), _, _, rfl, rfl, _, rfl, ifF (decide_eq_false ?_) ?_⟩
    · rw [ept, List.length_map]
      omega
    refine ⟨.ref td, rfl, td, _, rfl, .inl (s10.seq hpt1), .ref ma, rfl, ma, _, rfl, .inl ((s4.trans (s7.trans s10)).seq hpm1), _, _, rfl, rfl, _, rfl, ifF (decide_eq_false ?_) ?_⟩
    · rw [ept, epm]
      omega
    -- is_longest(list(text), list(made)) and len(made) != len(told)
    refine ⟨fun σ' H' => ∃ y4 y5 : Option V, σ' = [some (.ref a), some (.ref ma), some (.ref tx), some (.ref td), y4, y5] ∧ Same H4 H', ?_, ?_⟩
    · refine ⟨.ref tx, rfl, tx, _, rfl, .inl (.inl (.inl (s10 _ _ ex3))), fun l4 nl4 => ?_⟩
      have s11 : Same H4 (upd H4 l4 (.lst (iv x))) := same_upd nl4
      have s12 := s4.trans (s7.trans (s10.trans s11))
      refine ⟨.ref ma, rfl, ma, _, rfl, .inl (s12.seq hpm1), fun l5 nl5 => ?_⟩
      have s13 : Same (upd H4 l4 (.lst (iv x))) (upd (upd H4 l4 (.lst (iv x))) l5 (.lst (pm.map V.ref))) := same_upd nl5
      refine ⟨l4, l5, x, ms, rfl, .inl (.inl (s13 _ _ upd_same)), ⟨pm, .inl (.inl upd_same), hpm2.same (s12.trans s13)⟩, htl, hvm.ok, hx, fun H5 r s14 hr5 => ?_⟩
      have s15 := s11.trans (s13.trans s14)
      cases r with
      | false => exact ⟨false, rfl, iteF (iteF ⟨none, none, rfl, s15⟩)⟩
      | true =>
        have e : ms.length = cs.length := Nat.le_antisymm (isL_len htl (hr5.mp rfl) hg) hsh
        refine ⟨true, rfl, iteT ?_⟩
        refine ⟨.ref ma, rfl, ma, _, rfl, .inl ((s12.trans (s13.trans s14)).seq hpm1), .ref td, rfl, td, _, rfl, .inl ((s10.trans s15).seq hpt1), rfl, _, rfl, ifF (by rw [ept, epm, e]; simp) ?_⟩
        exact ⟨none, none, rfl, s15⟩
    -- for k in range(0, len(told), 1 + len(told) // 8)
    · rintro σ' H5 ⟨y4, y5, rfl, s15⟩
      have s16 := s10.trans s15
      refine ⟨.ref td, rfl, td, _, rfl, .inl (s16.seq hpt1), .ref td, rfl, td, _, rfl, .inl (s16.seq hpt1), _, _, rfl, rfl, ⟨by decide, by decide⟩, _, _, rfl, rfl, ?_⟩
      rw [ept]
      have hst1 : (1 : Int) ≤ 1 + (cs.length : Int) / 8 := by omega
      obtain ⟨n, hrg, hin⟩ := rg_up (l := (cs.length : Int)) hst1 (by omega) (by omega) (by omega)
      refine ⟨0, (cs.length : Int), 1 + (cs.length : Int) / 8, n, rfl, hrg, for_rangeC (lo := 0) (c := 1 + (cs.length : Int) / 8) (n := n)
        (fun i σ H' => ∃ y4 y5 : Option V, σ = [some (.ref a), some (.ref ma), some (.ref tx), some (.ref td), y4, y5] ∧ Same H4 H') ⟨y4, y5, rfl, s15⟩ ?_ ?_⟩
      · rintro i σ H6 hi ⟨z4, z5, rfl, s17⟩
        obtain ⟨k1, k2⟩ := hin i hi
        obtain ⟨k, ek⟩ : ∃ k : Nat, 0 + (i : Int) * (1 + (cs.length : Int) / 8) = (k : Int) := ⟨(0 + (i : Int) * (1 + (cs.length : Int) / 8)).toNat, by omega⟩
        have hk : k < cs.length := by omega
        rw [ek]
        have s18 := s10.trans s17
        have ex6 := s18 _ _ ex3
        -- part = text_by_copies(told[:k])
        refine ⟨.ref td, rfl, .int k, rfl, _, rfl, td, _, rfl, s18.seq hpt1, fun l6 nl6 => ?_⟩
        have s19 := same_upd (o := .lst (cutV (pt.map V.ref) none (some (k : Int)))) nl6
        have hvk : Vd 0 (cs.take k) := hvc.take k
        refine ⟨l6, cs.take k, rfl, ⟨pt.take k, .inl (.inl ?_), ((hpt2.same s18).same s19).take k⟩, hvk, fun H7 tp s20 _ ep => ?_⟩
        · rw [upd_same, cut_to, List.map_take]
        have elk : expand (cs.take k) [] = x.take (sizes (cs.take k)) := by
          have h := hg.tl.leadsTo (k := k)
          rw [Nat.zero_add] at h
          exact h
        rw [elk] at ep
        have hm : sizes (cs.take k) ≤ x.length := by
          have h1 := sizes_take cs k
          have h2 := hg.tl.size
          omega
        have hml : (x.take (sizes (cs.take k))).length = sizes (cs.take k) := by
          rw [List.length_take]
          omega
        have s21 := s19.trans s20
        have ex7 := s21 _ _ ex6
        -- part != text[:len(part)]
        refine ⟨.ref tp, rfl, .ref tx, rfl, .ref tp, rfl, tp, _, rfl, .inl (.inl (.inl ep)), _, rfl, tx, _, rfl, .inl (.inl ex7), fun l7 nl7 => ?_⟩
        have s22 := same_upd (o := .lst (cutV (iv x) none (some (((iv (x.take (sizes (cs.take k)))).length : Nat) : Int)))) nl7
        have e7 : upd H7 l7 (.lst (cutV (iv x) none (some (((iv (x.take (sizes (cs.take k)))).length : Nat) : Int)))) l7 = some (.lst (iv (x.take (sizes (cs.take k))))) := by
          rw [upd_same, cut_to, List.length_map, hml, iv_take]
        refine ne_ints (.inl (.inl (s22 _ _ ep))) (.inl (.inl e7)) ⟨_, rfl, ifF (by simp) ?_⟩
        -- len(copies_of(list(part))) != k
        refine ⟨.ref tp, rfl, tp, _, rfl, .inl (.inl (.inl (s22 _ _ ep))), fun l8 nl8 => ?_⟩
        have s23 := same_upd (o := .lst (iv (x.take (sizes (cs.take k))))) nl8
        refine ⟨l8, x.take (sizes (cs.take k)), rfl, .inl (.inl upd_same), by rw [hml]; omega, fun H8 tk es s24 hTk hgk => ?_⟩
        obtain ⟨pk, hpk1, hpk2⟩ := hTk
        have ekl : es.length = k := by
          have h := hg.head (m := sizes (cs.take k)) hm (k := k) (by rw [Nat.zero_add])
          rw [hgk.same h, List.length_take]
          omega
        refine ⟨tk, _, rfl, .inl hpk1, .int k, rfl, rfl, _, rfl, ifF ?_ ?_⟩
        · rw [List.length_map, hpk2.1, ekl]
          simp
        · exact ⟨_, _, rfl, s17.trans (s21.trans (s22.trans (s23.trans s24)))⟩
      · rintro σ H6 ⟨z4, z5, rfl, s17⟩
        have s18 := (s1.trans (s4.trans (s7.trans s10))).trans s17
        exact ⟨.ref a, rfl, a, ns, rfl, s18.seq hS, hlen, fun H9 _ => q H9⟩
end
end K34

namespace K34
open PySem PySem.Spec PyProof.Rows L2
/-! ### what the top has left; the law's own end -/
theorem all_mk {l : PySem.W.OpenLaw} {w : World} {K : PySem.W.Frag} {h : Heap} {mg : Str → Option Value} {fa : Addr} (X : K.In h) (G : h.Ns mainGlobals mg) (hfa : mg "law" = some (.ref fa))
    {f1 f2 f3 f4 f5 f6 f7 f8 f9 f10 f11 f12 f13 f14 f15 : Addr} {od1 an1 od2 an2 od3 an3 od4 an4 od5 an5 od6 an6 od7 an7 od8 an8 od9 an9 od10 an10 od11 an11 od12 an12 od13 an13 od14 an14 od15 an15 : Option Addr} {sl1 sl2 sl3 sl4 sl5 sl6 sl7 sl8 sl9 sl10 sl11 sl12 sl13 sl14 sl15 : Array (Option Value)}
    {oc1 kV1 dc1 pm1 cd1 ct1 oc2 kV2 dc2 pm2 cd2 ct2 oc3 kV3 dc3 pm3 cd3 ct3 oc4 kV4 dc4 pm4 cd4 ct4 oc5 kV5 dc5 pm5 cd5 ct5 oc6 kV6 dc6 pm6 cd6 ct6 oc7 kV7 dc7 pm7 cd7 ct7 oc8 kV8 dc8 pm8 cd8 ct8 oc9 kV9 dc9 pm9 cd9 ct9 oc10 kV10 dc10 pm10 cd10 ct10 oc11 kV11 dc11 pm11 cd11 ct11 oc12 kV12 dc12 pm12 cd12 ct12 oc13 kV13 dc13 pm13 cd13 ct13 oc14 kV14 dc14 pm14 cd14 ct14 oc15 kV15 dc15 pm15 cd15 ct15 : Value} {tS tC tM : Tok}
    (a1 : PySem.W.nsIn K mainGlobals "is_whole" = some (some (.ref f1)))
    (l1 : K.lookup f1 = some ⟨oc1, od1, .func (PySem.W.fnOf "is_whole" "is_whole" (defArgs sWhole) (defBody sWhole) (defScope sWhole) .none kV1 dc1 pm1 an1 cd1 ct1), sl1⟩)
    (c1 : PySem.W.codeIn K cd1 "is_whole" = true) (k1 : PySem.W.keepIn K (.ref f1) = true)
    (a2 : PySem.W.nsIn K mainGlobals "is_piece" = some (some (.ref f2)))
    (l2 : K.lookup f2 = some ⟨oc2, od2, .func (PySem.W.fnOf "is_piece" "is_piece" (defArgs sPiece) (defBody sPiece) (defScope sPiece) .none kV2 dc2 pm2 an2 cd2 ct2), sl2⟩)
    (c2 : PySem.W.codeIn K cd2 "is_piece" = true) (k2 : PySem.W.keepIn K (.ref f2) = true)
    (a3 : PySem.W.nsIn K mainGlobals "size_of" = some (some (.ref f3)))
    (l3 : K.lookup f3 = some ⟨oc3, od3, .func (PySem.W.fnOf "size_of" "size_of" (defArgs sSize) (defBody sSize) (defScope sSize) .none kV3 dc3 pm3 an3 cd3 ct3), sl3⟩)
    (c3 : PySem.W.codeIn K cd3 "size_of" = true) (k3 : PySem.W.keepIn K (.ref f3) = true)
    (a4 : PySem.W.nsIn K mainGlobals "text_by_copies" = some (some (.ref f4)))
    (l4 : K.lookup f4 = some ⟨oc4, od4, .func (PySem.W.fnOf "text_by_copies" "text_by_copies" (defArgs sText) (defBody sText) (defScope sText) .none kV4 dc4 pm4 an4 cd4 ct4), sl4⟩)
    (c4 : PySem.W.codeIn K cd4 "text_by_copies" = true) (k4 : PySem.W.keepIn K (.ref f4) = true)
    (a5 : PySem.W.nsIn K mainGlobals "longest_copy" = some (some (.ref f5)))
    (l5 : K.lookup f5 = some ⟨oc5, od5, .func (PySem.W.fnOf "longest_copy" "longest_copy" (defArgs sLong) (defBody sLong) (defScope sLong) .none kV5 dc5 pm5 an5 cd5 ct5), sl5⟩)
    (c5 : PySem.W.codeIn K cd5 "longest_copy" = true) (k5 : PySem.W.keepIn K (.ref f5) = true)
    (a6 : PySem.W.nsIn K mainGlobals "copies_of" = some (some (.ref f6)))
    (l6 : K.lookup f6 = some ⟨oc6, od6, .func (PySem.W.fnOf "copies_of" "copies_of" (defArgs sCopies) (defBody sCopies) (defScope sCopies) .none kV6 dc6 pm6 an6 cd6 ct6), sl6⟩)
    (c6 : PySem.W.codeIn K cd6 "copies_of" = true) (k6 : PySem.W.keepIn K (.ref f6) = true)
    (a7 : PySem.W.nsIn K mainGlobals "piece_tells" = some (some (.ref f7)))
    (l7 : K.lookup f7 = some ⟨oc7, od7, .func (PySem.W.fnOf "piece_tells" "piece_tells" (defArgs sTells) (defBody sTells) (defScope sTells) .none kV7 dc7 pm7 an7 cd7 ct7), sl7⟩)
    (c7 : PySem.W.codeIn K cd7 "piece_tells" = true) (k7 : PySem.W.keepIn K (.ref f7) = true)
    (a8 : PySem.W.nsIn K mainGlobals "is_longest" = some (some (.ref f8)))
    (l8 : K.lookup f8 = some ⟨oc8, od8, .func (PySem.W.fnOf "is_longest" "is_longest" (defArgs sIs) (defBody sIs) (defScope sIs) .none kV8 dc8 pm8 an8 cd8 ct8), sl8⟩)
    (c8 : PySem.W.codeIn K cd8 "is_longest" = true) (k8 : PySem.W.keepIn K (.ref f8) = true)
    (a9 : PySem.W.nsIn K mainGlobals "_law_cell_at" = some (some (.ref f9)))
    (l9 : K.lookup f9 = some ⟨oc9, od9, .func (PySem.W.fnOf "_law_cell_at" "_law_cell_at" (defArgs sCell) (defBody sCell) (defScope sCell) .none kV9 dc9 pm9 an9 cd9 ct9), sl9⟩)
    (c9 : PySem.W.codeIn K cd9 "_law_cell_at" = true) (k9 : PySem.W.keepIn K (.ref f9) = true)
    (a10 : PySem.W.nsIn K mainGlobals "_law_stir" = some (some (.ref f10)))
    (l10 : K.lookup f10 = some ⟨oc10, od10, .func (PySem.W.fnOf "_law_stir" "_law_stir" (defArgs sStir) (defBody sStir) (defScope sStir) .none kV10 dc10 pm10 an10 cd10 ct10), sl10⟩)
    (c10 : PySem.W.codeIn K cd10 "_law_stir" = true) (k10 : PySem.W.keepIn K (.ref f10) = true)
    (a11 : PySem.W.nsIn K mainGlobals "_law_made" = some (some (.ref f11)))
    (l11 : K.lookup f11 = some ⟨oc11, od11, .func (PySem.W.fnOf "_law_made" "_law_made" (defArgs sMade) (defBody sMade) (defScope sMade) .none kV11 dc11 pm11 an11 cd11 ct11), sl11⟩)
    (c11 : PySem.W.codeIn K cd11 "_law_made" = true) (k11 : PySem.W.keepIn K (.ref f11) = true)
    (a12 : PySem.W.nsIn K mainGlobals "_law_reach" = some (some (.ref f12)))
    (l12 : K.lookup f12 = some ⟨oc12, od12, .func (PySem.W.fnOf "_law_reach" "_law_reach" (defArgs sReach) (defBody sReach) (defScope sReach) .none kV12 dc12 pm12 an12 cd12 ct12), sl12⟩)
    (c12 : PySem.W.codeIn K cd12 "_law_reach" = true) (k12 : PySem.W.keepIn K (.ref f12) = true)
    (a13 : PySem.W.nsIn K mainGlobals "_law_longest" = some (some (.ref f13)))
    (l13 : K.lookup f13 = some ⟨oc13, od13, .func (PySem.W.fnOf "_law_longest" "_law_longest" (defArgs sLst) (defBody sLst) (defScope sLst) .none kV13 dc13 pm13 an13 cd13 ct13), sl13⟩)
    (c13 : PySem.W.codeIn K cd13 "_law_longest" = true) (k13 : PySem.W.keepIn K (.ref f13) = true)
    (a14 : PySem.W.nsIn K mainGlobals "_law_long" = some (some (.ref f14)))
    (l14 : K.lookup f14 = some ⟨oc14, od14, .func (PySem.W.fnOf "_law_long" "_law_long" (defArgs sLng) (defBody sLng) (defScope sLng) .none kV14 dc14 pm14 an14 cd14 ct14), sl14⟩)
    (c14 : PySem.W.codeIn K cd14 "_law_long" = true) (k14 : PySem.W.keepIn K (.ref f14) = true)
    (a15 : PySem.W.nsIn K mainGlobals "law" = some (some (.ref f15)))
    (l15 : K.lookup f15 = some ⟨oc15, od15, .func (PySem.W.fnOf "law" "law" (defArgs sLaw) (defBody sLaw) (defScope sLaw) .none kV15 dc15 pm15 an15 cd15 ct15), sl15⟩)
    (c15 : PySem.W.codeIn K cd15 "law" = true) (k15 : PySem.W.keepIn K (.ref f15) = true)
    (z_len : PySem.W.nsIn K mainGlobals "len" = some none)
    (z_range : PySem.W.nsIn K mainGlobals "range" = some none)
    (z_isinstance : PySem.W.nsIn K mainGlobals "isinstance" = some none)
    (z_all : PySem.W.nsIn K mainGlobals "all" = some none)
    (z_sum : PySem.W.nsIn K mainGlobals "sum" = some none)
    (z_max : PySem.W.nsIn K mainGlobals "max" = some none)
    (z_min : PySem.W.nsIn K mainGlobals "min" = some none)
    (z_int : PySem.W.nsIn K mainGlobals "int" = some none)
    (z_list : PySem.W.nsIn K mainGlobals "list" = some none)
    (z_tuple : PySem.W.nsIn K mainGlobals "tuple" = some none)
    (z_bool : PySem.W.nsIn K mainGlobals "bool" = some none)
    (z_enumerate : PySem.W.nsIn K mainGlobals "enumerate" = some none)
    (zS : PySem.W.nsIn K mainGlobals "SIGN" = some (some (.str "sign" tS))) (zC : PySem.W.nsIn K mainGlobals "COPY" = some (some (.str "copy" tC))) (zM : PySem.W.nsIn K mainGlobals "MOST" = some (some (.int 400 tM))) :
    ∃ fd : FuncData, (∀ (s : Shared) (v : Value), BindsTo s fd ⟨[v], []⟩ [("script", v)]) ∧ ∀ base : Heap, K.In base → base.Ns mainGlobals mg → FnOk l.prog w K mg base CX0 5 fa fd ["script"] (spLaw K) := by
  have e := hfa.symm.trans (PySem.W.mg_of X G a15)
  cases e
  have F1 := fun_mk (st := sWhole) l1 c1 k1
  have F2 := fun_mk (st := sPiece) l2 c2 k2
  have F3 := fun_mk (st := sSize) l3 c3 k3
  have F4 := fun_mk (st := sText) l4 c4 k4
  have F5 := fun_mk (st := sLong) l5 c5 k5
  have F6 := fun_mk (st := sCopies) l6 c6 k6
  have F7 := fun_mk (st := sTells) l7 c7 k7
  have F8 := fun_mk (st := sIs) l8 c8 k8
  have F9 := fun_mk (st := sCell) l9 c9 k9
  have F10 := fun_mk (st := sStir) l10 c10 k10
  have F11 := fun_mk (st := sMade) l11 c11 k11
  have F12 := fun_mk (st := sReach) l12 c12 k12
  have F13 := fun_mk (st := sLst) l13 c13 k13
  have F14 := fun_mk (st := sLng) l14 c14 k14
  have F15 := fun_mk (st := sLaw) l15 c15 k15
  have b1 := F1.binds (ps := ["thing"]) fun _ _ _ _ _ _ us hl => match us, hl with | [_], _ => rfl
  have g1 := PySem.W.mg_of X G a1
  have b2 := F2.binds (ps := ["piece"]) fun _ _ _ _ _ _ us hl => match us, hl with | [_], _ => rfl
  have g2 := PySem.W.mg_of X G a2
  have b3 := F3.binds (ps := ["piece"]) fun _ _ _ _ _ _ us hl => match us, hl with | [_], _ => rfl
  have g3 := PySem.W.mg_of X G a3
  have b4 := F4.binds (ps := ["telling"]) fun _ _ _ _ _ _ us hl => match us, hl with | [_], _ => rfl
  have g4 := PySem.W.mg_of X G a4
  have b5 := F5.binds (ps := ["text", "at"]) fun _ _ _ _ _ _ us hl => match us, hl with | [_, _], _ => rfl
  have g5 := PySem.W.mg_of X G a5
  have b6 := F6.binds (ps := ["text"]) fun _ _ _ _ _ _ us hl => match us, hl with | [_], _ => rfl
  have g6 := PySem.W.mg_of X G a6
  have b7 := F7.binds (ps := ["text", "at", "piece"]) fun _ _ _ _ _ _ us hl => match us, hl with | [_, _, _], _ => rfl
  have g7 := PySem.W.mg_of X G a7
  have b8 := F8.binds (ps := ["text", "telling"]) fun _ _ _ _ _ _ us hl => match us, hl with | [_, _], _ => rfl
  have g8 := PySem.W.mg_of X G a8
  have b9 := F9.binds (ps := ["script", "k"]) fun _ _ _ _ _ _ us hl => match us, hl with | [_, _], _ => rfl
  have g9 := PySem.W.mg_of X G a9
  have b10 := F10.binds (ps := ["cell", "k"]) fun _ _ _ _ _ _ us hl => match us, hl with | [_, _], _ => rfl
  have g10 := PySem.W.mg_of X G a10
  have b11 := F11.binds (ps := ["script"]) fun _ _ _ _ _ _ us hl => match us, hl with | [_], _ => rfl
  have g11 := PySem.W.mg_of X G a11
  have b12 := F12.binds (ps := ["text", "at"]) fun _ _ _ _ _ _ us hl => match us, hl with | [_, _], _ => rfl
  have g12 := PySem.W.mg_of X G a12
  have b13 := F13.binds (ps := ["text"]) fun _ _ _ _ _ _ us hl => match us, hl with | [_], _ => rfl
  have g13 := PySem.W.mg_of X G a13
  have b14 := F14.binds (ps := ["script"]) fun _ _ _ _ _ _ us hl => match us, hl with | [_], _ => rfl
  have g14 := PySem.W.mg_of X G a14
  have B : Bi mg := ⟨PySem.W.mg_none_of X G z_len, PySem.W.mg_none_of X G z_range, PySem.W.mg_none_of X G z_isinstance, PySem.W.mg_none_of X G z_all, PySem.W.mg_none_of X G z_sum, PySem.W.mg_none_of X G z_max, PySem.W.mg_none_of X G z_min, PySem.W.mg_none_of X G z_int, PySem.W.mg_none_of X G z_list, PySem.W.mg_none_of X G z_tuple, PySem.W.mg_none_of X G z_bool, PySem.W.mg_none_of X G z_enumerate, ⟨_, PySem.W.mg_of X G zS⟩, ⟨_, PySem.W.mg_of X G zC⟩, ⟨_, PySem.W.mg_of X G zM⟩⟩
  refine ⟨PySem.W.fnOf "law" "law" (defArgs sLaw) (defBody sLaw) (defScope sLaw) .none kV15 dc15 pm15 an15 cd15 ct15, fun s v => .of_eq rfl, fun base _ _ => ?_⟩
  have KT : Ok l.prog w K mg base 1 "_law_stir" ["cell", "k"] spStir := ⟨_, _, g10, F10.kp, b10, ok_stir F10 B⟩
  have KC : Ok l.prog w K mg base 2 "copies_of" ["text"] (spCopies K) := ⟨_, _, g6, F6.kp, b6, ok_copies F6 B F5 b5 g5⟩
  have KB : Ok l.prog w K mg base 2 "_law_longest" ["text"] (spCopies K) := ⟨_, _, g13, F13.kp, b13, ok_lst F13 B F12 b12 g12⟩
  have KX : Ok l.prog w K mg base 3 "text_by_copies" ["telling"] (spText K) := ⟨_, _, g4, F4.kp, b4, ok_text F4 B F1 b1 g1 F2 b2 g2 F3 b3 g3⟩
  have KI : Ok l.prog w K mg base 3 "is_longest" ["text", "telling"] (spIs K) := ⟨_, _, g8, F8.kp, b8, ok_is F8 B F1 b1 g1 F2 b2 g2 F3 b3 g3 F5 b5 g5 F7 b7 g7⟩
  have KM : Ok l.prog w K mg base 2 "_law_made" ["script"] (spMade K) := ⟨_, _, g11, F11.kp, b11, ok_made F11 B F9 b9 g9 F10 b10 g10⟩
  have KG : Ok l.prog w K mg base 4 "_law_long" ["script"] (spLng K) := ⟨_, _, g14, F14.kp, b14, ok_lng F14 B KT KC KB KX KI⟩
  exact ok_law F15 B KM KC KX KI KG
end K34
open PySem PySem.W PyProof.Rows
set_option maxHeartbeats 0 in
theorem PySem.Challenge.cw_packhall_k34_whole_told_and_back_holds : PySem.Challenge.rw_packhall_k34_whole_told_and_back.Holds := by
  w_on; o_law; k_head; (case hw => w_witness2)
  k_fill
  refine L2.walk_of (l := PySem.Challenge.rw_packhall_k34_whole_told_and_back) (n := 63) (k := 5) (x := "script") (CX := fun _ => L2.CX0) (sp := fun w => K34.spLaw _) rfl (by decide) rfl ⟨rfl, by decide, by decide⟩ (fun w h Y => PySem.W.kIn_of Y) ?F (fun _ _ a ns hl _ hS => ⟨a, ns, rfl, hS, hl, fun _ => rfl⟩) (fun _ _ _ _ _ h => h)
  case F =>
    intro w mg fa h KX G hmg
    refine' K34.all_mk KX G hmg ?a1 ?l1 ?c1 ?k1 ?a2 ?l2 ?c2 ?k2 ?a3 ?l3 ?c3 ?k3 ?a4 ?l4 ?c4 ?k4 ?a5 ?l5 ?c5 ?k5 ?a6 ?l6 ?c6 ?k6 ?a7 ?l7 ?c7 ?k7 ?a8 ?l8 ?c8 ?k8 ?a9 ?l9 ?c9 ?k9 ?a10 ?l10 ?c10 ?k10 ?a11 ?l11 ?c11 ?k11 ?a12 ?l12 ?c12 ?k12 ?a13 ?l13 ?c13 ?k13 ?a14 ?l14 ?c14 ?k14 ?a15 ?l15 ?c15 ?k15 ?z_len ?z_range ?z_isinstance ?z_all ?z_sum ?z_max ?z_min ?z_int ?z_list ?z_tuple ?z_bool ?z_enumerate ?zS ?zC ?zM
    (case a1 => k_is); (case l1 => k_is); (case c1 => k_is); (case k1 => k_is)
    (case a2 => k_is); (case l2 => k_is); (case c2 => k_is); (case k2 => k_is)
    (case a3 => k_is); (case l3 => k_is); (case c3 => k_is); (case k3 => k_is)
    (case a4 => k_is); (case l4 => k_is); (case c4 => k_is); (case k4 => k_is)
    (case a5 => k_is); (case l5 => k_is); (case c5 => k_is); (case k5 => k_is)
    (case a6 => k_is); (case l6 => k_is); (case c6 => k_is); (case k6 => k_is)
    (case a7 => k_is); (case l7 => k_is); (case c7 => k_is); (case k7 => k_is)
    (case a8 => k_is); (case l8 => k_is); (case c8 => k_is); (case k8 => k_is)
    (case a9 => k_is); (case l9 => k_is); (case c9 => k_is); (case k9 => k_is)
    (case a10 => k_is); (case l10 => k_is); (case c10 => k_is); (case k10 => k_is)
    (case a11 => k_is); (case l11 => k_is); (case c11 => k_is); (case k11 => k_is)
    (case a12 => k_is); (case l12 => k_is); (case c12 => k_is); (case k12 => k_is)
    (case a13 => k_is); (case l13 => k_is); (case c13 => k_is); (case k13 => k_is)
    (case a14 => k_is); (case l14 => k_is); (case c14 => k_is); (case k14 => k_is)
    (case a15 => k_is); (case l15 => k_is); (case c15 => k_is); (case k15 => k_is)
    (case z_len => k_is); (case z_range => k_is); (case z_isinstance => k_is); (case z_all => k_is); (case z_sum => k_is); (case z_max => k_is); (case z_min => k_is); (case z_int => k_is); (case z_list => k_is); (case z_tuple => k_is); (case z_bool => k_is); (case z_enumerate => k_is)
    (case zS => k_is); (case zC => k_is); (case zM => k_is)
