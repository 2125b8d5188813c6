import PyProof.Rows.All
import Wide.All
import OpenK.AllK
import Wide.FinOn
import Open.SpecLaws
import KE.OsGo
import KE.KEqSeq
import HandS.ForSpec
import HandS.Comp
import HandS.Iter
import HandS.Walk
import HandS.Wide
import HandS.NoneIn
import HandS.Text
import PySem.Challenge.RW_timedletters_s01_answers
set_option Elab.async false
set_option maxRecDepth 100000
set_option maxHeartbeats 4000000
set_option linter.all false
set_option exponentiation.threshold 600
namespace Tl
/-! ### numbers by n -/
theorem face_is (n a : Nat) (h : 0 < n) : Ks184.face n a = if (n - a % n) % n < a % n then (n - a % n) % n else a % n := by
  unfold Ks184.face
  have h1 : a % n < n := Nat.mod_lt _ h
  by_cases z : a % n = 0
  · rw [z]
    simp
  · have h2 : (n - a % n) % n = n - a % n := Nat.mod_eq_of_lt (by omega)
    rw [h2]
    have h3 : min (a % n) (n - a % n) % n = min (a % n) (n - a % n) := Nat.mod_eq_of_lt (by omega)
    rw [h3]
    split <;> omega
theorem face_lt (n a : Nat) (h : 0 < n) : Ks184.face n a < n := Nat.mod_lt _ h
theorem raised_zero (n a : Nat) : Ks184.raised n a 0 = a % n := rfl
theorem raised_succ (n : Nat) : ∀ (t a : Nat), Ks184.raised n a (t + 1) = Ks184.raised n a t * Ks184.raised n a t % n
  | 0, a => by
    show (a * a % n) % n = a % n * (a % n) % n
    rw [Nat.mod_mod, ← Nat.mul_mod]
  | t + 1, a => raised_succ n t (a * a % n)
theorem raised_lt (n : Nat) (h : 0 < n) : ∀ (t a : Nat), Ks184.raised n a t < n
  | 0, a => Nat.mod_lt _ h
  | t + 1, a => raised_lt n h t (a * a % n)
theorem powered_is (n : Nat) : ∀ (f a e : Nat), e < 2 ^ f → Ks184.powered n f a e = a ^ e % n
  | 0, _, e, h => by
    have : e = 0 := by simpa using h
    subst this
    rfl
  | f + 1, a, e, h => by
    show (if e = 0 then 1 % n else let x := Ks184.powered n f (a * a % n) (e / 2); if e % 2 = 1 then a * x % n else x) = a ^ e % n
    by_cases z : e = 0
    · rw [if_pos z, z, Nat.pow_zero]
    · rw [if_neg z]
      have h2 : e / 2 < 2 ^ f := by rw [Nat.pow_succ] at h; omega
      show (if e % 2 = 1 then a * Ks184.powered n f (a * a % n) (e / 2) % n else Ks184.powered n f (a * a % n) (e / 2)) = a ^ e % n
      rw [powered_is n f _ _ h2, ← Nat.pow_mod]
      have h3 : (a * a) ^ (e / 2) = a ^ (2 * (e / 2)) := by rw [← Nat.pow_two, ← Nat.pow_mul]
      rw [h3]
      by_cases o : e % 2 = 1
      · rw [if_pos o, Nat.mul_mod, Nat.mod_mod, ← Nat.mul_mod, ← Nat.pow_succ']
        congr 2
        omega
      · rw [if_neg o]
        congr 2
        omega
theorem power_is (n a e : Nat) (h : e < 2 ^ 520) : Ks184.power n a e = a ^ e % n := powered_is n 520 a e h
/-- one turn of powered's loop: the power is odd -/
theorem turn_odd {n f s e w : Nat} (h : f * s ^ e % n = w) (o : e % 2 = 1) : (f * s % n) * (s * s % n) ^ (e / 2) % n = w := by
  rw [← h, Nat.mul_mod, Nat.mod_mod, ← Nat.pow_mod, ← Nat.mul_mod, Nat.mul_assoc]
  congr 2
  rw [← Nat.pow_two, ← Nat.pow_mul, ← Nat.pow_succ']
  congr 1
  omega
theorem turn_even {n f s e w : Nat} (h : f * s ^ e % n = w) (o : ¬ e % 2 = 1) : f * (s * s % n) ^ (e / 2) % n = w := by
  rw [← h, Nat.mul_mod, ← Nat.pow_mod, ← Nat.mul_mod]
  congr 2
  rw [← Nat.pow_two, ← Nat.pow_mul]
  congr 1
  omega
/-! ### bytes -/
theorem number_snoc (l : List Nat) (x : Nat) : Ks184Neutral.number (l ++ [x]) = 256 * Ks184Neutral.number l + x := by
  unfold Ks184Neutral.number
  rw [List.foldl_append]
  rfl
theorem number_lt_from : ∀ (l : List Nat) (v m : Nat), (∀ x ∈ l, x < 256) → v < m → l.foldl (fun v x => 256 * v + x) v < m * 256 ^ l.length
  | [], v, m, _, h => by simpa using h
  | x :: l, v, m, hl, h => by
    have h2 := hl x (by simp)
    have := number_lt_from l (256 * v + x) (256 * m) (fun y hy => hl y (List.mem_cons_of_mem _ hy)) (by omega)
    rw [List.foldl_cons, List.length_cons, Nat.pow_succ, Nat.mul_comm (256 ^ l.length) 256, ← Nat.mul_assoc, Nat.mul_comm m 256]
    exact this
theorem number_lt (l : List Nat) (h : ∀ x ∈ l, x < 256) : Ks184Neutral.number l < 256 ^ l.length := by
  have := number_lt_from l 0 1 h (by decide)
  rwa [Nat.one_mul] at this
/-- 2 to the power 512, kept shut -/
def Big : Nat := 2 ^ 512
theorem big_is : Big = 2 ^ 512 := rfl
theorem big_256 : 256 ^ 64 = Big := by
  rw [big_is, show (512 : Nat) = 8 * 64 from rfl, Nat.pow_mul]
theorem number_lt64 (l : List Nat) (h : ∀ x ∈ l, x < 256) (e : l.length = 64) : Ks184Neutral.number l < Big := by
  have := number_lt l h
  rwa [e, big_256] at this
/-- the low bytes, the low one first -/
def lows (y : Nat) (i : Nat) : List Nat := (List.range i).map fun j => y / 256 ^ j % 256
theorem lows_succ (y i : Nat) : lows y (i + 1) = lows y i ++ [y / 256 ^ i % 256] := by
  unfold lows
  rw [List.range_succ, List.map_append]
  rfl
theorem lows_all (y : Nat) : (lows y 64).reverse = Ks184Neutral.bytesOf y := by
  apply List.ext_getElem
  · simp [lows, Ks184Neutral.bytesOf]
  · intro i h1 h2
    simp [lows, Ks184Neutral.bytesOf] at h1 h2 ⊢
theorem bytesOf_length (y : Nat) : (Ks184Neutral.bytesOf y).length = 64 := by simp [Ks184Neutral.bytesOf]
theorem bytesOf_lt (y : Nat) : ∀ x ∈ Ks184Neutral.bytesOf y, x < 256 := by
  intro x hx
  simp only [Ks184Neutral.bytesOf, List.mem_map] at hx
  obtain ⟨i, _, rfl⟩ := hx
  exact Nat.mod_lt _ (by decide)
/-! ### what's asked, as numbers -/
def rend (e : Ks184.Ev) : List Int := match e with
  | .mix y _ => (1 : Int) :: Ks184Neutral.bytes64 y
  | .lot _ a b d t _ => (2 : Int) :: (Ks184Neutral.bytes64 a ++ Ks184Neutral.bytes64 b ++ Ks184Neutral.bytes64 d ++ [(t : Int)])
/-- an answer as numbers -/
def told (a : Ks184.Ans) (evs : List Ks184.Ev) : List Int := a.ret :: (a.nums.flatMap Ks184Neutral.bytes64 ++ Ks184Neutral.ints a.bytes ++ ((evs.length : Int) :: evs.flatMap rend))
theorem told_is (a : Ks184.Ans) (evs : List Ks184.Ev) : a.ret :: (a.nums.flatMap Ks184Neutral.bytes64 ++ Ks184Neutral.ints a.bytes ++ ((evs.length : Int) :: evs.flatMap (fun e => match e with | .mix y _ => (1 : Int) :: Ks184Neutral.bytes64 y | .lot _ a b d t _ => (2 : Int) :: (Ks184Neutral.bytes64 a ++ Ks184Neutral.bytes64 b ++ Ks184Neutral.bytes64 d ++ [(t : Int)])))) = told a evs := by
  unfold told
  congr 4
/-! ### rounds -/
abbrev g := Ks184Neutral.given
/-- the lot -/
def lot (n a b c t : Nat) : Nat := (n + a + 3 * b + 5 * c + 7 * t) % 2 ^ 32
theorem lot_is (n a b c t : Nat) : g.lot n a b c t = lot n a b c t := rfl
theorem lot_lt (n a b c t : Nat) : lot n a b c t < 2 ^ 520 := Nat.lt_of_lt_of_le (Nat.mod_lt _ (by decide)) (Nat.pow_le_pow_right (by decide) (by decide))
def stepA (n a b c t : Nat) : Nat := (Ks184.next n (lot n a b c t) a b c).1
def stepB (n a b c t : Nat) : Nat := (Ks184.next n (lot n a b c t) a b c).2
theorem proof_zero (n a b : Nat) : Ks184.proof g n 0 a b = [] := rfl
theorem proof_succ (n t a b : Nat) : Ks184.proof g n (t + 1) a b = Ks184.half n a (t + 1) :: Ks184.proof g n t (stepA n a b (Ks184.half n a (t + 1)) (t + 1)) (stepB n a b (Ks184.half n a (t + 1)) (t + 1)) := rfl
theorem asks_zero (n a b : Nat) (p : List Nat) : Ks184.asks g n 0 a b p = [] := rfl
theorem asks_cons (n t a b c : Nat) (p : List Nat) : Ks184.asks g n (t + 1) a b (c :: p) = .lot n a b c (t + 1) (lot n a b c (t + 1)) :: Ks184.asks g n t (stepA n a b c (t + 1)) (stepB n a b c (t + 1)) p := rfl
theorem rounds_cons (n t a b c : Nat) (p : List Nat) : Ks184.rounds g n (t + 1) a b (c :: p) = (a, b) :: Ks184.rounds g n t (stepA n a b c (t + 1)) (stepB n a b c (t + 1)) p := rfl
theorem rounds_ne (n : Nat) : ∀ (t a b : Nat) (p : List Nat), Ks184.rounds g n t a b p ≠ []
  | 0, _, _, _ => fun z => nomatch z
  | _ + 1, _, _, _ => fun z => nomatch z
theorem rounds_last (n t a b c : Nat) (p : List Nat) : (Ks184.rounds g n (t + 1) a b (c :: p)).getLast? = (Ks184.rounds g n t (stepA n a b c (t + 1)) (stepB n a b c (t + 1)) p).getLast? := by
  rw [rounds_cons]
  cases e : Ks184.rounds g n t (stepA n a b c (t + 1)) (stepB n a b c (t + 1)) p with
  | nil => exact absurd e (rounds_ne _ _ _ _ _)
  | cons x r => rw [List.getLast?_cons_cons]
theorem asks_length (n : Nat) : ∀ (t a b : Nat) (p : List Nat), (Ks184.asks g n t a b p).length = t
  | 0, _, _, _ => rfl
  | t + 1, _, _, _ => congrArg (· + 1) (asks_length n t _ _ _)
theorem proof_length (n : Nat) : ∀ (t a b : Nat), (Ks184.proof g n t a b).length = t
  | 0, _, _ => rfl
  | t + 1, _, _ => congrArg (· + 1) (proof_length n t _ _)
theorem stepA_lt (n a b c t : Nat) (h : 0 < n) : stepA n a b c t < n := face_lt _ _ h
theorem stepB_lt (n a b c t : Nat) (h : 0 < n) : stepB n a b c t < n := face_lt _ _ h
end Tl
namespace Tl
open Ks184Neutral (number numbers bytes64 bytesOf)
abbrev zs (l : List Nat) : List Int := Ks184Neutral.ints l
abbrev ns (l : List Int) : List Nat := Ks184Neutral.nats l
theorem nats_ints (l : List Nat) : ns (zs l) = l := by
  unfold ns zs Ks184Neutral.nats Ks184Neutral.ints
  rw [List.map_map]
  exact (List.map_congr_left fun x _ => rfl).trans (List.map_id l)
theorem ints_nats (l : List Int) (h : ∀ x ∈ l, 0 ≤ x) : zs (ns l) = l := by
  unfold ns zs Ks184Neutral.nats Ks184Neutral.ints
  rw [List.map_map]
  exact (List.map_congr_left fun x hx => Int.toNat_of_nonneg (h x hx)).trans (List.map_id l)
/-- the answer to seal -/
def sealA (k n x m : Nat) (l : List Nat) : List Int :=
  if Ks184.What.fit ⟨n, x, k⟩ = false ∨ m = 0 then [-22, 0] else 0 :: (zs (Ks184.xor l (g.mix (Ks184.What.quick ⟨n, x, k⟩ m))) ++ (1 :: 1 :: bytes64 (Ks184.What.quick ⟨n, x, k⟩ m)))
theorem step_seal (s : Ks184Neutral.S) (k : Nat) (n x m l : List Nat) :
    Ks184Neutral.step s [[0, (k : Int)], zs n, zs x, zs m, zs l] = (s, sealA k (number n) (number x) (number m) l) := by
  show (s, _) = (s, _)
  refine congrArg (Prod.mk s) ?_
  refine (told_is _ _).trans ?_
  show told (Ks184.act g (s.getD ⟨⟨0, 0, 0⟩, 0, 0⟩) (.seal_ ⟨number (ns (zs n)), number (ns (zs x)), k⟩ (number (ns (zs m))) (ns (zs l)))).2.1 (Ks184.act g (s.getD ⟨⟨0, 0, 0⟩, 0, 0⟩) (.seal_ ⟨number (ns (zs n)), number (ns (zs x)), k⟩ (number (ns (zs m))) (ns (zs l)))).2.2 = _
  rw [nats_ints, nats_ints, nats_ints, nats_ints]
  unfold sealA
  show told (if _ then _ else _ : Ks184.Abs × Ks184.Ans × List Ks184.Ev).2.1 (if _ then _ else _ : Ks184.Abs × Ks184.Ans × List Ks184.Ev).2.2 = _
  by_cases c : Ks184.What.fit ⟨number n, number x, k⟩ = false ∨ number m = 0
  · rw [if_pos c, if_pos c]
    rfl
  · rw [if_neg c, if_neg c]
    show 0 :: ([] ++ zs (Ks184.xor l (g.mix (Ks184.What.quick ⟨number n, number x, k⟩ (number m)))) ++ (1 :: ((1 :: bytes64 _) ++ []))) = _
    rw [List.nil_append, List.append_nil]
theorem step_begin (s : Ks184Neutral.S) (k : Nat) (n x : List Nat) :
    Ks184Neutral.step s [[1, (k : Int)], zs n, zs x] = if Ks184.What.fit ⟨number n, number x, k⟩ = true then (some (Ks184.begun ⟨number n, number x, k⟩), [0, 0]) else (s, [-22, 0]) := by
  show (if Ks184.What.fit ⟨number (ns (zs n)), number (ns (zs x)), k⟩ = true then (some (Ks184.begun ⟨number (ns (zs n)), number (ns (zs x)), k⟩), [0, 0]) else (s, [-22, 0])) = _
  rw [nats_ints, nats_ints]
/-- work -/
def workS (q : Ks184.Abs) (steps : Nat) : Ks184.Abs := { q with done := q.done + min steps q.left, now := Ks184.raised q.what.n q.now (min steps q.left) }
theorem step_work (q : Ks184.Abs) (k : Nat) : Ks184Neutral.step (some q) [[2, (k : Int)]] = (some (workS q k), [((q.left - min k q.left : Nat) : Int), 0]) := rfl
theorem step_work_none (k : Nat) : Ks184Neutral.step none [[2, (k : Int)]] = (none, [-61]) := rfl
theorem step_value_none : Ks184Neutral.step none [[3]] = (none, [-61]) := rfl
theorem step_show_none : Ks184Neutral.step none [[4]] = (none, [-61]) := rfl
theorem told_say (v : Int) : told (Ks184.say v) [] = [v, 0] := rfl
theorem step_value (q : Ks184.Abs) : Ks184Neutral.step (some q) [[3]] = (some q, if 0 < q.left then [-1, 0] else 0 :: (bytes64 (Ks184.face q.what.n q.now) ++ [0])) := by
  refine (congrArg (Prod.mk _) (told_is (Ks184.act g q .value).2.1 (Ks184.act g q .value).2.2) : Ks184Neutral.step (some q) [[3]] = (some (Ks184.act g q .value).1, _)).trans ?_
  have e : Ks184.act g q .value = if 0 < q.left then (q, Ks184.say (-1), []) else (q, { ret := 0, nums := [Ks184.face q.what.n q.now] }, []) := rfl
  rw [e]
  by_cases c : 0 < q.left
  · rw [if_pos c, if_pos c]
    rfl
  · rw [if_neg c, if_neg c]
    show (some q, 0 :: (bytes64 (Ks184.face q.what.n q.now) ++ [] ++ [] ++ [0])) = _
    rw [List.append_nil, List.append_nil]
/-- the proof that show tells, its asks -/
def showP (q : Ks184.Abs) : List Nat := Ks184.proof g q.what.n q.what.k q.what.x (Ks184.face q.what.n q.now)
def showE (q : Ks184.Abs) : List Ks184.Ev := Ks184.asks g q.what.n q.what.k q.what.x (Ks184.face q.what.n q.now) (showP q)
theorem step_show (q : Ks184.Abs) : Ks184Neutral.step (some q) [[4]] = (some q, if 0 < q.left then [-1, 0] else (q.what.k : Int) :: ((showP q).flatMap bytes64 ++ ((q.what.k : Int) :: (showE q).flatMap rend))) := by
  refine (congrArg (Prod.mk _) (told_is (Ks184.act g q .show_).2.1 (Ks184.act g q .show_).2.2) : Ks184Neutral.step (some q) [[4]] = (some (Ks184.act g q .show_).1, _)).trans ?_
  have e : Ks184.act g q .show_ = if 0 < q.left then (q, Ks184.say (-1), []) else (q, { ret := (q.what.k : Nat), nums := showP q }, showE q) := rfl
  rw [e]
  by_cases c : 0 < q.left
  · rw [if_pos c, if_pos c]
    rfl
  · rw [if_neg c, if_neg c]
    show (some q, (q.what.k : Int) :: ((showP q).flatMap bytes64 ++ [] ++ (((showE q).length : Int) :: (showE q).flatMap rend))) = _
    rw [List.append_nil, show (showE q).length = q.what.k from asks_length _ _ _ _ _]
/-- whether the numbers show it -/
def shown (n k a b : Nat) (p : List Nat) : Bool := match (Ks184.rounds g n k a b p).getLast? with
  | some x => Ks184.face n (x.1 * x.1) == x.2
  | none => false
def rightA (k n x y : Nat) (p : List Nat) : List Int :=
  if Ks184.What.fit ⟨n, x, k⟩ = false then [-22, 0] else if Ks184.small n y = false ∨ p.all (Ks184.small n) = false then [-13, 0] else (if shown n k x y p = true then 0 else -13) :: ((k : Int) :: (Ks184.asks g n k x y p).flatMap rend)
theorem step_right (s : Ks184Neutral.S) (k : Nat) (n x y p : List Nat) :
    Ks184Neutral.step s [[5, (k : Int)], zs n, zs x, zs y, zs p] = (s, rightA k (number n) (number x) (number y) (numbers p)) := by
  show (s, _) = (s, _)
  refine congrArg (Prod.mk s) ?_
  refine (told_is _ _).trans ?_
  show told (Ks184.act g (s.getD ⟨⟨0, 0, 0⟩, 0, 0⟩) (.right ⟨number (ns (zs n)), number (ns (zs x)), k⟩ (number (ns (zs y))) (numbers (ns (zs p))))).2.1 (Ks184.act g (s.getD ⟨⟨0, 0, 0⟩, 0, 0⟩) (.right ⟨number (ns (zs n)), number (ns (zs x)), k⟩ (number (ns (zs y))) (numbers (ns (zs p))))).2.2 = _
  rw [nats_ints, nats_ints, nats_ints, nats_ints]
  generalize number n = n, number x = x, number y = y, numbers p = p, s.getD ⟨⟨0, 0, 0⟩, 0, 0⟩ = q
  unfold rightA
  have e : Ks184.act g q (.right ⟨n, x, k⟩ y p) = if Ks184.What.fit ⟨n, x, k⟩ = false then (q, Ks184.say (-22), []) else if Ks184.small n y = false ∨ p.all (Ks184.small n) = false then (q, Ks184.say (-13), []) else (q, Ks184.say (if Ks184.What.right ⟨n, x, k⟩ g y p then 0 else -13), Ks184.asks g n k x y p) := rfl
  rw [e]
  by_cases c : Ks184.What.fit ⟨n, x, k⟩ = false
  · rw [if_pos c, if_pos c]
    rfl
  · rw [if_neg c, if_neg c]
    by_cases d : Ks184.small n y = false ∨ p.all (Ks184.small n) = false
    · rw [if_pos d, if_pos d]
      rfl
    · rw [if_neg d, if_neg d]
      have h : Ks184.What.right ⟨n, x, k⟩ g y p = shown n k x y p := by
        have d1 : Ks184.small n y = true := by
          cases z : Ks184.small n y with
          | true => rfl
          | false => exact absurd (Or.inl z) d
        have d2 : p.all (Ks184.small n) = true := by
          cases z : p.all (Ks184.small n) with
          | true => rfl
          | false => exact absurd (Or.inr z) d
        show (Ks184.small n y && p.all (Ks184.small n) && shown n k x y p) = _
        rw [d1, d2]
        rfl
      rw [h]
      show (if shown n k x y p = true then (0 : Int) else -13) :: ([] ++ [] ++ (((Ks184.asks g n k x y p).length : Int) :: (Ks184.asks g n k x y p).flatMap rend)) = _
      rw [asks_length]
      rfl
def readA (y : Nat) (l : List Nat) : List Int := 0 :: (zs (Ks184.xor l (g.mix y)) ++ (1 :: 1 :: bytes64 y))
theorem step_read (s : Ks184Neutral.S) (y l : List Nat) : Ks184Neutral.step s [[6], zs y, zs l] = (s, readA (number y) l) := by
  show (s, _) = (s, _)
  refine congrArg (Prod.mk s) ?_
  refine (told_is _ _).trans ?_
  show told (Ks184.act g (s.getD ⟨⟨0, 0, 0⟩, 0, 0⟩) (.read (number (ns (zs y))) (ns (zs l)))).2.1 (Ks184.act g (s.getD ⟨⟨0, 0, 0⟩, 0, 0⟩) (.read (number (ns (zs y))) (ns (zs l)))).2.2 = _
  rw [nats_ints, nats_ints]
  show 0 :: ([] ++ zs (Ks184.xor l (g.mix (number y))) ++ (1 :: ((1 :: bytes64 (number y)) ++ []))) = _
  rw [List.nil_append, List.append_nil]
  rfl
/-! ### a list of calls, flat -/
theorem whole_is (c : List (List Int)) : PyKs184.whole c = c := by
  unfold PyKs184.whole
  split <;> rfl
theorem map_whole (cs : List (List (List Int))) : cs.map PyKs184.whole = cs := (List.map_congr_left fun c _ => whole_is c).trans (List.map_id cs)
/-- bytes, so many -/
structure By (m : Nat) (l : List Nat) : Prop where
  len : l.length = m
  lt : ∀ x ∈ l, x < 256
/-- k is not from 11 to 20 -/
def KOk (k : Nat) : Prop := k < 2 ^ 32 ∧ (k ≤ 10 ∨ 20 < k)
/-- the calls that may be handed in -/
inductive OkC : List (List Int) → Prop
  | seal_ (k : Nat) (n x m l : List Nat) (hk : KOk k) (hn : By 64 n) (hx : By 64 x) (hm : By 64 m) (hl : By 32 l) : OkC [[0, (k : Int)], zs n, zs x, zs m, zs l]
  | begin_ (k : Nat) (n x : List Nat) (hk : KOk k) (hn : By 64 n) (hx : By 64 x) : OkC [[1, (k : Int)], zs n, zs x]
  | work (k : Nat) (hk : k < 2 ^ 32) : OkC [[2, (k : Int)]]
  | value : OkC [[3]]
  | show_ : OkC [[4]]
  | right (k : Nat) (n x y p : List Nat) (hk : KOk k) (hn : By 64 n) (hx : By 64 x) (hy : By 64 y) (hp : ∀ z ∈ p, z < 256) (hp2 : Ks184.What.fit ⟨number n, number x, k⟩ = true → p.length = 64 * k) (hp3 : p.length ≤ 1280) : OkC [[5, (k : Int)], zs n, zs x, zs y, zs p]
  | read (y l : List Nat) (hy : By 64 y) (hl : By 32 l) : OkC [[6], zs y, zs l]
theorem nat_of {z : Int} {b : Nat} (h : Ks184Neutral.natural z b = true) : ∃ k : Nat, z = (k : Int) ∧ k < 2 ^ b := by
  unfold Ks184Neutral.natural at h
  rw [Bool.and_eq_true, decide_eq_true_iff, decide_eq_true_iff] at h
  refine ⟨z.toNat, (Int.toNat_of_nonneg h.1).symm, ?_⟩
  have h2 := h.2
  have h3 : ((z.toNat : Nat) : Int) < ((2 ^ b : Nat) : Int) := by
    rw [Int.toNat_of_nonneg h.1]
    simpa using h2
  exact Int.ofNat_lt.mp h3
theorem row_of {l : List Int} (h : l.all (fun (z : Int) => Ks184Neutral.natural z 8) = true) : ∃ r : List Nat, l = zs r ∧ ∀ x ∈ r, x < 256 := by
  rw [List.all_eq_true] at h
  refine ⟨ns l, (ints_nats l fun x hx => ?_).symm, fun x hx => ?_⟩
  · obtain ⟨k, rfl, _⟩ := nat_of (h x hx)
    exact Int.natCast_nonneg k
  · obtain ⟨z, hz, rfl⟩ := List.mem_map.mp hx
    obtain ⟨k, rfl, h2⟩ := nat_of (h z hz)
    exact h2
theorem long_of {c : List (List Int)} (f : Ks184Neutral.form c = true) : Ks184Neutral.long c = true := by
  unfold Ks184Neutral.form at f
  split at f
  · cases f
  · rw [Bool.and_eq_true] at f
    exact f.2
theorem okC_of {c : List (List Int)} (h : Ks184Neutral.asked1 c = true) (f : Ks184Neutral.form c = true) : OkC c := by
  unfold Ks184Neutral.asked1 at h
  split at h
  · rename_i a b d e g'
    simp only [Bool.and_eq_true] at h
    obtain ⟨⟨⟨⟨h1, h2⟩, h3⟩, h4⟩, h5⟩ := h
    obtain ⟨k, rfl, hk⟩ := nat_of h1
    obtain ⟨n, rfl, hn⟩ := row_of h2
    obtain ⟨x, rfl, hx⟩ := row_of h3
    obtain ⟨m, rfl, hm⟩ := row_of h4
    obtain ⟨l, rfl, hl⟩ := row_of h5
    have f1 : ((decide (k ≤ 10) || decide (20 < k)) && (ns (zs n)).length == 64 && (ns (zs x)).length == 64 && (ns (zs m)).length == 64 && (ns (zs l)).length == 32) = true := long_of f
    rw [nats_ints, nats_ints, nats_ints, nats_ints] at f1
    simp only [Bool.and_eq_true, Bool.or_eq_true, decide_eq_true_iff, beq_iff_eq] at f1
    obtain ⟨⟨⟨⟨q1, q2⟩, q3⟩, q4⟩, q5⟩ := f1
    exact .seal_ k n x m l ⟨hk, q1⟩ ⟨q2, hn⟩ ⟨q3, hx⟩ ⟨q4, hm⟩ ⟨q5, hl⟩
  · rename_i a b d
    simp only [Bool.and_eq_true] at h
    obtain ⟨⟨h1, h2⟩, h3⟩ := h
    obtain ⟨k, rfl, hk⟩ := nat_of h1
    obtain ⟨n, rfl, hn⟩ := row_of h2
    obtain ⟨x, rfl, hx⟩ := row_of h3
    have f1 : ((decide (k ≤ 10) || decide (20 < k)) && (ns (zs n)).length == 64 && (ns (zs x)).length == 64) = true := long_of f
    rw [nats_ints, nats_ints] at f1
    simp only [Bool.and_eq_true, Bool.or_eq_true, decide_eq_true_iff, beq_iff_eq] at f1
    obtain ⟨⟨q1, q2⟩, q3⟩ := f1
    exact .begin_ k n x ⟨hk, q1⟩ ⟨q2, hn⟩ ⟨q3, hx⟩
  · obtain ⟨k, rfl, hk⟩ := nat_of h
    exact .work k hk
  · exact .value
  · exact .show_
  · rename_i a b d e g'
    simp only [Bool.and_eq_true] at h
    obtain ⟨⟨⟨⟨h1, h2⟩, h3⟩, h4⟩, h5⟩ := h
    obtain ⟨k, rfl, hk⟩ := nat_of h1
    obtain ⟨n, rfl, hn⟩ := row_of h2
    obtain ⟨x, rfl, hx⟩ := row_of h3
    obtain ⟨y, rfl, hy⟩ := row_of h4
    obtain ⟨p, rfl, hp⟩ := row_of h5
    have f1 : ((decide (k ≤ 10) || decide (20 < k)) && (ns (zs n)).length == 64 && (ns (zs x)).length == 64 && (ns (zs y)).length == 64 &&
      (if Ks184.What.fit ⟨number (ns (zs n)), number (ns (zs x)), k⟩ then (ns (zs p)).length == 64 * k else (ns (zs p)).length % 64 == 0 && decide ((ns (zs p)).length ≤ 1280))) = true := long_of f
    rw [nats_ints, nats_ints, nats_ints, nats_ints] at f1
    simp only [Bool.and_eq_true, Bool.or_eq_true, decide_eq_true_iff, beq_iff_eq] at f1
    obtain ⟨⟨⟨⟨q1, q2⟩, q3⟩, q4⟩, q5⟩ := f1
    have q6 : Ks184.What.fit ⟨number n, number x, k⟩ = true → p.length = 64 * k := fun z => by
      rw [if_pos z] at q5
      exact eq_of_beq q5
    refine .right k n x y p ⟨hk, q1⟩ ⟨q2, hn⟩ ⟨q3, hx⟩ ⟨q4, hy⟩ hp q6 ?_
    by_cases z : Ks184.What.fit ⟨number n, number x, k⟩ = true
    · rw [q6 z]
      have z2 := z
      unfold Ks184.What.fit at z2
      simp only [Bool.and_eq_true, decide_eq_true_iff] at z2
      have z3 : k ≤ 20 := z2.2
      omega
    · rw [if_neg z] at q5
      simp only [Bool.and_eq_true, decide_eq_true_iff] at q5
      exact q5.2
  · rename_i a b
    simp only [Bool.and_eq_true] at h
    obtain ⟨h1, h2⟩ := h
    obtain ⟨y, rfl, hy⟩ := row_of h1
    obtain ⟨l, rfl, hl⟩ := row_of h2
    have f1 : ((ns (zs y)).length == 64 && (ns (zs l)).length == 32) = true := long_of f
    rw [nats_ints, nats_ints] at f1
    simp only [Bool.and_eq_true, beq_iff_eq] at f1
    exact .read y l ⟨f1.1, hy⟩ ⟨f1.2, hl⟩
  · cases h
/-! ### a list of calls as it's read -/
inductive Reads : List Int → List (List (List Int)) → Prop
  | nil : Reads [] []
  | cons {p : Int} {r t : List Int} {c : List (List Int)} {cs : List (List (List Int))} (h : PyFlat.call PyKs184.shape (p :: r) = some (c, t)) (q : Reads t cs) : Reads (p :: r) (c :: cs)
theorem reads_of : ∀ (f : Nat) (l : List Int) (cs : List (List (List Int))), PyFlat.calls PyKs184.shape f l = some cs → Reads l cs
  | f, [], cs, h => by
    have e : cs = [] := by
      cases f <;> exact (Option.some.inj h).symm
    subst e
    exact .nil
  | 0, _ :: _, _, h => nomatch h
  | f + 1, p :: r, cs, h => by
    unfold PyFlat.calls at h
    split at h
    · cases h
    · rename_i c t e
      split at h
      · cases h
      · rename_i cs' e2
        have e3 := Option.some.inj h
        subst e3
        exact .cons e (reads_of f t cs' e2)
theorem call_parts {p : Int} {r t : List Int} {c : List (List Int)} (h : PyFlat.call PyKs184.shape (p :: r) = some (c, t)) :
    ∃ (n k : Nat) (xs : List (List Int)), PyKs184.shape p = some (n, k) ∧ n ≤ r.length ∧ PyFlat.rows k (r.drop n) = some (xs, t) ∧ c = (p :: r.take n) :: xs := by
  unfold PyFlat.call at h
  dsimp only at h
  cases e : PyKs184.shape p with
  | none =>
    rw [e] at h
    cases h
  | some nk =>
    obtain ⟨n, k⟩ := nk
    rw [e] at h
    dsimp only at h
    by_cases e2 : r.length < n
    · rw [if_pos e2] at h
      cases h
    · rw [if_neg e2] at h
      cases e3 : PyFlat.rows k (r.drop n) with
      | none =>
        rw [e3] at h
        cases h
      | some xt =>
        obtain ⟨xs, t'⟩ := xt
        rw [e3] at h
        have e4 := Option.some.inj h
        cases e4
        exact ⟨n, k, xs, rfl, by omega, e3, rfl⟩
theorem rows_succ {k : Nat} {rest t : List Int} {xs : List (List Int)} (h : PyFlat.rows (k + 1) rest = some (xs, t)) :
    ∃ (n : Nat) (r : List Int) (xs' : List (List Int)), rest = (n : Int) :: r ∧ n ≤ r.length ∧ PyFlat.rows k (r.drop n) = some (xs', t) ∧ xs = r.take n :: xs' := by
  unfold PyFlat.rows at h
  split at h
  · cases h
  · rename_i x s e
    split at h
    · cases h
    · rename_i xs' t' e2
      have e3 := Option.some.inj h
      cases e3
      unfold PyFlat.row at e
      split at e
      · cases e
      · rename_i n r
        split at e
        · rename_i c
          have e4 := Option.some.inj e
          cases e4
          exact ⟨n.toNat, r, xs', by rw [Int.toNat_of_nonneg c.1], c.2, e2, rfl⟩
        · cases e
theorem rows_zero {rest t : List Int} {xs : List (List Int)} (h : PyFlat.rows 0 rest = some (xs, t)) : xs = [] ∧ t = rest := by
  have e := Option.some.inj h
  cases e
  exact ⟨rfl, rfl⟩
theorem rows_length : ∀ {k : Nat} {rest t : List Int} {xs : List (List Int)}, PyFlat.rows k rest = some (xs, t) → xs.length = k ∧ t.length ≤ rest.length
  | 0, rest, t, xs, h => by
    obtain ⟨rfl, rfl⟩ := rows_zero h
    exact ⟨rfl, Nat.le_refl _⟩
  | k + 1, rest, t, xs, h => by
    obtain ⟨n, r, xs', rfl, h1, h2, rfl⟩ := rows_succ h
    obtain ⟨h3, h4⟩ := rows_length h2
    rw [List.length_drop] at h4
    exact ⟨congrArg (· + 1) h3, by rw [List.length_cons]; omega⟩
def wholesTab : List Int := [1, 1, 1, 0, 0, 1, 0]
def listsTab : List Int := [4, 2, 0, 0, 0, 4, 2]
theorem shape_tab {p : Int} {n k : Nat} (h : PyKs184.shape p = some (n, k)) : ∃ j : Nat, p = (j : Int) ∧ wholesTab[j]? = some (n : Int) ∧ listsTab[j]? = some (k : Int) ∧ n ≤ 1 ∧ k ≤ 4 := by
  unfold PyKs184.shape at h
  split at h
  · cases Option.some.inj h; exact ⟨0, by assumption, rfl, rfl, by decide, by decide⟩
  split at h
  · cases Option.some.inj h; exact ⟨1, by assumption, rfl, rfl, by decide, by decide⟩
  split at h
  · cases Option.some.inj h; exact ⟨2, by assumption, rfl, rfl, by decide, by decide⟩
  split at h
  · cases Option.some.inj h; exact ⟨3, by assumption, rfl, rfl, by decide, by decide⟩
  split at h
  · cases Option.some.inj h; exact ⟨4, by assumption, rfl, rfl, by decide, by decide⟩
  split at h
  · cases Option.some.inj h; exact ⟨5, by assumption, rfl, rfl, by decide, by decide⟩
  split at h
  · cases Option.some.inj h; exact ⟨6, by assumption, rfl, rfl, by decide, by decide⟩
  · cases h
/-- the answers from a state on -/
def rest (s : Ks184Neutral.S) (cs : List (List (List Int))) : List Int := PyFlat.told (PyFlat.played Ks184Neutral.step s cs)
theorem rest_nil (s : Ks184Neutral.S) : rest s [] = [] := rfl
theorem rest_cons (s : Ks184Neutral.S) (c : List (List Int)) (cs : List (List (List Int))) :
    rest s (c :: cs) = ((Ks184Neutral.step s c).2.length : Int) :: ((Ks184Neutral.step s c).2 ++ rest (Ks184Neutral.step s c).1 cs) := rfl
/-- what «asked» says of a request -/
theorem asked_says {l : List Int} (h : PyKs184.answers_asked l = true) : ∃ cs, Reads l cs ∧ (∀ c ∈ cs, OkC c) ∧ PyKs184.answers l = rest none cs ∧ (rest none cs).length ≤ 10000000 := by
  unfold PyKs184.answers_asked at h
  split at h
  · cases h
  · rename_i raw e
    simp only [Bool.and_eq_true] at h
    obtain ⟨⟨_, ha⟩, hs⟩ := h
    have e2 : PyKs184.answers l = rest none raw := by
      unfold PyKs184.answers PyKs184.calls
      rw [e]
      show PyFlat.told (PyFlat.played Ks184Neutral.step Ks184Neutral.start (raw.map PyKs184.whole)) = _
      rw [map_whole]
      rfl
    refine ⟨raw, reads_of _ _ _ e, ?_, e2, ?_⟩
    · rw [map_whole] at ha
      unfold Ks184Neutral.asked Ks184Neutral.orderly at ha
      simp only [Bool.and_eq_true, List.all_eq_true] at ha
      exact fun c hc => okC_of (ha.1.1.1.1 c hc) (ha.1.2 c hc)
    · unfold PyFlat.short at hs
      rw [e2] at hs
      exact of_decide_eq_true hs
end Tl
namespace Tl
open PySem PySem.Spec PyProof.Rows L2
/-! ### a field as a target; a top with a loose constant -/
section
variable {X : Cx}
/-- o.f as a target -/
def gFld (K : PySem.W.Frag) (ta : TE) (f : Str) : TG := fun v σ H Q => ta σ H fun x H1 => ∃ a C dx fs, x = .ref a ∧ H1 a = some (.ins C dx fs) ∧ Cls K C ∧ NoAttr K C f ∧ fs.length < 1000 ∧ Q σ (upd H1 a (.ins C dx (putF f v fs)))
theorem pg_fld {o : Expr} {f : Str} {pos : Pos} {ta : TE} (ha : PE X o ta) : PG X (.Attribute o f pos) (gFld X.K ta f) := by
  refine ⟨fun pins s σ H v u Q I r h => ?_⟩
  rw [assign_Attribute]
  refine wpAny_bind (wpAny_holding (thn (ha.run pins s σ H _ I h) fun ov s2 ⟨x, H2, I2, rx, a, C, dx, fs, ex, ea, c, n, l, q2⟩ => ?_))
  subst ex
  obtain rfl : ov = Value.ref a := rx
  refine wpAny_bind (wpAny_standAt (wpAny_bind (wpAny_holding (setattr_ok I2 ea c n l r fun s3 I3 => ?_))))
  exact wpAny_release ⟨σ, _, I3, q2⟩
end
/-- the row's end, where the head tells more of the top than its written part (XP: the loose constants) -/
theorem walk_specX {r : PySem.W.OpenSpec} {k : Nat} {q : Program} {loose : List Str} {XP : (Str → Option Value) → Heap → Prop} {YP : World → Heap → Prop} {d : DefRec} {K : Params → PySem.W.Frag} {ps : List Str} {sp : PySem.W.Frag → Sp}
    (hwell : r.wellSaid = true) (hdf : d.params.defaults = []) (hlen : r.args.length = ps.length) (hr : Room k callerA) (hY : ∀ (w : World) (h : Heap), YP w h → (K w.params).In h)
    (F : ∀ (w : World) (mg : Str → Option Value) (fa : Addr) (h : Heap), XP mg h → YP w h → (K w.params).In h → h.Ns mainGlobals mg → mg d.name = some (.ref fa) →
      ∃ fd : FuncData, (∀ (s : Shared) (us : List Value), us.length = ps.length → BindsTo s fd ⟨us, []⟩ (ps.zip us)) ∧
        ∀ base : Heap, (K w.params).In base → base.Ns mainGlobals mg → FnOk r.prog w (K w.params) mg base CX0 k fa fd ps (sp (K w.params)))
    (hsp : ∀ (K : PySem.W.Frag) (H : Hp) (xs : List V) (a : PySem.W.Codec.denoteAll r.args), OnlyF H → PySem.W.Codec.withinAll r.args a = true → PySem.W.Codec.app r.args r.asked a = true → DwAll K H xs (PySem.W.Codec.encAll r.args a) →
      sp K xs H (fun v H' => Dw K H' v (r.ret.enc (PySem.W.Codec.app r.args r.f a))) fun _ _ _ => False) :
    PySem.W.WalkOS q loose XP YP r d [] (fun f vs => PySem.call f vs) := by
  intro w s0 s1 mg mb G Y fa o pm cd doc dV kV ho hd hcd hD hmg hg args vals as hpre hlay hrd hwl hlo
  have e : ∀ mg' : Str → Option Value, s1.heap.Ns mainGlobals mg' → XP mg' s1.heap := fun mg' n => by
    rw [n.eq_nsMap, ← (G.T.g).eq_nsMap]
    exact G.X
  exact walk_spec (XP := XP) (YP := fun w' h' => YP w' h' ∧ h' = s1.heap) (K := K) (CX := fun _ => CX0) (sp := fun w => sp (K w.params)) hwell hdf hlen hr (fun w h y => hY w h y.1)
    (fun w' mg' fa' h' Y' KX' G' hm' => F w' mg' fa' h' (by rw [Y'.2] at G' ⊢; exact e mg' G') Y'.1 KX' G' hm') (fun w H xs a h1 h2 h3 h4 => hsp (K w.params) H xs a h1 h2 h3 h4) (fun _ _ _ _ _ z => z) w s0 s1 mg mb G ⟨Y, rfl⟩ fa o pm cd doc dV kV ho hd hcd hD hmg hg args vals as hpre hlay hrd hwl hlo
/-! ### a def that may be called, in one word -/
structure Df (P : Program) (w : World) (K : PySem.W.Frag) (mg : Str → Option Value) (base : Heap) (x : Str) (k : Nat) (ps : List Str) (sp : Sp) : Prop where
  ex : ∃ (f : Addr) (fd : FuncData), FnOk P w K mg base CX0 k f fd ps sp ∧ mg x = some (.ref f) ∧ PySem.W.keepIn K (.ref f) = true ∧ Binds K fd ps []
/-- a class that may be made -/
structure Dc (P : Program) (w : World) (K : PySem.W.Frag) (mg : Str → Option Value) (base : Heap) (x : Str) (C : Addr) (k : Nat) (ps : List Str) (sp : Sp) : Prop where
  ex : ∃ (f : Addr) (fd : FuncData), FnOk P w K mg base CX0 k f fd ps sp ∧ mg x = some (.ref C) ∧ Mk K C f ∧ Binds K fd ps []
/-- a whole number of the module -/
def GI (mg : Str → Option Value) (x : Str) (i : Int) : Prop := ∃ t, mg x = some (.int i t)
section
variable {X : Cx} {x : Str} {k : Nat} {ps : List Str} {sp : Sp} {C : Addr} {e : Expr} {es : List Expr} {t : TA} {p pos : Pos}
theorem pe_df (D : Df X.prog X.w X.K X.mg X.base x k ps sp) (hr : Room k X.A) (hg : Gl X x) (ha : PA X (e :: es) t)
    (hdb : (x == ("__debug__" : Str)) = false := by decide) (he : starEach (e :: es) X.env = (false, eval e X.env) :: starEach es X.env := by rfl) (hpl : (backTo pos (starEach es X.env)).any (·.1) = false := by rfl) :
    PE X (.Call (.Name x p) (e :: es) [] pos) (tCall sp [] E0 t) := by
  obtain ⟨f, fd, F, hm, hk, hb⟩ := D.ex
  exact pe_call F hr hg hm hk hb .nil pass0 ha hdb he hpl
theorem pe_dc (D : Dc X.prog X.w X.K X.mg X.base x C k ps sp) (hr : Room (k + 1) X.A) (hg : Gl X x) (ha : PA X (e :: es) t)
    (hdb : (x == ("__debug__" : Str)) = false := by decide) (he : starEach (e :: es) X.env = (false, eval e X.env) :: starEach es X.env := by rfl) (hpl : (backTo pos (starEach es X.env)).any (·.1) = false := by rfl) :
    PE X (.Call (.Name x p) (e :: es) [] pos) (tMake C sp [] E0 t) := by
  obtain ⟨f, fd, F, hm, M, hb⟩ := D.ex
  exact pe_make M F hr hg hm hb .nil pass0 ha hdb he hpl
theorem pe_dc0 (D : Dc X.prog X.w X.K X.mg X.base x C k ps sp) (hr : Room (k + 1) X.A) (hg : Gl X x) (hdb : (x == ("__debug__" : Str)) = false := by decide) :
    PE X (.Call (.Name x p) [] [] pos) (tMake C sp [] E0 tNil) := by
  obtain ⟨f, fd, F, hm, M, hb⟩ := D.ex
  exact pe_make0 M F hr hg hm hb .nil pass0 hdb
theorem pe_gi {i : Int} (h : GI X.mg x i) (hg : Gl X x) (hd : (x == ("__debug__" : Str)) = false := by decide) : PE X (.Name x pos) (tC (.int i)) := by
  obtain ⟨u, hm⟩ := h
  exact pe_glob hg hm ⟨u, rfl⟩ hd
end
/-- rules whose reading names the written part, for a comprehension's block -/
theorem ix_listK {X : Cx} {K : PySem.W.Frag} (h : X.K = K) : IxR X (rIxL K) := h ▸ ix_list
theorem sl_listK {X : Cx} {K : PySem.W.Frag} (h : X.K = K) : SlR X (rSlL K) := h ▸ sl_list
/-! ### heaps -/
theorem same_new {H : Hp} {p : Addr} {o : HO} (h : H p = none) : Same H (upd H p o) := fun b u e => by
  rw [upd_ne (ne_of_none e h)]
  exact e
/-- whole numbers as values -/
abbrev iv (l : List Int) : List V := l.map V.int
abbrev nv (l : List Nat) : List V := iv (Ks184Neutral.ints l)
/-- a new list of whole numbers is answered -/
def NewL (l : List Int) (H : Hp) (Q : VK) : Prop := ∀ (H' : Hp) (p : Addr), Same H H' → H p = none → H' p = some (.lst (iv l)) → Q (.ref p) H'
theorem get_iv {l : List Int} {i : Nat} {y : V} (h : (iv l)[i]? = some y) : ∃ z, l[i]? = some z ∧ y = V.int z := by
  rw [List.getElem?_map] at h
  cases e : l[i]? with
  | none =>
    rw [e] at h
    cases h
  | some z =>
    rw [e] at h
    exact ⟨z, rfl, (Option.some.inj h).symm⟩
theorem get_nv {l : List Nat} {i : Nat} {y : V} (h : (nv l)[i]? = some y) : ∃ z, l[i]? = some z ∧ y = V.int (z : Int) := by
  obtain ⟨z, e, rfl⟩ := get_iv h
  unfold Ks184Neutral.ints at e
  rw [List.getElem?_map] at e
  cases q : l[i]? with
  | none =>
    rw [q] at e
    cases e
  | some m =>
    rw [q] at e
    exact ⟨m, rfl, congrArg V.int (Option.some.inj e).symm⟩
theorem nv_get {l : List Nat} {i z : Nat} (h : l[i]? = some z) : (nv l)[i]? = some (V.int (z : Int)) := by
  unfold nv iv Ks184Neutral.ints
  rw [List.getElem?_map, List.getElem?_map, h]
  rfl
theorem nv_len (l : List Nat) : (nv l).length = l.length := by
  unfold nv iv Ks184Neutral.ints
  rw [List.length_map, List.length_map]
theorem take_snoc {α : Type} {l : List α} {i : Nat} {x : α} (h : l[i]? = some x) : l.take (i + 1) = l.take i ++ [x] := by
  rw [List.take_add_one, h]
  rfl
/-- an if whose test is known -/
theorem ifT {c : Bool} {A B : Prop} (hc : c = true) (h : A) : if c = true then A else B := by
  subst hc
  exact iteT h
theorem ifF {c : Bool} {A B : Prop} (hc : c = false) (h : B) : if c = true then A else B := by
  subst hc
  exact iteF h
theorem sizeLine_is : sizeLine = 16777216 := by decide
theorem le_size {n : Nat} (h : n ≤ 16777216) : n ≤ sizeLine := by
  rw [sizeLine_is]
  exact h
theorem lt_size {n : Nat} (h : n < 16777216) : n < sizeLine := by
  rw [sizeLine_is]
  exact h
end Tl
namespace Tl
open PySem PySem.Spec PyProof.Rows L2
open Ks184Neutral (number numbers bytes64 bytesOf)
/-- the i-th statement of the program -/
def top (i : Nat) : Stmt := PySem.Challenge.pw_timedletters_s01_answers.main.body.getD i (.Pass ⟨0, 0, 0, 0⟩)
/-- what the names of the module and of the language stand for -/
structure Tx (mg : Str → Option Value) : Prop where
  rangeN : mg "range" = none
  lenN : mg "len" = none
  minN : mg "min" = none
  zipN : mg "zip" = none
  wide : GI mg "WIDE" 64
  halfw : GI mg "HALF" 32
  lotw : GI mg "LOT" 4294967296
  least : GI mg "LEAST" (Ks184.LEAST : Int)
  mostk : GI mg "MOST_K" 20
  someLeft : GI mg "SOME_LEFT" (-1)
  notShown : GI mg "NOT_SHOWN" (-13)
  notFit : GI mg "NOT_FIT" (-22)
  notBegun : GI mg "NOT_BEGUN" (-61)
section
variable {P : Program} {w : World} {K : PySem.W.Frag} {mg : Str → Option Value} {base : Heap}
/-! ### number_of -/
abbrev sNumber : Stmt := top 6
def spNumber (K : PySem.W.Frag) : Sp := fun vs H Q _ => ∃ (a : Addr) (l : List Nat), vs = [.ref a] ∧ SqL K H a (nv l) ∧ Q (.int (number l : Int)) H
theorem scNumber : FnScope ["some", "found", "byte"] ["some"] (defScope sNumber) := ⟨rfl, rfl, rfl, by decide +kernel, rfl, by decide +kernel, by decide +kernel⟩
theorem ok_number {f : Addr} {fd : FuncData} (F : Fun K "number_of" "number_of" sNumber f fd) : FnOk P w K mg base CX0 1 f fd ["some"] (spNumber K) := by
  refine F.ok scNumber (fun vs H Q E h => ?_) (fun cdv A outer s H vs Q E hr h => ?_)
  · obtain ⟨a, l, rfl, _⟩ := h
    rfl
  · obtain ⟨a, l, rfl, hS, q⟩ := h
    refine ⟨_, pss_cons (ps_set (i := 1) scNumber.nd rfl (.inl rfl) pe_int)
      (pss_cons (ps_for PassesOwn.never rfl (pi_list (pv 0)) (pg_name (i := 2) scNumber.nd rfl (.inl rfl))
        (pss_one (ps_set (i := 1) scNumber.nd rfl (.inl rfl) (pe_op op_add (pe_op op_mul pe_int (pv 1)) (pv 2)))))
      (pss_one (ps_ret (pv 1)))), ?_⟩
    refine ⟨_, rfl, a, rfl, ⟨_, hS⟩, for_list (K := K) (a := a) (xs := nv l) (fun i σ H' => H' = H ∧ ∃ v : Option V, σ = [some (.ref a), some (.int (number (l.take i) : Int)), v])
      ⟨rfl, none, rfl⟩ (fun i σ H' _ ⟨e, _⟩ => e ▸ hS) ?_ ?_⟩
    · rintro i y σ H' hi ⟨rfl, v, rfl⟩
      obtain ⟨z, hz, rfl⟩ := get_nv hi
      refine ⟨_, rfl, _, _, rfl, rfl, .inl ⟨by decide, by decide⟩, _, rfl, _, _, rfl, rfl, rfl, some (.int z), ?_⟩
      rw [take_snoc hz, number_snoc]
      rfl
    · rintro σ H' ⟨rfl, v, rfl⟩
      refine ⟨_, rfl, ?_⟩
      rw [nv_len, List.take_length]
      exact q
/-! ### bytes_of -/
abbrev sBytes : Stmt := top 7
def spBytes : Sp := fun vs H Q _ => ∃ n : Nat, vs = [.int (n : Int)] ∧ NewL (bytes64 n) H Q
theorem scBytes : FnScope ["number", "found", "k"] ["number"] (defScope sBytes) := ⟨rfl, rfl, rfl, by decide +kernel, rfl, by decide +kernel, by decide +kernel⟩
theorem lows_len (n i : Nat) : (lows n i).length = i := by simp [lows]
theorem div_up (n i : Nat) : n / 256 ^ (i + 1) = n / 256 ^ i / 256 := by rw [Nat.pow_succ, Nat.div_div_eq_div_mul]
theorem ok_bytes {f : Addr} {fd : FuncData} (F : Fun K "bytes_of" "bytes_of" sBytes f fd) (T : Tx mg) : FnOk P w K mg base CX0 1 f fd ["number"] spBytes := by
  refine F.ok scBytes (fun vs H Q E h => ?_) (fun cdv A outer s H vs Q E hr h => ?_)
  · obtain ⟨n, rfl, _⟩ := h
    rfl
  · obtain ⟨n, rfl, q⟩ := h
    refine ⟨_, pss_cons (ps_set (i := 1) scBytes.nd rfl (.inl rfl) (pe_lst pa_nil))
      (pss_cons (ps_for PassesOwn.never rfl (pi_range1 rfl T.rangeN (pa_cons (pe_gi T.wide rfl) pa_nil)) (pg_name (i := 2) scBytes.nd rfl (.inl rfl))
        (pss_cons (ps_expr (pe_bm PySem.F.plainAttrs_list PySem.F.slot_list_append PySem.F.type_list_append mt_append (pv 1) (pa_cons (pe_op op_mod (pv 0) pe_int) pa_nil)))
        (pss_one (ps_set (i := 0) scBytes.nd rfl (.inl rfl) (pe_op op_fdiv (pv 0) pe_int)))))
      (pss_cons (ps_expr (pe_bm0 PySem.F.plainAttrs_list PySem.F.slot_list_reverse PySem.F.type_list_reverse mt_reverse (pv 1)))
      (pss_one (ps_ret (pv 1))))), ?_⟩
    refine ⟨Nat.zero_le _, fun p hp => ?_⟩
    refine ⟨64, rfl, by decide, by decide, for_range (lo := 0) (n := 64) (fun i σ H' => ∃ v : Option V, σ = [some (.int ((n / 256 ^ i : Nat) : Int)), some (.ref p), v] ∧ H' = upd H p (.lst (nv (lows n i)))) ?_ ?_ ?_⟩
    · exact ⟨none, by rw [Nat.pow_zero, Nat.div_one]; rfl, rfl⟩
    · rintro i σ H' hi ⟨v, rfl, rfl⟩
      refine ⟨_, rfl, .inl ⟨rfl, _, SqL.of upd_same⟩, _, rfl, _, _, rfl, rfl, (by show (0 : Int) < 256; decide), p, _, _, rfl, rfl, upd_same, lt_size (by rw [nv_len, lows_len]; omega), ?_⟩
      refine ⟨_, rfl, _, _, rfl, rfl, ⟨by decide, by decide⟩, some (.int (0 + (i : Int))), ?_, ?_⟩
      · rw [div_up]
        rfl
      · rw [upd_upd, lows_succ]
        unfold nv iv Ks184Neutral.ints
        rw [List.map_append, List.map_append]
        rfl
    · rintro σ H' ⟨v, rfl, rfl⟩
      refine ⟨_, rfl, .inl ⟨rfl, _, SqL.of upd_same⟩, p, _, rfl, rfl, upd_same, ?_⟩
      refine ⟨_, rfl, ?_⟩
      rw [upd_upd]
      refine q _ p (same_new hp) hp ?_
      rw [upd_same]
      unfold nv iv bytes64
      rw [← lows_all]
      unfold Ks184Neutral.ints
      rw [← List.map_reverse, ← List.map_reverse]
/-! ### face -/
abbrev sFace : Stmt := top 8
def spFace : Sp := fun vs H Q _ => ∃ a n : Nat, vs = [.int (a : Int), .int (n : Int)] ∧ 0 < n ∧ Q (.int (Ks184.face n a : Int)) H
theorem scFace : FnScope ["number", "n", "rest"] ["number", "n"] (defScope sFace) := ⟨rfl, rfl, rfl, by decide +kernel, rfl, by decide +kernel, by decide +kernel⟩
theorem face_int (a n : Nat) (h : 0 < n) : (if ((n : Int) - (a : Int) % (n : Int)) % (n : Int) < (a : Int) % (n : Int) then ((n : Int) - (a : Int) % (n : Int)) % (n : Int) else (a : Int) % (n : Int)) = (Ks184.face n a : Int) := by
  have e1 : (a : Int) % (n : Int) = ((a % n : Nat) : Int) := rfl
  have h1 : a % n < n := Nat.mod_lt _ h
  have e2 : ((n : Int) - ((a % n : Nat) : Int)) % (n : Int) = (((n - a % n) % n : Nat) : Int) := by
    rw [← Int.ofNat_sub (Nat.le_of_lt h1)]
    rfl
  rw [e1, e2, face_is n a h]
  by_cases c : (n - a % n) % n < a % n
  · rw [if_pos c, if_pos (by omega)]
  · rw [if_neg c, if_neg (by omega)]
theorem ok_face {f : Addr} {fd : FuncData} (F : Fun K "face" "face" sFace f fd) (T : Tx mg) : FnOk P w K mg base CX0 1 f fd ["number", "n"] spFace := by
  refine F.ok scFace (fun vs H Q E h => ?_) (fun cdv A outer s H vs Q E hr h => ?_)
  · obtain ⟨a, n, rfl, _⟩ := h
    rfl
  · obtain ⟨a, n, rfl, hn, q⟩ := h
    refine ⟨_, pss_cons (ps_set (i := 2) scFace.nd rfl (.inl rfl) (pe_op op_mod (pv 0) (pv 1)))
      (pss_one (ps_ret (pe_callB (call_min2 rfl) (by rfl) T.minN (by decide +kernel) (pa_cons (pv 2) (pa_cons (pe_op op_mod (pe_op op_sub (pv 1) (pv 2)) (pv 1)) pa_nil))))), ?_⟩
    have hn' : (0 : Int) < (n : Int) := by omega
    refine ⟨_, rfl, _, rfl, _, _, rfl, rfl, hn', ?_⟩
    refine ⟨_, rfl, _, rfl, _, rfl, _, _, rfl, rfl, _, rfl, _, _, rfl, rfl, hn', _, _, rfl, ?_⟩
    dsimp only
    rw [face_int a n hn]
    exact q
/-! ### is_small -/
abbrev sSmall : Stmt := top 9
def spSmall : Sp := fun vs H Q _ => ∃ a n : Nat, vs = [.int (a : Int), .int (n : Int)] ∧ 0 < n ∧ Q (.bl (Ks184.small n a)) H
theorem scSmall : FnScope ["number", "n"] ["number", "n"] (defScope sSmall) := ⟨rfl, rfl, rfl, by decide +kernel, rfl, by decide +kernel, by decide +kernel⟩
theorem ok_small {f : Addr} {fd : FuncData} (F : Fun K "is_small" "is_small" sSmall f fd) : FnOk P w K mg base CX0 1 f fd ["number", "n"] spSmall := by
  refine F.ok scSmall (fun vs H Q E h => ?_) (fun cdv A outer s H vs Q E hr h => ?_)
  · obtain ⟨a, n, rfl, _⟩ := h
    rfl
  · obtain ⟨a, n, rfl, hn, q⟩ := h
    refine ⟨_, pss_one (ps_ret (pe_chain op_le op_le pe_int (pv 0) (pe_op op_fdiv (pe_op op_sub (pv 1) pe_int) pe_int))), ?_⟩
    refine ⟨_, rfl, _, _, rfl, rfl, _, rfl, ?_⟩
    by_cases c : 1 ≤ a
    · have c' : (1 : Int) ≤ (a : Int) := by omega
      dsimp only
      rw [decide_eq_true c']
      refine iteT ?_
      refine ⟨_, rfl, _, _, rfl, rfl, _, _, rfl, rfl, ⟨by decide, by decide⟩, _, _, rfl, rfl, ?_⟩
      dsimp only
      have e : decide ((a : Int) ≤ ((n : Int) - 1) / 2) = Ks184.small n a := by
        unfold Ks184.small
        rw [decide_eq_true c, Bool.true_and]
        apply decide_eq_decide.mpr
        omega
      rw [e]
      exact q
    · have c' : ¬ (1 : Int) ≤ (a : Int) := by omega
      dsimp only
      rw [decide_eq_false c']
      refine iteF ?_
      have e : false = Ks184.small n a := by
        unfold Ks184.small
        rw [decide_eq_false c, Bool.false_and]
      rw [e]
      exact q
/-! ### is_fit -/
abbrev sFit : Stmt := top 10
def spFit : Sp := fun vs H Q _ => ∃ n x k : Nat, vs = [.int (n : Int), .int (x : Int), .int (k : Int)] ∧ Q (.bl (Ks184.What.fit ⟨n, x, k⟩)) H
theorem scFit : FnScope ["n", "x", "k"] ["n", "x", "k"] (defScope sFit) := ⟨rfl, rfl, rfl, by decide +kernel, rfl, by decide +kernel, by decide +kernel⟩
theorem fit_is (n x k : Nat) : Ks184.What.fit ⟨n, x, k⟩ = (decide (n % 2 = 1) && (decide (Ks184.LEAST ≤ n) && (Ks184.small n x && (!decide (x = 1) && (decide (1 ≤ k) && decide (k ≤ 20)))))) := by
  unfold Ks184.What.fit
  have e1 : (n % 2 == 1) = decide (n % 2 = 1) := rfl
  have e2 : (x != 1) = !decide (x = 1) := rfl
  simp only [e1, e2, Bool.and_assoc]
  rfl
theorem least_pos : 0 < Ks184.LEAST := Nat.pow_pos (by decide)
theorem ok_fit {f : Addr} {fd : FuncData} (F : Fun K "is_fit" "is_fit" sFit f fd) (T : Tx mg) (Ds : Df P w K mg base "is_small" 1 ["number", "n"] spSmall) : FnOk P w K mg base CX0 2 f fd ["n", "x", "k"] spFit := by
  refine F.ok scFit (fun vs H Q E h => ?_) (fun cdv A outer s H vs Q E hr h => ?_)
  · obtain ⟨n, x, k, rfl, _⟩ := h
    rfl
  · obtain ⟨n, x, k, rfl, q⟩ := h
    refine ⟨_, pss_one (ps_ret (pe_and (pe_cmp (pc_eqI (pe_op op_mod (pv 0) pe_int) pe_int) rfl) (pe_and (pe_cmp (pc_ge (pv 0) (pe_gi T.least rfl)) rfl)
      (pe_and (pe_df Ds hr rfl (pa_cons (pv 1) (pa_cons (pv 0) pa_nil))) (pe_and (pe_cmp (pc_neI (pv 1) pe_int) rfl) (pe_one (pe_chain op_le op_le pe_int (pv 2) (pe_gi T.mostk rfl)))))))), ?_⟩
    rw [fit_is] at q
    refine ⟨_, rfl, _, _, rfl, rfl, (by show (0 : Int) < 2; decide), _, _, rfl, rfl, _, rfl, ?_⟩
    by_cases c1 : n % 2 = 1
    case neg =>
      rw [decide_eq_false c1] at q
      exact ifF (decide_eq_false (by omega)) q
    rw [decide_eq_true c1, Bool.true_and] at q
    refine ifT (decide_eq_true (by omega)) ?_
    refine ⟨_, rfl, _, _, rfl, rfl, _, rfl, ?_⟩
    by_cases c2 : Ks184.LEAST ≤ n
    case neg =>
      rw [decide_eq_false c2] at q
      exact ifF (decide_eq_false (by omega)) q
    rw [decide_eq_true c2, Bool.true_and] at q
    refine ifT (decide_eq_true (by omega)) ?_
    refine ⟨_, rfl, _, rfl, x, n, rfl, Nat.lt_of_lt_of_le least_pos c2, _, rfl, ?_⟩
    cases c3 : Ks184.small n x
    case false =>
      rw [c3] at q
      exact iteF q
    rw [c3, Bool.true_and] at q
    refine iteT ?_
    refine ⟨_, rfl, _, _, rfl, rfl, _, rfl, ?_⟩
    by_cases c4 : x = 1
    · rw [decide_eq_true c4] at q
      refine ifF ?_ q
      dsimp only
      rw [decide_eq_true (by omega)]
      rfl
    rw [decide_eq_false c4, Bool.not_false, Bool.true_and] at q
    refine ifT (by dsimp only; rw [decide_eq_false (by omega)]; rfl) ?_
    refine ⟨_, rfl, _, _, rfl, rfl, _, rfl, ?_⟩
    by_cases c5 : 1 ≤ k
    case neg =>
      rw [decide_eq_false c5] at q
      exact ifF (decide_eq_false (by omega)) q
    rw [decide_eq_true c5, Bool.true_and] at q
    refine ifT (decide_eq_true (by omega)) ?_
    refine ⟨_, _, rfl, rfl, ?_⟩
    have e6 : decide ((k : Int) ≤ 20) = decide (k ≤ 20) := decide_eq_decide.mpr (by omega)
    dsimp only
    rw [e6]
    exact q
/-! ### raised -/
abbrev sRaised : Stmt := top 11
def spRaised : Sp := fun vs H Q _ => ∃ a t n : Nat, vs = [.int (a : Int), .int (t : Int), .int (n : Int)] ∧ 0 < n ∧ n < Big ∧ t < 2 ^ 32 ∧ Q (.int (Ks184.raised n a t : Int)) H
theorem scRaised : FnScope ["number", "times", "n", "found", "k"] ["number", "times", "n"] (defScope sRaised) := ⟨rfl, rfl, rfl, by decide +kernel, rfl, by decide +kernel, by decide +kernel⟩
theorem mul_ok {a b : Nat} (ha : a < Big) (hb : b < Big) : CMulW (a : Int) (b : Int) := by
  refine wide_mul (a := 512) (b := 512) ?_ ?_ (by decide) (by decide) (by decide)
  · rw [Int.natAbs_natCast]
    exact ha
  · rw [Int.natAbs_natCast]
    exact hb
theorem ok_raised {f : Addr} {fd : FuncData} (F : Fun K "raised" "raised" sRaised f fd) (T : Tx mg) : FnOk P w K mg base CX0 1 f fd ["number", "times", "n"] spRaised := by
  refine F.ok scRaised (fun vs H Q E h => ?_) (fun cdv A outer s H vs Q E hr h => ?_)
  · obtain ⟨a, t, n, rfl, _⟩ := h
    rfl
  · obtain ⟨a, t, n, rfl, h0, h1, h2, q⟩ := h
    refine ⟨_, pss_cons (ps_set (i := 3) scRaised.nd rfl (.inl rfl) (pe_op op_mod (pv 0) (pv 2)))
      (pss_cons (ps_for PassesOwn.never rfl (pi_range1 rfl T.rangeN (pa_cons (pv 1) pa_nil)) (pg_name (i := 4) scRaised.nd rfl (.inl rfl))
        (pss_one (ps_set (i := 3) scRaised.nd rfl (.inl rfl) (pe_op op_mod (pe_op op_mulW (pv 3) (pv 3)) (pv 2)))))
      (pss_one (ps_ret (pv 3)))), ?_⟩
    have h0' : (0 : Int) < (n : Int) := by omega
    refine ⟨_, rfl, _, rfl, _, _, rfl, rfl, h0', ?_⟩
    refine ⟨_, rfl, (t : Int), rfl, by omega, by omega, for_range (lo := 0) (n := (t : Int).toNat) (fun i σ H' => H' = H ∧ ∃ v : Option V, σ = [some (.int (a : Int)), some (.int (t : Int)), some (.int (n : Int)), some (.int (Ks184.raised n a i : Int)), v]) ⟨rfl, none, rfl⟩ ?_ ?_⟩
    · rintro i σ H' hi ⟨rfl, v, rfl⟩
      have hl : Ks184.raised n a i < Big := Nat.lt_trans (raised_lt n h0 i a) h1
      refine ⟨_, rfl, _, rfl, _, _, rfl, rfl, mul_ok hl hl, _, rfl, _, _, rfl, rfl, h0', rfl, some (.int (0 + (i : Int))), ?_⟩
      rw [raised_succ]
      rfl
    · rintro σ H' ⟨rfl, v, rfl⟩
      exact ⟨_, rfl, q⟩
/-! ### powered -/
abbrev sPowered : Stmt := top 12
def spPowered : Sp := fun vs H Q _ => ∃ a e n : Nat, vs = [.int (a : Int), .int (e : Int), .int (n : Int)] ∧ 0 < n ∧ n < Big ∧ e < 2 ^ 520 ∧ Q (.int (Ks184.power n a e : Int)) H
theorem scPowered : FnScope ["number", "power", "n", "found", "square"] ["number", "power", "n"] (defScope sPowered) := ⟨rfl, rfl, rfl, by decide +kernel, rfl, by decide +kernel, by decide +kernel⟩
/-- powered's state: what's left of the power, found, square -/
structure Pw (a e n r f s : Nat) : Prop where
  eq : f * s ^ r % n = a ^ e % n
  fl : f < n
  sl : s < n
theorem Pw.start (a e n : Nat) (h : 0 < n) : Pw a e n e (1 % n) (a % n) := by
  refine ⟨?_, Nat.mod_lt _ h, Nat.mod_lt _ h⟩
  rw [Nat.mul_mod, Nat.mod_mod, ← Nat.pow_mod, ← Nat.mul_mod, Nat.one_mul]
theorem Pw.odd {a e n r f s : Nat} (p : Pw a e n r f s) (h : 0 < n) (o : r % 2 = 1) : Pw a e n (r / 2) (f * s % n) (s * s % n) := ⟨turn_odd p.eq o, Nat.mod_lt _ h, Nat.mod_lt _ h⟩
theorem Pw.even {a e n r f s : Nat} (p : Pw a e n r f s) (h : 0 < n) (o : ¬ r % 2 = 1) : Pw a e n (r / 2) f (s * s % n) := ⟨turn_even p.eq o, p.fl, Nat.mod_lt _ h⟩
theorem Pw.done {a e n f s : Nat} (p : Pw a e n 0 f s) : f = a ^ e % n := by
  have := p.eq
  rwa [Nat.pow_zero, Nat.mul_one, Nat.mod_eq_of_lt p.fl] at this
theorem ok_powered {f : Addr} {fd : FuncData} (F : Fun K "powered" "powered" sPowered f fd) : FnOk P w K mg base CX0 1 f fd ["number", "power", "n"] spPowered := by
  refine F.ok scPowered (fun vs H Q E h => ?_) (fun cdv A outer s H vs Q E hr h => ?_)
  · obtain ⟨a, e, n, rfl, _⟩ := h
    rfl
  · obtain ⟨a, e, n, rfl, h0, h1, h2, q⟩ := h
    refine ⟨_, pss_cons (ps_set (i := 3) scPowered.nd rfl (.inl rfl) (pe_op op_mod pe_int (pv 2)))
      (pss_cons (ps_set (i := 4) scPowered.nd rfl (.inl rfl) (pe_op op_mod (pv 0) (pv 2)))
      (pss_cons (ps_while PassesOwn.never (pt_cmpR op_gt (pv 1) pe_int (nomark _))
        (pss_cons (ps_if (pt_cmpR op_eq (pe_op op_mod (pv 1) pe_int) pe_int (nomark _)) (pss_one (ps_set (i := 3) scPowered.nd rfl (.inl rfl) (pe_op op_mod (pe_op op_mulW (pv 3) (pv 4)) (pv 2)))) pss_nil)
        (pss_cons (ps_set (i := 4) scPowered.nd rfl (.inl rfl) (pe_op op_mod (pe_op op_mulW (pv 4) (pv 4)) (pv 2)))
        (pss_one (ps_set (i := 1) scPowered.nd rfl (.inl rfl) (pe_op op_fdiv (pv 1) pe_int))))))
      (pss_one (ps_ret (pv 3))))), ?_⟩
    have h0' : (0 : Int) < (n : Int) := by omega
    refine ⟨_, rfl, _, _, rfl, rfl, h0', ?_⟩
    refine ⟨_, rfl, _, rfl, _, _, rfl, rfl, h0', ?_⟩
    refine ⟨fun m σ H' => H' = H ∧ ∃ fo sq : Nat, σ = [some (.int (a : Int)), some (.int (m : Int)), some (.int (n : Int)), some (.int (fo : Int)), some (.int (sq : Int))] ∧ Pw a e n m fo sq, ⟨e, rfl, 1 % n, a % n, rfl, Pw.start a e n h0⟩, ?_⟩
    rintro m σ H' ⟨rfl, fo, sq, rfl, pw⟩
    refine ⟨_, rfl, _, _, rfl, rfl, _, rfl, ?_⟩
    by_cases c : 0 < m
    case neg =>
      have c' : ¬ (0 : Int) < (m : Int) := by omega
      dsimp only
      rw [decide_eq_false c']
      refine iteF ?_
      have e0 : m = 0 := by omega
      subst e0
      refine ⟨_, rfl, ?_⟩
      rw [power_is n a e h2] at q
      rw [pw.done]
      exact q
    have c' : (0 : Int) < (m : Int) := by omega
    dsimp only
    rw [decide_eq_true c']
    refine iteT ?_
    refine ⟨fun σ' H'' => H'' = H' ∧ ∃ fo' sq' : Nat, σ' = [some (.int (a : Int)), some (.int ((m / 2 : Nat) : Int)), some (.int (n : Int)), some (.int (fo' : Int)), some (.int (sq' : Int))] ∧ Pw a e n (m / 2) fo' sq', fun σ' H'' ⟨e1, fo', sq', e2, p'⟩ => ⟨m / 2, Nat.div_lt_self c (by decide), e1, fo', sq', e2, p'⟩, ?_⟩
    have hf : fo < Big := Nat.lt_trans pw.fl h1
    have hs : sq < Big := Nat.lt_trans pw.sl h1
    refine ⟨_, rfl, _, _, rfl, rfl, (by show (0 : Int) < 2; decide), rfl, _, rfl, ?_⟩
    by_cases o : m % 2 = 1
    · have o' : V.int ((m : Int) % 2) = V.int 1 := congrArg V.int (by omega)
      dsimp only
      rw [decide_eq_true o']
      refine iteT ?_
      refine ⟨_, rfl, _, rfl, _, _, rfl, rfl, mul_ok hf hs, _, rfl, _, _, rfl, rfl, h0', ?_⟩
      refine ⟨_, rfl, _, rfl, _, _, rfl, rfl, mul_ok hs hs, _, rfl, _, _, rfl, rfl, h0', ?_⟩
      refine ⟨_, rfl, _, _, rfl, rfl, ⟨by decide, by decide⟩, ?_⟩
      exact ⟨rfl, fo * sq % n, sq * sq % n, rfl, pw.odd h0 o⟩
    · have o' : ¬ V.int ((m : Int) % 2) = V.int 1 := fun z => o (by injection z with z; omega)
      dsimp only
      rw [decide_eq_false o']
      refine iteF ?_
      refine ⟨_, rfl, _, rfl, _, _, rfl, rfl, mul_ok hs hs, _, rfl, _, _, rfl, rfl, h0', ?_⟩
      refine ⟨_, rfl, _, _, rfl, rfl, ⟨by decide, by decide⟩, ?_⟩
      exact ⟨rfl, fo, sq * sq % n, rfl, pw.even h0 o⟩
end
end Tl
namespace Tl
open PySem PySem.Spec PyProof.Rows L2
open Ks184Neutral (number numbers bytes64 bytesOf)
section
variable {P : Program} {w : World} {K : PySem.W.Frag} {mg : Str → Option Value} {base : Heap}
/-! ### pad_of -/
abbrev sPad : Stmt := top 13
def spPad : Sp := fun vs H Q _ => ∃ n : Nat, vs = [.int (n : Int)] ∧ NewL (zs (g.mix n)) H Q
theorem scPad : FnScope ["number", "some", "i"] ["number"] (defScope sPad) := ⟨rfl, rfl, rfl, by decide +kernel, rfl, by decide +kernel, by decide +kernel⟩
theorem mix_len (n : Nat) : (g.mix n).length = 32 := by
  show ((List.range 32).map _).length = 32
  rw [List.length_map, List.length_range]
theorem mix_get {n i : Nat} (h : i < 32) : ∃ u v : Nat, (bytesOf n)[i]? = some u ∧ (bytesOf n)[32 + i]? = some v ∧ (g.mix n)[i]? = some ((u + v) % 256) := by
  have h1 : i < (bytesOf n).length := by rw [bytesOf_length]; omega
  have h2 : 32 + i < (bytesOf n).length := by rw [bytesOf_length]; omega
  refine ⟨(bytesOf n)[i], (bytesOf n)[32 + i], List.getElem?_eq_getElem h1, List.getElem?_eq_getElem h2, ?_⟩
  show ((List.range 32).map (fun i => ((bytesOf n).getD i 0 + (bytesOf n).getD (32 + i) 0) % 256))[i]? = _
  rw [List.getElem?_map, List.getElem?_range h]
  show some (((bytesOf n).getD i 0 + (bytesOf n).getD (32 + i) 0) % 256) = _
  rw [List.getD_eq_getElem?_getD, List.getD_eq_getElem?_getD, List.getElem?_eq_getElem h1, List.getElem?_eq_getElem h2]
  rfl
theorem nv_snoc {l : List Nat} {i z : Nat} (h : l[i]? = some z) : nv (l.take (i + 1)) = nv (l.take i) ++ [V.int (z : Int)] := by
  rw [take_snoc h]
  unfold nv iv Ks184Neutral.ints
  rw [List.map_append, List.map_append]
  rfl
theorem ok_pad {f : Addr} {fd : FuncData} (F : Fun K "pad_of" "pad_of" sPad f fd) (T : Tx mg) (Db : Df P w K mg base "bytes_of" 1 ["number"] spBytes) : FnOk P w K mg base CX0 2 f fd ["number"] spPad := by
  refine F.ok scPad (fun vs H Q E h => ?_) (fun cdv A outer s H vs Q E hr h => ?_)
  · obtain ⟨n, rfl, _⟩ := h
    rfl
  · obtain ⟨n, rfl, q⟩ := h
    refine ⟨_, pss_cons (ps_set (i := 1) scPad.nd rfl (.inr rfl) (pe_df Db hr rfl (pa_cons (pv 0) pa_nil)))
      (pss_one (ps_ret (pe_lc (own := [("i", 2)]) (g := gName 2) (tt := tYes) rfl scPad.nd (pi_range1 rfl T.rangeN (pa_cons (pe_gi T.halfw rfl) pa_nil))
        (blkOk_by (own := [("i", 2)]) (N := ["number", "some", "i"]) (sc := defScope sPad) (by decide +kernel)) (fun _ _ _ _ _ => pg_name (i := 2) scPad.nd rfl (.inl rfl)) (fun _ _ _ _ _ => pts_nil)
        (fun _ _ _ _ _ => pe_op op_mod (pe_op op_add (pe_ix (ix_listK (K := K) rfl) (pv 1) (pv 2) (fun _ _ => rfl)) (pe_ix (ix_listK (K := K) rfl) (pv 1) (pe_op op_add (pe_gi T.halfw rfl) (pv 2)) (fun _ _ => rfl))) pe_int)))), ?_⟩
    refine ⟨_, rfl, n, rfl, fun H1 p s1 hp h1 => ?_⟩
    refine ⟨32, rfl, by decide, by decide, fun D hD => ?_⟩
    have hpD : p ≠ D := ne_of_none h1 hD
    refine lc_range (lo := 0) (n := 32) (fun i H' => H' = upd H1 D (.lst (nv ((g.mix n).take i)))) rfl ?_ ?_
    · rintro i H' hi rfl
      obtain ⟨u, v, hu, hv, hm⟩ := mix_get (n := n) hi
      have hL : SqL K (upd H1 D (.lst (nv ((g.mix n).take i)))) p (nv (bytesOf n)) := SqL.of (by rw [upd_ne hpD]; exact h1)
      refine ⟨rfl, ?_⟩
      refine ⟨_, rfl, _, rfl, p, _, _, _, rfl, rfl, hL, at_of (j := i) (by omega) (nv_get hu), ?_⟩
      refine ⟨_, rfl, _, rfl, _, _, rfl, rfl, p, _, _, _, rfl, rfl, hL, at_of (j := 32 + i) (by omega) (nv_get hv), ?_⟩
      refine ⟨_, _, rfl, rfl, _, _, rfl, rfl, (by show (0 : Int) < 256; decide), _, upd_same, lt_size (by rw [nv_len, List.length_take]; omega), ?_⟩
      rw [upd_upd, nv_snoc hm]
      rfl
    · rintro H' rfl
      refine q _ D (s1.trans (same_new hD)) (s1.free hD) ?_
      rw [upd_same, List.take_of_length_le (by rw [mix_len]; decide)]
/-! ### mixed -/
abbrev sMixed : Stmt := top 14
def spMixed (K : PySem.W.Frag) : Sp := fun vs H Q _ => ∃ (a b : Addr) (l m : List Nat), vs = [.ref a, .ref b] ∧ SqL K H a (nv l) ∧ SqL K H b (nv m) ∧ l.length ≤ 1000 ∧ NewL (zs (Ks184.xor l m)) H Q
theorem scMixed : FnScope ["some", "pad", "one", "other"] ["some", "pad"] (defScope sMixed) := ⟨rfl, rfl, rfl, by decide +kernel, rfl, by decide +kernel, by decide +kernel⟩
theorem xor_len (l m : List Nat) : (Ks184.xor l m).length = min l.length m.length := List.length_zipWith
theorem xor_get {l m : List Nat} {i u v : Nat} (hu : l[i]? = some u) (hv : m[i]? = some v) : (Ks184.xor l m)[i]? = some (u ^^^ v) := by
  unfold Ks184.xor
  rw [List.getElem?_zipWith, hu, hv]
theorem ok_mixed {f : Addr} {fd : FuncData} (F : Fun K "mixed" "mixed" sMixed f fd) (T : Tx mg) : FnOk P w K mg base CX0 1 f fd ["some", "pad"] (spMixed K) := by
  refine F.ok scMixed (fun vs H Q E h => ?_) (fun cdv A outer s H vs Q E hr h => ?_)
  · obtain ⟨a, b, l, m, rfl, _⟩ := h
    rfl
  · obtain ⟨a, b, l, m, rfl, hl, hm, hz, q⟩ := h
    refine ⟨_, pss_one (ps_ret (pe_lc (own := [("one", 2), ("other", 3)]) (g := gTup K 2 (gCons (gName 2) (gCons (gName 3) gNil))) (tt := tYes) rfl scMixed.nd (pi_zip rfl T.zipN (pa_cons (pv 0) (pa_cons (pv 1) pa_nil)))
        (blkOk_by (own := [("one", 2), ("other", 3)]) (N := ["some", "pad", "one", "other"]) (sc := defScope sMixed) (by decide +kernel))
        (fun _ _ _ _ _ => pg_tup rfl (pgs_cons (pg_name (i := 2) scMixed.nd rfl (.inl rfl)) (pgs_cons (pg_name (i := 3) scMixed.nd rfl (.inl rfl)) pgs_nil))) (fun _ _ _ _ _ => pts_nil)
        (fun _ _ _ _ _ => pe_op op_xor (pv 2) (pv 3)))), ?_⟩
    refine ⟨_, rfl, _, rfl, a, b, _, _, rfl, hl, hm, fun D hD => ?_⟩
    have s0 : Same H (upd H D (.lst [])) := same_new hD
    refine lc_it (walk_zip (K := K) (a := a) (b := b) (xs := nv l) (ys := nv m) (n := (Ks184.xor l m).length) (by rw [nv_len, nv_len, xor_len])) (fun i H' => Same H H' ∧ H' D = some (.lst (nv ((Ks184.xor l m).take i)))) ⟨s0, upd_same⟩ (fun i H' _ ⟨s1, _⟩ => ⟨s1.seq hl, s1.seq hm⟩) ?_ ?_
    · rintro i x H1 H2 hi ⟨s1, h1⟩ ⟨t, u, v, rfl, ht, rfl, hu, hv⟩
      obtain ⟨u, hu', rfl⟩ := get_nv hu
      obtain ⟨v, hv', rfl⟩ := get_nv hv
      have hD2 : upd H1 t (.tup [V.int u, V.int v]) D = some (.lst (nv ((Ks184.xor l m).take i))) := by rw [upd_ne (ne_of_none h1 ht)]; exact h1
      refine ⟨t, _, rfl, SqT.of upd_same, rfl, _, _, rfl, _, _, rfl, rfl, rfl, ?_⟩
      refine ⟨_, rfl, _, rfl, _, _, rfl, rfl, _, hD2, lt_size (by rw [nv_len, List.length_take, xor_len]; omega), ?_, ?_⟩
      · intro b o e
        rw [upd_ne (ne_of_none e hD), upd_ne (ne_of_none (s1 _ _ e) ht)]
        exact s1 _ _ e
      · rw [upd_same, nv_snoc (xor_get hu' hv')]
        dsimp only
        rw [Bits.bitXor_pp (Int.natCast_nonneg u) (Int.natCast_nonneg v)]
        rfl
    · rintro H1 ⟨s1, h1⟩
      refine q _ D s1 hD ?_
      rw [List.take_length] at h1
      exact h1
/-! ### lot_of -/
abbrev sLot : Stmt := top 15
def spLot : Sp := fun vs H Q _ => ∃ n a b c t : Nat, vs = [.int (n : Int), .int (a : Int), .int (b : Int), .int (c : Int), .int (t : Int)] ∧ Q (.int (lot n a b c t : Int)) H
theorem scLot : FnScope ["n", "a", "b", "c", "t"] ["n", "a", "b", "c", "t"] (defScope sLot) := ⟨rfl, rfl, rfl, by decide +kernel, rfl, by decide +kernel, by decide +kernel⟩
theorem ok_lot {f : Addr} {fd : FuncData} (F : Fun K "lot_of" "lot_of" sLot f fd) (T : Tx mg) : FnOk P w K mg base CX0 1 f fd ["n", "a", "b", "c", "t"] spLot := by
  refine F.ok scLot (fun vs H Q E h => ?_) (fun cdv A outer s H vs Q E hr h => ?_)
  · obtain ⟨n, a, b, c, t, rfl, _⟩ := h
    rfl
  · obtain ⟨n, a, b, c, t, rfl, q⟩ := h
    refine ⟨_, pss_one (ps_ret (pe_op op_mod (pe_op op_add (pe_op op_add (pe_op op_add (pe_op op_add (pv 0) (pv 1)) (pe_op op_mul pe_int (pv 2))) (pe_op op_mul pe_int (pv 3))) (pe_op op_mul pe_int (pv 4))) (pe_gi T.lotw rfl))), ?_⟩
    refine ⟨_, rfl, _, rfl, _, _, rfl, rfl, _, rfl, _, _, rfl, rfl, .inl ⟨by decide, by decide⟩, _, _, rfl, rfl, _, rfl, _, _, rfl, rfl, .inl ⟨by decide, by decide⟩, _, _, rfl, rfl, _, rfl, _, _, rfl, rfl, .inl ⟨by decide, by decide⟩, _, _, rfl, rfl, _, _, rfl, rfl, (by show (0 : Int) < 4294967296; decide), ?_⟩
    exact q
/-! ### pad_asked, lot_asked -/
abbrev sPadA : Stmt := top 16
def spPadA : Sp := fun vs H Q _ => ∃ n : Nat, vs = [.int (n : Int)] ∧ NewL (1 :: bytes64 n) H Q
theorem scPadA : FnScope ["number"] ["number"] (defScope sPadA) := ⟨rfl, rfl, rfl, by decide +kernel, rfl, by decide +kernel, by decide +kernel⟩
theorem bytes64_len (n : Nat) : (bytes64 n).length = 64 := by
  unfold bytes64 Ks184Neutral.ints
  rw [List.length_map, bytesOf_length]
theorem iv_len (l : List Int) : (iv l).length = l.length := List.length_map ..
theorem iv_app (l m : List Int) : iv l ++ iv m = iv (l ++ m) := List.map_append.symm
theorem ok_padA {f : Addr} {fd : FuncData} (F : Fun K "pad_asked" "pad_asked" sPadA f fd) (Db : Df P w K mg base "bytes_of" 1 ["number"] spBytes) : FnOk P w K mg base CX0 2 f fd ["number"] spPadA := by
  refine F.ok scPadA (fun vs H Q E h => ?_) (fun cdv A outer s H vs Q E hr h => ?_)
  · obtain ⟨n, rfl, _⟩ := h
    rfl
  · obtain ⟨n, rfl, q⟩ := h
    refine ⟨_, pss_one (ps_ret (pe_op op_cat (pe_lst (pa_cons pe_int pa_nil)) (pe_df Db hr rfl (pa_cons (pv 0) pa_nil)))), ?_⟩
    refine ⟨le_size (by decide), fun a ha => ?_⟩
    refine ⟨_, rfl, n, rfl, fun H1 p s1 hp h1 => ?_⟩
    have s2 : Same H H1 := (same_new ha).trans s1
    refine ⟨a, p, _, _, rfl, rfl, s1 _ _ upd_same, h1, le_size (by rw [iv_len, bytes64_len]; decide), fun r hr' => ?_⟩
    exact q _ r (s2.trans (same_new hr')) (s2.free hr') upd_same
abbrev sLotA : Stmt := top 17
def lotL (a b c t : Nat) : List Int := 2 :: (bytes64 a ++ bytes64 b ++ bytes64 c ++ [(t : Int)])
def spLotA : Sp := fun vs H Q _ => ∃ a b c t : Nat, vs = [.int (a : Int), .int (b : Int), .int (c : Int), .int (t : Int)] ∧ NewL (lotL a b c t) H Q
theorem scLotA : FnScope ["a", "b", "c", "t"] ["a", "b", "c", "t"] (defScope sLotA) := ⟨rfl, rfl, rfl, by decide +kernel, rfl, by decide +kernel, by decide +kernel⟩
theorem lotL_len (a b c t : Nat) : (lotL a b c t).length = 194 := by
  unfold lotL
  rw [List.length_cons, List.length_append, List.length_append, List.length_append, bytes64_len, bytes64_len, bytes64_len]
  rfl
theorem ok_lotA {f : Addr} {fd : FuncData} (F : Fun K "lot_asked" "lot_asked" sLotA f fd) (Db : Df P w K mg base "bytes_of" 1 ["number"] spBytes) : FnOk P w K mg base CX0 2 f fd ["a", "b", "c", "t"] spLotA := by
  refine F.ok scLotA (fun vs H Q E h => ?_) (fun cdv A outer s H vs Q E hr h => ?_)
  · obtain ⟨a, b, c, t, rfl, _⟩ := h
    rfl
  · obtain ⟨a, b, c, t, rfl, q⟩ := h
    refine ⟨_, pss_one (ps_ret (pe_op op_cat (pe_op op_cat (pe_op op_cat (pe_op op_cat (pe_lst (pa_cons pe_int pa_nil)) (pe_df Db hr rfl (pa_cons (pv 0) pa_nil))) (pe_df Db hr rfl (pa_cons (pv 1) pa_nil))) (pe_df Db hr rfl (pa_cons (pv 2) pa_nil))) (pe_lst (pa_cons (pv 3) pa_nil)))), ?_⟩
    refine ⟨le_size (by decide), fun p0 n0 => ?_⟩
    refine ⟨_, rfl, a, rfl, fun H1 p1 s1 n1 h1 => ?_⟩
    have k1 : Same H H1 := (same_new n0).trans s1
    refine ⟨p0, p1, _, _, rfl, rfl, s1 _ _ upd_same, h1, le_size (by rw [iv_len, bytes64_len]; decide), fun p2 n2 => ?_⟩
    refine ⟨_, rfl, b, rfl, fun H3 p3 s3 n3 h3 => ?_⟩
    have k3 : Same H H3 := (k1.trans (same_new n2)).trans s3
    refine ⟨p2, p3, _, _, rfl, rfl, s3 _ _ upd_same, h3, le_size (by simp only [List.length_append, iv_len, bytes64_len]; decide), fun p4 n4 => ?_⟩
    refine ⟨_, rfl, c, rfl, fun H5 p5 s5 n5 h5 => ?_⟩
    have k5 : Same H H5 := (k3.trans (same_new n4)).trans s5
    refine ⟨p4, p5, _, _, rfl, rfl, s5 _ _ upd_same, h5, le_size (by simp only [List.length_append, iv_len, bytes64_len]; decide), fun p6 n6 => ?_⟩
    refine ⟨_, rfl, le_size (by show 1 ≤ 16777216; decide), fun p7 n7 => ?_⟩
    have ne67 : p6 ≠ p7 := ne_of_none upd_same n7
    refine ⟨p6, p7, _, _, rfl, rfl, (by rw [upd_ne ne67]; exact upd_same), upd_same, le_size (by simp only [List.length_append, iv_len, bytes64_len]; show 1 + 64 + 64 + 64 + 1 ≤ 16777216; decide), fun p8 n8 => ?_⟩
    have k7 := (k5.trans (same_new n6)).trans (same_new (o := .lst [V.int (t : Int)]) n7)
    refine q _ p8 (k7.trans (same_new n8)) (k7.free n8) ?_
    rw [upd_same]
    refine congrArg (fun z => some (HO.lst z)) ?_
    show iv [2] ++ iv (bytes64 a) ++ iv (bytes64 b) ++ iv (bytes64 c) ++ iv [(t : Int)] = iv (lotL a b c t)
    rw [iv_app, iv_app, iv_app, iv_app]
    unfold lotL
    simp only [List.append_assoc, List.cons_append, List.nil_append]
end
end Tl
namespace Tl
open PySem PySem.Spec PyProof.Rows L2
open Ks184Neutral (number numbers bytes64 bytesOf)
/-! ### fields -/
theorem fl_hit {k : Str} {v : V} {r : List (Str × V)} : ((k, v) :: r).lookup k = some v := by
  rw [List.lookup_cons, beq_self_eq_true]
theorem fl_miss {k h : Str} {v : V} {r : List (Str × V)} (e : (k == h) = false) : ((h, v) :: r).lookup k = r.lookup k := by
  rw [List.lookup_cons, e]
theorem fp_hit {k : Str} {v x : V} {r : List (Str × V)} : putF k v ((k, x) :: r) = (k, v) :: r := by
  unfold putF
  rw [if_pos rfl]
theorem fp_miss {k h : Str} {v x : V} {r : List (Str × V)} (e : ¬ h = k) : putF k v ((h, x) :: r) = (h, x) :: putF k v r := by
  rw [putF, if_neg e]
def rF (n a b : Nat) (q : Addr) (m : Nat) : List (Str × V) := [("n", .int n), ("a", .int a), ("b", .int b), ("asked", .ref q), ("many", .int m)]
section
variable (n a b m : Nat) (q : Addr)
theorem rF_n : (rF n a b q m).lookup ("n" : Str) = some (.int n) := fl_hit
theorem rF_a : (rF n a b q m).lookup ("a" : Str) = some (.int a) := (fl_miss (by decide +kernel)).trans fl_hit
theorem rF_b : (rF n a b q m).lookup ("b" : Str) = some (.int b) := (fl_miss (by decide +kernel)).trans ((fl_miss (by decide +kernel)).trans fl_hit)
theorem rF_asked : (rF n a b q m).lookup ("asked" : Str) = some (.ref q) := (fl_miss (by decide +kernel)).trans ((fl_miss (by decide +kernel)).trans ((fl_miss (by decide +kernel)).trans fl_hit))
theorem rF_many : (rF n a b q m).lookup ("many" : Str) = some (.int m) := (fl_miss (by decide +kernel)).trans ((fl_miss (by decide +kernel)).trans ((fl_miss (by decide +kernel)).trans ((fl_miss (by decide +kernel)).trans fl_hit)))
theorem rF_putA (y : Nat) : putF "a" (.int y) (rF n a b q m) = rF n y b q m := (fp_miss (by decide +kernel)).trans (congrArg _ fp_hit)
theorem rF_putB (y : Nat) : putF "b" (.int y) (rF n a b q m) = rF n a y q m := (fp_miss (by decide +kernel)).trans (congrArg _ ((fp_miss (by decide +kernel)).trans (congrArg _ fp_hit)))
theorem rF_putM (y : Nat) : putF "many" (.int y) (rF n a b q m) = rF n a b q y :=
  (fp_miss (by decide +kernel)).trans (congrArg _ ((fp_miss (by decide +kernel)).trans (congrArg _ ((fp_miss (by decide +kernel)).trans (congrArg _ ((fp_miss (by decide +kernel)).trans (congrArg _ fp_hit)))))))
theorem rF_new : putF "many" (.int (0 : Nat)) (putF "asked" (.ref q) (putF "b" (.int b) (putF "a" (.int a) (putF "n" (.int n) [])))) = rF n a b q 0 := by
  have e1 : putF "a" (V.int a) ([("n", V.int n)] : List (Str × V)) = ([("n", V.int n), ("a", V.int a)] : List (Str × V)) := (fp_miss (by decide +kernel)).trans (rfl)
  have e2 : putF "b" (V.int b) ([("n", V.int n), ("a", V.int a)] : List (Str × V)) = ([("n", V.int n), ("a", V.int a), ("b", V.int b)] : List (Str × V)) := (fp_miss (by decide +kernel)).trans (congrArg _ ((fp_miss (by decide +kernel)).trans (rfl)))
  have e3 : putF "asked" (V.ref q) ([("n", V.int n), ("a", V.int a), ("b", V.int b)] : List (Str × V)) = ([("n", V.int n), ("a", V.int a), ("b", V.int b), ("asked", V.ref q)] : List (Str × V)) := (fp_miss (by decide +kernel)).trans (congrArg _ ((fp_miss (by decide +kernel)).trans (congrArg _ ((fp_miss (by decide +kernel)).trans (rfl)))))
  have e4 : putF "many" (V.int (0 : Nat)) ([("n", V.int n), ("a", V.int a), ("b", V.int b), ("asked", V.ref q)] : List (Str × V)) = ([("n", V.int n), ("a", V.int a), ("b", V.int b), ("asked", V.ref q), ("many", V.int (0 : Nat))] : List (Str × V)) := (fp_miss (by decide +kernel)).trans (congrArg _ ((fp_miss (by decide +kernel)).trans (congrArg _ ((fp_miss (by decide +kernel)).trans (congrArg _ ((fp_miss (by decide +kernel)).trans (rfl)))))))
  show putF "many" (.int (0 : Nat)) (putF "asked" (.ref q) (putF "b" (.int b) (putF "a" (.int a) ([("n", .int n)] : List (Str × V))))) = rF n a b q 0
  rw [e1, e2, e3, e4]
  rfl
end
/-- a Round stands at p, its list of what was asked at q -/
structure RoundAt (C : Addr) (H : Hp) (p q : Addr) (n a b m : Nat) (l : List Int) : Prop where
  at_ : ∃ dx, H p = some (.ins C dx (rF n a b q m))
  ask : H q = some (.lst (iv l))
theorem RoundAt.ne {C : Addr} {H : Hp} {p q : Addr} {n a b m : Nat} {l : List Int} (R : RoundAt C H p q n a b m l) : p ≠ q := by
  obtain ⟨dx, h⟩ := R.at_
  exact ne_of h R.ask (by intro z; cases z)
/-- all but two objects stand as they were -/
def Kept (p q : Addr) (H H' : Hp) : Prop := ∀ c o, H c = some o → c ≠ p → c ≠ q → H' c = some o
structure RTx (K : PySem.W.Frag) (C : Addr) : Prop where
  cl : Cls K C
  n : NoAttr K C "n"
  a : NoAttr K C "a"
  b : NoAttr K C "b"
  asked : NoAttr K C "asked"
  many : NoAttr K C "many"
section
variable {P : Program} {w : World} {K : PySem.W.Frag} {mg : Str → Option Value} {base : Heap} {C : Addr}
abbrev sRInit : Stmt := inClass (top 19) 0
def spRInit (C : Addr) : Sp := fun vs H Q _ => ∃ (p dx : Addr) (n a b : Nat), vs = [.ref p, .int (n : Int), .int (a : Int), .int (b : Int)] ∧ H p = some (.ins C dx []) ∧
  ∀ (H' : Hp) (q : Addr), H q = none → RoundAt C H' p q n a b 0 [] → (∀ c o, H c = some o → c ≠ p → H' c = some o) → Q .non H'
theorem scRInit : FnScope ["self", "n", "a", "b"] ["self", "n", "a", "b"] (defScope sRInit) := ⟨rfl, rfl, rfl, by decide +kernel, rfl, by decide +kernel, by decide +kernel⟩
theorem ok_rInit {f : Addr} {fd : FuncData} (F : Fun K "__init__" "Round.__init__" sRInit f fd) (R : RTx K C) : FnOk P w K mg base CX0 1 f fd ["self", "n", "a", "b"] (spRInit C) := by
  refine F.ok scRInit (fun vs H Q E h => ?_) (fun cdv A outer s H vs Q E hr h => ?_)
  · obtain ⟨p, dx, n, a, b, rfl, _⟩ := h
    rfl
  · obtain ⟨p, dx, n, a, b, rfl, hp, k⟩ := h
    refine ⟨_, pss_cons (ps_fld (pv 0) (pv 1) rfl) (pss_cons (ps_fld (pv 0) (pv 2) rfl) (pss_cons (ps_fld (pv 0) (pv 3) rfl) (pss_cons (ps_fld (pv 0) (pe_lst pa_nil) rfl) (pss_one (ps_fld (pv 0) pe_int rfl))))), ?_⟩
    refine ⟨_, rfl, _, rfl, p, C, dx, _, rfl, hp, R.cl, R.n, (by show 0 < 1000; decide), ?_⟩
    refine ⟨_, rfl, _, rfl, p, C, dx, _, rfl, upd_same, R.cl, R.a, (by show 1 < 1000; decide), ?_⟩
    refine ⟨_, rfl, _, rfl, p, C, dx, _, rfl, upd_same, R.cl, R.b, (by show 2 < 1000; decide), ?_⟩
    refine ⟨Nat.zero_le _, fun q hq => ?_⟩
    have hpq : p ≠ q := ne_of_none upd_same hq
    have hqp : q ≠ p := fun e => hpq e.symm
    refine ⟨_, rfl, p, C, dx, _, rfl, (by rw [upd_ne hpq]; exact upd_same), R.cl, R.asked, (by show 3 < 1000; decide), ?_⟩
    refine ⟨_, rfl, p, C, dx, _, rfl, upd_same, R.cl, R.many, (by show 4 < 1000; decide), ?_⟩
    refine k _ q ?_ ⟨⟨dx, upd_same.trans (congrArg (fun z => some (HO.ins C dx z)) (rF_new n a b q))⟩, ?_⟩ ?_
    · rw [upd_ne hqp, upd_ne hqp, upd_ne hqp] at hq
      exact hq
    · rw [upd_ne hqp, upd_ne hqp, upd_same]
      rfl
    · intro c o e hc
      have hcq : c ≠ q := by
        intro z
        subst z
        rw [upd_ne hc, upd_ne hc, upd_ne hc, e] at hq
        cases hq
      rw [upd_ne hc, upd_ne hc, upd_ne hcq, upd_ne hc, upd_ne hc, upd_ne hc]
      exact e
end
end Tl
namespace Tl
open PySem PySem.Spec PyProof.Rows L2
open Ks184Neutral (number numbers bytes64 bytesOf)
/-- the defs of the first module, as they may be called -/
structure Nums (P : Program) (w : World) (K : PySem.W.Frag) (mg : Str → Option Value) (base : Heap) : Prop where
  number : Df P w K mg base "number_of" 1 ["some"] (spNumber K)
  bytes : Df P w K mg base "bytes_of" 1 ["number"] spBytes
  face : Df P w K mg base "face" 1 ["number", "n"] spFace
  small : Df P w K mg base "is_small" 1 ["number", "n"] spSmall
  fit : Df P w K mg base "is_fit" 2 ["n", "x", "k"] spFit
  raised : Df P w K mg base "raised" 1 ["number", "times", "n"] spRaised
  powered : Df P w K mg base "powered" 1 ["number", "power", "n"] spPowered
  pad : Df P w K mg base "pad_of" 2 ["number"] spPad
  mixed : Df P w K mg base "mixed" 1 ["some", "pad"] (spMixed K)
  lot : Df P w K mg base "lot_of" 1 ["n", "a", "b", "c", "t"] spLot
  padA : Df P w K mg base "pad_asked" 2 ["number"] spPadA
  lotA : Df P w K mg base "lot_asked" 2 ["a", "b", "c", "t"] spLotA
section
variable {P : Program} {w : World} {K : PySem.W.Frag} {mg : Str → Option Value} {base : Heap} {C : Addr}
/-! ### halved -/
abbrev sHalved : Stmt := top 20
def spHalved (C : Addr) : Sp := fun vs H Q _ => ∃ (p q : Addr) (n a b m c t : Nat) (l : List Int), vs = [.ref p, .int (c : Int), .int (t : Int)] ∧ RoundAt C H p q n a b m l ∧ 0 < n ∧ n < Big ∧ b < n ∧ c < n ∧ l.length ≤ 1000000 ∧
  ∀ H' : Hp, RoundAt C H' p q n (stepA n a b c t) (stepB n a b c t) (m + 1) (l ++ lotL a b c t) → Kept p q H H' → Q .non H'
theorem scHalved : FnScope ["own", "c", "t", "r"] ["own", "c", "t"] (defScope sHalved) := ⟨rfl, rfl, rfl, by decide +kernel, rfl, by decide +kernel, by decide +kernel⟩
theorem power_lt {n a r : Nat} (h : 0 < n) (hr : r < 2 ^ 520) : Ks184.power n a r < n := by
  rw [power_is n a r hr]
  exact Nat.mod_lt _ h
theorem ok_halved {f : Addr} {fd : FuncData} (F : Fun K "halved" "halved" sHalved f fd) (R : RTx K C) (N : Nums P w K mg base) : FnOk P w K mg base CX0 3 f fd ["own", "c", "t"] (spHalved C) := by
  refine F.ok scHalved (fun vs H Q E h => ?_) (fun cdv A outer s H vs Q E hr h => ?_)
  · obtain ⟨p, q, n, a, b, m, c, t, l, rfl, _⟩ := h
    rfl
  · obtain ⟨p, q, n, a, b, m, c, t, l, rfl, RA, h0, h1, hb, hc, hl, k⟩ := h
    have hr1 : Room 1 _ := hr.mono (by decide)
    refine ⟨_, pss_cons (ps_set (i := 3) scHalved.nd rfl (.inl rfl) (pe_df N.lot hr1 rfl (pa_cons (pe_fld (pv 0) rfl) (pa_cons (pe_fld (pv 0) rfl) (pa_cons (pe_fld (pv 0) rfl) (pa_cons (pv 1) (pa_cons (pv 2) pa_nil)))))))
      (pss_cons (ps_expr (pe_bm PySem.F.plainAttrs_list PySem.F.slot_list_extend PySem.F.type_list_extend mt_extend (pe_fld (pv 0) rfl) (pa_cons (pe_df N.lotA hr rfl (pa_cons (pe_fld (pv 0) rfl) (pa_cons (pe_fld (pv 0) rfl) (pa_cons (pv 1) (pa_cons (pv 2) pa_nil))))) pa_nil)))
      (pss_cons (ps_fld (pv 0) (pe_op op_add (pe_fld (pv 0) rfl) pe_int) rfl)
      (pss_one (ps_asg (pe_tup (pa_cons (pe_df N.face hr1 rfl (pa_cons (pe_op op_mulW (pe_df N.powered hr1 rfl (pa_cons (pe_fld (pv 0) rfl) (pa_cons (pv 3) (pa_cons (pe_fld (pv 0) rfl) pa_nil)))) (pv 1)) (pa_cons (pe_fld (pv 0) rfl) pa_nil)))
          (pa_cons (pe_df N.face hr1 rfl (pa_cons (pe_op op_mulW (pe_df N.powered hr1 rfl (pa_cons (pv 1) (pa_cons (pv 3) (pa_cons (pe_fld (pv 0) rfl) pa_nil)))) (pe_fld (pv 0) rfl)) (pa_cons (pe_fld (pv 0) rfl) pa_nil))) pa_nil)))
        (pg_tup rfl (pgs_cons (pg_fld (pv 0)) (pgs_cons (pg_fld (pv 0)) pgs_nil))))))), ?_⟩
    have hpq := RA.ne
    have hqp : q ≠ p := fun e => hpq e.symm
    obtain ⟨⟨dx, hp⟩, hq⟩ := RA
    -- r = lot_of(own.n, own.a, own.b, c, t)
    refine ⟨_, rfl, p, C, dx, _, _, rfl, hp, R.cl, R.n, rF_n n a b m q, _, rfl, p, C, dx, _, _, rfl, hp, R.cl, R.a, rF_a n a b m q, _, rfl, p, C, dx, _, _, rfl, hp, R.cl, R.b, rF_b n a b m q, _, rfl, _, rfl, n, a, b, c, t, rfl, ?_⟩
    -- own.asked.extend(lot_asked(own.a, own.b, c, t))
    refine ⟨_, rfl, p, C, dx, _, _, rfl, hp, R.cl, R.asked, rF_asked n a b m q, .inl ⟨rfl, _, SqL.of hq⟩, _, rfl, p, C, dx, _, _, rfl, hp, R.cl, R.a, rF_a n a b m q, _, rfl, p, C, dx, _, _, rfl, hp, R.cl, R.b, rF_b n a b m q, _, rfl, _, rfl, a, b, c, t, rfl, fun H1 p1 s1 n1 h1' => ?_⟩
    refine ⟨q, p1, _, _, rfl, rfl, s1 _ _ hq, h1', le_size (by rw [iv_len, iv_len, lotL_len]; omega), ?_⟩
    have hp2 : upd H1 q (.lst (iv l ++ iv (lotL a b c t))) p = some (.ins C dx (rF n a b q m)) := by rw [upd_ne hpq]; exact s1 _ _ hp
    -- own.many = own.many + 1
    refine ⟨_, rfl, p, C, dx, _, _, rfl, hp2, R.cl, R.many, rF_many n a b m q, _, _, rfl, rfl, _, rfl, p, C, dx, _, rfl, hp2, R.cl, R.many, (by show 5 < 1000; decide), ?_⟩
    have e3 : putF "many" (V.int ((m : Int) + 1)) (rF n a b q m) = rF n a b q (m + 1) := rF_putM n a b m q (m + 1)
    generalize hH3 : upd (upd H1 q (.lst (iv l ++ iv (lotL a b c t)))) p _ = H3
    have hp3 : H3 p = some (.ins C dx (rF n a b q (m + 1))) := by
      rw [← hH3, upd_same]
      exact congrArg (fun z => some (HO.ins C dx z)) e3
    have hq3 : H3 q = some (.lst (iv (l ++ lotL a b c t))) := by
      rw [← hH3, upd_ne hqp, upd_same, iv_app]
    have k3 : Kept p q H H3 := fun d o e e1 e2 => by
      rw [← hH3, upd_ne e1, upd_ne e2]
      exact s1 _ _ e
    -- own.a, own.b = ..
    have hr' := lot_lt n a b c t
    have hx : Ks184.power n a (lot n a b c t) < Big := Nat.lt_trans (power_lt h0 hr') h1
    have hy : Ks184.power n c (lot n a b c t) < Big := Nat.lt_trans (power_lt h0 hr') h1
    have hcB : c < Big := Nat.lt_trans hc h1
    have hbB : b < Big := Nat.lt_trans hb h1
    refine ⟨_, rfl, p, C, dx, _, _, rfl, hp3, R.cl, R.a, rF_a n a b (m + 1) q, _, rfl, _, rfl, p, C, dx, _, _, rfl, hp3, R.cl, R.n, rF_n n a b (m + 1) q, a, lot n a b c t, n, rfl, h0, h1, hr', _, rfl, _, _, rfl, rfl, mul_ok hx hcB, ?_⟩
    refine ⟨_, rfl, p, C, dx, _, _, rfl, hp3, R.cl, R.n, rF_n n a b (m + 1) q, Ks184.power n a (lot n a b c t) * c, n, rfl, h0, ?_⟩
    refine ⟨_, rfl, _, rfl, _, rfl, p, C, dx, _, _, rfl, hp3, R.cl, R.n, rF_n n a b (m + 1) q, c, lot n a b c t, n, rfl, h0, h1, hr', _, rfl, p, C, dx, _, _, rfl, hp3, R.cl, R.b, rF_b n a b (m + 1) q, _, _, rfl, rfl, mul_ok hy hbB, ?_⟩
    refine ⟨_, rfl, p, C, dx, _, _, rfl, hp3, R.cl, R.n, rF_n n a b (m + 1) q, Ks184.power n c (lot n a b c t) * b, n, rfl, h0, ?_⟩
    refine ⟨le_size (by show 2 ≤ 16777216; decide), fun u hu => ?_⟩
    have hpu : p ≠ u := ne_of_none hp3 hu
    have hqu : q ≠ u := ne_of_none hq3 hu
    refine ⟨u, _, rfl, SqT.of upd_same, rfl, _, _, rfl, _, rfl, p, C, dx, _, rfl, (by rw [upd_ne hpu]; exact hp3), R.cl, R.a, (by show 5 < 1000; decide), ?_⟩
    refine ⟨_, _, rfl, _, rfl, p, C, dx, _, rfl, upd_same, R.cl, R.b, (by show 5 < 1000; decide), rfl, ?_⟩
    refine k _ ⟨⟨dx, ?_⟩, ?_⟩ ?_
    · rw [upd_same]
      refine congrArg (fun z => some (HO.ins C dx z)) ?_
      refine (congrArg _ (rF_putA n a b (m + 1) q (stepA n a b c t))).trans ?_
      exact rF_putB n _ b (m + 1) q (stepB n a b c t)
    · rw [upd_ne hqp, upd_ne hqp, upd_ne hqu]
      exact hq3
    · intro d o e e1 e2
      have h3 := k3 d o e e1 e2
      rw [upd_ne e1, upd_ne e1, upd_ne (ne_of_none h3 hu)]
      exact h3
end
end Tl
namespace Tl
open PySem PySem.Spec PyProof.Rows L2
open Ks184Neutral (number numbers bytes64 bytesOf)
theorem two_pow_int (t : Nat) : (1 : Int) * 2 ^ ((((t + 1 : Nat) : Int) - 1).toNat) = ((2 ^ t : Nat) : Int) := by
  have e : (((t + 1 : Nat) : Int) - 1).toNat = t := by omega
  rw [e, Int.one_mul, Int.natCast_pow]
  rfl
theorem rend_lot (n a b c t r : Nat) : rend (.lot n a b c t r) = lotL a b c t := rfl
/-- proof_of's state behind i rounds: a and b as they are; what was found and asked, together with what is to come, is the whole -/
structure PrI (n k : Nat) (l W L : List Int) (i a b : Nat) (fo as : List Int) : Prop where
  fnd : fo ++ (Ks184.proof g n (k - i) a b).flatMap bytes64 = W
  ask : as ++ (Ks184.asks g n (k - i) a b (Ks184.proof g n (k - i) a b)).flatMap rend = l ++ L
  bl : b < n
  fl : fo.length = 64 * i
  al : as.length = l.length + 194 * i
theorem PrI.step {n k i a b t : Nat} {l W L fo as : List Int} (p : PrI n k l W L i a b fo as) (h0 : 0 < n) (ht : k - i = t + 1) :
    PrI n k l W L (i + 1) (stepA n a b (Ks184.half n a (t + 1)) (t + 1)) (stepB n a b (Ks184.half n a (t + 1)) (t + 1)) (fo ++ bytes64 (Ks184.half n a (t + 1))) (as ++ lotL a b (Ks184.half n a (t + 1)) (t + 1)) := by
  have e : k - (i + 1) = t := by omega
  refine ⟨?_, ?_, stepB_lt _ _ _ _ _ h0, ?_, ?_⟩
  · rw [e, List.append_assoc, ← p.fnd, ht, proof_succ, List.flatMap_cons]
  · rw [e, List.append_assoc, ← p.ask, ht, proof_succ, asks_cons, List.flatMap_cons, rend_lot]
  · rw [List.length_append, p.fl, bytes64_len]
    omega
  · rw [List.length_append, p.al, lotL_len]
    omega
section
variable {P : Program} {w : World} {K : PySem.W.Frag} {mg : Str → Option Value} {base : Heap} {C : Addr}
/-! ### proof_of -/
abbrev sProof : Stmt := top 21
def spProof (C : Addr) : Sp := fun vs H Q _ => ∃ (p q : Addr) (n a b m k : Nat) (l : List Int), vs = [.ref p, .int (k : Int)] ∧ RoundAt C H p q n a b m l ∧ 0 < n ∧ n < Big ∧ b < n ∧ k ≤ 20 ∧ l.length ≤ 1000 ∧
  ∀ (H' : Hp) (r : Addr) (a' b' : Nat), H r = none → H' r = some (.lst (iv ((Ks184.proof g n k a b).flatMap bytes64))) → RoundAt C H' p q n a' b' (m + k) (l ++ (Ks184.asks g n k a b (Ks184.proof g n k a b)).flatMap rend) → Kept p q H H' → Q (.ref r) H'
theorem scProof : FnScope ["own", "k", "found", "t", "c"] ["own", "k"] (defScope sProof) := ⟨rfl, rfl, rfl, by decide +kernel, rfl, by decide +kernel, by decide +kernel⟩
theorem ok_proof {f : Addr} {fd : FuncData} (F : Fun K "proof_of" "proof_of" sProof f fd) (T : Tx mg) (R : RTx K C) (N : Nums P w K mg base) (Dh : Df P w K mg base "halved" 3 ["own", "c", "t"] (spHalved C)) : FnOk P w K mg base CX0 4 f fd ["own", "k"] (spProof C) := by
  refine F.ok scProof (fun vs H Q E h => ?_) (fun cdv A outer s H vs Q E hr h => ?_)
  · obtain ⟨p, q, n, a, b, m, k, l, rfl, _⟩ := h
    rfl
  · obtain ⟨p, q, n, a, b, m, k, l, rfl, RA, h0, h1, hb, hk, hl, kq⟩ := h
    have hr1 : Room 1 _ := hr.mono (by decide)
    refine ⟨_, pss_cons (ps_set (i := 2) scProof.nd rfl (.inl rfl) (pe_lst pa_nil))
      (pss_cons (ps_for PassesOwn.never rfl (pi_range3 rfl T.rangeN (pa_cons (pv 1) (pa_cons pe_int (pa_cons (pe_un un_neg pe_int) pa_nil)))) (pg_name (i := 3) scProof.nd rfl (.inl rfl))
        (pss_cons (ps_set (i := 4) scProof.nd rfl (.inl rfl) (pe_df N.face hr1 rfl (pa_cons (pe_df N.raised hr1 rfl (pa_cons (pe_fld (pv 0) rfl) (pa_cons (pe_op op_shl pe_int (pe_op op_sub (pv 3) pe_int)) (pa_cons (pe_fld (pv 0) rfl) pa_nil)))) (pa_cons (pe_fld (pv 0) rfl) pa_nil))))
        (pss_cons (ps_expr (pe_bm PySem.F.plainAttrs_list PySem.F.slot_list_extend PySem.F.type_list_extend mt_extend (pv 2) (pa_cons (pe_df N.bytes hr1 rfl (pa_cons (pv 4) pa_nil)) pa_nil)))
        (pss_one (ps_expr (pe_df Dh hr rfl (pa_cons (pv 0) (pa_cons (pv 4) (pa_cons (pv 3) pa_nil)))))))))
      (pss_one (ps_ret (pv 2)))), ?_⟩
    refine ⟨Nat.zero_le _, fun r hr0 => ?_⟩
    have hpr : p ≠ r := let ⟨_, h⟩ := RA.at_; ne_of_none h hr0
    have hqr : q ≠ r := ne_of_none RA.ask hr0
    have hrp : r ≠ p := fun e => hpr e.symm
    have hrq : r ≠ q := fun e => hqr e.symm
    have hrg : RgC (k : Int) 0 (-1) k := by
      have e := RgC.neg (i := (k : Int)) (j := 0) (by omega) (by omega) (by omega) (by omega)
      have e2 : ((k : Int) - 0).toNat = k := by omega
      rw [e2] at e
      exact e
    refine ⟨_, rfl, _, rfl, (k : Int), 0, -1, k, rfl, hrg, for_rangeC (lo := (k : Int)) (c := -1) (n := k)
      (fun i σ H' => ∃ (ai bi : Nat) (fo as : List Int) (vt vc : Option V), σ = [some (.ref p), some (.int (k : Int)), some (.ref r), vt, vc] ∧ RoundAt C H' p q n ai bi (m + i) as ∧ H' r = some (.lst (iv fo)) ∧ Kept p q H H' ∧
        PrI n k l ((Ks184.proof g n k a b).flatMap bytes64) ((Ks184.asks g n k a b (Ks184.proof g n k a b)).flatMap rend) i ai bi fo as) ?_ ?_ ?_⟩
    · refine ⟨a, b, [], l, none, none, rfl, ⟨?_, ?_⟩, upd_same, fun c o e _ _ => same_new hr0 c o e, ⟨rfl, rfl, hb, rfl, rfl⟩⟩
      · obtain ⟨dx, h⟩ := RA.at_
        exact ⟨dx, by rw [upd_ne hpr]; exact h⟩
      · rw [upd_ne hqr]
        exact RA.ask
    · rintro i σ H1 hi ⟨ai, bi, fo, as, vt, vc, rfl, R1, hf1, kp1, pr⟩
      obtain ⟨t, ht⟩ : ∃ t, k - i = t + 1 := ⟨k - i - 1, by omega⟩
      have et : (k : Int) + (i : Int) * -1 = ((t + 1 : Nat) : Int) := by omega
      rw [et]
      have t32 : 2 ^ t < 2 ^ 32 := Nat.pow_lt_pow_right (by decide) (by omega)
      obtain ⟨dx, hp1⟩ := R1.at_
      have hrl : Ks184.raised n ai (2 ^ t) < n := raised_lt n h0 _ _
      refine ⟨_, rfl, p, C, dx, _, _, rfl, hp1, R.cl, R.a, rF_a _ _ _ _ _, _, rfl, _, _, rfl, rfl, _, _, rfl, rfl, ⟨by omega, by omega, by decide⟩, _, rfl, p, C, dx, _, _, rfl, hp1, R.cl, R.n, rF_n _ _ _ _ _, ai, 2 ^ t, n, congrArg (fun z => [V.int (ai : Int), V.int z, V.int (n : Int)]) (two_pow_int t), h0, h1, t32, ?_⟩
      refine ⟨_, rfl, p, C, dx, _, _, rfl, hp1, R.cl, R.n, rF_n _ _ _ _ _, Ks184.raised n ai (2 ^ t), n, rfl, h0, ?_⟩
      refine ⟨_, rfl, .inl ⟨rfl, _, SqL.of hf1⟩, _, rfl, Ks184.half n ai (t + 1), rfl, fun H2 p2 s2 n2 h2 => ?_⟩
      refine ⟨r, p2, _, _, rfl, rfl, s2 _ _ hf1, h2, le_size (by rw [iv_len, iv_len, pr.fl, bytes64_len]; omega), ?_⟩
      have hR3 : RoundAt C (upd H2 r (.lst (iv fo ++ iv (bytes64 (Ks184.half n ai (t + 1)))))) p q n ai bi (m + i) as := by
        refine ⟨⟨dx, ?_⟩, ?_⟩
        · rw [upd_ne hpr]
          exact s2 _ _ hp1
        · rw [upd_ne hqr]
          exact s2 _ _ R1.ask
      refine ⟨_, rfl, _, rfl, _, rfl, p, q, n, ai, bi, m + i, Ks184.half n ai (t + 1), t + 1, as, rfl, hR3, h0, h1, pr.bl, face_lt _ _ h0, (by have := pr.al; omega), fun H4 R4 k4 => ?_⟩
      refine ⟨_, _, _, _, _, _, rfl, R4, ?_, ?_, pr.step h0 ht⟩
      · refine k4 r _ ?_ hrp hrq
        rw [upd_same, iv_app]
      · intro c o e e1 e2
        refine k4 c o ?_ e1 e2
        have h5 := s2 _ _ (kp1 c o e e1 e2)
        rw [upd_ne (ne_of_none e hr0)]
        exact h5
    · rintro σ H1 ⟨ai, bi, fo, as, vt, vc, rfl, R1, hf1, kp1, pr⟩
      have e1 := pr.fnd
      have e2 := pr.ask
      rw [Nat.sub_self, proof_zero] at e1 e2
      rw [asks_zero] at e2
      simp only [List.flatMap_nil, List.append_nil] at e1 e2
      subst e1 e2
      refine ⟨_, rfl, ?_⟩
      exact kq H1 r ai bi hr0 hf1 R1 kp1
end
end Tl
namespace Tl
open PySem PySem.Spec PyProof.Rows L2
open Ks184Neutral (number numbers bytes64 bytesOf)
/-! ### slices -/
theorem cut_nat {α : Type} (xs : List α) (a b : Nat) : (xs.drop (min a xs.length)).take (min b xs.length - min a xs.length) = (xs.drop a).take (b - a) := by
  by_cases h : a ≤ xs.length
  · rw [Nat.min_eq_left h, List.take_eq_take_iff, List.length_drop]
    omega
  · have e : min a xs.length = xs.length := Nat.min_eq_right (by omega)
    rw [e, List.drop_length, List.drop_eq_nil_of_le (by omega), List.take_nil, List.take_nil]
theorem cutV_nat (xs : List V) (a b : Nat) : cutV xs (some (a : Int)) (some (b : Int)) = (xs.drop a).take (b - a) := by
  unfold cutV
  rw [HT.sIx_nat, HT.sIx_nat]
  exact cut_nat xs a b
theorem cutV_nv (l : List Nat) (a b : Nat) : cutV (nv l) (some (a : Int)) (some (b : Int)) = nv ((l.drop a).take (b - a)) := by
  rw [cutV_nat]
  unfold nv iv Ks184Neutral.ints
  rw [List.map_take, List.map_take, List.map_drop, List.map_drop]
theorem cutV_iv (l : List Int) (a b : Nat) : cutV (iv l) (some (a : Int)) (some (b : Int)) = iv ((l.drop a).take (b - a)) := by
  rw [cutV_nat]
  unfold iv
  rw [List.map_take, List.map_drop]
theorem fits_long {i : Int} (h1 : -1000000 ≤ i) (h2 : i ≤ 1000000) : Builtin.Range.rangeFitsLong i = true := by
  unfold Builtin.Range.rangeFitsLong
  rw [Bool.and_eq_true]
  exact ⟨decide_eq_true (by omega), decide_eq_true (by omega)⟩
theorem rg64 {k : Nat} (h : k ≤ 1000) : RgC 0 ((64 * k : Nat) : Int) 64 k := by
  have e : Builtin.Range.rangeSize 0 ((64 * k : Nat) : Int) 64 = (k : Int) := by
    unfold Builtin.Range.rangeSize
    rw [if_pos (by decide)]
    split <;> omega
  refine ⟨by decide, by decide, ?_, e⟩
  unfold Builtin.Range.small
  rw [e, if_pos (by decide), fits_long (by omega) (by omega), fits_long (by omega) (by omega), fits_long (by omega) (by omega), fits_long (by omega) (by omega), fits_long (by omega) (by omega)]
  simp
theorem numbers_len {l : List Nat} {k : Nat} (h : l.length = 64 * k) : (numbers l).length = k := by
  unfold numbers
  rw [List.length_map, List.length_range, h]
  omega
theorem numbers_get {l : List Nat} {k i : Nat} (h : l.length = 64 * k) (hi : i < k) : (numbers l)[i]? = some (number ((l.drop (64 * i)).take 64)) := by
  unfold numbers
  rw [List.getElem?_map, List.getElem?_range (by rw [h]; omega)]
  rfl
section
variable {P : Program} {w : World} {K : PySem.W.Frag} {mg : Str → Option Value} {base : Heap} {C : Addr}
/-! ### numbers_in -/
abbrev sNumbers : Stmt := top 22
def spNumbers (K : PySem.W.Frag) : Sp := fun vs H Q _ => ∃ (a : Addr) (l : List Nat) (k : Nat), vs = [.ref a] ∧ SqL K H a (nv l) ∧ l.length = 64 * k ∧ k ≤ 1000 ∧ NewL (zs (numbers l)) H Q
theorem scNumbers : FnScope ["proof", "at"] ["proof"] (defScope sNumbers) := ⟨rfl, rfl, rfl, by decide +kernel, rfl, by decide +kernel, by decide +kernel⟩
theorem ok_numbers {f : Addr} {fd : FuncData} (F : Fun K "numbers_in" "numbers_in" sNumbers f fd) (T : Tx mg) (N : Nums P w K mg base) : FnOk P w K mg base CX0 2 f fd ["proof"] (spNumbers K) := by
  refine F.ok scNumbers (fun vs H Q E h => ?_) (fun cdv A outer s H vs Q E hr h => ?_)
  · obtain ⟨a, l, k, rfl, _⟩ := h
    rfl
  · obtain ⟨a, l, k, rfl, hS, hlen, hk, q⟩ := h
    refine ⟨_, pss_one (ps_ret (pe_lc (own := [("at", 1)]) (g := gName 1) (tt := tYes) rfl scNumbers.nd
        (pi_range3 rfl T.rangeN (pa_cons pe_int (pa_cons (pe_callB call_len_seq (by rfl) T.lenN PySem.boot_len (pa_cons (pv 0) pa_nil)) (pa_cons (pe_gi T.wide rfl) pa_nil))))
        (blkOk_by (own := [("at", 1)]) (N := ["proof", "at"]) (sc := defScope sNumbers) (by decide +kernel)) (fun _ _ _ _ _ => pg_name (i := 1) scNumbers.nd rfl (.inl rfl)) (fun _ _ _ _ _ => pts_nil)
        (fun _ _ _ _ _ => pe_df N.number hr rfl (pa_cons (pe_slice (sl_listK (K := K) rfl) (pv 0) (po_some (pv 1)) (po_some (pe_op op_add (pv 1) (pe_gi T.wide rfl)))) pa_nil)))), ?_⟩
    refine ⟨_, rfl, a, _, rfl, .inl hS, (0 : Int), ((64 * k : Nat) : Int), 64, k, ?_, rg64 hk, fun D hD => ?_⟩
    · rw [nv_len, hlen]
    refine lc_it (walk_rangeC (lo := 0) (c := 64) (n := k)) (fun i H' => Same H H' ∧ H' D = some (.lst (nv ((numbers l).take i)))) ⟨same_new hD, upd_same⟩ (fun _ _ _ _ => trivial) ?_ ?_
    · rintro i x H1 H2 hi ⟨s1, h1⟩ ⟨rfl, ex⟩
      have ex2 : x = V.int ((64 * i : Nat) : Int) := ex.trans (congrArg V.int (by omega))
      subst ex2
      refine ⟨rfl, ?_⟩
      refine ⟨_, rfl, _, rfl, _, rfl, _, rfl, _, _, rfl, rfl, _, rfl, a, _, rfl, s1.seq hS, fun t ht => ?_⟩
      have e2 : ((64 * i : Nat) : Int) + 64 = ((64 * i + 64 : Nat) : Int) := by omega
      dsimp only
      rw [e2, cutV_nv, Nat.add_sub_cancel_left]
      refine ⟨t, (l.drop (64 * i)).take 64, rfl, SqL.of upd_same, ?_⟩
      have hD2 : upd H2 t (.lst (nv ((l.drop (64 * i)).take 64))) D = some (.lst (nv ((numbers l).take i))) := by rw [upd_ne (ne_of_none h1 ht)]; exact h1
      refine ⟨_, hD2, lt_size (by rw [nv_len, List.length_take]; omega), ?_, ?_⟩
      · intro b o e
        rw [upd_ne (ne_of_none e hD), upd_ne (ne_of_none (s1 _ _ e) ht)]
        exact s1 _ _ e
      · rw [upd_same, nv_snoc (numbers_get hlen hi)]
    · rintro H1 ⟨s1, h1⟩
      refine q _ D s1 hD ?_
      rw [List.take_of_length_le (by rw [numbers_len hlen]; exact Nat.le_refl _)] at h1
      exact h1
/-! ### are_small -/
abbrev sAre : Stmt := top 23
def spAre (K : PySem.W.Frag) : Sp := fun vs H Q _ => ∃ (a : Addr) (l : List Nat) (n : Nat), vs = [.ref a, .int (n : Int)] ∧ SqL K H a (nv l) ∧ l.length ≤ 1000 ∧ 0 < n ∧ ∀ H' : Hp, Same H H' → Q (.bl (l.all (Ks184.small n))) H'
theorem scAre : FnScope ["numbers", "n", "number"] ["numbers", "n"] (defScope sAre) := ⟨rfl, rfl, rfl, by decide +kernel, rfl, by decide +kernel, by decide +kernel⟩
/-- those that aren't small -/
def bad (n : Nat) (l : List Nat) : List Nat := l.filter fun z => !Ks184.small n z
theorem bad_snoc (n : Nat) (l : List Nat) (z : Nat) : bad n (l ++ [z]) = bad n l ++ (if (!Ks184.small n z) = true then [z] else []) := by
  unfold bad
  rw [List.filter_append]
  refine congrArg _ ?_
  cases e : Ks184.small n z <;> simp [e]
theorem bad_none (n : Nat) : ∀ l : List Nat, (bad n l).isEmpty = l.all (Ks184.small n)
  | [] => rfl
  | z :: r => by
    unfold bad
    rw [List.filter_cons, List.all_cons]
    cases e : Ks184.small n z with
    | true => exact (bad_none n r).trans (Bool.true_and _).symm
    | false => rfl
theorem bad_len (n : Nat) (l : List Nat) : (bad n l).length ≤ l.length := List.length_filter_le ..
theorem dp_ints {H : Hp} : ∀ l : List Int, DpAll K H (iv l) (l.map PyData.int)
  | [] => .nil
  | z :: r => .cons (.int z) (dp_ints r)
theorem eqv_nil (l : List Int) : PyData.eqv (.list (l.map PyData.int)) (.list []) = l.isEmpty := by
  cases l with
  | nil => rfl
  | cons z r => rfl
theorem ok_are {f : Addr} {fd : FuncData} (F : Fun K "are_small" "are_small" sAre f fd) (N : Nums P w K mg base) : FnOk P w K mg base CX0 2 f fd ["numbers", "n"] (spAre K) := by
  refine F.ok scAre (fun vs H Q E h => ?_) (fun cdv A outer s H vs Q E hr h => ?_)
  · obtain ⟨a, l, n, rfl, _⟩ := h
    rfl
  · obtain ⟨a, l, n, rfl, hS, hlen, h0, q⟩ := h
    refine ⟨_, pss_one (ps_ret (pe_cmpR (op_eqD hr.units) (pe_lc (own := [("number", 2)]) (g := gName 2) (tt := _) rfl scAre.nd (pi_list (pv 0))
        (blkOk_by (own := [("number", 2)]) (N := ["numbers", "n", "number"]) (sc := defScope sAre) (by decide +kernel)) (fun _ _ _ _ _ => pg_name (i := 2) scAre.nd rfl (.inl rfl))
        (fun _ _ _ _ _ => pts_one (pt_not (pt_val (pe_df N.small hr rfl (pa_cons (pv 2) (pa_cons (pv 1) pa_nil)))))) (fun _ _ _ _ _ => pv 2)) (pe_lst pa_nil) (nomark _))), ?_⟩
    refine ⟨_, rfl, a, rfl, ⟨_, hS⟩, fun D hD => ?_⟩
    refine lc_list (K := K) (a := a) (xs := nv l) (fun i H' => H' = upd H D (.lst (nv (bad n (l.take i))))) rfl (fun i H' _ e => by rw [e]; exact (same_new hD).seq hS) ?_ ?_
    · rintro i y H1 hi rfl
      obtain ⟨z, hz, rfl⟩ := get_nv hi
      refine ⟨rfl, _, rfl, _, rfl, z, n, rfl, h0, _, rfl, ?_⟩
      have e1 : bad n (l.take (i + 1)) = _ := (congrArg (bad n) (take_snoc hz)).trans (bad_snoc n (l.take i) z)
      cases e : Ks184.small n z with
      | true =>
        rw [e] at e1
        refine iteF ?_
        rw [e1]
        show _ = upd H D (.lst (nv (bad n (l.take i) ++ [])))
        rw [List.append_nil]
      | false =>
        rw [e] at e1
        refine iteT ?_
        refine ⟨_, rfl, _, upd_same, lt_size (by rw [nv_len]; have := bad_len n (l.take i); rw [List.length_take] at this; omega), ?_⟩
        rw [upd_upd, e1]
        show _ = upd H D (.lst (nv (bad n (l.take i) ++ [z])))
        unfold nv iv Ks184Neutral.ints
        rw [List.map_append, List.map_append]
        rfl
    · rintro H1 rfl
      rw [nv_len, List.take_length]
      refine ⟨Nat.zero_le _, fun p hp => ?_⟩
      refine ⟨_, _, .lst (SqL.of (by rw [upd_ne (ne_of_none upd_same hp)]; exact upd_same)) (dp_ints _), .lst (SqL.of upd_same) .nil, PySem.W.ke_shaped_ints _, rfl, ?_⟩
      rw [eqv_nil]
      have e : (zs (bad n l)).isEmpty = l.all (Ks184.small n) := by
        rw [← bad_none]
        unfold zs Ks184Neutral.ints
        cases bad n l <;> rfl
      rw [e]
      exact q _ ((same_new hD).trans (same_new hp))
end
end Tl
namespace Tl
open PySem PySem.Spec PyProof.Rows L2
open Ks184Neutral (number numbers bytes64 bytesOf)
/-- is_shown's state behind i rounds -/
structure ShI (n k : Nat) (ps : List Nat) (l L : List Int) (Z : Option (Nat × Nat)) (i a b : Nat) (as : List Int) : Prop where
  ask : as ++ (Ks184.asks g n (k - i) a b (ps.drop i)).flatMap rend = l ++ L
  last : (Ks184.rounds g n (k - i) a b (ps.drop i)).getLast? = Z
  al : a < n
  bl : b < n
  len : as.length = l.length + 194 * i
theorem drop_at {α : Type} {l : List α} {i : Nat} {x : α} (h : l[i]? = some x) : l.drop i = x :: l.drop (i + 1) := by
  obtain ⟨hi, rfl⟩ := List.getElem?_eq_some_iff.mp h
  exact List.drop_eq_getElem_cons hi
theorem ShI.step {n k i a b t c : Nat} {ps : List Nat} {l L as : List Int} {Z : Option (Nat × Nat)} (p : ShI n k ps l L Z i a b as) (h0 : 0 < n) (ht : k - i = t + 1) (hc : ps[i]? = some c) :
    ShI n k ps l L Z (i + 1) (stepA n a b c (t + 1)) (stepB n a b c (t + 1)) (as ++ lotL a b c (t + 1)) := by
  have e : k - (i + 1) = t := by omega
  refine ⟨?_, ?_, stepA_lt _ _ _ _ _ h0, stepB_lt _ _ _ _ _ h0, ?_⟩
  · rw [e, List.append_assoc, ← p.ask, ht, drop_at hc, asks_cons, List.flatMap_cons, rend_lot]
  · rw [e, ← p.last, ht, drop_at hc, rounds_last]
  · rw [List.length_append, p.len, lotL_len]
    omega
section
variable {P : Program} {w : World} {K : PySem.W.Frag} {mg : Str → Option Value} {base : Heap} {C : Addr}
/-! ### is_shown -/
abbrev sShown : Stmt := top 24
def spShown (C : Addr) : Sp := fun vs H Q _ => ∃ (p q u : Addr) (n a b m : Nat) (ps : List Nat) (l : List Int), vs = [.ref p, .ref u] ∧ RoundAt C H p q n a b m l ∧ H u = some (.lst (nv ps)) ∧ u ≠ q ∧ 0 < n ∧ n < Big ∧ a < n ∧ b < n ∧ (∀ c ∈ ps, c < n) ∧ ps.length ≤ 20 ∧ l.length ≤ 1000 ∧
  ∀ (H' : Hp) (a' b' : Nat), RoundAt C H' p q n a' b' (m + ps.length) (l ++ (Ks184.asks g n ps.length a b ps).flatMap rend) → Kept p q H H' → Q (.bl (shown n ps.length a b ps)) H'
theorem scShown : FnScope ["own", "numbers", "t"] ["own", "numbers"] (defScope sShown) := ⟨rfl, rfl, rfl, by decide +kernel, rfl, by decide +kernel, by decide +kernel⟩
theorem ok_shown {f : Addr} {fd : FuncData} (F : Fun K "is_shown" "is_shown" sShown f fd) (T : Tx mg) (R : RTx K C) (N : Nums P w K mg base) (Dh : Df P w K mg base "halved" 3 ["own", "c", "t"] (spHalved C)) : FnOk P w K mg base CX0 4 f fd ["own", "numbers"] (spShown C) := by
  refine F.ok scShown (fun vs H Q E h => ?_) (fun cdv A outer s H vs Q E hr h => ?_)
  · obtain ⟨p, q, u, n, a, b, m, ps, l, rfl, _⟩ := h
    rfl
  · obtain ⟨p, q, u, n, a, b, m, ps, l, rfl, RA, hu, huq, h0, h1, ha, hb, hps, hk, hl, kq⟩ := h
    have hr1 : Room 1 _ := hr.mono (by decide)
    refine ⟨_, pss_cons (ps_for PassesOwn.never rfl (pi_range3 rfl T.rangeN (pa_cons (pe_callB call_len_seq (by rfl) T.lenN PySem.boot_len (pa_cons (pv 1) pa_nil)) (pa_cons pe_int (pa_cons (pe_un un_neg pe_int) pa_nil)))) (pg_name (i := 2) scShown.nd rfl (.inl rfl))
        (pss_one (ps_expr (pe_df Dh hr rfl (pa_cons (pv 0) (pa_cons (pe_ix ix_list (pv 1) (pe_op op_sub (pe_callB call_len_seq (by rfl) T.lenN PySem.boot_len (pa_cons (pv 1) pa_nil)) (pv 2)) (fun _ _ => rfl)) (pa_cons (pv 2) pa_nil)))))))
      (pss_one (ps_ret (pe_cmp (pc_eqI (pe_df N.face hr1 rfl (pa_cons (pe_op op_mulW (pe_fld (pv 0) rfl) (pe_fld (pv 0) rfl)) (pa_cons (pe_fld (pv 0) rfl) pa_nil))) (pe_fld (pv 0) rfl)) rfl))), ?_⟩
    have hup : u ≠ p := let ⟨_, h⟩ := RA.at_; ne_of hu h (by intro z; cases z)
    have hrg : RgC (ps.length : Int) 0 (-1) ps.length := by
      have e := RgC.neg (i := (ps.length : Int)) (j := 0) (by omega) (by omega) (by omega) (by omega)
      have e2 : ((ps.length : Int) - 0).toNat = ps.length := by omega
      rw [e2] at e
      exact e
    refine ⟨_, rfl, u, _, rfl, .inl (SqL.of hu), _, rfl, (ps.length : Int), 0, -1, ps.length, ?_, hrg, for_rangeC (lo := (ps.length : Int)) (c := -1) (n := ps.length)
      (fun i σ H' => ∃ (ai bi : Nat) (as : List Int) (vt : Option V), σ = [some (.ref p), some (.ref u), vt] ∧ RoundAt C H' p q n ai bi (m + i) as ∧ Kept p q H H' ∧
        ShI n ps.length ps l ((Ks184.asks g n ps.length a b ps).flatMap rend) (Ks184.rounds g n ps.length a b ps).getLast? i ai bi as) ?_ ?_ ?_⟩
    · rw [nv_len]
    · exact ⟨a, b, l, none, rfl, RA, fun c o e _ _ => e, ⟨rfl, rfl, ha, hb, rfl⟩⟩
    · rintro i σ H1 hi ⟨ai, bi, as, vt, rfl, R1, kp1, sh⟩
      obtain ⟨t, ht⟩ : ∃ t, ps.length - i = t + 1 := ⟨ps.length - i - 1, by omega⟩
      have et : (ps.length : Int) + (i : Int) * -1 = ((t + 1 : Nat) : Int) := by omega
      rw [et]
      have hc : ps[i]? = some ps[i] := List.getElem?_eq_getElem hi
      have hcn : ps[i] < n := hps _ (List.getElem_mem hi)
      have hu1 : H1 u = some (.lst (nv ps)) := kp1 u _ hu hup huq
      refine ⟨_, rfl, _, rfl, _, rfl, u, _, rfl, .inl (SqL.of hu1), _, rfl, _, _, rfl, rfl, u, _, _, _, rfl, rfl, SqL.of hu1, at_of (j := i) (by rw [nv_len]; omega) (nv_get hc), ?_⟩
      refine ⟨_, rfl, p, q, n, ai, bi, m + i, ps[i], t + 1, as, rfl, R1, h0, h1, sh.bl, hcn, (by have := sh.len; omega), fun H4 R4 k4 => ?_⟩
      exact ⟨_, _, _, _, rfl, R4, fun c o e e1 e2 => k4 c o (kp1 c o e e1 e2) e1 e2, sh.step h0 ht hc⟩
    · rintro σ H1 ⟨ai, bi, as, vt, rfl, R1, kp1, sh⟩
      have e1 := sh.ask
      have e2 := sh.last
      rw [Nat.sub_self] at e1 e2
      rw [asks_zero] at e1
      simp only [List.flatMap_nil, List.append_nil] at e1
      subst e1
      obtain ⟨dx, hp1⟩ := R1.at_
      have haB : ai < Big := Nat.lt_trans sh.al h1
      refine ⟨_, rfl, p, C, dx, _, _, rfl, hp1, R.cl, R.a, rF_a _ _ _ _ _, _, rfl, p, C, dx, _, _, rfl, hp1, R.cl, R.a, rF_a _ _ _ _ _, _, _, rfl, rfl, mul_ok haB haB, _, rfl, p, C, dx, _, _, rfl, hp1, R.cl, R.n, rF_n _ _ _ _ _, ai * ai, n, rfl, h0, ?_⟩
      refine ⟨_, rfl, p, C, dx, _, _, rfl, hp1, R.cl, R.b, rF_b _ _ _ _ _, _, _, rfl, rfl, ?_⟩
      have e3 : decide ((Ks184.face n (ai * ai) : Int) = (bi : Int)) = shown n ps.length a b ps := by
        unfold shown
        rw [← e2]
        show _ = (Ks184.face n (ai * ai) == bi)
        rw [show (Ks184.face n (ai * ai) == bi) = decide (Ks184.face n (ai * ai) = bi) from rfl]
        exact decide_eq_decide.mpr (by omega)
      dsimp only
      rw [e3]
      exact kq H1 ai bi R1 kp1
end
end Tl
namespace Tl
open PySem PySem.Spec PyProof.Rows L2
open Ks184Neutral (number numbers bytes64 bytesOf)
/-! ### Work and Desk in the heap -/
def wF (n x k left now : Nat) : List (Str × V) := [("n", .int n), ("x", .int x), ("k", .int k), ("left", .int left), ("so_far", .int now)]
section
variable (n x k left now : Nat)
theorem wF_n : (wF n x k left now).lookup ("n" : Str) = some (.int n) := fl_hit
theorem wF_x : (wF n x k left now).lookup ("x" : Str) = some (.int x) := (fl_miss (by decide +kernel)).trans fl_hit
theorem wF_k : (wF n x k left now).lookup ("k" : Str) = some (.int k) := (fl_miss (by decide +kernel)).trans ((fl_miss (by decide +kernel)).trans fl_hit)
theorem wF_left : (wF n x k left now).lookup ("left" : Str) = some (.int left) := (fl_miss (by decide +kernel)).trans ((fl_miss (by decide +kernel)).trans ((fl_miss (by decide +kernel)).trans fl_hit))
theorem wF_now : (wF n x k left now).lookup ("so_far" : Str) = some (.int now) := (fl_miss (by decide +kernel)).trans ((fl_miss (by decide +kernel)).trans ((fl_miss (by decide +kernel)).trans ((fl_miss (by decide +kernel)).trans fl_hit)))
theorem wF_putL (y : Nat) : putF "left" (.int y) (wF n x k left now) = wF n x k y now :=
  (fp_miss (by decide +kernel)).trans (congrArg _ ((fp_miss (by decide +kernel)).trans (congrArg _ ((fp_miss (by decide +kernel)).trans (congrArg _ fp_hit)))))
theorem wF_putN (y : Nat) : putF "so_far" (.int y) (wF n x k left now) = wF n x k left y :=
  (fp_miss (by decide +kernel)).trans (congrArg _ ((fp_miss (by decide +kernel)).trans (congrArg _ ((fp_miss (by decide +kernel)).trans (congrArg _ ((fp_miss (by decide +kernel)).trans (congrArg _ fp_hit)))))))
theorem wF_new : putF "so_far" (.int x) (putF "left" (.int left) (putF "k" (.int k) (putF "x" (.int x) (putF "n" (.int n) [])))) = wF n x k left x := by
  have e1 : putF "x" (V.int x) ([("n", V.int n)] : List (Str × V)) = ([("n", V.int n), ("x", V.int x)] : List (Str × V)) := (fp_miss (by decide +kernel)).trans (rfl)
  have e2 : putF "k" (V.int k) ([("n", V.int n), ("x", V.int x)] : List (Str × V)) = ([("n", V.int n), ("x", V.int x), ("k", V.int k)] : List (Str × V)) := (fp_miss (by decide +kernel)).trans (congrArg _ ((fp_miss (by decide +kernel)).trans (rfl)))
  have e3 : putF "left" (V.int left) ([("n", V.int n), ("x", V.int x), ("k", V.int k)] : List (Str × V)) = ([("n", V.int n), ("x", V.int x), ("k", V.int k), ("left", V.int left)] : List (Str × V)) := (fp_miss (by decide +kernel)).trans (congrArg _ ((fp_miss (by decide +kernel)).trans (congrArg _ ((fp_miss (by decide +kernel)).trans (rfl)))))
  have e4 : putF "so_far" (V.int x) ([("n", V.int n), ("x", V.int x), ("k", V.int k), ("left", V.int left)] : List (Str × V)) = ([("n", V.int n), ("x", V.int x), ("k", V.int k), ("left", V.int left), ("so_far", V.int x)] : List (Str × V)) := (fp_miss (by decide +kernel)).trans (congrArg _ ((fp_miss (by decide +kernel)).trans (congrArg _ ((fp_miss (by decide +kernel)).trans (congrArg _ ((fp_miss (by decide +kernel)).trans (rfl)))))))
  show putF "so_far" (.int x) (putF "left" (.int left) (putF "k" (.int k) (putF "x" (.int x) ([("n", .int n)] : List (Str × V))))) = wF n x k left x
  rw [e1, e2, e3, e4]
  rfl
end
/-- a Work stands at a: what was begun -/
def WorkAt (C : Addr) (H : Hp) (a : Addr) (q : Ks184.Abs) : Prop := ∃ dx, H a = some (.ins C dx (wF q.what.n q.what.x q.what.k q.left q.now))
/-- what holds of what was begun -/
structure OkS (q : Ks184.Abs) : Prop where
  fit : q.what.fit = true
  big : q.what.n < Big
  now : q.now < q.what.n
structure Fit (n x k : Nat) : Prop where
  pos : 0 < n
  xl : x < n
  k1 : 1 ≤ k
  k20 : k ≤ 20
theorem small_lt {n x : Nat} (h0 : 0 < n) (h : Ks184.small n x = true) : x < n := by
  unfold Ks184.small at h
  rw [Bool.and_eq_true, decide_eq_true_iff, decide_eq_true_iff] at h
  have := h.2
  omega
theorem fit_of {n x k : Nat} (h : Ks184.What.fit ⟨n, x, k⟩ = true) : Fit n x k := by
  rw [fit_is] at h
  simp only [Bool.and_eq_true, decide_eq_true_iff] at h
  obtain ⟨_, h2, h3, _, h5, h6⟩ := h
  have h0 : 0 < n := Nat.lt_of_lt_of_le least_pos h2
  exact ⟨h0, small_lt h0 h3, h5, h6⟩
theorem OkS.f {q : Ks184.Abs} (o : OkS q) : Fit q.what.n q.what.x q.what.k := fit_of o.fit
theorem workS_left (q : Ks184.Abs) (k : Nat) : (workS q k).left = q.left - min k q.left := by
  unfold Ks184.Abs.left workS
  exact (Nat.sub_sub _ _ _).symm
theorem OkS.work {q : Ks184.Abs} (o : OkS q) (k : Nat) : OkS (workS q k) := ⟨o.fit, o.big, raised_lt _ o.f.pos _ _⟩
theorem OkS.begun {n x k : Nat} (h : Ks184.What.fit ⟨n, x, k⟩ = true) (hb : n < Big) : OkS (Ks184.begun ⟨n, x, k⟩) := ⟨h, hb, Nat.mod_lt _ (fit_of h).pos⟩
structure WTx (K : PySem.W.Frag) (C : Addr) : Prop where
  cl : Cls K C
  n : NoAttr K C "n"
  x : NoAttr K C "x"
  k : NoAttr K C "k"
  left : NoAttr K C "left"
  now : NoAttr K C "so_far"
section
variable {P : Program} {w : World} {K : PySem.W.Frag} {mg : Str → Option Value} {base : Heap} {C : Addr}
abbrev sWInit : Stmt := inClass (top 32) 0
def spWInit (C : Addr) : Sp := fun vs H Q _ => ∃ (p dx : Addr) (n x k : Nat), vs = [.ref p, .int (n : Int), .int (x : Int), .int (k : Int)] ∧ k ≤ 20 ∧ H p = some (.ins C dx []) ∧
  ∀ H' : Hp, H' p = some (.ins C dx (wF n x k (2 ^ k) x)) → (∀ c o, H c = some o → c ≠ p → H' c = some o) → Q .non H'
theorem scWInit : FnScope ["self", "n", "x", "k"] ["self", "n", "x", "k"] (defScope sWInit) := ⟨rfl, rfl, rfl, by decide +kernel, rfl, by decide +kernel, by decide +kernel⟩
theorem shl_int (k : Nat) : (1 : Int) * 2 ^ ((k : Int).toNat) = ((2 ^ k : Nat) : Int) := by
  rw [Int.toNat_natCast, Int.one_mul, Int.natCast_pow]
  rfl
theorem ok_wInit {f : Addr} {fd : FuncData} (F : Fun K "__init__" "Work.__init__" sWInit f fd) (W : WTx K C) : FnOk P w K mg base CX0 1 f fd ["self", "n", "x", "k"] (spWInit C) := by
  refine F.ok scWInit (fun vs H Q E h => ?_) (fun cdv A outer s H vs Q E hr h => ?_)
  · obtain ⟨p, dx, n, x, k, rfl, _⟩ := h
    rfl
  · obtain ⟨p, dx, n, x, k, rfl, hk, hp, kq⟩ := h
    refine ⟨_, pss_cons (ps_fld (pv 0) (pv 1) rfl) (pss_cons (ps_fld (pv 0) (pv 2) rfl) (pss_cons (ps_fld (pv 0) (pv 3) rfl) (pss_cons (ps_fld (pv 0) (pe_op op_shl pe_int (pv 3)) rfl) (pss_one (ps_fld (pv 0) (pv 2) rfl))))), ?_⟩
    refine ⟨_, rfl, _, rfl, p, C, dx, _, rfl, hp, W.cl, W.n, (by show 0 < 1000; decide), ?_⟩
    refine ⟨_, rfl, _, rfl, p, C, dx, _, rfl, upd_same, W.cl, W.x, (by show 1 < 1000; decide), ?_⟩
    refine ⟨_, rfl, _, rfl, p, C, dx, _, rfl, upd_same, W.cl, W.k, (by show 2 < 1000; decide), ?_⟩
    refine ⟨_, rfl, _, _, rfl, rfl, ⟨by omega, by omega, by decide⟩, _, rfl, p, C, dx, _, rfl, upd_same, W.cl, W.left, (by show 3 < 1000; decide), ?_⟩
    refine ⟨_, rfl, _, rfl, p, C, dx, _, rfl, upd_same, W.cl, W.now, (by show 4 < 1000; decide), ?_⟩
    refine kq _ (upd_same.trans (congrArg (fun z => some (HO.ins C dx z)) ?_)) fun c o e hc => by
      rw [upd_ne hc, upd_ne hc, upd_ne hc, upd_ne hc, upd_ne hc]
      exact e
    dsimp only
    rw [shl_int]
    exact wF_new n x k (2 ^ k)
/-! ### Desk -/
abbrev sDInit : Stmt := inClass (top 33) 0
def spDInit (C : Addr) : Sp := fun vs H Q _ => ∃ (p dx : Addr), vs = [.ref p] ∧ H p = some (.ins C dx []) ∧ ∀ H' : Hp, H' p = some (.ins C dx [("work", .non)]) → (∀ c o, H c = some o → c ≠ p → H' c = some o) → Q .non H'
theorem scDInit : FnScope ["self"] ["self"] (defScope sDInit) := ⟨rfl, rfl, rfl, by decide +kernel, rfl, by decide +kernel, by decide +kernel⟩
structure DTx (K : PySem.W.Frag) (C : Addr) : Prop where
  cl : Cls K C
  work : NoAttr K C "work"
theorem ok_dInit {f : Addr} {fd : FuncData} (F : Fun K "__init__" "Desk.__init__" sDInit f fd) (D : DTx K C) : FnOk P w K mg base CX0 1 f fd ["self"] (spDInit C) := by
  refine F.ok scDInit (fun vs H Q E h => ?_) (fun cdv A outer s H vs Q E hr h => ?_)
  · obtain ⟨p, dx, rfl, _⟩ := h
    rfl
  · obtain ⟨p, dx, rfl, hp, kq⟩ := h
    refine ⟨_, pss_one (ps_fld (pv 0) pe_non rfl), ?_⟩
    refine ⟨_, rfl, p, C, dx, _, rfl, hp, D.cl, D.work, (by show 0 < 1000; decide), ?_⟩
    exact kq _ upd_same fun c o e hc => by rw [upd_ne hc]; exact e
/-! ### alone -/
abbrev sAlone : Stmt := top 34
def spAlone : Sp := fun vs H Q _ => ∃ z : Int, vs = [.int z] ∧ NewL [z, 0] H Q
theorem scAlone : FnScope ["number"] ["number"] (defScope sAlone) := ⟨rfl, rfl, rfl, by decide +kernel, rfl, by decide +kernel, by decide +kernel⟩
theorem ok_alone {f : Addr} {fd : FuncData} (F : Fun K "alone" "alone" sAlone f fd) : FnOk P w K mg base CX0 1 f fd ["number"] spAlone := by
  refine F.ok scAlone (fun vs H Q E h => ?_) (fun cdv A outer s H vs Q E hr h => ?_)
  · obtain ⟨z, rfl, _⟩ := h
    rfl
  · obtain ⟨z, rfl, q⟩ := h
    refine ⟨_, pss_one (ps_ret (pe_lst (pa_cons (pv 0) (pa_cons pe_int pa_nil)))), ?_⟩
    exact ⟨_, rfl, le_size (by show 2 ≤ 16777216; decide), fun p hp => q _ p (same_new hp) hp upd_same⟩
/-! ### do_work -/
abbrev sWork : Stmt := top 37
/-- all but one object stands as it was -/
def But (p : Addr) (H H' : Hp) : Prop := ∀ c o, H c = some o → c ≠ p → H' c = some o
def spWork (C : Addr) : Sp := fun vs H Q _ => ∃ (a : Addr) (q : Ks184.Abs) (k : Nat), vs = [.ref a, .int (k : Int)] ∧ WorkAt C H a q ∧ OkS q ∧
  ∀ (H' : Hp) (p : Addr), WorkAt C H' a (workS q k) → But a H H' → H p = none → H' p = some (.lst (iv [((q.left - min k q.left : Nat) : Int), 0])) → Q (.ref p) H'
theorem scWork : FnScope ["work", "steps", "many"] ["work", "steps"] (defScope sWork) := ⟨rfl, rfl, rfl, by decide +kernel, rfl, by decide +kernel, by decide +kernel⟩
theorem left_lt {q : Ks184.Abs} (o : OkS q) : q.left < 2 ^ 32 := by
  have h1 : q.left ≤ 2 ^ q.what.k := Nat.sub_le _ _
  have h2 : 2 ^ q.what.k ≤ 2 ^ 20 := Nat.pow_le_pow_right (by decide) o.f.k20
  have h3 : (2 : Nat) ^ 20 < 2 ^ 32 := by decide
  omega
theorem min_int (k m : Nat) : (if (m : Int) < (k : Int) then (m : Int) else (k : Int)) = ((min k m : Nat) : Int) := by
  by_cases c : m < k
  · rw [if_pos (by omega)]
    omega
  · rw [if_neg (by omega)]
    omega
theorem ok_work {f : Addr} {fd : FuncData} (F : Fun K "do_work" "do_work" sWork f fd) (T : Tx mg) (W : WTx K C) (N : Nums P w K mg base) (Da : Df P w K mg base "alone" 1 ["number"] spAlone) : FnOk P w K mg base CX0 2 f fd ["work", "steps"] (spWork C) := by
  refine F.ok scWork (fun vs H Q E h => ?_) (fun cdv A outer s H vs Q E hr h => ?_)
  · obtain ⟨a, q, k, rfl, _⟩ := h
    rfl
  · obtain ⟨a, q, k, rfl, ⟨dx, ha⟩, ok, kq⟩ := h
    refine ⟨_, pss_cons (ps_set (i := 2) scWork.nd rfl (.inl rfl) (pe_callB (call_min2 rfl) (by rfl) T.minN (by decide +kernel) (pa_cons (pv 1) (pa_cons (pe_fld (pv 0) rfl) pa_nil))))
      (pss_cons (ps_fld (pv 0) (pe_df N.raised hr rfl (pa_cons (pe_fld (pv 0) rfl) (pa_cons (pv 2) (pa_cons (pe_fld (pv 0) rfl) pa_nil)))) rfl)
      (pss_cons (ps_fld (pv 0) (pe_op op_sub (pe_fld (pv 0) rfl) (pv 2)) rfl)
      (pss_one (ps_ret (pe_df Da hr rfl (pa_cons (pe_fld (pv 0) rfl) pa_nil)))))), ?_⟩
    have hl := left_lt ok
    refine ⟨_, rfl, _, rfl, a, C, dx, _, _, rfl, ha, W.cl, W.left, wF_left _ _ _ _ _, _, _, rfl, ?_⟩
    rw [min_int]
    refine ⟨_, rfl, a, C, dx, _, _, rfl, ha, W.cl, W.now, wF_now _ _ _ _ _, _, rfl, _, rfl, a, C, dx, _, _, rfl, ha, W.cl, W.n, wF_n _ _ _ _ _, q.now, min k q.left, q.what.n, rfl, ok.f.pos, ok.big, (by omega), ?_⟩
    refine ⟨_, rfl, a, C, dx, _, rfl, ha, W.cl, W.now, (by show 5 < 1000; decide), ?_⟩
    rw [wF_putN]
    refine ⟨_, rfl, a, C, dx, _, _, rfl, upd_same, W.cl, W.left, wF_left _ _ _ _ _, _, rfl, _, _, rfl, rfl, _, rfl, a, C, dx, _, rfl, upd_same, W.cl, W.left, (by show 5 < 1000; decide), ?_⟩
    have es : (q.left : Int) - ((min k q.left : Nat) : Int) = ((q.left - min k q.left : Nat) : Int) := by omega
    dsimp only
    rw [es, wF_putL, upd_upd]
    refine ⟨_, rfl, a, C, dx, _, _, rfl, upd_same, W.cl, W.left, wF_left _ _ _ _ _, _, rfl, fun H1 p s1 n1 h1 => ?_⟩
    refine kq H1 p ⟨dx, ?_⟩ (fun c o e hc => s1 c o (by rw [upd_ne hc]; exact e)) ?_ h1
    · rw [workS_left]
      exact s1 _ _ upd_same
    · by_cases hpa : p = a
      · rw [hpa, upd_same] at n1
        cases n1
      · rw [upd_ne hpa] at n1
        exact n1
/-! ### value -/
abbrev sValue : Stmt := top 38
def valueA (q : Ks184.Abs) : List Int := if 0 < q.left then [-1, 0] else 0 :: (bytes64 (Ks184.face q.what.n q.now) ++ [0])
def spValue (C : Addr) : Sp := fun vs H Q _ => ∃ (a : Addr) (q : Ks184.Abs), vs = [.ref a] ∧ WorkAt C H a q ∧ OkS q ∧ NewL (valueA q) H Q
theorem scValue : FnScope ["work"] ["work"] (defScope sValue) := ⟨rfl, rfl, rfl, by decide +kernel, rfl, by decide +kernel, by decide +kernel⟩
theorem ok_value {f : Addr} {fd : FuncData} (F : Fun K "value" "value" sValue f fd) (T : Tx mg) (W : WTx K C) (N : Nums P w K mg base) (Da : Df P w K mg base "alone" 1 ["number"] spAlone) : FnOk P w K mg base CX0 2 f fd ["work"] (spValue C) := by
  refine F.ok scValue (fun vs H Q E h => ?_) (fun cdv A outer s H vs Q E hr h => ?_)
  · obtain ⟨a, q, rfl, _⟩ := h
    rfl
  · obtain ⟨a, q, rfl, ⟨dx, ha⟩, ok, kq⟩ := h
    refine ⟨_, pss_cons (ps_if (pt_cmpR op_gt (pe_fld (pv 0) rfl) pe_int (nomark _)) (pss_one (ps_ret (pe_df Da hr rfl (pa_cons (pe_gi T.someLeft rfl) pa_nil)))) pss_nil)
      (pss_one (ps_ret (pe_op op_cat (pe_op op_cat (pe_lst (pa_cons pe_int pa_nil)) (pe_df N.bytes hr rfl (pa_cons (pe_df N.face hr rfl (pa_cons (pe_fld (pv 0) rfl) (pa_cons (pe_fld (pv 0) rfl) pa_nil))) pa_nil))) (pe_lst (pa_cons pe_int pa_nil))))), ?_⟩
    refine ⟨_, rfl, a, C, dx, _, _, rfl, ha, W.cl, W.left, wF_left _ _ _ _ _, _, _, rfl, rfl, _, rfl, ?_⟩
    unfold valueA at kq
    by_cases c : 0 < q.left
    · rw [if_pos c] at kq
      refine ifT (decide_eq_true (by omega)) ?_
      exact ⟨_, rfl, kq⟩
    · rw [if_neg c] at kq
      refine ifF (decide_eq_false (by omega)) ?_
      refine ⟨le_size (by decide), fun p0 n0 => ?_⟩
      have ha0 := same_new (o := .lst [V.int 0]) n0 _ _ ha
      refine ⟨_, rfl, a, C, dx, _, _, rfl, ha0, W.cl, W.now, wF_now _ _ _ _ _, _, rfl, a, C, dx, _, _, rfl, ha0, W.cl, W.n, wF_n _ _ _ _ _, q.now, q.what.n, rfl, ok.f.pos, _, rfl, fun H1 p1 s1 n1 h1 => ?_⟩
      have k1 : Same H H1 := (same_new n0).trans s1
      refine ⟨p0, p1, _, _, rfl, rfl, s1 _ _ upd_same, h1, le_size (by rw [iv_len, bytes64_len]; decide), fun p2 n2 => ?_⟩
      refine ⟨le_size (by decide), fun p3 n3 => ?_⟩
      have ne23 : p2 ≠ p3 := ne_of_none upd_same n3
      refine ⟨p2, p3, _, _, rfl, rfl, (by rw [upd_ne ne23]; exact upd_same), upd_same, le_size (by simp only [List.length_append, iv_len, bytes64_len]; decide), fun p4 n4 => ?_⟩
      have k3 := (k1.trans (same_new (o := .lst ([V.int 0] ++ iv (bytes64 (Ks184.face q.what.n q.now)))) n2)).trans (same_new (o := .lst [V.int 0]) n3)
      refine kq _ p4 (k3.trans (same_new n4)) (k3.free n4) ?_
      rw [upd_same]
      refine congrArg (fun z => some (HO.lst z)) ?_
      show iv [0] ++ iv (bytes64 (Ks184.face q.what.n q.now)) ++ iv [0] = iv (0 :: (bytes64 (Ks184.face q.what.n q.now) ++ [0]))
      rw [iv_app, iv_app]
      rfl
end
end Tl
namespace Tl
open PySem PySem.Spec PyProof.Rows L2
open Ks184Neutral (number numbers bytes64 bytesOf)
theorem asks_flat_len (n : Nat) : ∀ (t a b : Nat) (p : List Nat), ((Ks184.asks g n t a b p).flatMap rend).length = 194 * t
  | 0, _, _, _ => rfl
  | t + 1, a, b, p => by
    show (rend (.lot n a b (p.headD 0) (t + 1) _) ++ (Ks184.asks g n t _ _ (p.drop 1)).flatMap rend).length = _
    rw [List.length_append, rend_lot, lotL_len, asks_flat_len n t]
    omega
theorem proof_flat_len : ∀ (l : List Nat), (l.flatMap bytes64).length = 64 * l.length
  | [] => rfl
  | x :: l => by
    rw [List.flatMap_cons, List.length_append, bytes64_len, proof_flat_len l, List.length_cons]
    omega
/-- a new instance at x, its own list at q: what was tracked is neither -/
theorem new_ne {H : Hp} {x dx q c C : Addr} {o : HO} (nx : H x = none) (nd : H dx = none) (nq : upd (upd H dx (.own x)) x (.ins C dx []) q = none) (e : H c = some o) : c ≠ x ∧ c ≠ q := by
  have h1 : c ≠ x := ne_of_none e nx
  have h2 : c ≠ dx := ne_of_none e nd
  refine ⟨h1, ne_of_none (H := upd (upd H dx (.own x)) x (.ins C dx [])) (o := o) ?_ nq⟩
  rw [upd_ne h1, upd_ne h2]
  exact e
theorem RoundAt.same {C : Addr} {H H' : Hp} {p q : Addr} {n a b m : Nat} {l : List Int} (R : RoundAt C H p q n a b m l) (s : Same H H') : RoundAt C H' p q n a b m l := by
  obtain ⟨dx, h⟩ := R.at_
  exact ⟨⟨dx, s _ _ h⟩, s _ _ R.ask⟩
section
variable {P : Program} {w : World} {K : PySem.W.Frag} {mg : Str → Option Value} {base : Heap} {C CR : Addr}
/-! ### show -/
abbrev sShow : Stmt := top 39
def showA (q : Ks184.Abs) : List Int := if 0 < q.left then [-1, 0] else (q.what.k : Int) :: ((showP q).flatMap bytes64 ++ ((q.what.k : Int) :: (showE q).flatMap rend))
def spShow (C : Addr) : Sp := fun vs H Q _ => ∃ (a : Addr) (q : Ks184.Abs), vs = [.ref a] ∧ WorkAt C H a q ∧ OkS q ∧ NewL (showA q) H Q
theorem scShow : FnScope ["work", "own", "proof"] ["work"] (defScope sShow) := ⟨rfl, rfl, rfl, by decide +kernel, rfl, by decide +kernel, by decide +kernel⟩
theorem ok_show {f : Addr} {fd : FuncData} (F : Fun K "show" "show" sShow f fd) (T : Tx mg) (W : WTx K C) (R : RTx K CR) (N : Nums P w K mg base) (Da : Df P w K mg base "alone" 1 ["number"] spAlone)
    (Dr : Dc P w K mg base "Round" CR 1 ["self", "n", "a", "b"] (spRInit CR)) (Dp : Df P w K mg base "proof_of" 4 ["own", "k"] (spProof CR)) : FnOk P w K mg base CX0 5 f fd ["work"] (spShow C) := by
  refine F.ok scShow (fun vs H Q E h => ?_) (fun cdv A outer s H vs Q E hr h => ?_)
  · obtain ⟨a, q, rfl, _⟩ := h
    rfl
  · obtain ⟨a, q, rfl, ⟨dx, ha⟩, ok, kq⟩ := h
    have hr1 : Room 1 _ := hr.mono (by decide)
    have hr2 : Room (1 + 1) _ := hr.mono (by decide)
    refine ⟨_, pss_cons (ps_if (pt_cmpR op_gt (pe_fld (pv 0) rfl) pe_int (nomark _)) (pss_one (ps_ret (pe_df Da hr1 rfl (pa_cons (pe_gi T.someLeft rfl) pa_nil)))) pss_nil)
      (pss_cons (ps_set (i := 1) scShow.nd rfl (.inl rfl) (pe_dc Dr hr2 rfl (pa_cons (pe_fld (pv 0) rfl) (pa_cons (pe_fld (pv 0) rfl) (pa_cons (pe_df N.face hr1 rfl (pa_cons (pe_fld (pv 0) rfl) (pa_cons (pe_fld (pv 0) rfl) pa_nil))) pa_nil)))))
      (pss_cons (ps_set (i := 2) scShow.nd rfl (.inl rfl) (pe_df Dp hr rfl (pa_cons (pv 1) (pa_cons (pe_fld (pv 0) rfl) pa_nil))))
      (pss_one (ps_ret (pe_op op_cat (pe_op op_cat (pe_op op_cat (pe_lst (pa_cons (pe_fld (pv 0) rfl) pa_nil)) (pv 2)) (pe_lst (pa_cons (pe_fld (pv 1) rfl) pa_nil))) (pe_fld (pv 1) rfl)))))), ?_⟩
    refine ⟨_, rfl, a, C, dx, _, _, rfl, ha, W.cl, W.left, wF_left _ _ _ _ _, _, _, rfl, rfl, _, rfl, ?_⟩
    unfold showA at kq
    by_cases c : 0 < q.left
    · rw [if_pos c] at kq
      refine ifT (decide_eq_true (by omega)) ?_
      exact ⟨_, rfl, kq⟩
    rw [if_neg c] at kq
    refine ifF (decide_eq_false (by omega)) ?_
    -- own = Round(work.n, work.x, face(work.so_far, work.n))
    refine ⟨_, rfl, a, C, dx, _, _, rfl, ha, W.cl, W.n, wF_n _ _ _ _ _, _, rfl, a, C, dx, _, _, rfl, ha, W.cl, W.x, wF_x _ _ _ _ _, _, rfl, a, C, dx, _, _, rfl, ha, W.cl, W.now, wF_now _ _ _ _ _, _, rfl, a, C, dx, _, _, rfl, ha, W.cl, W.n, wF_n _ _ _ _ _, q.now, q.what.n, rfl, ok.f.pos, ?_⟩
    intro x ex nx nd ne
    refine ⟨x, ex, q.what.n, q.what.x, Ks184.face q.what.n q.now, rfl, upd_same, fun H2 y ny RA kp => ⟨rfl, ?_⟩⟩
    have s2 : Same H H2 := Same.made nx nd kp
    have ha2 := s2 _ _ ha
    -- proof = proof_of(own, work.k)
    refine ⟨_, rfl, _, rfl, a, C, dx, _, _, rfl, ha2, W.cl, W.k, wF_k _ _ _ _ _, x, y, q.what.n, q.what.x, Ks184.face q.what.n q.now, 0, q.what.k, [], rfl, RA, ok.f.pos, ok.big, face_lt _ _ ok.f.pos, ok.f.k20, Nat.zero_le _, fun H3 r a' b' nr hr3 R3 k3 => ?_⟩
    have s3 : Same H H3 := fun b o e => k3 b o (s2 _ _ e) (new_ne nx nd ny e).1 (new_ne nx nd ny e).2
    rw [List.nil_append, Nat.zero_add] at R3
    have lp : ((Ks184.proof g q.what.n q.what.k q.what.x (Ks184.face q.what.n q.now)).flatMap bytes64).length ≤ 1280 := by
      rw [proof_flat_len, proof_length]
      have := ok.f.k20
      omega
    have le : ((Ks184.asks g q.what.n q.what.k q.what.x (Ks184.face q.what.n q.now) (Ks184.proof g q.what.n q.what.k q.what.x (Ks184.face q.what.n q.now))).flatMap rend).length ≤ 3880 := by
      rw [asks_flat_len]
      have := ok.f.k20
      omega
    have ha3 := s3 _ _ ha
    have kq' : NewL ((q.what.k : Int) :: ((Ks184.proof g q.what.n q.what.k q.what.x (Ks184.face q.what.n q.now)).flatMap bytes64 ++ ((q.what.k : Int) :: (Ks184.asks g q.what.n q.what.k q.what.x (Ks184.face q.what.n q.now) (Ks184.proof g q.what.n q.what.k q.what.x (Ks184.face q.what.n q.now))).flatMap rend))) H Q := kq
    clear kq
    generalize (Ks184.asks g q.what.n q.what.k q.what.x (Ks184.face q.what.n q.now) (Ks184.proof g q.what.n q.what.k q.what.x (Ks184.face q.what.n q.now))).flatMap rend = as at *
    generalize (Ks184.proof g q.what.n q.what.k q.what.x (Ks184.face q.what.n q.now)).flatMap bytes64 = pb at *
    -- [work.k] + proof + [own.many] + own.asked
    refine ⟨_, rfl, a, C, dx, _, _, rfl, ha3, W.cl, W.k, wF_k _ _ _ _ _, le_size (by show 1 ≤ 16777216; decide), fun p0 n0 => ?_⟩
    have t0 := same_new (o := .lst [V.int (q.what.k : Int)]) n0
    refine ⟨_, rfl, p0, r, _, _, rfl, rfl, upd_same, t0 _ _ hr3, le_size (by rw [iv_len]; show 1 + pb.length ≤ _; omega), fun p1 n1 => ?_⟩
    have t1 := t0.trans (same_new (o := .lst ([V.int (q.what.k : Int)] ++ iv pb)) n1)
    obtain ⟨e1, hx1⟩ := (R3.same t1).at_
    refine ⟨_, rfl, x, CR, e1, _, _, rfl, hx1, R.cl, R.many, rF_many _ _ _ _ _, le_size (by show 1 ≤ 16777216; decide), fun p2 n2 => ?_⟩
    have t2 := t1.trans (same_new (o := .lst [V.int (q.what.k : Int)]) n2)
    have ne12 : p1 ≠ p2 := ne_of_none upd_same n2
    refine ⟨p1, p2, _, _, rfl, rfl, (by rw [upd_ne ne12]; exact upd_same), upd_same, le_size (by rw [List.length_append, iv_len]; show 1 + pb.length + 1 ≤ _; omega), fun p3 n3 => ?_⟩
    have t3 := t2.trans (same_new (o := .lst ([V.int (q.what.k : Int)] ++ iv pb ++ [V.int (q.what.k : Int)])) n3)
    obtain ⟨e3, hx3⟩ := (R3.same t3).at_
    refine ⟨_, rfl, x, CR, e3, _, _, rfl, hx3, R.cl, R.asked, rF_asked _ _ _ _ _, p3, y, _, _, rfl, rfl, upd_same, (R3.same t3).ask, le_size (by rw [List.length_append, List.length_append, iv_len, iv_len]; show 1 + pb.length + 1 + as.length ≤ _; omega), fun p4 n4 => ?_⟩
    have s4 := s3.trans t3
    refine kq' _ p4 (s4.trans (same_new n4)) (s4.free n4) ?_
    rw [upd_same]
    refine congrArg (fun z => some (HO.lst z)) ?_
    show iv [(q.what.k : Int)] ++ iv pb ++ iv [(q.what.k : Int)] ++ iv as = iv ((q.what.k : Int) :: (pb ++ ((q.what.k : Int) :: as)))
    rw [iv_app, iv_app, iv_app]
    simp only [List.append_assoc, List.cons_append, List.nil_append]
end
end Tl
namespace Tl
open PySem PySem.Spec PyProof.Rows L2
open Ks184Neutral (number numbers bytes64 bytesOf)
/-! ### [number_of(some) for some in ..] -/
theorem rows_lc {K : PySem.W.Frag} {H : Hp} {t D : Addr} {σ : L2.St} {Qd : Hp → Prop} {j : Nat} (rows : List (Addr × List Nat)) (hj : j < σ.length) (ht : SqL K H t (rows.map fun r => V.ref r.1)) (hrs : ∀ r ∈ rows, SqL K H r.1 (nv r.2)) (hz : rows.length ≤ 1000)
    (hD : H D = none) (q : Qd (upd H D (.lst (nv (rows.map fun r => number r.2))))) :
    ∃ W : Nat → Nat → Hp → Prop, (∃ m, W 0 m (upd H D (.lst []))) ∧ ∀ i m H2, W i m H2 → ((Itl K t).stop i H2 ∧ Qd H2) ∨ ((Itl K t).go i H2 ∧ ∃ Nx : Hp → Prop, (∀ H', Nx H' → ∃ m', m' < m ∧ W (i + 1) m' H') ∧
      ∀ x H', (Itl K t).yld i H2 x H' → gName j x (wipe σ [j]) H' fun σ2 H3 => wipe σ2 [j] = wipe σ [j] ∧ tYes σ2 H3 fun b H4 =>
        if b = true then tCall (spNumber K) [] E0 (tCons (tVar j) tNil) σ2 H4 fun y H5 => ∃ acc, H5 D = some (.lst acc) ∧ acc.length < sizeLine ∧ Nx (upd H5 D (.lst (acc ++ [y]))) else Nx H4) := by
  have sD : ∀ xs, Same H (upd H D (.lst xs)) := fun xs => same_new hD
  refine lc_list (K := K) (a := t) (xs := rows.map fun r => V.ref r.1) (fun i H' => H' = upd H D (.lst (nv ((rows.map fun r => number r.2).take i)))) rfl (fun i H' _ e => by rw [e]; exact (sD _).seq ht) ?_ ?_
  · rintro i y H' hi rfl
    rw [List.getElem?_map] at hi
    cases e : rows[i]? with
    | none =>
      rw [e] at hi
      cases hi
    | some r =>
      rw [e] at hi
      obtain rfl : V.ref r.1 = y := Option.some.inj hi
      have hm : r ∈ rows := List.mem_of_getElem? e
      have hl : i < rows.length := (List.getElem?_eq_some_iff.mp e).1
      refine ⟨?_, ?_⟩
      · show (((σ.set j none).set j (some (V.ref r.1))).set j none) = σ.set j none
        rw [List.set_set, List.set_set]
      · have hv : ((σ.set j none).set j (some (V.ref r.1)))[j]? = some (some (V.ref r.1)) := List.getElem?_set_self (by rw [List.length_set]; exact hj)
        refine ⟨_, hv, r.1, r.2, rfl, (sD _).seq (hrs r hm), _, upd_same, lt_size (by rw [nv_len, List.length_take, List.length_map]; omega), ?_⟩
        have hn : (rows.map fun r => number r.2)[i]? = some (number r.2) := by
          rw [List.getElem?_map, e]
          rfl
        rw [upd_upd, nv_snoc hn]
  · rintro H' rfl
    rw [List.length_map, List.take_of_length_le (by rw [List.length_map]; exact Nat.le_refl _)]
    exact q
section
variable {P : Program} {w : World} {K : PySem.W.Frag} {mg : Str → Option Value} {base : Heap} {C CR CD : Addr}
/-! ### seal -/
abbrev sSeal : Stmt := top 35
def spSeal (K : PySem.W.Frag) : Sp := fun vs H Q _ => ∃ (a a0 a1 a2 a3 : Addr) (k : Nat) (n x m l : List Nat), vs = [.int (k : Int), .ref a] ∧ SqL K H a [.ref a0, .ref a1, .ref a2, .ref a3] ∧ SqL K H a0 (nv n) ∧ SqL K H a1 (nv x) ∧ SqL K H a2 (nv m) ∧ SqL K H a3 (nv l) ∧
  By 64 n ∧ By 64 x ∧ By 64 m ∧ By 32 l ∧ k < 2 ^ 32 ∧ NewL (sealA k (number n) (number x) (number m) l) H Q
theorem scSeal : FnScope ["k", "lists", "n", "x", "m", "key", "some"] ["k", "lists"] (defScope sSeal) := ⟨rfl, rfl, rfl, by decide +kernel, rfl, by decide +kernel, by decide +kernel⟩
theorem big_520 : Big ≤ 2 ^ 520 := by
  rw [big_is]
  exact Nat.pow_le_pow_right (by decide) (by decide)
/-- the key's answer: [0] + .. + [1] + .. -/
theorem keyed {y : Nat} {l : List Nat} : iv [0] ++ iv (zs (Ks184.xor l (g.mix y))) ++ iv [1] ++ iv (1 :: bytes64 y) = iv (readA y l) := by
  rw [iv_app, iv_app, iv_app]
  unfold readA
  simp only [List.append_assoc, List.cons_append, List.nil_append]
theorem xor_len32 {l : List Nat} (h : By 32 l) (y : Nat) : (iv (zs (Ks184.xor l (g.mix y)))).length = 32 := by
  rw [nv_len, xor_len, h.len, mix_len]
  rfl
theorem ok_seal {f : Addr} {fd : FuncData} (F : Fun K "seal" "seal" sSeal f fd) (T : Tx mg) (N : Nums P w K mg base) (Da : Df P w K mg base "alone" 1 ["number"] spAlone) : FnOk P w K mg base CX0 3 f fd ["k", "lists"] (spSeal K) := by
  refine F.ok scSeal (fun vs H Q E h => ?_) (fun cdv A outer s H vs Q E hr h => ?_)
  · obtain ⟨a, a0, a1, a2, a3, k, n, x, m, l, rfl, _⟩ := h
    rfl
  · obtain ⟨a, a0, a1, a2, a3, k, n, x, m, l, rfl, hL, h0, h1, h2, h3, bn, bx, bm, bl, hk, kq⟩ := h
    have hr1 : Room 1 _ := hr.mono (by decide)
    refine ⟨_, pss_cons (ps_asg (pe_lc (own := [("some", 6)]) (g := gName 6) (tt := tYes) rfl scSeal.nd (pi_list (pe_slice sl_list (pv 1) po_none (po_some pe_int)))
        (blkOk_by (own := [("some", 6)]) (N := ["k", "lists", "n", "x", "m", "key", "some"]) (sc := defScope sSeal) (by decide +kernel)) (fun _ _ _ _ _ => pg_name (i := 6) scSeal.nd rfl (.inl rfl)) (fun _ _ _ _ _ => pts_nil)
        (fun _ _ _ _ _ => pe_df N.number hr1 rfl (pa_cons (pv 6) pa_nil)))
        (pg_unl rfl (pgs_cons (pg_name (i := 2) scSeal.nd rfl (.inl rfl)) (pgs_cons (pg_name (i := 3) scSeal.nd rfl (.inl rfl)) (pgs_cons (pg_name (i := 4) scSeal.nd rfl (.inl rfl)) pgs_nil)))))
      (pss_cons (ps_if (PW.pt (pw_or (pt_not (pt_val (pe_df N.fit hr rfl (pa_cons (pv 2) (pa_cons (pv 3) (pa_cons (pv 0) pa_nil)))))) (pw_or1 (pt_cmpR op_eq (pv 4) pe_int (nomark _))))) (pss_one (ps_ret (pe_df Da hr1 rfl (pa_cons (pe_gi T.notFit rfl) pa_nil)))) pss_nil)
      (pss_cons (ps_set (i := 5) scSeal.nd rfl (.inl rfl) (pe_df N.face hr1 rfl (pa_cons (pe_df N.powered hr1 rfl (pa_cons (pv 3) (pa_cons (pe_df N.raised hr1 rfl (pa_cons pe_int (pa_cons (pv 0) (pa_cons (pv 4) pa_nil)))) (pa_cons (pv 2) pa_nil)))) (pa_cons (pv 2) pa_nil))))
      (pss_one (ps_ret (pe_op op_cat (pe_op op_cat (pe_op op_cat (pe_lst (pa_cons pe_int pa_nil)) (pe_df N.mixed hr1 rfl (pa_cons (pe_ix ix_list (pv 1) pe_int (fun _ _ => rfl)) (pa_cons (pe_df N.pad hr rfl (pa_cons (pv 5) pa_nil)) pa_nil)))) (pe_lst (pa_cons pe_int pa_nil))) (pe_df N.padA hr rfl (pa_cons (pv 5) pa_nil))))))), ?_⟩
    -- n, x, m = ..
    refine ⟨_, rfl, _, rfl, a, _, rfl, hL, fun t ht => ?_⟩
    have st : Same H (upd H t (.lst [.ref a0, .ref a1, .ref a2])) := same_new ht
    refine ⟨t, rfl, ⟨_, SqL.of upd_same⟩, fun D hD => ?_⟩
    refine rows_lc (K := K) (t := t) (j := 6) [(a0, n), (a1, x), (a2, m)] (by show 6 < 7; decide) (SqL.of upd_same) (fun r hr => ?_) (by show 3 ≤ 1000; decide) hD ?_
    · simp only [List.mem_cons, List.not_mem_nil, or_false] at hr
      rcases hr with rfl | rfl | rfl
      · exact st.seq h0
      · exact st.seq h1
      · exact st.seq h2
    generalize hH1 : upd (upd H t _) D _ = H1
    have sD : Same H H1 := by
      rw [← hH1]
      exact st.trans (same_new hD)
    have hD1 : H1 D = some (.lst [V.int (number n : Int), V.int (number x : Int), V.int (number m : Int)]) := by
      rw [← hH1]
      exact upd_same
    refine ⟨D, [V.int (number n : Int), V.int (number x : Int), V.int (number m : Int)], rfl, SqL.of hD1, rfl, _, _, rfl, _, _, rfl, _, _, rfl, rfl, ?_⟩
    have bN := number_lt64 n bn.lt bn.len
    have bM := number_lt64 m bm.lt bm.len
    -- if not is_fit(n, x, k) or m == 0
    refine ⟨_, rfl, _, rfl, _, rfl, (number n), (number x), k, rfl, _, rfl, ?_⟩
    unfold sealA at kq
    by_cases cf : Ks184.What.fit ⟨(number n), (number x), k⟩ = true
    case neg =>
      have cf' : Ks184.What.fit ⟨(number n), (number x), k⟩ = false := by
        cases z : Ks184.What.fit ⟨(number n), (number x), k⟩ with
        | true => exact absurd z cf
        | false => rfl
      rw [if_pos (Or.inl cf')] at kq
      refine ifT (by rw [cf']; rfl) ?_
      refine iteT ?_
      exact ⟨_, rfl, fun H2 p s2 hp h2 => kq H2 p (sD.trans s2) (sD.free hp) h2⟩
    refine ifF (by rw [cf]; rfl) ?_
    refine ⟨_, rfl, rfl, _, rfl, ?_⟩
    by_cases cm : (number m) = 0
    · rw [if_pos (Or.inr cm)] at kq
      refine ifT (decide_eq_true (congrArg V.int (by omega))) ?_
      exact ⟨_, rfl, fun H2 p s2 hp h2 => kq H2 p (sD.trans s2) (sD.free hp) h2⟩
    refine ifF (decide_eq_false (fun z => cm (by injection z with z; omega))) ?_
    rw [if_neg (fun z => z.elim (fun z => by rw [cf] at z; cases z) cm)] at kq
    have ft := fit_of cf
    have hm0 : 0 < (number m) := by omega
    have he : Ks184.raised (number m) 2 k < 2 ^ 520 := Nat.lt_of_lt_of_le (Nat.lt_trans (raised_lt (number m) hm0 k 2) bM) big_520
    -- key = face(powered(x, raised(2, k, m), n), n)
    refine ⟨_, rfl, _, rfl, _, rfl, 2, k, (number m), rfl, hm0, bM, hk, ?_⟩
    refine ⟨_, rfl, (number x), Ks184.raised (number m) 2 k, (number n), rfl, ft.pos, bN, he, _, rfl, Ks184.power (number n) (number x) (Ks184.raised (number m) 2 k), (number n), rfl, ft.pos, ?_⟩
    have kq' : NewL (readA (Ks184.face (number n) (Ks184.power (number n) (number x) (Ks184.raised (number m) 2 k))) l) H Q := kq
    clear kq
    generalize Ks184.face (number n) (Ks184.power (number n) (number x) (Ks184.raised (number m) 2 k)) = y at *
    -- [0] + mixed(lists[3], pad_of(key)) + [1] + pad_asked(key)
    refine ⟨le_size (by decide), fun p0 n0 => ?_⟩
    have t0 := sD.trans (same_new (o := .lst [V.int 0]) n0)
    refine ⟨_, rfl, a, _, _, _, rfl, rfl, t0.seq hL, at_of (j := 3) rfl rfl, _, rfl, y, rfl, fun H2 p2 s2 n2 h2' => ?_⟩
    have t2 := t0.trans s2
    refine ⟨a3, p2, l, g.mix y, rfl, t2.seq h3, SqL.of h2', (by rw [bl.len]; decide), fun H3 p3 s3 n3 h3' => ?_⟩
    have t3 := t2.trans s3
    refine ⟨p0, p3, _, _, rfl, rfl, s3 _ _ (s2 _ _ upd_same), h3', le_size (by rw [xor_len32 bl]; decide), fun p4 n4 => ?_⟩
    have t4 := t3.trans (same_new (o := .lst ([V.int 0] ++ iv (zs (Ks184.xor l (g.mix y))))) n4)
    refine ⟨le_size (by decide), fun p5 n5 => ?_⟩
    have t5 := t4.trans (same_new (o := .lst [V.int 1]) n5)
    have ne45 : p4 ≠ p5 := ne_of_none upd_same n5
    refine ⟨p4, p5, _, _, rfl, rfl, (by rw [upd_ne ne45]; exact upd_same), upd_same, le_size (by rw [List.length_append, xor_len32 bl]; decide), fun p6 n6 => ?_⟩
    have t6 := t5.trans (same_new (o := .lst ([V.int 0] ++ iv (zs (Ks184.xor l (g.mix y))) ++ [V.int 1])) n6)
    refine ⟨_, rfl, y, rfl, fun H7 p7 s7 n7 h7 => ?_⟩
    have t7 := t6.trans s7
    refine ⟨p6, p7, _, _, rfl, rfl, s7 _ _ upd_same, h7, le_size (by rw [List.length_append, List.length_append, xor_len32 bl, iv_len]; show 1 + 32 + 1 + ((bytes64 y).length + 1) ≤ 16777216; rw [bytes64_len]; decide), fun p8 n8 => ?_⟩
    refine kq' _ p8 (t7.trans (same_new n8)) (t7.free n8) ?_
    rw [upd_same]
    exact congrArg (fun z => some (HO.lst z)) keyed
/-! ### read -/
abbrev sRead : Stmt := top 41
def spRead (K : PySem.W.Frag) : Sp := fun vs H Q _ => ∃ (a a0 a1 : Addr) (y l : List Nat), vs = [.ref a] ∧ SqL K H a [.ref a0, .ref a1] ∧ SqL K H a0 (nv y) ∧ SqL K H a1 (nv l) ∧ By 32 l ∧ NewL (readA (number y) l) H Q
theorem scRead : FnScope ["lists", "key"] ["lists"] (defScope sRead) := ⟨rfl, rfl, rfl, by decide +kernel, rfl, by decide +kernel, by decide +kernel⟩
theorem ok_read {f : Addr} {fd : FuncData} (F : Fun K "read" "read" sRead f fd) (N : Nums P w K mg base) : FnOk P w K mg base CX0 3 f fd ["lists"] (spRead K) := by
  refine F.ok scRead (fun vs H Q E h => ?_) (fun cdv A outer s H vs Q E hr h => ?_)
  · obtain ⟨a, a0, a1, y, l, rfl, _⟩ := h
    rfl
  · obtain ⟨a, a0, a1, y, l, rfl, hL, h0, h1, bl, kq⟩ := h
    have hr1 : Room 1 _ := hr.mono (by decide)
    refine ⟨_, pss_cons (ps_set (i := 1) scRead.nd rfl (.inl rfl) (pe_df N.number hr1 rfl (pa_cons (pe_ix ix_list (pv 0) pe_int (fun _ _ => rfl)) pa_nil)))
      (pss_one (ps_ret (pe_op op_cat (pe_op op_cat (pe_op op_cat (pe_lst (pa_cons pe_int pa_nil)) (pe_df N.mixed hr1 rfl (pa_cons (pe_ix ix_list (pv 0) pe_int (fun _ _ => rfl)) (pa_cons (pe_df N.pad hr rfl (pa_cons (pv 1) pa_nil)) pa_nil)))) (pe_lst (pa_cons pe_int pa_nil))) (pe_df N.padA hr rfl (pa_cons (pv 1) pa_nil))))), ?_⟩
    refine ⟨_, rfl, a, _, _, _, rfl, rfl, hL, at_of (j := 0) rfl rfl, a0, y, rfl, h0, ?_⟩
    generalize number y = y at *
    refine ⟨le_size (by decide), fun p0 n0 => ?_⟩
    have t0 := same_new (o := .lst [V.int 0]) n0
    refine ⟨_, rfl, a, _, _, _, rfl, rfl, t0.seq hL, at_of (j := 1) rfl rfl, _, rfl, y, rfl, fun H2 p2 s2 n2 h2' => ?_⟩
    have t2 := t0.trans s2
    refine ⟨a1, p2, l, g.mix y, rfl, t2.seq h1, SqL.of h2', (by rw [bl.len]; decide), fun H3 p3 s3 n3 h3' => ?_⟩
    have t3 := t2.trans s3
    refine ⟨p0, p3, _, _, rfl, rfl, s3 _ _ (s2 _ _ upd_same), h3', le_size (by rw [xor_len32 bl]; decide), fun p4 n4 => ?_⟩
    have t4 := t3.trans (same_new (o := .lst ([V.int 0] ++ iv (zs (Ks184.xor l (g.mix y))))) n4)
    refine ⟨le_size (by decide), fun p5 n5 => ?_⟩
    have t5 := t4.trans (same_new (o := .lst [V.int 1]) n5)
    have ne45 : p4 ≠ p5 := ne_of_none upd_same n5
    refine ⟨p4, p5, _, _, rfl, rfl, (by rw [upd_ne ne45]; exact upd_same), upd_same, le_size (by rw [List.length_append, xor_len32 bl]; decide), fun p6 n6 => ?_⟩
    have t6 := t5.trans (same_new (o := .lst ([V.int 0] ++ iv (zs (Ks184.xor l (g.mix y))) ++ [V.int 1])) n6)
    refine ⟨_, rfl, y, rfl, fun H7 p7 s7 n7 h7 => ?_⟩
    have t7 := t6.trans s7
    refine ⟨p6, p7, _, _, rfl, rfl, s7 _ _ upd_same, h7, le_size (by rw [List.length_append, List.length_append, xor_len32 bl, iv_len]; show 1 + 32 + 1 + ((bytes64 y).length + 1) ≤ 16777216; rw [bytes64_len]; decide), fun p8 n8 => ?_⟩
    refine kq _ p8 (t7.trans (same_new n8)) (t7.free n8) ?_
    rw [upd_same]
    exact congrArg (fun z => some (HO.lst z)) keyed
end
end Tl
namespace Tl
open PySem PySem.Spec PyProof.Rows L2
open Ks184Neutral (number numbers bytes64 bytesOf)
/-- what was begun stands at the desk -/
def Begun (CD CW : Addr) (H : Hp) (d dd : Addr) : Ks184Neutral.S → Prop
  | none => H d = some (.ins CD dd [("work", .non)])
  | some q => ∃ a, H d = some (.ins CD dd [("work", .ref a)]) ∧ WorkAt CW H a q ∧ OkS q
def DeskAt (CD CW : Addr) (H : Hp) (d : Addr) (s : Ks184Neutral.S) : Prop := ∃ dd, Begun CD CW H d dd s
theorem DeskAt.same {CD CW : Addr} {H H' : Hp} {d : Addr} {s : Ks184Neutral.S} (D : DeskAt CD CW H d s) (k : Same H H') : DeskAt CD CW H' d s := by
  obtain ⟨dd, h⟩ := D
  refine ⟨dd, ?_⟩
  cases s with
  | none => exact k _ _ h
  | some q =>
    obtain ⟨a, h1, ⟨dx, h2⟩, o⟩ := h
    exact ⟨a, k _ _ h1, ⟨dx, k _ _ h2⟩, o⟩
theorem DeskAt.fld {CD CW : Addr} {H : Hp} {d : Addr} {s : Ks184Neutral.S} (D : DeskAt CD CW H d s) : ∃ dd v, H d = some (.ins CD dd [("work", v)]) := by
  obtain ⟨dd, h⟩ := D
  cases s with
  | none => exact ⟨dd, _, h⟩
  | some q =>
    obtain ⟨a, h1, _⟩ := h
    exact ⟨dd, _, h1⟩
/-- all but the instances stands as it was -/
def KeptL (H H' : Hp) : Prop := ∀ c o, H c = some o → (∀ C dx fs, o ≠ .ins C dx fs) → H' c = some o
theorem keptL_of {H H' : Hp} (s : Same H H') : KeptL H H' := fun c o e _ => s c o e
/-- a call's end: its answer in a new list, the desk as the specification says -/
def Out (CD CW d : Addr) (r : Ks184Neutral.S × List Int) (H : Hp) (Q : VK) : Prop := ∀ (H' : Hp) (p : Addr), DeskAt CD CW H' d r.1 → KeptL H H' → H p = none → H' p = some (.lst (iv r.2)) → Q (.ref p) H'
theorem Out.new {CD CW d : Addr} {s : Ks184Neutral.S} {l : List Int} {H : Hp} {Q : VK} (o : Out CD CW d (s, l) H Q) (D : DeskAt CD CW H d s) : NewL l H Q := fun H' p sm hp h => o H' p (D.same sm) (keptL_of sm) hp h
section
variable {P : Program} {w : World} {K : PySem.W.Frag} {mg : Str → Option Value} {base : Heap} {CW CR CD : Addr}
/-! ### begin -/
abbrev sBegin : Stmt := top 36
def spBegin (K : PySem.W.Frag) (CD CW : Addr) : Sp := fun vs H Q _ => ∃ (d a a0 a1 : Addr) (k : Nat) (n x : List Nat) (s : Ks184Neutral.S), vs = [.ref d, .int (k : Int), .ref a] ∧ DeskAt CD CW H d s ∧ SqL K H a [.ref a0, .ref a1] ∧ SqL K H a0 (nv n) ∧ SqL K H a1 (nv x) ∧
  By 64 n ∧ By 64 x ∧ Out CD CW d (if Ks184.What.fit ⟨number n, number x, k⟩ = true then (some (Ks184.begun ⟨number n, number x, k⟩), [0, 0]) else (s, [-22, 0])) H Q
theorem scBegin : FnScope ["desk", "k", "lists", "n", "x", "some"] ["desk", "k", "lists"] (defScope sBegin) := ⟨rfl, rfl, rfl, by decide +kernel, rfl, by decide +kernel, by decide +kernel⟩
theorem ok_begin {f : Addr} {fd : FuncData} (F : Fun K "begin" "begin" sBegin f fd) (T : Tx mg) (DT : DTx K CD) (N : Nums P w K mg base) (Da : Df P w K mg base "alone" 1 ["number"] spAlone)
    (Dw : Dc P w K mg base "Work" CW 1 ["self", "n", "x", "k"] (spWInit CW)) : FnOk P w K mg base CX0 3 f fd ["desk", "k", "lists"] (spBegin K CD CW) := by
  refine F.ok scBegin (fun vs H Q E h => ?_) (fun cdv A outer s H vs Q E hr h => ?_)
  · obtain ⟨d, a, a0, a1, k, n, x, s, rfl, _⟩ := h
    rfl
  · obtain ⟨d, a, a0, a1, k, n, x, s, rfl, D, hL, h0, h1, bn, bx, kq⟩ := h
    have hr1 : Room 1 _ := hr.mono (by decide)
    refine ⟨_, pss_cons (ps_asg (pe_lc (own := [("some", 5)]) (g := gName 5) (tt := tYes) rfl scBegin.nd (pi_list (pv 2))
        (blkOk_by (own := [("some", 5)]) (N := ["desk", "k", "lists", "n", "x", "some"]) (sc := defScope sBegin) (by decide +kernel)) (fun _ _ _ _ _ => pg_name (i := 5) scBegin.nd rfl (.inl rfl)) (fun _ _ _ _ _ => pts_nil)
        (fun _ _ _ _ _ => pe_df N.number hr1 rfl (pa_cons (pv 5) pa_nil)))
        (pg_unl rfl (pgs_cons (pg_name (i := 3) scBegin.nd rfl (.inl rfl)) (pgs_cons (pg_name (i := 4) scBegin.nd rfl (.inl rfl)) pgs_nil))))
      (pss_cons (ps_if (pt_not (pt_val (pe_df N.fit hr rfl (pa_cons (pv 3) (pa_cons (pv 4) (pa_cons (pv 1) pa_nil)))))) (pss_one (ps_ret (pe_df Da hr1 rfl (pa_cons (pe_gi T.notFit rfl) pa_nil)))) pss_nil)
      (pss_cons (ps_fld (pv 0) (pe_dc Dw hr rfl (pa_cons (pv 3) (pa_cons (pv 4) (pa_cons (pv 1) pa_nil)))) rfl)
      (pss_one (ps_ret (pe_df Da hr1 rfl (pa_cons pe_int pa_nil)))))), ?_⟩
    refine ⟨_, rfl, a, rfl, ⟨_, hL⟩, fun L hLn => ?_⟩
    refine rows_lc (K := K) (t := a) (j := 5) [(a0, n), (a1, x)] (by show 5 < 6; decide) hL (fun r hr => ?_) (by show 2 ≤ 1000; decide) hLn ?_
    · simp only [List.mem_cons, List.not_mem_nil, or_false] at hr
      rcases hr with rfl | rfl
      · exact h0
      · exact h1
    generalize hH1 : upd H L _ = H1
    have s1 : Same H H1 := by
      rw [← hH1]
      exact same_new hLn
    have hL1 : H1 L = some (.lst [V.int (number n : Int), V.int (number x : Int)]) := by
      rw [← hH1]
      exact upd_same
    refine ⟨L, [V.int (number n : Int), V.int (number x : Int)], rfl, SqL.of hL1, rfl, _, _, rfl, _, _, rfl, rfl, ?_⟩
    have bN := number_lt64 n bn.lt bn.len
    refine ⟨_, rfl, _, rfl, _, rfl, number n, number x, k, rfl, _, rfl, ?_⟩
    by_cases cf : Ks184.What.fit ⟨number n, number x, k⟩ = true
    case neg =>
      rw [if_neg cf] at kq
      refine ifT (by rw [Bool.not_eq_true] at cf; rw [cf]; rfl) ?_
      exact ⟨_, rfl, fun H2 p s2 hp h2 => kq.new D H2 p (s1.trans s2) (s1.free hp) h2⟩
    rw [if_pos cf] at kq
    refine ifF (by rw [cf]; rfl) ?_
    have ft := fit_of cf
    -- desk.work = Work(n, x, k)
    refine ⟨_, rfl, _, rfl, _, rfl, ?_⟩
    intro y dy ny nd ne
    refine ⟨y, dy, number n, number x, k, rfl, ft.k20, upd_same, fun H2 hw kp => ⟨rfl, ?_⟩⟩
    have s2 : Same H1 H2 := Same.made ny nd kp
    obtain ⟨dd, v, hd⟩ := D.fld
    have hd1 := s1 _ _ hd
    have hd2 := s2 _ _ hd1
    have hyd : y ≠ d := fun e => by
      subst e
      rw [ny] at hd1
      cases hd1
    refine ⟨_, rfl, d, CD, dd, _, rfl, hd2, DT.cl, DT.work, (by show 1 < 1000; decide), ?_⟩
    refine ⟨0, rfl, fun H3 p s3 hp h3 => ?_⟩
    refine kq H3 p ⟨dd, y, ?_, ⟨dy, ?_⟩, OkS.begun cf bN⟩ ?_ ?_ h3
    · exact s3 _ _ (upd_same.trans (congrArg (fun z => some (HO.ins CD dd z)) fp_hit))
    · have e1 : number x % number n = number x := Nat.mod_eq_of_lt ft.xl
      refine s3 _ _ ?_
      rw [upd_ne hyd, hw]
      show some (HO.ins CW dy (wF (number n) (number x) k (2 ^ k) (number x))) = some (HO.ins CW dy (wF (number n) (number x) k (2 ^ k - 0) (number x % number n)))
      rw [e1, Nat.sub_zero]
    · intro c o e ni
      have hcd : c ≠ d := fun z => by
        subst z
        rw [hd] at e
        exact ni _ _ _ (Option.some.inj e).symm
      refine s3 _ _ ?_
      rw [upd_ne hcd]
      exact s2 _ _ (s1 _ _ e)
    · by_cases hpd : p = d
      · rw [hpd, upd_same] at hp
        cases hp
      · rw [upd_ne hpd] at hp
        exact (s1.trans s2).free hp
/-! ### right -/
abbrev sRight : Stmt := top 40
def spRight (K : PySem.W.Frag) : Sp := fun vs H Q _ => ∃ (a a0 a1 a2 a3 : Addr) (k : Nat) (n x y p : List Nat), vs = [.int (k : Int), .ref a] ∧ SqL K H a [.ref a0, .ref a1, .ref a2, .ref a3] ∧ SqL K H a0 (nv n) ∧ SqL K H a1 (nv x) ∧ SqL K H a2 (nv y) ∧ SqL K H a3 (nv p) ∧
  By 64 n ∧ (Ks184.What.fit ⟨number n, number x, k⟩ = true → p.length = 64 * k) ∧ NewL (rightA k (number n) (number x) (number y) (numbers p)) H Q
theorem scRight : FnScope ["k", "lists", "n", "x", "y", "numbers", "own", "found", "some"] ["k", "lists"] (defScope sRight) := ⟨rfl, rfl, rfl, by decide +kernel, rfl, by decide +kernel, by decide +kernel⟩
theorem ok_right {f : Addr} {fd : FuncData} (F : Fun K "right" "right" sRight f fd) (T : Tx mg) (R : RTx K CR) (N : Nums P w K mg base) (Da : Df P w K mg base "alone" 1 ["number"] spAlone)
    (Dn : Df P w K mg base "numbers_in" 2 ["proof"] (spNumbers K)) (De : Df P w K mg base "are_small" 2 ["numbers", "n"] (spAre K))
    (Dr : Dc P w K mg base "Round" CR 1 ["self", "n", "a", "b"] (spRInit CR)) (Ds : Df P w K mg base "is_shown" 4 ["own", "numbers"] (spShown CR)) : FnOk P w K mg base CX0 5 f fd ["k", "lists"] (spRight K) := by
  refine F.ok scRight (fun vs H Q E h => ?_) (fun cdv A outer s H vs Q E hr h => ?_)
  · obtain ⟨a, a0, a1, a2, a3, k, n, x, y, p, rfl, _⟩ := h
    rfl
  · obtain ⟨a, a0, a1, a2, a3, k, n, x, y, p, rfl, hL, h0, h1, h2, h3, bn, hp, kq⟩ := h
    have hr1 : Room 1 _ := hr.mono (by decide)
    have hr2 : Room 2 _ := hr.mono (by decide)
    refine ⟨_, pss_cons (ps_asg (pe_lc (own := [("some", 8)]) (g := gName 8) (tt := tYes) rfl scRight.nd (pi_list (pe_slice sl_list (pv 1) po_none (po_some pe_int)))
        (blkOk_by (own := [("some", 8)]) (N := ["k", "lists", "n", "x", "y", "numbers", "own", "found", "some"]) (sc := defScope sRight) (by decide +kernel)) (fun _ _ _ _ _ => pg_name (i := 8) scRight.nd rfl (.inl rfl)) (fun _ _ _ _ _ => pts_nil)
        (fun _ _ _ _ _ => pe_df N.number hr1 rfl (pa_cons (pv 8) pa_nil)))
        (pg_unl rfl (pgs_cons (pg_name (i := 2) scRight.nd rfl (.inl rfl)) (pgs_cons (pg_name (i := 3) scRight.nd rfl (.inl rfl)) (pgs_cons (pg_name (i := 4) scRight.nd rfl (.inl rfl)) pgs_nil)))))
      (pss_cons (ps_if (pt_not (pt_val (pe_df N.fit hr2 rfl (pa_cons (pv 2) (pa_cons (pv 3) (pa_cons (pv 0) pa_nil)))))) (pss_one (ps_ret (pe_df Da hr1 rfl (pa_cons (pe_gi T.notFit rfl) pa_nil)))) pss_nil)
      (pss_cons (ps_set (i := 5) scRight.nd rfl (.inl rfl) (pe_df Dn hr2 rfl (pa_cons (pe_ix ix_list (pv 1) pe_int (fun _ _ => rfl)) pa_nil)))
      (pss_cons (ps_if (PW.pt (pw_or (pt_not (pt_val (pe_df N.small hr1 rfl (pa_cons (pv 4) (pa_cons (pv 2) pa_nil))))) (pw_or1 (pt_not (pt_val (pe_df De hr2 rfl (pa_cons (pv 5) (pa_cons (pv 2) pa_nil)))))))) (pss_one (ps_ret (pe_df Da hr1 rfl (pa_cons (pe_gi T.notShown rfl) pa_nil)))) pss_nil)
      (pss_cons (ps_set (i := 6) scRight.nd rfl (.inl rfl) (pe_dc Dr hr2 rfl (pa_cons (pv 2) (pa_cons (pv 3) (pa_cons (pv 4) pa_nil)))))
      (pss_cons (ps_set (i := 7) scRight.nd rfl (.inl rfl) (pe_gi T.notShown rfl))
      (pss_cons (ps_if (pt_val (pe_df Ds hr rfl (pa_cons (pv 6) (pa_cons (pv 5) pa_nil)))) (pss_one (ps_set (i := 7) scRight.nd rfl (.inl rfl) pe_int)) pss_nil)
      (pss_one (ps_ret (pe_op op_cat (pe_lst (pa_cons (pv 7) (pa_cons (pe_fld (pv 6) rfl) pa_nil))) (pe_fld (pv 6) rfl)))))))))), ?_⟩
    -- n, x, y = ..
    refine ⟨_, rfl, _, rfl, a, _, rfl, hL, fun t ht => ?_⟩
    have st : Same H (upd H t (.lst [.ref a0, .ref a1, .ref a2])) := same_new ht
    refine ⟨t, rfl, ⟨_, SqL.of upd_same⟩, fun D hD => ?_⟩
    refine rows_lc (K := K) (t := t) (j := 8) [(a0, n), (a1, x), (a2, y)] (by show 8 < 9; decide) (SqL.of upd_same) (fun r hr => ?_) (by show 3 ≤ 1000; decide) hD ?_
    · simp only [List.mem_cons, List.not_mem_nil, or_false] at hr
      rcases hr with rfl | rfl | rfl
      · exact st.seq h0
      · exact st.seq h1
      · exact st.seq h2
    generalize hH1 : upd (upd H t _) D _ = H1
    have sD : Same H H1 := by
      rw [← hH1]
      exact st.trans (same_new hD)
    have hD1 : H1 D = some (.lst [V.int (number n : Int), V.int (number x : Int), V.int (number y : Int)]) := by
      rw [← hH1]
      exact upd_same
    refine ⟨D, [V.int (number n : Int), V.int (number x : Int), V.int (number y : Int)], rfl, SqL.of hD1, rfl, _, _, rfl, _, _, rfl, _, _, rfl, rfl, ?_⟩
    have bN := number_lt64 n bn.lt bn.len
    -- if not is_fit(n, x, k)
    refine ⟨_, rfl, _, rfl, _, rfl, number n, number x, k, rfl, _, rfl, ?_⟩
    unfold rightA at kq
    by_cases cf : Ks184.What.fit ⟨number n, number x, k⟩ = true
    case neg =>
      rw [Bool.not_eq_true] at cf
      rw [if_pos cf] at kq
      refine ifT (by rw [cf]; rfl) ?_
      exact ⟨_, rfl, fun H2 r s2 hr h2 => kq H2 r (sD.trans s2) (sD.free hr) h2⟩
    rw [if_neg (by rw [cf]; exact Bool.noConfusion)] at kq
    refine ifF (by rw [cf]; rfl) ?_
    have ft := fit_of cf
    have hlen := hp cf
    -- numbers = numbers_in(lists[3])
    refine ⟨_, rfl, a, _, _, _, rfl, rfl, sD.seq hL, at_of (j := 3) rfl rfl, a3, p, k, rfl, sD.seq h3, hlen, Nat.le_trans ft.k20 (by decide), fun H2 u s2 nu hu => ?_⟩
    have t2 := sD.trans s2
    have lk := numbers_len hlen
    generalize numbers p = ps at *
    -- if not is_small(y, n) or not are_small(numbers, n)
    refine ⟨_, rfl, _, rfl, number y, number n, rfl, ft.pos, _, rfl, ?_⟩
    cases c1 : Ks184.small (number n) (number y) with
    | false =>
      rw [if_pos (Or.inl c1)] at kq
      refine iteT ?_
      refine iteT ?_
      exact ⟨_, rfl, fun H3 r s3 hr h3 => kq H3 r (t2.trans s3) (t2.free hr) h3⟩
    | true =>
      refine iteF ?_
      refine ⟨_, rfl, _, rfl, u, ps, number n, rfl, SqL.of hu, (by have := ft.k20; omega), ft.pos, fun H3 s3 => ⟨_, rfl, ?_⟩⟩
      have t3 := t2.trans s3
      cases c2 : ps.all (Ks184.small (number n)) with
      | false =>
        rw [if_pos (Or.inr c2)] at kq
        refine iteT ?_
        exact ⟨_, rfl, fun H4 r s4 hr h4 => kq H4 r (t3.trans s4) (t3.free hr) h4⟩
      | true =>
        rw [if_neg (fun z => z.elim (fun z => by rw [c1] at z; cases z) (fun z => by rw [c2] at z; cases z))] at kq
        refine iteF ?_
        -- own = Round(n, x, y)
        refine ⟨_, rfl, _, rfl, _, rfl, ?_⟩
        intro o dxo no ndo neo
        refine ⟨o, dxo, number n, number x, number y, rfl, upd_same, fun H4 q nq RA kp => ⟨rfl, ?_⟩⟩
        have s4 : Same H3 H4 := Same.made no ndo kp
        have hu3 := s3 _ _ hu
        have hu4 := s4 _ _ hu3
        have huq : u ≠ q := (new_ne no ndo nq hu3).2
        have hall : ∀ c ∈ ps, c < number n := fun c hc => small_lt ft.pos (List.all_eq_true.mp c2 c hc)
        -- if is_shown(own, numbers)
        refine ⟨_, rfl, _, rfl, o, q, u, number n, number x, number y, 0, ps, [], rfl, RA, hu4, huq, ft.pos, bN, ft.xl, small_lt ft.pos c1, hall, (by have := ft.k20; omega), Nat.zero_le _, fun H5 a' b' R5 k5 => ⟨_, rfl, ?_⟩⟩
        rw [List.nil_append, Nat.zero_add, lk] at R5
        rw [lk]
        have t5 : Same H H5 := fun b z e => k5 b z (s4 _ _ (t3 _ _ e)) (new_ne no ndo nq (t3 _ _ e)).1 (new_ne no ndo nq (t3 _ _ e)).2
        have le : ((Ks184.asks g (number n) k (number x) (number y) ps).flatMap rend).length ≤ 3880 := by
          rw [asks_flat_len]
          have := ft.k20
          omega
        generalize (Ks184.asks g (number n) k (number x) (number y) ps).flatMap rend = as at *
        obtain ⟨e5, ho5⟩ := R5.at_
        have fin : ∀ z : Int, NewL (z :: ((k : Int) :: as)) H Q → tRet (tOp rCat (tLst (tCons (tVar 7) (tCons (tFld K (tVar 6) "many") tNil))) (tFld K (tVar 6) "asked")) { nx := fun _ H' => Q .non H', rt := Q }
            [some (.int (k : Int)), some (.ref a), some (.int (number n : Int)), some (.int (number x : Int)), some (.int (number y : Int)), some (.ref u), some (.ref o), some (.int z), none] H5 := by
          intro z kz
          refine ⟨_, rfl, _, rfl, o, CR, e5, _, _, rfl, ho5, R.cl, R.many, rF_many _ _ _ _ _, le_size (by show 2 ≤ 16777216; decide), fun p6 n6 => ?_⟩
          have t6 := same_new (o := .lst [V.int z, V.int (k : Int)]) n6
          obtain ⟨e6, ho6⟩ := (R5.same t6).at_
          refine ⟨_, rfl, o, CR, e6, _, _, rfl, ho6, R.cl, R.asked, rF_asked _ _ _ _ _, p6, q, _, _, rfl, rfl, upd_same, (R5.same t6).ask, le_size (by rw [iv_len]; show 2 + as.length ≤ 16777216; omega), fun p7 n7 => ?_⟩
          have t7 := t5.trans t6
          exact kz _ p7 (t7.trans (same_new n7)) (t7.free n7) upd_same
        cases c3 : shown (number n) k (number x) (number y) ps with
        | true =>
          rw [if_pos c3] at kq
          exact iteT (fin 0 kq)
        | false =>
          rw [if_neg (by rw [c3]; exact Bool.noConfusion)] at kq
          exact iteF (fin (-13) kq)
end
end Tl
namespace Tl
open PySem PySem.Spec PyProof.Rows L2
open Ks184Neutral (number numbers bytes64 bytesOf)
theorem int_ne {i j : Int} (h : i ≠ j) : decide (V.int i = V.int j) = false := decide_eq_false fun z => h (V.int.inj z)
theorem int_eq {i j : Int} (h : i = j) : decide (V.int i = V.int j) = true := decide_eq_true (congrArg V.int h)
/-- the calls on what was begun: the number, the whole numbers, the call -/
inductive OfC : Int → List Int → List (List Int) → Prop
  | work (k : Nat) (hk : k < 2 ^ 32) : OfC 2 [(k : Int)] [[2, (k : Int)]]
  | value : OfC 3 [] [[3]]
  | show_ : OfC 4 [] [[4]]
theorem OfC.none {kind : Int} {ws : List Int} {c : List (List Int)} (h : OfC kind ws c) : Ks184Neutral.step Option.none c = (Option.none, [-61]) := by
  cases h <;> rfl
theorem OfC.kinds {kind : Int} {ws : List Int} {c : List (List Int)} (h : OfC kind ws c) : kind = 2 ∨ kind = 3 ∨ kind = 4 := by
  cases h
  · exact .inl rfl
  · exact .inr (.inl rfl)
  · exact .inr (.inr rfl)
section
variable {P : Program} {w : World} {K : PySem.W.Frag} {mg : Str → Option Value} {base : Heap} {CW CR CD : Addr}
/-! ### of_work -/
abbrev sOf : Stmt := top 42
/-- the desk's field -/
def FieldAt (CD CW : Addr) (H : Hp) (d dd : Addr) (v : V) : Ks184Neutral.S → Prop
  | none => v = .non ∧ H d = some (.ins CD dd [("work", .non)])
  | some q => ∃ a, v = .ref a ∧ H d = some (.ins CD dd [("work", .ref a)]) ∧ WorkAt CW H a q ∧ OkS q
theorem DeskAt.field {H : Hp} {d : Addr} {s : Ks184Neutral.S} (D : DeskAt CD CW H d s) : ∃ dd v, H d = some (.ins CD dd [("work", v)]) ∧ FieldAt CD CW H d dd v s := by
  obtain ⟨dd, h⟩ := D
  cases s with
  | none => exact ⟨dd, _, h, rfl, h⟩
  | some q =>
    obtain ⟨a, h1, h2, h3⟩ := h
    exact ⟨dd, _, h1, a, rfl, h1, h2, h3⟩
def spOf (K : PySem.W.Frag) (CD CW : Addr) : Sp := fun vs H Q _ => ∃ (d dd b : Addr) (v : V) (kind : Int) (ws : List Int) (c : List (List Int)) (s : Ks184Neutral.S), vs = [v, .int kind, .ref b] ∧ FieldAt CD CW H d dd v s ∧ SqL K H b (iv ws) ∧ OfC kind ws c ∧ Out CD CW d (Ks184Neutral.step s c) H Q
theorem scOf : FnScope ["work", "kind", "wholes"] ["work", "kind", "wholes"] (defScope sOf) := ⟨rfl, rfl, rfl, by decide +kernel, rfl, by decide +kernel, by decide +kernel⟩
theorem ok_of {f : Addr} {fd : FuncData} (F : Fun K "of_work" "of_work" sOf f fd) (T : Tx mg) (Dw : Df P w K mg base "do_work" 2 ["work", "steps"] (spWork CW)) (Dv : Df P w K mg base "value" 2 ["work"] (spValue CW)) (Ds : Df P w K mg base "show" 5 ["work"] (spShow CW)) :
    FnOk P w K mg base CX0 6 f fd ["work", "kind", "wholes"] (spOf K CD CW) := by
  refine F.ok scOf (fun vs H Q E h => ?_) (fun cdv A outer s H vs Q E hr h => ?_)
  · obtain ⟨d, dd, b, v, kind, ws, c, s, rfl, _⟩ := h
    rfl
  · obtain ⟨d, dd, b, v, kind, ws, c, s, rfl, D, hb, hc, kq⟩ := h
    have hr2 : Room 2 _ := hr.mono (by decide)
    refine ⟨_, pss_cons (ps_if (pt_cmpR op_isN (pv 0) pe_non (nomark _)) (pss_one (ps_ret (pe_lst (pa_cons (pe_gi T.notBegun rfl) pa_nil)))) pss_nil)
      (pss_cons (ps_if (pt_cmpR op_eq (pv 1) pe_int (nomark _)) (pss_one (ps_ret (pe_df Dw hr2 rfl (pa_cons (pv 0) (pa_cons (pe_ix ix_list (pv 2) pe_int (fun _ _ => rfl)) pa_nil))))) pss_nil)
      (pss_cons (ps_if (pt_cmpR op_eq (pv 1) pe_int (nomark _)) (pss_one (ps_ret (pe_df Dv hr2 rfl (pa_cons (pv 0) pa_nil)))) pss_nil)
      (pss_one (ps_ret (pe_df Ds hr rfl (pa_cons (pv 0) pa_nil)))))), ?_⟩
    refine ⟨_, rfl, rfl, _, rfl, ?_⟩
    cases s with
    | none =>
      obtain ⟨rfl, hd⟩ := D
      refine ifT (decide_eq_true rfl) ?_
      refine ⟨le_size (by decide), fun p hp => ?_⟩
      rw [hc.none] at kq
      exact kq.new (s := none) ⟨dd, hd⟩ _ p (same_new hp) hp upd_same
    | some q =>
      obtain ⟨a, rfl, hd, ⟨dx, ha⟩, ok⟩ := D
      have hda : d ≠ a := ne_of hd ha (fun z => by
        have z2 := congrArg List.length (HO.ins.inj z).2.2
        exact absurd z2 (by show ¬ 1 = 5; decide))
      refine ifF (decide_eq_false (fun z => nomatch z)) ?_
      refine ⟨_, rfl, rfl, _, rfl, ?_⟩
      cases hc with
      | work k hk =>
        refine ifT (int_eq rfl) ?_
        refine ⟨_, rfl, _, rfl, b, _, _, _, rfl, rfl, hb, at_of (j := 0) rfl rfl, a, q, k, rfl, ⟨dx, ha⟩, ok, fun H' p hw hbut hp h' => ?_⟩
        rw [step_work] at kq
        refine kq H' p ⟨dd, a, hbut _ _ hd hda, hw, ok.work k⟩ (fun c o e ni => hbut c o e fun z => ?_) hp h'
        subst z
        rw [ha] at e
        exact ni _ _ _ (Option.some.inj e).symm
      | value =>
        refine ifF (int_ne (by decide)) ?_
        refine ⟨_, rfl, rfl, _, rfl, ?_⟩
        refine ifT (int_eq rfl) ?_
        rw [step_value] at kq
        exact ⟨_, rfl, a, q, rfl, ⟨dx, ha⟩, ok, kq.new ⟨dd, a, hd, ⟨dx, ha⟩, ok⟩⟩
      | show_ =>
        refine ifF (int_ne (by decide)) ?_
        refine ⟨_, rfl, rfl, _, rfl, ?_⟩
        refine ifF (int_ne (by decide)) ?_
        rw [step_show] at kq
        exact ⟨_, rfl, a, q, rfl, ⟨dx, ha⟩, ok, kq.new ⟨dd, a, hd, ⟨dx, ha⟩, ok⟩⟩
/-! ### answered -/
abbrev sAnswered : Stmt := top 43
def spAnswered (K : PySem.W.Frag) (CD CW : Addr) : Sp := fun vs H Q _ => ∃ (d b e : Addr) (kind : Int) (ws : List Int) (rs : List (Addr × List Int)) (s : Ks184Neutral.S), vs = [.ref d, .int kind, .ref b, .ref e] ∧ DeskAt CD CW H d s ∧ SqL K H b (iv ws) ∧ SqL K H e (rs.map fun r => V.ref r.1) ∧ (∀ r ∈ rs, SqL K H r.1 (iv r.2)) ∧
  OkC ((kind :: ws) :: rs.map Prod.snd) ∧ Out CD CW d (Ks184Neutral.step s ((kind :: ws) :: rs.map Prod.snd)) H Q
theorem scAnswered : FnScope ["desk", "kind", "wholes", "lists"] ["desk", "kind", "wholes", "lists"] (defScope sAnswered) := ⟨rfl, rfl, rfl, by decide +kernel, rfl, by decide +kernel, by decide +kernel⟩
theorem map0 {rs : List (Addr × List Int)} (h : rs.map Prod.snd = []) : rs = [] := List.map_eq_nil_iff.mp h
theorem map_c {rs : List (Addr × List Int)} {x : List Int} {xs : List (List Int)} (h : rs.map Prod.snd = x :: xs) : ∃ (a : Addr) (r : List (Addr × List Int)), rs = (a, x) :: r ∧ r.map Prod.snd = xs := by
  cases rs with
  | nil => cases h
  | cons y r =>
    obtain ⟨h1, h2⟩ := List.cons.inj h
    obtain ⟨a, z⟩ := y
    dsimp only at h1
    subst h1
    exact ⟨a, r, rfl, h2⟩
theorem map2 {rs : List (Addr × List Int)} {x y : List Int} (h : rs.map Prod.snd = [x, y]) : ∃ a b : Addr, rs = [(a, x), (b, y)] := by
  obtain ⟨a, r, rfl, h1⟩ := map_c h
  obtain ⟨b, r2, rfl, h2⟩ := map_c h1
  obtain rfl := map0 h2
  exact ⟨a, b, rfl⟩
theorem map4 {rs : List (Addr × List Int)} {x y z u : List Int} (h : rs.map Prod.snd = [x, y, z, u]) : ∃ a b c d : Addr, rs = [(a, x), (b, y), (c, z), (d, u)] := by
  obtain ⟨a, r, rfl, h1⟩ := map_c h
  obtain ⟨b, r2, rfl, h2⟩ := map_c h1
  obtain ⟨c, d, rfl⟩ := map2 h2
  exact ⟨a, b, c, d, rfl⟩
theorem okC_kind {c : List (List Int)} {kind : Int} {ws : List Int} {rs : List (List Int)} (h : OkC c) (e : c = (kind :: ws) :: rs) :
    (∃ (k : Nat) (n x m l : List Nat), kind = 0 ∧ ws = [(k : Int)] ∧ rs = [zs n, zs x, zs m, zs l] ∧ KOk k ∧ By 64 n ∧ By 64 x ∧ By 64 m ∧ By 32 l) ∨
    (∃ (k : Nat) (n x : List Nat), kind = 1 ∧ ws = [(k : Int)] ∧ rs = [zs n, zs x] ∧ KOk k ∧ By 64 n ∧ By 64 x) ∨
    (rs = [] ∧ OfC kind ws c) ∨
    (∃ (k : Nat) (n x y p : List Nat), kind = 5 ∧ ws = [(k : Int)] ∧ rs = [zs n, zs x, zs y, zs p] ∧ KOk k ∧ By 64 n ∧ By 64 x ∧ By 64 y ∧ (Ks184.What.fit ⟨number n, number x, k⟩ = true → p.length = 64 * k)) ∨
    (∃ (y l : List Nat), kind = 6 ∧ ws = [] ∧ rs = [zs y, zs l] ∧ By 64 y ∧ By 32 l) := by
  cases h with
  | seal_ k n x m l hk hn hx hm hl =>
    cases e
    exact .inl ⟨k, n, x, m, l, rfl, rfl, rfl, hk, hn, hx, hm, hl⟩
  | begin_ k n x hk hn hx =>
    cases e
    exact .inr (.inl ⟨k, n, x, rfl, rfl, rfl, hk, hn, hx⟩)
  | work k hk =>
    cases e
    exact .inr (.inr (.inl ⟨rfl, .work k hk⟩))
  | value =>
    cases e
    exact .inr (.inr (.inl ⟨rfl, .value⟩))
  | show_ =>
    cases e
    exact .inr (.inr (.inl ⟨rfl, .show_⟩))
  | right k n x y p hk hn hx hy hp hp2 hp3 =>
    cases e
    exact .inr (.inr (.inr (.inl ⟨k, n, x, y, p, rfl, rfl, rfl, hk, hn, hx, hy, hp2⟩)))
  | read y l hy hl =>
    cases e
    exact .inr (.inr (.inr (.inr ⟨y, l, rfl, rfl, rfl, hy, hl⟩)))
theorem ok_answered {f : Addr} {fd : FuncData} (F : Fun K "answered" "answered" sAnswered f fd) (DT : DTx K CD) (D0 : Df P w K mg base "seal" 3 ["k", "lists"] (spSeal K)) (D1 : Df P w K mg base "begin" 3 ["desk", "k", "lists"] (spBegin K CD CW))
    (D5 : Df P w K mg base "right" 5 ["k", "lists"] (spRight K)) (D6 : Df P w K mg base "read" 3 ["lists"] (spRead K)) (Do : Df P w K mg base "of_work" 6 ["work", "kind", "wholes"] (spOf K CD CW)) : FnOk P w K mg base CX0 7 f fd ["desk", "kind", "wholes", "lists"] (spAnswered K CD CW) := by
  refine F.ok scAnswered (fun vs H Q E h => ?_) (fun cdv A outer s H vs Q E hr h => ?_)
  · obtain ⟨d, b, e, kind, ws, rs, s, rfl, _⟩ := h
    rfl
  · obtain ⟨d, b, e, kind, ws, rs, s, rfl, D, hb, he, hrs, ok, kq⟩ := h
    have hr3 : Room 3 _ := hr.mono (by decide)
    have hr5 : Room 5 _ := hr.mono (by decide)
    refine ⟨_, pss_cons (ps_if (pt_cmpR op_eq (pv 1) pe_int (nomark _)) (pss_one (ps_ret (pe_df D0 hr3 rfl (pa_cons (pe_ix ix_list (pv 2) pe_int (fun _ _ => rfl)) (pa_cons (pv 3) pa_nil))))) pss_nil)
      (pss_cons (ps_if (pt_cmpR op_eq (pv 1) pe_int (nomark _)) (pss_one (ps_ret (pe_df D1 hr3 rfl (pa_cons (pv 0) (pa_cons (pe_ix ix_list (pv 2) pe_int (fun _ _ => rfl)) (pa_cons (pv 3) pa_nil)))))) pss_nil)
      (pss_cons (ps_if (pt_cmpR op_eq (pv 1) pe_int (nomark _)) (pss_one (ps_ret (pe_df D5 hr5 rfl (pa_cons (pe_ix ix_list (pv 2) pe_int (fun _ _ => rfl)) (pa_cons (pv 3) pa_nil))))) pss_nil)
      (pss_cons (ps_if (pt_cmpR op_eq (pv 1) pe_int (nomark _)) (pss_one (ps_ret (pe_df D6 hr3 rfl (pa_cons (pv 3) pa_nil)))) pss_nil)
      (pss_one (ps_ret (pe_df Do hr rfl (pa_cons (pe_fld (pv 0) rfl) (pa_cons (pv 1) (pa_cons (pv 2) pa_nil))))))))), ?_⟩
    refine ⟨_, rfl, rfl, _, rfl, ?_⟩
    rcases okC_kind ok rfl with ⟨k, n, x, m, l, rfl, rfl, er, hk, hn, hx, hm, hl⟩ | ⟨k, n, x, rfl, rfl, er, hk, hn, hx⟩ | ⟨er, hof⟩ | ⟨k, n, x, y, p, rfl, rfl, er, hk, hn, hx, hy, hp⟩ | ⟨y, l, rfl, rfl, er, hy, hl⟩
    · rw [er, step_seal] at kq
      obtain ⟨a0, a1, a2, a3, rfl⟩ := map4 er
      refine ifT (int_eq rfl) ?_
      exact ⟨_, rfl, b, _, _, _, rfl, rfl, hb, at_of (j := 0) rfl rfl, _, rfl, e, a0, a1, a2, a3, k, n, x, m, l, rfl, he, hrs (a0, zs n) (by simp), hrs (a1, zs x) (by simp), hrs (a2, zs m) (by simp), hrs (a3, zs l) (by simp), hn, hx, hm, hl, hk.1, kq.new D⟩
    · rw [er, step_begin] at kq
      obtain ⟨a0, a1, rfl⟩ := map2 er
      refine ifF (int_ne (by decide)) ?_
      refine ⟨_, rfl, rfl, _, rfl, ifT (int_eq rfl) ?_⟩
      exact ⟨_, rfl, _, rfl, b, _, _, _, rfl, rfl, hb, at_of (j := 0) rfl rfl, _, rfl, d, e, a0, a1, k, n, x, s, rfl, D, he, hrs (a0, zs n) (by simp), hrs (a1, zs x) (by simp), hn, hx, kq⟩
    · obtain ⟨dd, v, hd, hf⟩ := D.field
      have h4 := hof.kinds
      refine ifF (int_ne (by omega)) ?_
      refine ⟨_, rfl, rfl, _, rfl, ifF (int_ne (by omega)) ?_⟩
      refine ⟨_, rfl, rfl, _, rfl, ifF (int_ne (by omega)) ?_⟩
      refine ⟨_, rfl, rfl, _, rfl, ifF (int_ne (by omega)) ?_⟩
      exact ⟨_, rfl, d, CD, dd, _, _, rfl, hd, DT.cl, DT.work, fl_hit, _, rfl, _, rfl, d, dd, b, v, kind, ws, _, s, rfl, hf, hb, hof, kq⟩
    · rw [er, step_right] at kq
      obtain ⟨a0, a1, a2, a3, rfl⟩ := map4 er
      refine ifF (int_ne (by decide)) ?_
      refine ⟨_, rfl, rfl, _, rfl, ifF (int_ne (by decide)) ?_⟩
      refine ⟨_, rfl, rfl, _, rfl, ifT (int_eq rfl) ?_⟩
      exact ⟨_, rfl, b, _, _, _, rfl, rfl, hb, at_of (j := 0) rfl rfl, _, rfl, e, a0, a1, a2, a3, k, n, x, y, p, rfl, he, hrs (a0, zs n) (by simp), hrs (a1, zs x) (by simp), hrs (a2, zs y) (by simp), hrs (a3, zs p) (by simp), hn, hp, kq.new D⟩
    · rw [er, step_read] at kq
      obtain ⟨a0, a1, rfl⟩ := map2 er
      refine ifF (int_ne (by decide)) ?_
      refine ⟨_, rfl, rfl, _, rfl, ifF (int_ne (by decide)) ?_⟩
      refine ⟨_, rfl, rfl, _, rfl, ifF (int_ne (by decide)) ?_⟩
      refine ⟨_, rfl, rfl, _, rfl, ifT (int_eq rfl) ?_⟩
      exact ⟨_, rfl, e, a0, a1, y, l, rfl, he, hrs (a0, zs y) (by simp), hrs (a1, zs l) (by simp), hl, kq.new D⟩
end
end Tl
namespace Tl
open PySem PySem.Spec PyProof.Rows L2
theorem drop_head {α : Type} {l : List α} {i : Nat} {x : α} {r : List α} (h : l.drop i = x :: r) : l[i]? = some x ∧ l.drop (i + 1) = r ∧ i < l.length := by
  have hi : i < l.length := by
    have := congrArg List.length h
    rw [List.length_drop, List.length_cons] at this
    omega
  rw [List.drop_eq_getElem_cons hi] at h
  obtain ⟨h1, h2⟩ := List.cons.inj h
  exact ⟨by rw [List.getElem?_eq_getElem hi, h1], h2, hi⟩
theorem iv_get {l : List Int} {i : Nat} {z : Int} (h : l[i]? = some z) : (iv l)[i]? = some (V.int z) := by
  rw [List.getElem?_map, h]
  rfl
theorem DeskAt.put {CD CW : Addr} {H : Hp} {d f : Addr} {xs ys : List V} {s : Ks184Neutral.S} (D : DeskAt CD CW H d s) (h : H f = some (.lst xs)) : DeskAt CD CW (upd H f (.lst ys)) d s := by
  obtain ⟨dd, hb⟩ := D
  refine ⟨dd, ?_⟩
  cases s with
  | none => exact (upd_ne (ne_of hb h (by intro z; cases z))).trans hb
  | some q =>
    obtain ⟨a, h1, ⟨dx, h2⟩, o⟩ := hb
    exact ⟨a, (upd_ne (ne_of h1 h (by intro z; cases z))).trans h1, ⟨dx, (upd_ne (ne_of h2 h (by intro z; cases z))).trans h2⟩, o⟩
theorem KeptL.seq {K : PySem.W.Frag} {H H' : Hp} {a : Addr} {xs : List V} (k : KeptL H H') (h : SqL K H a xs) : SqL K H' a xs := by
  rcases h with (h | ⟨o, h⟩) | h
  · exact .inl (.inl (k _ _ h (fun _ _ _ z => nomatch z)))
  · exact .inl (.inr ⟨o, k _ _ h (fun _ _ _ z => nomatch z)⟩)
  · exact .inr h
/-- the two tables of the module -/
structure Tabs (K : PySem.W.Frag) (mg : Str → Option Value) : Prop where
  wholes : ∃ a, mg "WHOLES" = some (.ref a) ∧ ∀ H, SqT K H a (iv wholesTab)
  lists : ∃ a, mg "LISTS" = some (.ref a) ∧ ∀ H, SqT K H a (iv listsTab)
/-- between two calls: at, and what's to be read from there -/
def AnI (H0 : Hp) (CD CW a d fa : Addr) (ns total : List Int) (at_ : Nat) (σ : L2.St) (H : Hp) : Prop :=
  ∃ (cs : List (List (List Int))) (s : Ks184Neutral.S) (fo : List Int) (v4 v5 v6 v7 v8 v9 v10 : Option V), σ = [some (.ref a), some (.ref d), some (.ref fa), some (.int (at_ : Int)), v4, v5, v6, v7, v8, v9, v10] ∧ at_ ≤ ns.length ∧ Reads (ns.drop at_) cs ∧ (∀ c ∈ cs, OkC c) ∧
    fo ++ rest s cs = total ∧ DeskAt CD CW H d s ∧ H fa = some (.lst (iv fo)) ∧ KeptL H0 H
/-- within a call: the rows read so far -/
def RowsI (a d fa pw pl : Addr) (p : Int) (v5 v10 : Option V) (ns : List Int) (k : Nat) (xs : List (List Int)) (t : List Int) (H3 : Hp) (i : Nat) (σ : L2.St) (H : Hp) : Prop :=
  ∃ (at2 : Nat) (rs : List (Addr × List Int)) (xs' : List (List Int)) (v8 v9 : Option V), σ = [some (.ref a), some (.ref d), some (.ref fa), some (.int (at2 : Int)), some (.int p), v5, some (.ref pw), some (.ref pl), v8, v9, v10] ∧ at2 ≤ ns.length ∧
    PyFlat.rows (k - i) (ns.drop at2) = some (xs', t) ∧ rs.map Prod.snd ++ xs' = xs ∧ rs.length = i ∧ Same H3 H ∧ H pl = some (.lst (rs.map fun r => V.ref r.1)) ∧ ∀ r ∈ rs, H r.1 = some (.lst (iv r.2)) ∧ r.1 ≠ pl
section
variable {P : Program} {w : World} {K : PySem.W.Frag} {mg : Str → Option Value} {base : Heap} {CW CR CD : Addr}
abbrev sAnswers : Stmt := top 44
def spAns (K : PySem.W.Frag) : Sp := fun vs H Q _ => ∃ (a : Addr) (ns : List Int), vs = [.ref a] ∧ SqL K H a (iv ns) ∧ PyKs184.answers_asked ns = true ∧ ∀ (H' : Hp) (p : Addr), H' p = some (.lst (iv (PyKs184.answers ns))) → Q (.ref p) H'
theorem scAnswers : FnScope ["calls", "desk", "found", "at", "kind", "start", "wholes", "lists", "k", "end", "numbers"] ["calls"] (defScope sAnswers) := ⟨rfl, rfl, rfl, by decide +kernel, rfl, by decide +kernel, by decide +kernel⟩
theorem ok_answers {f : Addr} {fd : FuncData} (F : Fun K "answers" "answers" sAnswers f fd) (T : Tx mg) (B : Tabs K mg) (Dd : Dc P w K mg base "Desk" CD 1 ["self"] (spDInit CD)) (Dn : Df P w K mg base "answered" 7 ["desk", "kind", "wholes", "lists"] (spAnswered K CD CW)) :
    FnOk P w K mg base CX0 8 f fd ["calls"] (spAns K) := by
  refine F.ok scAnswers (fun vs H Q E h => ?_) (fun cdv A outer s H vs Q E hr h => ?_)
  · obtain ⟨a, ns, rfl, _⟩ := h
    rfl
  · obtain ⟨a, ns, rfl, hS, hask, kq⟩ := h
    obtain ⟨cs0, rd0, ok0, eq0, len0⟩ := asked_says hask
    rw [eq0] at kq
    generalize htot : rest none cs0 = total at *
    obtain ⟨aW, mW, hW⟩ := B.wholes
    obtain ⟨aL, mL, hLt⟩ := B.lists
    have hr2 : Room (1 + 1) _ := hr.mono (by decide)
    refine ⟨_, (pss_cons (ps_set (i := 1) scAnswers.nd rfl (.inl rfl) (pe_dc0 Dd hr2 rfl))
      (pss_cons (ps_set (i := 2) scAnswers.nd rfl (.inl rfl) (pe_lst pa_nil))
      (pss_cons (ps_set (i := 3) scAnswers.nd rfl (.inl rfl) pe_int)
      (pss_cons (ps_while PassesOwn.never (pt_cmpR op_lt (pv 3) (pe_callB call_len_seq (by rfl) T.lenN PySem.boot_len (pa_cons (pv 0) pa_nil)) (nomark _)) (pss_cons (ps_set (i := 4) scAnswers.nd rfl (.inl rfl) (pe_ix ix_list (pv 0) (pv 3) (fun _ _ => rfl)))
      (pss_cons (ps_set (i := 5) scAnswers.nd rfl (.inl rfl) (pe_op op_add (pe_op op_add (pv 3) pe_int) (pe_ix ix_tup (pe_glob (v := .ref aW) rfl mW rfl) (pv 4) (fun _ _ => rfl))))
      (pss_cons (ps_set (i := 6) scAnswers.nd rfl (.inl rfl) (pe_slice sl_list (pv 0) (po_some (pe_op op_add (pv 3) pe_int)) (po_some (pv 5))))
      (pss_cons (ps_set (i := 7) scAnswers.nd rfl (.inl rfl) (pe_lst pa_nil))
      (pss_cons (ps_set (i := 3) scAnswers.nd rfl (.inl rfl) (pv 5))
      (pss_cons (ps_for PassesOwn.never rfl (pi_range1 rfl T.rangeN (pa_cons (pe_ix ix_tup (pe_glob (v := .ref aL) rfl mL rfl) (pv 4) (fun _ _ => rfl)) pa_nil)) (pg_name (i := 8) scAnswers.nd rfl (.inl rfl)) (pss_cons (ps_set (i := 9) scAnswers.nd rfl (.inl rfl) (pe_op op_add (pe_op op_add (pv 3) pe_int) (pe_ix ix_list (pv 0) (pv 3) (fun _ _ => rfl))))
      (pss_cons (ps_expr (pe_bm PySem.F.plainAttrs_list PySem.F.slot_list_append PySem.F.type_list_append mt_append (pv 7) (pa_cons (pe_slice sl_list (pv 0) (po_some (pe_op op_add (pv 3) pe_int)) (po_some (pv 9))) pa_nil)))
      (pss_one (ps_set (i := 3) scAnswers.nd rfl (.inl rfl) (pv 9))))))
      (pss_cons (ps_set (i := 10) scAnswers.nd rfl (.inl rfl) (pe_df Dn hr rfl (pa_cons (pv 1) (pa_cons (pv 4) (pa_cons (pv 6) (pa_cons (pv 7) pa_nil))))))
      (pss_cons (ps_expr (pe_bm PySem.F.plainAttrs_list PySem.F.slot_list_append PySem.F.type_list_append mt_append (pv 2) (pa_cons (pe_callB call_len_seq (by rfl) T.lenN PySem.boot_len (pa_cons (pv 10) pa_nil)) pa_nil)))
      (pss_one (ps_expr (pe_bm PySem.F.plainAttrs_list PySem.F.slot_list_extend PySem.F.type_list_extend mt_extend (pv 2) (pa_cons (pv 10) pa_nil)))))))))))))
      (pss_one (ps_ret (pv 2))))))), ?_⟩
    -- desk = Desk(); found = []; at = 0
    intro d dd nd ndd ne
    refine ⟨d, dd, rfl, upd_same, fun H1 hd1 kp => ⟨rfl, ?_⟩⟩
    have s1 : Same H H1 := Same.made nd ndd kp
    refine ⟨Nat.zero_le _, fun fa nfa => ?_⟩
    have hfd : fa ≠ d := fun e => by
      subst e
      rw [hd1] at nfa
      cases nfa
    refine ⟨fun m σ H' => ∃ at_, m = ns.length - at_ ∧ AnI H CD CW a d fa ns total at_ σ H', ⟨ns.length - 0, 0, rfl, cs0, none, [], none, none, none, none, none, none, none, rfl, Nat.zero_le _, rd0, ok0, htot, ⟨dd, same_new nfa _ _ hd1⟩, upd_same, keptL_of (s1.trans (same_new nfa))⟩, ?_⟩
    rintro m σ H1 ⟨at_, rfl, cs, s, fo, v4, v5, v6, v7, v8, v9, v10, rfl, hat, rd, okc, htl, D, hf, kp1⟩
    have hS1 : SqL K H1 a (iv ns) := kp1.seq hS
    refine ⟨_, rfl, _, rfl, a, _, rfl, .inl hS1, _, _, rfl, rfl, _, rfl, ?_⟩
    generalize hrest : ns.drop at_ = rst at rd
    cases rd with
    | nil =>
      have e : ns.length ≤ at_ := List.drop_eq_nil_iff.mp hrest
      refine ifF (decide_eq_false (by rw [iv_len]; omega)) ?_
      rw [rest_nil, List.append_nil] at htl
      subst htl
      exact ⟨_, rfl, kq H1 fa hf⟩
    | @cons p r t c cs' hcall rd' =>
      obtain ⟨hg, hdr, hlt⟩ := drop_head hrest
      obtain ⟨n, k, xs, hsh, hn, hrows, hc⟩ := call_parts hcall
      obtain ⟨j, hpj, hw, hl, n1, k4⟩ := shape_tab hsh
      refine ifT (decide_eq_true (by rw [iv_len]; omega)) ?_
      have okc1 : OkC ((p :: r.take n) :: xs) := hc ▸ okc c List.mem_cons_self
      have eat : ns.drop (at_ + 1 + n) = r.drop n := by rw [← List.drop_drop, hdr]
      have hlr : r.length = ns.length - (at_ + 1) := by rw [← hdr, List.length_drop]
      -- where the next call begins
      refine ⟨AnI H CD CW a d fa ns total (ns.length - t.length), fun σ' H' h => ⟨_, ?_, _, rfl, h⟩, ?_⟩
      · have := (rows_length hrows).2
        rw [List.length_drop] at this
        omega
      -- kind = calls[at]
      refine ⟨_, rfl, _, rfl, a, _, _, _, rfl, rfl, hS1, at_of (j := at_) rfl (iv_get hg), ?_⟩
      -- start = at + 1 + WHOLES[kind]
      refine ⟨_, rfl, _, _, rfl, rfl, _, rfl, aW, _, _, _, rfl, rfl, hW _, at_of (j := j) hpj (iv_get hw), _, _, rfl, rfl, ?_⟩
      -- wholes = calls[at + 1:start]
      refine ⟨_, rfl, _, rfl, _, _, rfl, rfl, _, rfl, _, rfl, _, rfl, a, _, rfl, hS1, fun pw npw => ?_⟩
      have ew : cutV (iv ns) (some ((at_ : Int) + 1)) (some ((at_ : Int) + 1 + (n : Int))) = iv (r.take n) := by
        have := cutV_iv ns (at_ + 1) (at_ + 1 + n)
        rw [Nat.add_sub_cancel_left, hdr] at this
        exact this
      dsimp only
      rw [ew]
      have s2 : Same H1 (upd H1 pw (.lst (iv (r.take n)))) := same_new npw
      -- lists = []; at = start
      refine ⟨Nat.zero_le _, fun pl npl => ?_⟩
      have hpw : pw ≠ pl := ne_of_none upd_same npl
      refine ⟨_, rfl, ?_⟩
      -- for k in range(LISTS[kind])
      refine ⟨_, rfl, aL, _, _, _, rfl, rfl, hLt _, at_of (j := j) hpj (iv_get hl), (k : Int), rfl, by omega, by omega, for_range (lo := 0) (n := (k : Int).toNat) (RowsI a d fa pw pl p (some (.int ((at_ : Int) + 1 + (n : Int)))) v10 ns k xs t (upd H1 pw (.lst (iv (r.take n))))) ?_ ?_ ?_⟩
      · refine ⟨at_ + 1 + n, [], xs, v8, v9, rfl, by omega, ?_, rfl, rfl, same_new npl, upd_same, fun r hr => nomatch hr⟩
        rw [eat]
        exact hrows
      · rintro i σ' H' hi ⟨at2, rs, xs', v8', v9', rfl, hat2, hrw, hxs, hri, s3, hpl, hall⟩
        obtain ⟨k', hk'⟩ : ∃ k', k - i = k' + 1 := ⟨k - i - 1, by omega⟩
        rw [hk'] at hrw
        obtain ⟨m2, r2, xs2, hd2, hm2, hrw2, rfl⟩ := rows_succ hrw
        obtain ⟨hg2, hdr2, hlt2⟩ := drop_head hd2
        have hS2 : SqL K H' a (iv ns) := s3.seq (s2.seq hS1)
        have hlr2 : r2.length = ns.length - (at2 + 1) := by rw [← hdr2, List.length_drop]
        have eat2 : ns.drop (at2 + 1 + m2) = r2.drop m2 := by rw [← List.drop_drop, hdr2]
        -- end = at + 1 + calls[at]
        refine ⟨_, rfl, _, _, rfl, rfl, _, rfl, _, rfl, a, _, _, _, rfl, rfl, hS2, at_of (j := at2) rfl (iv_get hg2), _, _, rfl, rfl, ?_⟩
        -- lists.append(calls[at + 1:end])
        refine ⟨_, rfl, .inl ⟨rfl, _, SqL.of hpl⟩, _, rfl, _, rfl, _, _, rfl, rfl, _, rfl, _, rfl, _, rfl, a, _, rfl, hS2, fun ps nps => ?_⟩
        have ew2 : cutV (iv ns) (some ((at2 : Int) + 1)) (some ((at2 : Int) + 1 + (m2 : Int))) = iv (r2.take m2) := by
          have := cutV_iv ns (at2 + 1) (at2 + 1 + m2)
          rw [Nat.add_sub_cancel_left, hdr2] at this
          exact this
        dsimp only
        rw [ew2]
        have hlps : pl ≠ ps := ne_of_none hpl nps
        have hpsl : ps ≠ pl := fun e => hlps e.symm
        refine ⟨pl, _, _, rfl, rfl, (by rw [upd_ne hlps]; exact hpl), lt_size (by rw [List.length_map, hri]; omega), ?_⟩
        -- at = end
        refine ⟨_, rfl, at2 + 1 + m2, rs ++ [(ps, r2.take m2)], xs2, _, _, rfl, by omega, ?_, ?_, ?_, ?_, ?_, ?_⟩
        · rw [show k - (i + 1) = k' by omega, eat2]
          exact hrw2
        · rw [List.map_append, ← hxs, List.append_assoc]
          rfl
        · rw [List.length_append, hri]
          rfl
        · intro b o e
          have hb := s3 _ _ e
          rw [upd_ne (ne_of_none e npl), upd_ne (ne_of_none hb nps)]
          exact hb
        · rw [upd_same, List.map_append]
          rfl
        · intro r hr
          rcases List.mem_append.mp hr with hr | hr
          · obtain ⟨e1, e2⟩ := hall r hr
            refine ⟨?_, e2⟩
            rw [upd_ne e2, upd_ne (ne_of_none e1 nps)]
            exact e1
          · have e : r = (ps, r2.take m2) := by simpa using hr
            subst e
            refine ⟨?_, hpsl⟩
            show upd _ pl _ ps = _
            rw [upd_ne hpsl, upd_same]
      · rintro σ' H' ⟨at2, rs, xs', v8', v9', rfl, hat2, hrw, hxs, hri, s3, hpl, hall⟩
        rw [Int.toNat_natCast, Nat.sub_self] at hrw
        obtain ⟨rfl, ht⟩ := rows_zero hrw
        rw [List.append_nil] at hxs
        subst hxs
        have hS2 : SqL K H' a (iv ns) := s3.seq (s2.seq hS1)
        have D2 : DeskAt CD CW H' d s := D.same (s2.trans s3)
        have hf2 : H' fa = some (.lst (iv fo)) := s3 _ _ (s2 _ _ hf)
        have hw2 : H' pw = some (.lst (iv (r.take n))) := s3 _ _ upd_same
        -- numbers = answered(desk, kind, wholes, lists)
        refine ⟨_, rfl, _, rfl, _, rfl, _, rfl, d, pw, pl, p, r.take n, rs, s, rfl, D2, SqL.of hw2, SqL.of hpl, fun r hr => SqL.of (hall r hr).1, okc1, fun H5 q5 D5 k5 n5 h5 => ?_⟩
        rw [← hc] at D5 h5
        have hf5 : H5 fa = some (.lst (iv fo)) := k5 _ _ hf2 (fun _ _ _ z => nomatch z)
        have hq5 : fa ≠ q5 := ne_of_none hf2 n5
        have hqf : q5 ≠ fa := fun e => hq5 e.symm
        have hS5 : SqL K H5 a (iv ns) := k5.seq hS2
        rw [rest_cons] at htl
        have hbig : fo.length + 1 + (Ks184Neutral.step s c).2.length ≤ 10000000 := by
          have := congrArg List.length htl
          rw [List.length_append, List.length_cons, List.length_append] at this
          omega
        -- found.append(len(numbers))
        refine ⟨_, rfl, .inl ⟨rfl, _, SqL.of hf5⟩, _, rfl, q5, _, rfl, .inl (SqL.of h5), fa, _, _, rfl, rfl, hf5, lt_size (by rw [iv_len]; omega), ?_⟩
        -- found.extend(numbers)
        refine ⟨_, rfl, .inl ⟨rfl, _, SqL.of upd_same⟩, _, rfl, fa, q5, _, _, rfl, rfl, upd_same, (by rw [upd_ne hqf]; exact h5), le_size (by rw [List.length_append, iv_len, iv_len]; show fo.length + 1 + (Ks184Neutral.step s c).2.length ≤ 16777216; omega), ?_⟩
        rw [upd_upd]
        have hat3 : ns.length - t.length = at2 := by
          have := congrArg List.length ht
          rw [List.length_drop] at this
          omega
        refine ⟨cs', (Ks184Neutral.step s c).1, fo ++ (((Ks184Neutral.step s c).2.length : Int) :: (Ks184Neutral.step s c).2), _, _, _, _, _, _, _, by rw [hat3]; rfl, by omega, ?_, fun c' h' => okc c' (List.mem_cons_of_mem _ h'), ?_, ?_, ?_, ?_⟩
        · rw [hat3, ← ht]
          exact rd'
        · rw [← htl, List.append_assoc]
          rfl
        · exact D5.put hf5
        · rw [upd_same, iv_len]
          refine congrArg (fun z => some (HO.lst z)) ?_
          show iv fo ++ iv [((Ks184Neutral.step s c).2.length : Int)] ++ iv (Ks184Neutral.step s c).2 = _
          rw [iv_app, iv_app, List.append_assoc]
          rfl
        · intro b o e ni
          have hb := k5 _ _ (s3 _ _ (s2 _ _ (kp1 b o e ni))) ni
          have hfb : b ≠ fa := fun z => by
            subst z
            rw [(s1.free nfa)] at e
            cases e
          rw [upd_ne hfb]
          exact hb
end
end Tl
namespace Tl
open PySem PySem.Spec PyProof.Rows L2
theorem least_of {p : Program} {z : Int} {mg : Str → Option Value} {h : Heap} (x : PySem.W.XL p [("LEAST", .int z)] mg h) (e : z = (Ks184.LEAST : Int) := by decide +kernel) : GI mg "LEAST" (Ks184.LEAST : Int) := by
  obtain ⟨v, h1, h2⟩ := x.2.val _ List.mem_cons_self
  cases h2 with
  | int i t => exact ⟨t, by rw [← e]; exact h1⟩
/-! ### what the top has written -/
theorem all_mk {P : Program} {w : World} {K : PySem.W.Frag} {h : Heap} {mg : Str → Option Value} {fa : Addr}
    {f_nu : Addr} {od_nu an_nu : Option Addr} {sl_nu : Array (Option Value)} {oc_nu kV_nu dc_nu pm_nu cd_nu ct_nu : Value}
    {f_by : Addr} {od_by an_by : Option Addr} {sl_by : Array (Option Value)} {oc_by kV_by dc_by pm_by cd_by ct_by : Value}
    {f_fc : Addr} {od_fc an_fc : Option Addr} {sl_fc : Array (Option Value)} {oc_fc kV_fc dc_fc pm_fc cd_fc ct_fc : Value}
    {f_sm : Addr} {od_sm an_sm : Option Addr} {sl_sm : Array (Option Value)} {oc_sm kV_sm dc_sm pm_sm cd_sm ct_sm : Value}
    {f_ft : Addr} {od_ft an_ft : Option Addr} {sl_ft : Array (Option Value)} {oc_ft kV_ft dc_ft pm_ft cd_ft ct_ft : Value}
    {f_rs : Addr} {od_rs an_rs : Option Addr} {sl_rs : Array (Option Value)} {oc_rs kV_rs dc_rs pm_rs cd_rs ct_rs : Value}
    {f_pw : Addr} {od_pw an_pw : Option Addr} {sl_pw : Array (Option Value)} {oc_pw kV_pw dc_pw pm_pw cd_pw ct_pw : Value}
    {f_pd : Addr} {od_pd an_pd : Option Addr} {sl_pd : Array (Option Value)} {oc_pd kV_pd dc_pd pm_pd cd_pd ct_pd : Value}
    {f_mx : Addr} {od_mx an_mx : Option Addr} {sl_mx : Array (Option Value)} {oc_mx kV_mx dc_mx pm_mx cd_mx ct_mx : Value}
    {f_lt : Addr} {od_lt an_lt : Option Addr} {sl_lt : Array (Option Value)} {oc_lt kV_lt dc_lt pm_lt cd_lt ct_lt : Value}
    {f_pa : Addr} {od_pa an_pa : Option Addr} {sl_pa : Array (Option Value)} {oc_pa kV_pa dc_pa pm_pa cd_pa ct_pa : Value}
    {f_la : Addr} {od_la an_la : Option Addr} {sl_la : Array (Option Value)} {oc_la kV_la dc_la pm_la cd_la ct_la : Value}
    {f_ha : Addr} {od_ha an_ha : Option Addr} {sl_ha : Array (Option Value)} {oc_ha kV_ha dc_ha pm_ha cd_ha ct_ha : Value}
    {f_pr : Addr} {od_pr an_pr : Option Addr} {sl_pr : Array (Option Value)} {oc_pr kV_pr dc_pr pm_pr cd_pr ct_pr : Value}
    {f_ni : Addr} {od_ni an_ni : Option Addr} {sl_ni : Array (Option Value)} {oc_ni kV_ni dc_ni pm_ni cd_ni ct_ni : Value}
    {f_ar : Addr} {od_ar an_ar : Option Addr} {sl_ar : Array (Option Value)} {oc_ar kV_ar dc_ar pm_ar cd_ar ct_ar : Value}
    {f_sh : Addr} {od_sh an_sh : Option Addr} {sl_sh : Array (Option Value)} {oc_sh kV_sh dc_sh pm_sh cd_sh ct_sh : Value}
    {f_al : Addr} {od_al an_al : Option Addr} {sl_al : Array (Option Value)} {oc_al kV_al dc_al pm_al cd_al ct_al : Value}
    {f_se : Addr} {od_se an_se : Option Addr} {sl_se : Array (Option Value)} {oc_se kV_se dc_se pm_se cd_se ct_se : Value}
    {f_be : Addr} {od_be an_be : Option Addr} {sl_be : Array (Option Value)} {oc_be kV_be dc_be pm_be cd_be ct_be : Value}
    {f_dw : Addr} {od_dw an_dw : Option Addr} {sl_dw : Array (Option Value)} {oc_dw kV_dw dc_dw pm_dw cd_dw ct_dw : Value}
    {f_va : Addr} {od_va an_va : Option Addr} {sl_va : Array (Option Value)} {oc_va kV_va dc_va pm_va cd_va ct_va : Value}
    {f_sw : Addr} {od_sw an_sw : Option Addr} {sl_sw : Array (Option Value)} {oc_sw kV_sw dc_sw pm_sw cd_sw ct_sw : Value}
    {f_ri : Addr} {od_ri an_ri : Option Addr} {sl_ri : Array (Option Value)} {oc_ri kV_ri dc_ri pm_ri cd_ri ct_ri : Value}
    {f_re : Addr} {od_re an_re : Option Addr} {sl_re : Array (Option Value)} {oc_re kV_re dc_re pm_re cd_re ct_re : Value}
    {f_of : Addr} {od_of an_of : Option Addr} {sl_of : Array (Option Value)} {oc_of kV_of dc_of pm_of cd_of ct_of : Value}
    {f_ad : Addr} {od_ad an_ad : Option Addr} {sl_ad : Array (Option Value)} {oc_ad kV_ad dc_ad pm_ad cd_ad ct_ad : Value}
    {f_an : Addr} {od_an an_an : Option Addr} {sl_an : Array (Option Value)} {oc_an kV_an dc_an pm_an cd_an ct_an : Value}
    {C_R : Addr}
    {f_R : Addr} {od_R an_R : Option Addr} {sl_R : Array (Option Value)} {oc_R kV_R dc_R pm_R cd_R ct_R : Value}
    {C_W : Addr}
    {f_W : Addr} {od_W an_W : Option Addr} {sl_W : Array (Option Value)} {oc_W kV_W dc_W pm_W cd_W ct_W : Value}
    {C_D : Addr}
    {f_D : Addr} {od_D an_D : Option Addr} {sl_D : Array (Option Value)} {oc_D kV_D dc_D pm_D cd_D ct_D : Value}
    {t_WIDE : Tok}
    {t_HALF : Tok}
    {t_LOT : Tok}
    {t_MOST_K : Tok}
    {t_SOME_LEFT : Tok}
    {t_NOT_SHOWN : Tok}
    {t_NOT_FIT : Tok}
    {t_NOT_BEGUN : Tok}
    {w_WHOLES : Addr} {oc_WHOLES : Option Addr} {os_WHOLES : Array (Option Value)} {n_WHOLES : Nat} {t0_WHOLES t1_WHOLES t2_WHOLES t3_WHOLES t4_WHOLES t5_WHOLES t6_WHOLES : Tok}
    {w_LISTS : Addr} {oc_LISTS : Option Addr} {os_LISTS : Array (Option Value)} {n_LISTS : Nat} {t0_LISTS t1_LISTS t2_LISTS t3_LISTS t4_LISTS t5_LISTS t6_LISTS : Tok}
    (X : K.In h) (G : h.Ns mainGlobals mg) (hfa : mg "answers" = some (.ref fa)) (least : GI mg "LEAST" (Ks184.LEAST : Int))
    (a_nu : PySem.W.nsIn K mainGlobals "number_of" = some (some (.ref f_nu)))
    (l_nu : K.lookup f_nu = some ⟨oc_nu, od_nu, .func (PySem.W.fnOf "number_of" "number_of" (defArgs sNumber) (defBody sNumber) (defScope sNumber) .none kV_nu dc_nu pm_nu an_nu cd_nu ct_nu), sl_nu⟩) (c_nu : PySem.W.codeIn K cd_nu "number_of" = true) (k_nu : PySem.W.keepIn K (.ref f_nu) = true)
    (a_by : PySem.W.nsIn K mainGlobals "bytes_of" = some (some (.ref f_by)))
    (l_by : K.lookup f_by = some ⟨oc_by, od_by, .func (PySem.W.fnOf "bytes_of" "bytes_of" (defArgs sBytes) (defBody sBytes) (defScope sBytes) .none kV_by dc_by pm_by an_by cd_by ct_by), sl_by⟩) (c_by : PySem.W.codeIn K cd_by "bytes_of" = true) (k_by : PySem.W.keepIn K (.ref f_by) = true)
    (a_fc : PySem.W.nsIn K mainGlobals "face" = some (some (.ref f_fc)))
    (l_fc : K.lookup f_fc = some ⟨oc_fc, od_fc, .func (PySem.W.fnOf "face" "face" (defArgs sFace) (defBody sFace) (defScope sFace) .none kV_fc dc_fc pm_fc an_fc cd_fc ct_fc), sl_fc⟩) (c_fc : PySem.W.codeIn K cd_fc "face" = true) (k_fc : PySem.W.keepIn K (.ref f_fc) = true)
    (a_sm : PySem.W.nsIn K mainGlobals "is_small" = some (some (.ref f_sm)))
    (l_sm : K.lookup f_sm = some ⟨oc_sm, od_sm, .func (PySem.W.fnOf "is_small" "is_small" (defArgs sSmall) (defBody sSmall) (defScope sSmall) .none kV_sm dc_sm pm_sm an_sm cd_sm ct_sm), sl_sm⟩) (c_sm : PySem.W.codeIn K cd_sm "is_small" = true) (k_sm : PySem.W.keepIn K (.ref f_sm) = true)
    (a_ft : PySem.W.nsIn K mainGlobals "is_fit" = some (some (.ref f_ft)))
    (l_ft : K.lookup f_ft = some ⟨oc_ft, od_ft, .func (PySem.W.fnOf "is_fit" "is_fit" (defArgs sFit) (defBody sFit) (defScope sFit) .none kV_ft dc_ft pm_ft an_ft cd_ft ct_ft), sl_ft⟩) (c_ft : PySem.W.codeIn K cd_ft "is_fit" = true) (k_ft : PySem.W.keepIn K (.ref f_ft) = true)
    (a_rs : PySem.W.nsIn K mainGlobals "raised" = some (some (.ref f_rs)))
    (l_rs : K.lookup f_rs = some ⟨oc_rs, od_rs, .func (PySem.W.fnOf "raised" "raised" (defArgs sRaised) (defBody sRaised) (defScope sRaised) .none kV_rs dc_rs pm_rs an_rs cd_rs ct_rs), sl_rs⟩) (c_rs : PySem.W.codeIn K cd_rs "raised" = true) (k_rs : PySem.W.keepIn K (.ref f_rs) = true)
    (a_pw : PySem.W.nsIn K mainGlobals "powered" = some (some (.ref f_pw)))
    (l_pw : K.lookup f_pw = some ⟨oc_pw, od_pw, .func (PySem.W.fnOf "powered" "powered" (defArgs sPowered) (defBody sPowered) (defScope sPowered) .none kV_pw dc_pw pm_pw an_pw cd_pw ct_pw), sl_pw⟩) (c_pw : PySem.W.codeIn K cd_pw "powered" = true) (k_pw : PySem.W.keepIn K (.ref f_pw) = true)
    (a_pd : PySem.W.nsIn K mainGlobals "pad_of" = some (some (.ref f_pd)))
    (l_pd : K.lookup f_pd = some ⟨oc_pd, od_pd, .func (PySem.W.fnOf "pad_of" "pad_of" (defArgs sPad) (defBody sPad) (defScope sPad) .none kV_pd dc_pd pm_pd an_pd cd_pd ct_pd), sl_pd⟩) (c_pd : PySem.W.codeIn K cd_pd "pad_of" = true) (k_pd : PySem.W.keepIn K (.ref f_pd) = true)
    (a_mx : PySem.W.nsIn K mainGlobals "mixed" = some (some (.ref f_mx)))
    (l_mx : K.lookup f_mx = some ⟨oc_mx, od_mx, .func (PySem.W.fnOf "mixed" "mixed" (defArgs sMixed) (defBody sMixed) (defScope sMixed) .none kV_mx dc_mx pm_mx an_mx cd_mx ct_mx), sl_mx⟩) (c_mx : PySem.W.codeIn K cd_mx "mixed" = true) (k_mx : PySem.W.keepIn K (.ref f_mx) = true)
    (a_lt : PySem.W.nsIn K mainGlobals "lot_of" = some (some (.ref f_lt)))
    (l_lt : K.lookup f_lt = some ⟨oc_lt, od_lt, .func (PySem.W.fnOf "lot_of" "lot_of" (defArgs sLot) (defBody sLot) (defScope sLot) .none kV_lt dc_lt pm_lt an_lt cd_lt ct_lt), sl_lt⟩) (c_lt : PySem.W.codeIn K cd_lt "lot_of" = true) (k_lt : PySem.W.keepIn K (.ref f_lt) = true)
    (a_pa : PySem.W.nsIn K mainGlobals "pad_asked" = some (some (.ref f_pa)))
    (l_pa : K.lookup f_pa = some ⟨oc_pa, od_pa, .func (PySem.W.fnOf "pad_asked" "pad_asked" (defArgs sPadA) (defBody sPadA) (defScope sPadA) .none kV_pa dc_pa pm_pa an_pa cd_pa ct_pa), sl_pa⟩) (c_pa : PySem.W.codeIn K cd_pa "pad_asked" = true) (k_pa : PySem.W.keepIn K (.ref f_pa) = true)
    (a_la : PySem.W.nsIn K mainGlobals "lot_asked" = some (some (.ref f_la)))
    (l_la : K.lookup f_la = some ⟨oc_la, od_la, .func (PySem.W.fnOf "lot_asked" "lot_asked" (defArgs sLotA) (defBody sLotA) (defScope sLotA) .none kV_la dc_la pm_la an_la cd_la ct_la), sl_la⟩) (c_la : PySem.W.codeIn K cd_la "lot_asked" = true) (k_la : PySem.W.keepIn K (.ref f_la) = true)
    (a_ha : PySem.W.nsIn K mainGlobals "halved" = some (some (.ref f_ha)))
    (l_ha : K.lookup f_ha = some ⟨oc_ha, od_ha, .func (PySem.W.fnOf "halved" "halved" (defArgs sHalved) (defBody sHalved) (defScope sHalved) .none kV_ha dc_ha pm_ha an_ha cd_ha ct_ha), sl_ha⟩) (c_ha : PySem.W.codeIn K cd_ha "halved" = true) (k_ha : PySem.W.keepIn K (.ref f_ha) = true)
    (a_pr : PySem.W.nsIn K mainGlobals "proof_of" = some (some (.ref f_pr)))
    (l_pr : K.lookup f_pr = some ⟨oc_pr, od_pr, .func (PySem.W.fnOf "proof_of" "proof_of" (defArgs sProof) (defBody sProof) (defScope sProof) .none kV_pr dc_pr pm_pr an_pr cd_pr ct_pr), sl_pr⟩) (c_pr : PySem.W.codeIn K cd_pr "proof_of" = true) (k_pr : PySem.W.keepIn K (.ref f_pr) = true)
    (a_ni : PySem.W.nsIn K mainGlobals "numbers_in" = some (some (.ref f_ni)))
    (l_ni : K.lookup f_ni = some ⟨oc_ni, od_ni, .func (PySem.W.fnOf "numbers_in" "numbers_in" (defArgs sNumbers) (defBody sNumbers) (defScope sNumbers) .none kV_ni dc_ni pm_ni an_ni cd_ni ct_ni), sl_ni⟩) (c_ni : PySem.W.codeIn K cd_ni "numbers_in" = true) (k_ni : PySem.W.keepIn K (.ref f_ni) = true)
    (a_ar : PySem.W.nsIn K mainGlobals "are_small" = some (some (.ref f_ar)))
    (l_ar : K.lookup f_ar = some ⟨oc_ar, od_ar, .func (PySem.W.fnOf "are_small" "are_small" (defArgs sAre) (defBody sAre) (defScope sAre) .none kV_ar dc_ar pm_ar an_ar cd_ar ct_ar), sl_ar⟩) (c_ar : PySem.W.codeIn K cd_ar "are_small" = true) (k_ar : PySem.W.keepIn K (.ref f_ar) = true)
    (a_sh : PySem.W.nsIn K mainGlobals "is_shown" = some (some (.ref f_sh)))
    (l_sh : K.lookup f_sh = some ⟨oc_sh, od_sh, .func (PySem.W.fnOf "is_shown" "is_shown" (defArgs sShown) (defBody sShown) (defScope sShown) .none kV_sh dc_sh pm_sh an_sh cd_sh ct_sh), sl_sh⟩) (c_sh : PySem.W.codeIn K cd_sh "is_shown" = true) (k_sh : PySem.W.keepIn K (.ref f_sh) = true)
    (a_al : PySem.W.nsIn K mainGlobals "alone" = some (some (.ref f_al)))
    (l_al : K.lookup f_al = some ⟨oc_al, od_al, .func (PySem.W.fnOf "alone" "alone" (defArgs sAlone) (defBody sAlone) (defScope sAlone) .none kV_al dc_al pm_al an_al cd_al ct_al), sl_al⟩) (c_al : PySem.W.codeIn K cd_al "alone" = true) (k_al : PySem.W.keepIn K (.ref f_al) = true)
    (a_se : PySem.W.nsIn K mainGlobals "seal" = some (some (.ref f_se)))
    (l_se : K.lookup f_se = some ⟨oc_se, od_se, .func (PySem.W.fnOf "seal" "seal" (defArgs sSeal) (defBody sSeal) (defScope sSeal) .none kV_se dc_se pm_se an_se cd_se ct_se), sl_se⟩) (c_se : PySem.W.codeIn K cd_se "seal" = true) (k_se : PySem.W.keepIn K (.ref f_se) = true)
    (a_be : PySem.W.nsIn K mainGlobals "begin" = some (some (.ref f_be)))
    (l_be : K.lookup f_be = some ⟨oc_be, od_be, .func (PySem.W.fnOf "begin" "begin" (defArgs sBegin) (defBody sBegin) (defScope sBegin) .none kV_be dc_be pm_be an_be cd_be ct_be), sl_be⟩) (c_be : PySem.W.codeIn K cd_be "begin" = true) (k_be : PySem.W.keepIn K (.ref f_be) = true)
    (a_dw : PySem.W.nsIn K mainGlobals "do_work" = some (some (.ref f_dw)))
    (l_dw : K.lookup f_dw = some ⟨oc_dw, od_dw, .func (PySem.W.fnOf "do_work" "do_work" (defArgs sWork) (defBody sWork) (defScope sWork) .none kV_dw dc_dw pm_dw an_dw cd_dw ct_dw), sl_dw⟩) (c_dw : PySem.W.codeIn K cd_dw "do_work" = true) (k_dw : PySem.W.keepIn K (.ref f_dw) = true)
    (a_va : PySem.W.nsIn K mainGlobals "value" = some (some (.ref f_va)))
    (l_va : K.lookup f_va = some ⟨oc_va, od_va, .func (PySem.W.fnOf "value" "value" (defArgs sValue) (defBody sValue) (defScope sValue) .none kV_va dc_va pm_va an_va cd_va ct_va), sl_va⟩) (c_va : PySem.W.codeIn K cd_va "value" = true) (k_va : PySem.W.keepIn K (.ref f_va) = true)
    (a_sw : PySem.W.nsIn K mainGlobals "show" = some (some (.ref f_sw)))
    (l_sw : K.lookup f_sw = some ⟨oc_sw, od_sw, .func (PySem.W.fnOf "show" "show" (defArgs sShow) (defBody sShow) (defScope sShow) .none kV_sw dc_sw pm_sw an_sw cd_sw ct_sw), sl_sw⟩) (c_sw : PySem.W.codeIn K cd_sw "show" = true) (k_sw : PySem.W.keepIn K (.ref f_sw) = true)
    (a_ri : PySem.W.nsIn K mainGlobals "right" = some (some (.ref f_ri)))
    (l_ri : K.lookup f_ri = some ⟨oc_ri, od_ri, .func (PySem.W.fnOf "right" "right" (defArgs sRight) (defBody sRight) (defScope sRight) .none kV_ri dc_ri pm_ri an_ri cd_ri ct_ri), sl_ri⟩) (c_ri : PySem.W.codeIn K cd_ri "right" = true) (k_ri : PySem.W.keepIn K (.ref f_ri) = true)
    (a_re : PySem.W.nsIn K mainGlobals "read" = some (some (.ref f_re)))
    (l_re : K.lookup f_re = some ⟨oc_re, od_re, .func (PySem.W.fnOf "read" "read" (defArgs sRead) (defBody sRead) (defScope sRead) .none kV_re dc_re pm_re an_re cd_re ct_re), sl_re⟩) (c_re : PySem.W.codeIn K cd_re "read" = true) (k_re : PySem.W.keepIn K (.ref f_re) = true)
    (a_of : PySem.W.nsIn K mainGlobals "of_work" = some (some (.ref f_of)))
    (l_of : K.lookup f_of = some ⟨oc_of, od_of, .func (PySem.W.fnOf "of_work" "of_work" (defArgs sOf) (defBody sOf) (defScope sOf) .none kV_of dc_of pm_of an_of cd_of ct_of), sl_of⟩) (c_of : PySem.W.codeIn K cd_of "of_work" = true) (k_of : PySem.W.keepIn K (.ref f_of) = true)
    (a_ad : PySem.W.nsIn K mainGlobals "answered" = some (some (.ref f_ad)))
    (l_ad : K.lookup f_ad = some ⟨oc_ad, od_ad, .func (PySem.W.fnOf "answered" "answered" (defArgs sAnswered) (defBody sAnswered) (defScope sAnswered) .none kV_ad dc_ad pm_ad an_ad cd_ad ct_ad), sl_ad⟩) (c_ad : PySem.W.codeIn K cd_ad "answered" = true) (k_ad : PySem.W.keepIn K (.ref f_ad) = true)
    (a_an : PySem.W.nsIn K mainGlobals "answers" = some (some (.ref f_an)))
    (l_an : K.lookup f_an = some ⟨oc_an, od_an, .func (PySem.W.fnOf "answers" "answers" (defArgs sAnswers) (defBody sAnswers) (defScope sAnswers) .none kV_an dc_an pm_an an_an cd_an ct_an), sl_an⟩) (c_an : PySem.W.codeIn K cd_an "answers" = true) (k_an : PySem.W.keepIn K (.ref f_an) = true)
    (a_R : PySem.W.nsIn K mainGlobals "Round" = some (some (.ref C_R))) (g_R : PySem.W.findIn K (.ref C_R) "__init__" = some (some (.ref f_R))) (i_R : PySem.W.isFn K (.ref f_R) = true)
    (l_R : K.lookup f_R = some ⟨oc_R, od_R, .func (PySem.W.fnOf "__init__" "Round.__init__" (defArgs sRInit) (defBody sRInit) (defScope sRInit) .none kV_R dc_R pm_R an_R cd_R ct_R), sl_R⟩) (c_R : PySem.W.codeIn K cd_R "Round.__init__" = true) (k_R : PySem.W.keepIn K (.ref f_R) = true)
    (pg_R : PySem.W.plainGet K C_R Str.empty = true) (hd_R : PySem.W.hasDictIn K C_R = true) (po_R : PySem.W.plainOver K C_R = true) (sa_R : PySem.W.findIn K (.ref C_R) "__setattr__" = some (some (.builtin "object.__setattr__"))) (mk_R : PySem.W.makesIn K C_R = true) (kc_R : PySem.W.keepIn K (.ref C_R) = true)
    (n_R_n : PySem.W.findIn K (.ref C_R) "n" = some none)
    (n_R_a : PySem.W.findIn K (.ref C_R) "a" = some none)
    (n_R_b : PySem.W.findIn K (.ref C_R) "b" = some none)
    (n_R_asked : PySem.W.findIn K (.ref C_R) "asked" = some none)
    (n_R_many : PySem.W.findIn K (.ref C_R) "many" = some none)
    (a_W : PySem.W.nsIn K mainGlobals "Work" = some (some (.ref C_W))) (g_W : PySem.W.findIn K (.ref C_W) "__init__" = some (some (.ref f_W))) (i_W : PySem.W.isFn K (.ref f_W) = true)
    (l_W : K.lookup f_W = some ⟨oc_W, od_W, .func (PySem.W.fnOf "__init__" "Work.__init__" (defArgs sWInit) (defBody sWInit) (defScope sWInit) .none kV_W dc_W pm_W an_W cd_W ct_W), sl_W⟩) (c_W : PySem.W.codeIn K cd_W "Work.__init__" = true) (k_W : PySem.W.keepIn K (.ref f_W) = true)
    (pg_W : PySem.W.plainGet K C_W Str.empty = true) (hd_W : PySem.W.hasDictIn K C_W = true) (po_W : PySem.W.plainOver K C_W = true) (sa_W : PySem.W.findIn K (.ref C_W) "__setattr__" = some (some (.builtin "object.__setattr__"))) (mk_W : PySem.W.makesIn K C_W = true) (kc_W : PySem.W.keepIn K (.ref C_W) = true)
    (n_W_n : PySem.W.findIn K (.ref C_W) "n" = some none)
    (n_W_x : PySem.W.findIn K (.ref C_W) "x" = some none)
    (n_W_k : PySem.W.findIn K (.ref C_W) "k" = some none)
    (n_W_left : PySem.W.findIn K (.ref C_W) "left" = some none)
    (n_W_so_far : PySem.W.findIn K (.ref C_W) "so_far" = some none)
    (a_D : PySem.W.nsIn K mainGlobals "Desk" = some (some (.ref C_D))) (g_D : PySem.W.findIn K (.ref C_D) "__init__" = some (some (.ref f_D))) (i_D : PySem.W.isFn K (.ref f_D) = true)
    (l_D : K.lookup f_D = some ⟨oc_D, od_D, .func (PySem.W.fnOf "__init__" "Desk.__init__" (defArgs sDInit) (defBody sDInit) (defScope sDInit) .none kV_D dc_D pm_D an_D cd_D ct_D), sl_D⟩) (c_D : PySem.W.codeIn K cd_D "Desk.__init__" = true) (k_D : PySem.W.keepIn K (.ref f_D) = true)
    (pg_D : PySem.W.plainGet K C_D Str.empty = true) (hd_D : PySem.W.hasDictIn K C_D = true) (po_D : PySem.W.plainOver K C_D = true) (sa_D : PySem.W.findIn K (.ref C_D) "__setattr__" = some (some (.builtin "object.__setattr__"))) (mk_D : PySem.W.makesIn K C_D = true) (kc_D : PySem.W.keepIn K (.ref C_D) = true)
    (n_D_work : PySem.W.findIn K (.ref C_D) "work" = some none)
    (z_range : PySem.W.nsIn K mainGlobals "range" = some none)
    (z_len : PySem.W.nsIn K mainGlobals "len" = some none)
    (z_min : PySem.W.nsIn K mainGlobals "min" = some none)
    (z_zip : PySem.W.nsIn K mainGlobals "zip" = some none)
    (i_WIDE : PySem.W.nsIn K mainGlobals "WIDE" = some (some (.int 64 t_WIDE)))
    (i_HALF : PySem.W.nsIn K mainGlobals "HALF" = some (some (.int 32 t_HALF)))
    (i_LOT : PySem.W.nsIn K mainGlobals "LOT" = some (some (.int 4294967296 t_LOT)))
    (i_MOST_K : PySem.W.nsIn K mainGlobals "MOST_K" = some (some (.int 20 t_MOST_K)))
    (i_SOME_LEFT : PySem.W.nsIn K mainGlobals "SOME_LEFT" = some (some (.int (-1) t_SOME_LEFT)))
    (i_NOT_SHOWN : PySem.W.nsIn K mainGlobals "NOT_SHOWN" = some (some (.int (-13) t_NOT_SHOWN)))
    (i_NOT_FIT : PySem.W.nsIn K mainGlobals "NOT_FIT" = some (some (.int (-22) t_NOT_FIT)))
    (i_NOT_BEGUN : PySem.W.nsIn K mainGlobals "NOT_BEGUN" = some (some (.int (-61) t_NOT_BEGUN)))
    (a_WHOLES : PySem.W.nsIn K mainGlobals "WHOLES" = some (some (.ref w_WHOLES))) (l_WHOLES : K.lookup w_WHOLES = some ⟨.type "tuple", oc_WHOLES, .seq #[.int 1 t0_WHOLES, .int 1 t1_WHOLES, .int 1 t2_WHOLES, .int 0 t3_WHOLES, .int 0 t4_WHOLES, .int 1 t5_WHOLES, .int 0 t6_WHOLES] n_WHOLES, os_WHOLES⟩)
    (a_LISTS : PySem.W.nsIn K mainGlobals "LISTS" = some (some (.ref w_LISTS))) (l_LISTS : K.lookup w_LISTS = some ⟨.type "tuple", oc_LISTS, .seq #[.int 4 t0_LISTS, .int 2 t1_LISTS, .int 0 t2_LISTS, .int 0 t3_LISTS, .int 0 t4_LISTS, .int 4 t5_LISTS, .int 2 t6_LISTS] n_LISTS, os_LISTS⟩)
    : ∃ fd : FuncData, (∀ (s : Shared) (us : List Value), us.length = (["calls"] : List Str).length → BindsTo s fd ⟨us, []⟩ ((["calls"] : List Str).zip us)) ∧ ∀ base : Heap, K.In base → base.Ns mainGlobals mg → FnOk P w K mg base CX0 8 fa fd ["calls"] (spAns K) := by
  have e := hfa.symm.trans (PySem.W.mg_of X G a_an)
  cases e
  have T : Tx mg := ⟨PySem.W.mg_none_of X G z_range, PySem.W.mg_none_of X G z_len, PySem.W.mg_none_of X G z_min, PySem.W.mg_none_of X G z_zip, ⟨_, PySem.W.mg_of X G i_WIDE⟩, ⟨_, PySem.W.mg_of X G i_HALF⟩, ⟨_, PySem.W.mg_of X G i_LOT⟩, least, ⟨_, PySem.W.mg_of X G i_MOST_K⟩, ⟨_, PySem.W.mg_of X G i_SOME_LEFT⟩, ⟨_, PySem.W.mg_of X G i_NOT_SHOWN⟩, ⟨_, PySem.W.mg_of X G i_NOT_FIT⟩, ⟨_, PySem.W.mg_of X G i_NOT_BEGUN⟩⟩
  have v_WHOLES : ∀ H : Hp, SqT K H w_WHOLES (iv wholesTab) := fun H => .inr ⟨_, _, n_WHOLES, l_WHOLES, rfl, rfl, le_size (by show 7 ≤ 16777216; decide), .cons ⟨t0_WHOLES, rfl⟩ (.cons ⟨t1_WHOLES, rfl⟩ (.cons ⟨t2_WHOLES, rfl⟩ (.cons ⟨t3_WHOLES, rfl⟩ (.cons ⟨t4_WHOLES, rfl⟩ (.cons ⟨t5_WHOLES, rfl⟩ (.cons ⟨t6_WHOLES, rfl⟩ (.nil)))))))⟩
  have v_LISTS : ∀ H : Hp, SqT K H w_LISTS (iv listsTab) := fun H => .inr ⟨_, _, n_LISTS, l_LISTS, rfl, rfl, le_size (by show 7 ≤ 16777216; decide), .cons ⟨t0_LISTS, rfl⟩ (.cons ⟨t1_LISTS, rfl⟩ (.cons ⟨t2_LISTS, rfl⟩ (.cons ⟨t3_LISTS, rfl⟩ (.cons ⟨t4_LISTS, rfl⟩ (.cons ⟨t5_LISTS, rfl⟩ (.cons ⟨t6_LISTS, rfl⟩ (.nil)))))))⟩
  have B : Tabs K mg := ⟨⟨w_WHOLES, PySem.W.mg_of X G a_WHOLES, v_WHOLES⟩, ⟨w_LISTS, PySem.W.mg_of X G a_LISTS, v_LISTS⟩⟩
  have X_R : RTx K C_R := ⟨⟨pg_R, hd_R, po_R, sa_R⟩, n_R_n, n_R_a, n_R_b, n_R_asked, n_R_many⟩
  have X_W : WTx K C_W := ⟨⟨pg_W, hd_W, po_W, sa_W⟩, n_W_n, n_W_x, n_W_k, n_W_left, n_W_so_far⟩
  have X_D : DTx K C_D := ⟨⟨pg_D, hd_D, po_D, sa_D⟩, n_D_work⟩
  have F_nu := fun_mk (st := sNumber) l_nu c_nu k_nu
  have b_nu := F_nu.binds (ps := ["some"]) fun _ _ _ _ _ _ us hl => match us, hl with | [_], _ => rfl
  have F_by := fun_mk (st := sBytes) l_by c_by k_by
  have b_by := F_by.binds (ps := ["number"]) fun _ _ _ _ _ _ us hl => match us, hl with | [_], _ => rfl
  have F_fc := fun_mk (st := sFace) l_fc c_fc k_fc
  have b_fc := F_fc.binds (ps := ["number", "n"]) fun _ _ _ _ _ _ us hl => match us, hl with | [_, _], _ => rfl
  have F_sm := fun_mk (st := sSmall) l_sm c_sm k_sm
  have b_sm := F_sm.binds (ps := ["number", "n"]) fun _ _ _ _ _ _ us hl => match us, hl with | [_, _], _ => rfl
  have F_ft := fun_mk (st := sFit) l_ft c_ft k_ft
  have b_ft := F_ft.binds (ps := ["n", "x", "k"]) fun _ _ _ _ _ _ us hl => match us, hl with | [_, _, _], _ => rfl
  have F_rs := fun_mk (st := sRaised) l_rs c_rs k_rs
  have b_rs := F_rs.binds (ps := ["number", "times", "n"]) fun _ _ _ _ _ _ us hl => match us, hl with | [_, _, _], _ => rfl
  have F_pw := fun_mk (st := sPowered) l_pw c_pw k_pw
  have b_pw := F_pw.binds (ps := ["number", "power", "n"]) fun _ _ _ _ _ _ us hl => match us, hl with | [_, _, _], _ => rfl
  have F_pd := fun_mk (st := sPad) l_pd c_pd k_pd
  have b_pd := F_pd.binds (ps := ["number"]) fun _ _ _ _ _ _ us hl => match us, hl with | [_], _ => rfl
  have F_mx := fun_mk (st := sMixed) l_mx c_mx k_mx
  have b_mx := F_mx.binds (ps := ["some", "pad"]) fun _ _ _ _ _ _ us hl => match us, hl with | [_, _], _ => rfl
  have F_lt := fun_mk (st := sLot) l_lt c_lt k_lt
  have b_lt := F_lt.binds (ps := ["n", "a", "b", "c", "t"]) fun _ _ _ _ _ _ us hl => match us, hl with | [_, _, _, _, _], _ => rfl
  have F_pa := fun_mk (st := sPadA) l_pa c_pa k_pa
  have b_pa := F_pa.binds (ps := ["number"]) fun _ _ _ _ _ _ us hl => match us, hl with | [_], _ => rfl
  have F_la := fun_mk (st := sLotA) l_la c_la k_la
  have b_la := F_la.binds (ps := ["a", "b", "c", "t"]) fun _ _ _ _ _ _ us hl => match us, hl with | [_, _, _, _], _ => rfl
  have F_ha := fun_mk (st := sHalved) l_ha c_ha k_ha
  have b_ha := F_ha.binds (ps := ["own", "c", "t"]) fun _ _ _ _ _ _ us hl => match us, hl with | [_, _, _], _ => rfl
  have F_pr := fun_mk (st := sProof) l_pr c_pr k_pr
  have b_pr := F_pr.binds (ps := ["own", "k"]) fun _ _ _ _ _ _ us hl => match us, hl with | [_, _], _ => rfl
  have F_ni := fun_mk (st := sNumbers) l_ni c_ni k_ni
  have b_ni := F_ni.binds (ps := ["proof"]) fun _ _ _ _ _ _ us hl => match us, hl with | [_], _ => rfl
  have F_ar := fun_mk (st := sAre) l_ar c_ar k_ar
  have b_ar := F_ar.binds (ps := ["numbers", "n"]) fun _ _ _ _ _ _ us hl => match us, hl with | [_, _], _ => rfl
  have F_sh := fun_mk (st := sShown) l_sh c_sh k_sh
  have b_sh := F_sh.binds (ps := ["own", "numbers"]) fun _ _ _ _ _ _ us hl => match us, hl with | [_, _], _ => rfl
  have F_al := fun_mk (st := sAlone) l_al c_al k_al
  have b_al := F_al.binds (ps := ["number"]) fun _ _ _ _ _ _ us hl => match us, hl with | [_], _ => rfl
  have F_se := fun_mk (st := sSeal) l_se c_se k_se
  have b_se := F_se.binds (ps := ["k", "lists"]) fun _ _ _ _ _ _ us hl => match us, hl with | [_, _], _ => rfl
  have F_be := fun_mk (st := sBegin) l_be c_be k_be
  have b_be := F_be.binds (ps := ["desk", "k", "lists"]) fun _ _ _ _ _ _ us hl => match us, hl with | [_, _, _], _ => rfl
  have F_dw := fun_mk (st := sWork) l_dw c_dw k_dw
  have b_dw := F_dw.binds (ps := ["work", "steps"]) fun _ _ _ _ _ _ us hl => match us, hl with | [_, _], _ => rfl
  have F_va := fun_mk (st := sValue) l_va c_va k_va
  have b_va := F_va.binds (ps := ["work"]) fun _ _ _ _ _ _ us hl => match us, hl with | [_], _ => rfl
  have F_sw := fun_mk (st := sShow) l_sw c_sw k_sw
  have b_sw := F_sw.binds (ps := ["work"]) fun _ _ _ _ _ _ us hl => match us, hl with | [_], _ => rfl
  have F_ri := fun_mk (st := sRight) l_ri c_ri k_ri
  have b_ri := F_ri.binds (ps := ["k", "lists"]) fun _ _ _ _ _ _ us hl => match us, hl with | [_, _], _ => rfl
  have F_re := fun_mk (st := sRead) l_re c_re k_re
  have b_re := F_re.binds (ps := ["lists"]) fun _ _ _ _ _ _ us hl => match us, hl with | [_], _ => rfl
  have F_of := fun_mk (st := sOf) l_of c_of k_of
  have b_of := F_of.binds (ps := ["work", "kind", "wholes"]) fun _ _ _ _ _ _ us hl => match us, hl with | [_, _, _], _ => rfl
  have F_ad := fun_mk (st := sAnswered) l_ad c_ad k_ad
  have b_ad := F_ad.binds (ps := ["desk", "kind", "wholes", "lists"]) fun _ _ _ _ _ _ us hl => match us, hl with | [_, _, _, _], _ => rfl
  have F_an := fun_mk (st := sAnswers) l_an c_an k_an
  have b_an := F_an.binds (ps := ["calls"]) fun _ _ _ _ _ _ us hl => match us, hl with | [_], _ => rfl
  have F_R := fun_mk (st := sRInit) l_R c_R k_R
  have b_R := F_R.binds (ps := ["self", "n", "a", "b"]) fun _ _ _ _ _ _ us hl => match us, hl with | [_, _, _, _], _ => rfl
  have F_W := fun_mk (st := sWInit) l_W c_W k_W
  have b_W := F_W.binds (ps := ["self", "n", "x", "k"]) fun _ _ _ _ _ _ us hl => match us, hl with | [_, _, _, _], _ => rfl
  have F_D := fun_mk (st := sDInit) l_D c_D k_D
  have b_D := F_D.binds (ps := ["self"]) fun _ _ _ _ _ _ us hl => match us, hl with | [_], _ => rfl
  refine ⟨PySem.W.fnOf "answers" "answers" (defArgs sAnswers) (defBody sAnswers) (defScope sAnswers) .none kV_an dc_an pm_an an_an cd_an ct_an, fun s us hu => match us, hu with | [_], _ => .of_eq rfl, fun base _ _ => ?_⟩
  have d_nu : Df P w K mg base "number_of" 1 ["some"] (spNumber K) := ⟨⟨f_nu, _, ok_number F_nu, PySem.W.mg_of X G a_nu, k_nu, b_nu⟩⟩
  have d_by : Df P w K mg base "bytes_of" 1 ["number"] spBytes := ⟨⟨f_by, _, ok_bytes F_by T, PySem.W.mg_of X G a_by, k_by, b_by⟩⟩
  have d_fc : Df P w K mg base "face" 1 ["number", "n"] spFace := ⟨⟨f_fc, _, ok_face F_fc T, PySem.W.mg_of X G a_fc, k_fc, b_fc⟩⟩
  have d_sm : Df P w K mg base "is_small" 1 ["number", "n"] spSmall := ⟨⟨f_sm, _, ok_small F_sm, PySem.W.mg_of X G a_sm, k_sm, b_sm⟩⟩
  have d_ft : Df P w K mg base "is_fit" 2 ["n", "x", "k"] spFit := ⟨⟨f_ft, _, ok_fit F_ft T d_sm, PySem.W.mg_of X G a_ft, k_ft, b_ft⟩⟩
  have d_rs : Df P w K mg base "raised" 1 ["number", "times", "n"] spRaised := ⟨⟨f_rs, _, ok_raised F_rs T, PySem.W.mg_of X G a_rs, k_rs, b_rs⟩⟩
  have d_pw : Df P w K mg base "powered" 1 ["number", "power", "n"] spPowered := ⟨⟨f_pw, _, ok_powered F_pw, PySem.W.mg_of X G a_pw, k_pw, b_pw⟩⟩
  have d_pd : Df P w K mg base "pad_of" 2 ["number"] spPad := ⟨⟨f_pd, _, ok_pad F_pd T d_by, PySem.W.mg_of X G a_pd, k_pd, b_pd⟩⟩
  have d_mx : Df P w K mg base "mixed" 1 ["some", "pad"] (spMixed K) := ⟨⟨f_mx, _, ok_mixed F_mx T, PySem.W.mg_of X G a_mx, k_mx, b_mx⟩⟩
  have d_lt : Df P w K mg base "lot_of" 1 ["n", "a", "b", "c", "t"] spLot := ⟨⟨f_lt, _, ok_lot F_lt T, PySem.W.mg_of X G a_lt, k_lt, b_lt⟩⟩
  have d_pa : Df P w K mg base "pad_asked" 2 ["number"] spPadA := ⟨⟨f_pa, _, ok_padA F_pa d_by, PySem.W.mg_of X G a_pa, k_pa, b_pa⟩⟩
  have d_la : Df P w K mg base "lot_asked" 2 ["a", "b", "c", "t"] spLotA := ⟨⟨f_la, _, ok_lotA F_la d_by, PySem.W.mg_of X G a_la, k_la, b_la⟩⟩
  have N : Nums P w K mg base := ⟨d_nu, d_by, d_fc, d_sm, d_ft, d_rs, d_pw, d_pd, d_mx, d_lt, d_pa, d_la⟩
  have d_R : Dc P w K mg base "Round" C_R 1 ["self", "n", "a", "b"] (spRInit C_R) := ⟨⟨f_R, _, ok_rInit F_R X_R, PySem.W.mg_of X G a_R, ⟨mk_R, g_R, i_R, kc_R⟩, b_R⟩⟩
  have d_W : Dc P w K mg base "Work" C_W 1 ["self", "n", "x", "k"] (spWInit C_W) := ⟨⟨f_W, _, ok_wInit F_W X_W, PySem.W.mg_of X G a_W, ⟨mk_W, g_W, i_W, kc_W⟩, b_W⟩⟩
  have d_D : Dc P w K mg base "Desk" C_D 1 ["self"] (spDInit C_D) := ⟨⟨f_D, _, ok_dInit F_D X_D, PySem.W.mg_of X G a_D, ⟨mk_D, g_D, i_D, kc_D⟩, b_D⟩⟩
  have d_ha : Df P w K mg base "halved" 3 ["own", "c", "t"] (spHalved C_R) := ⟨⟨f_ha, _, ok_halved F_ha X_R N, PySem.W.mg_of X G a_ha, k_ha, b_ha⟩⟩
  have d_pr : Df P w K mg base "proof_of" 4 ["own", "k"] (spProof C_R) := ⟨⟨f_pr, _, ok_proof F_pr T X_R N d_ha, PySem.W.mg_of X G a_pr, k_pr, b_pr⟩⟩
  have d_ni : Df P w K mg base "numbers_in" 2 ["proof"] (spNumbers K) := ⟨⟨f_ni, _, ok_numbers F_ni T N, PySem.W.mg_of X G a_ni, k_ni, b_ni⟩⟩
  have d_ar : Df P w K mg base "are_small" 2 ["numbers", "n"] (spAre K) := ⟨⟨f_ar, _, ok_are F_ar N, PySem.W.mg_of X G a_ar, k_ar, b_ar⟩⟩
  have d_sh : Df P w K mg base "is_shown" 4 ["own", "numbers"] (spShown C_R) := ⟨⟨f_sh, _, ok_shown F_sh T X_R N d_ha, PySem.W.mg_of X G a_sh, k_sh, b_sh⟩⟩
  have d_al : Df P w K mg base "alone" 1 ["number"] spAlone := ⟨⟨f_al, _, ok_alone F_al, PySem.W.mg_of X G a_al, k_al, b_al⟩⟩
  have d_se : Df P w K mg base "seal" 3 ["k", "lists"] (spSeal K) := ⟨⟨f_se, _, ok_seal F_se T N d_al, PySem.W.mg_of X G a_se, k_se, b_se⟩⟩
  have d_be : Df P w K mg base "begin" 3 ["desk", "k", "lists"] (spBegin K C_D C_W) := ⟨⟨f_be, _, ok_begin F_be T X_D N d_al d_W, PySem.W.mg_of X G a_be, k_be, b_be⟩⟩
  have d_dw : Df P w K mg base "do_work" 2 ["work", "steps"] (spWork C_W) := ⟨⟨f_dw, _, ok_work F_dw T X_W N d_al, PySem.W.mg_of X G a_dw, k_dw, b_dw⟩⟩
  have d_va : Df P w K mg base "value" 2 ["work"] (spValue C_W) := ⟨⟨f_va, _, ok_value F_va T X_W N d_al, PySem.W.mg_of X G a_va, k_va, b_va⟩⟩
  have d_sw : Df P w K mg base "show" 5 ["work"] (spShow C_W) := ⟨⟨f_sw, _, ok_show F_sw T X_W X_R N d_al d_R d_pr, PySem.W.mg_of X G a_sw, k_sw, b_sw⟩⟩
  have d_ri : Df P w K mg base "right" 5 ["k", "lists"] (spRight K) := ⟨⟨f_ri, _, ok_right F_ri T X_R N d_al d_ni d_ar d_R d_sh, PySem.W.mg_of X G a_ri, k_ri, b_ri⟩⟩
  have d_re : Df P w K mg base "read" 3 ["lists"] (spRead K) := ⟨⟨f_re, _, ok_read F_re N, PySem.W.mg_of X G a_re, k_re, b_re⟩⟩
  have d_of : Df P w K mg base "of_work" 6 ["work", "kind", "wholes"] (spOf K C_D C_W) := ⟨⟨f_of, _, ok_of F_of T d_dw d_va d_sw, PySem.W.mg_of X G a_of, k_of, b_of⟩⟩
  have d_ad : Df P w K mg base "answered" 7 ["desk", "kind", "wholes", "lists"] (spAnswered K C_D C_W) := ⟨⟨f_ad, _, ok_answered F_ad X_D d_se d_be d_ri d_re d_of, PySem.W.mg_of X G a_ad, k_ad, b_ad⟩⟩
  exact ok_answers F_an T B d_D d_ad
end Tl
open PySem PySem.W PyProof.Rows
set_option maxRecDepth 100000 in
set_option maxHeartbeats 0 in
theorem PySem.Challenge.cw_timedletters_s01_answers_holds : PySem.Challenge.rw_timedletters_s01_answers.Holds := by
  w_on; k_headS; (case hw => exact ⟨[.list [.int 3]], by decide +kernel, by decide +kernel⟩)
  k_fillS
  refine Tl.walk_specX (r := PySem.Challenge.rw_timedletters_s01_answers) (k := 8) (ps := ["calls"]) (sp := Tl.spAns) (by decide +kernel) rfl rfl ⟨rfl, by decide, by decide⟩ (fun w h Y => PySem.W.kIn_of Y) ?F ?S
  case F =>
    intro w mg fa h XX Y KX G hmg
    refine' Tl.all_mk KX G hmg ?least ?a_nu ?l_nu ?c_nu ?k_nu ?a_by ?l_by ?c_by ?k_by ?a_fc ?l_fc ?c_fc ?k_fc ?a_sm ?l_sm ?c_sm ?k_sm ?a_ft ?l_ft ?c_ft ?k_ft ?a_rs ?l_rs ?c_rs ?k_rs ?a_pw ?l_pw ?c_pw ?k_pw ?a_pd ?l_pd ?c_pd ?k_pd ?a_mx ?l_mx ?c_mx ?k_mx ?a_lt ?l_lt ?c_lt ?k_lt ?a_pa ?l_pa ?c_pa ?k_pa ?a_la ?l_la ?c_la ?k_la ?a_ha ?l_ha ?c_ha ?k_ha ?a_pr ?l_pr ?c_pr ?k_pr ?a_ni ?l_ni ?c_ni ?k_ni ?a_ar ?l_ar ?c_ar ?k_ar ?a_sh ?l_sh ?c_sh ?k_sh ?a_al ?l_al ?c_al ?k_al ?a_se ?l_se ?c_se ?k_se ?a_be ?l_be ?c_be ?k_be ?a_dw ?l_dw ?c_dw ?k_dw ?a_va ?l_va ?c_va ?k_va ?a_sw ?l_sw ?c_sw ?k_sw ?a_ri ?l_ri ?c_ri ?k_ri ?a_re ?l_re ?c_re ?k_re ?a_of ?l_of ?c_of ?k_of ?a_ad ?l_ad ?c_ad ?k_ad ?a_an ?l_an ?c_an ?k_an ?a_R ?g_R ?i_R ?l_R ?c_R ?k_R ?pg_R ?hd_R ?po_R ?sa_R ?mk_R ?kc_R ?n_R_n ?n_R_a ?n_R_b ?n_R_asked ?n_R_many ?a_W ?g_W ?i_W ?l_W ?c_W ?k_W ?pg_W ?hd_W ?po_W ?sa_W ?mk_W ?kc_W ?n_W_n ?n_W_x ?n_W_k ?n_W_left ?n_W_so_far ?a_D ?g_D ?i_D ?l_D ?c_D ?k_D ?pg_D ?hd_D ?po_D ?sa_D ?mk_D ?kc_D ?n_D_work ?z_range ?z_len ?z_min ?z_zip ?i_WIDE ?i_HALF ?i_LOT ?i_MOST_K ?i_SOME_LEFT ?i_NOT_SHOWN ?i_NOT_FIT ?i_NOT_BEGUN ?a_WHOLES ?l_WHOLES ?a_LISTS ?l_LISTS
    (case least => exact Tl.least_of XX)
    (case a_nu => k_is); (case l_nu => k_is); (case c_nu => k_is); (case k_nu => k_is); (case a_by => k_is); (case l_by => k_is)
    (case c_by => k_is); (case k_by => k_is); (case a_fc => k_is); (case l_fc => k_is); (case c_fc => k_is); (case k_fc => k_is)
    (case a_sm => k_is); (case l_sm => k_is); (case c_sm => k_is); (case k_sm => k_is); (case a_ft => k_is); (case l_ft => k_is)
    (case c_ft => k_is); (case k_ft => k_is); (case a_rs => k_is); (case l_rs => k_is); (case c_rs => k_is); (case k_rs => k_is)
    (case a_pw => k_is); (case l_pw => k_is); (case c_pw => k_is); (case k_pw => k_is); (case a_pd => k_is); (case l_pd => k_is)
    (case c_pd => k_is); (case k_pd => k_is); (case a_mx => k_is); (case l_mx => k_is); (case c_mx => k_is); (case k_mx => k_is)
    (case a_lt => k_is); (case l_lt => k_is); (case c_lt => k_is); (case k_lt => k_is); (case a_pa => k_is); (case l_pa => k_is)
    (case c_pa => k_is); (case k_pa => k_is); (case a_la => k_is); (case l_la => k_is); (case c_la => k_is); (case k_la => k_is)
    (case a_ha => k_is); (case l_ha => k_is); (case c_ha => k_is); (case k_ha => k_is); (case a_pr => k_is); (case l_pr => k_is)
    (case c_pr => k_is); (case k_pr => k_is); (case a_ni => k_is); (case l_ni => k_is); (case c_ni => k_is); (case k_ni => k_is)
    (case a_ar => k_is); (case l_ar => k_is); (case c_ar => k_is); (case k_ar => k_is); (case a_sh => k_is); (case l_sh => k_is)
    (case c_sh => k_is); (case k_sh => k_is); (case a_al => k_is); (case l_al => k_is); (case c_al => k_is); (case k_al => k_is)
    (case a_se => k_is); (case l_se => k_is); (case c_se => k_is); (case k_se => k_is); (case a_be => k_is); (case l_be => k_is)
    (case c_be => k_is); (case k_be => k_is); (case a_dw => k_is); (case l_dw => k_is); (case c_dw => k_is); (case k_dw => k_is)
    (case a_va => k_is); (case l_va => k_is); (case c_va => k_is); (case k_va => k_is); (case a_sw => k_is); (case l_sw => k_is)
    (case c_sw => k_is); (case k_sw => k_is); (case a_ri => k_is); (case l_ri => k_is); (case c_ri => k_is); (case k_ri => k_is)
    (case a_re => k_is); (case l_re => k_is); (case c_re => k_is); (case k_re => k_is); (case a_of => k_is); (case l_of => k_is)
    (case c_of => k_is); (case k_of => k_is); (case a_ad => k_is); (case l_ad => k_is); (case c_ad => k_is); (case k_ad => k_is)
    (case a_an => k_is); (case l_an => k_is); (case c_an => k_is); (case k_an => k_is); (case a_R => k_is); (case g_R => k_is)
    (case i_R => k_is); (case l_R => k_is); (case c_R => k_is); (case k_R => k_is); (case pg_R => k_is); (case hd_R => k_is)
    (case po_R => k_is); (case sa_R => k_is); (case mk_R => k_is); (case kc_R => k_is); (case n_R_n => k_is); (case n_R_a => k_is)
    (case n_R_b => k_is); (case n_R_asked => k_is); (case n_R_many => k_is); (case a_W => k_is); (case g_W => k_is); (case i_W => k_is)
    (case l_W => k_is); (case c_W => k_is); (case k_W => k_is); (case pg_W => k_is); (case hd_W => k_is); (case po_W => k_is)
    (case sa_W => k_is); (case mk_W => k_is); (case kc_W => k_is); (case n_W_n => k_is); (case n_W_x => k_is); (case n_W_k => k_is)
    (case n_W_left => k_is); (case n_W_so_far => k_is); (case a_D => k_is); (case g_D => k_is); (case i_D => k_is); (case l_D => k_is)
    (case c_D => k_is); (case k_D => k_is); (case pg_D => k_is); (case hd_D => k_is); (case po_D => k_is); (case sa_D => k_is)
    (case mk_D => k_is); (case kc_D => k_is); (case n_D_work => k_is); (case z_range => k_is); (case z_len => k_is); (case z_min => k_is)
    (case z_zip => k_is); (case i_WIDE => k_is); (case i_HALF => k_is); (case i_LOT => k_is); (case i_MOST_K => k_is); (case i_SOME_LEFT => k_is)
    (case i_NOT_SHOWN => k_is); (case i_NOT_FIT => k_is); (case i_NOT_BEGUN => k_is); (case a_WHOLES => k_is); (case l_WHOLES => k_is); (case a_LISTS => k_is)
    (case l_LISTS => k_is)
  case S =>
    intro K H xs a hO hwi hask hx
    cases hx with
    | cons h1 h2 =>
      cases h2
      cases h1 with
      | lst hs ha =>
        have e := L2.ints_dw a.1 _ ha
        subst e
        exact ⟨_, a.1, rfl, hs, hask, fun H' p hp => .lst (L2.SqL.of hp) (L2.dw_ints _)⟩
#print axioms PySem.Challenge.cw_timedletters_s01_answers_holds
