import PyProof.Rows.All
import Wide.All
import OpenK.AllK
import Wide.FinOn
import PyProof.EqAt
import PyProof.EqKinds
import PyProof.TupleCall
import Open.SpecLaws
import KE.OsGo
import HandS.ForSpec
import HandS.Comp
import HandS.Dict
import HandS.Iter
import HandS.Text
import HandS.Evl
import HandS.ExcInit
import HandS.ExcField
import HandS.Wide
import KE.KEqSeq
import KE.KEqDeep
import PySem.Challenge.RW_goneby_s01_answers
set_option Elab.async false
set_option linter.all false
set_option maxRecDepth 100000
set_option maxHeartbeats 4000000
namespace G
open Sj55

/-! ### programs: which instruction is wrong -/
def wrongX (n : Nat) (x : Ins) (i : Nat) : Bool := !(decide (x.op ≤ 11) &&
  (if 8 ≤ x.op ∧ x.op ≤ 10 then decide (i + 1 + x.yes < n) && decide (i + 1 + x.no < n) else true) && (if i + 1 = n then x.op == 11 else true))
def wrongAt (p : List Ins) (i : Nat) : Bool := match p[i]? with
  | none => false
  | some x => wrongX p.length x i
theorem wrong_def (p : List Ins) : wrong p = (p.zipIdx.find? fun x => wrongX p.length x.1 x.2).map fun x => x.2 := rfl
theorem find_idx (n : Nat) : ∀ (l : List Ins) (k : Nat), ((l.zipIdx k).find? fun x => wrongX n x.1 x.2).map (fun x => x.2) = ((List.range' k l.length).filter fun i => match l[i - k]? with
    | none => false
    | some x => wrongX n x i).head?
  | [], k => rfl
  | x :: l, k => by
    rw [List.zipIdx_cons, List.find?_cons, List.length_cons, List.range'_succ, List.filter_cons]
    have e : (match (x :: l)[k - k]? with
      | none => false
      | some x => wrongX n x k) = wrongX n x k := by simp
    rw [e]
    cases h : wrongX n x k with
    | true => simp
    | false =>
      rw [find_idx n l (k + 1)]
      have e2 : (List.range' (k + 1) l.length).filter (fun i => match l[i - (k + 1)]? with
          | none => false
          | some x => wrongX n x i) = (List.range' (k + 1) l.length).filter (fun i => match (x :: l)[i - k]? with
          | none => false
          | some x => wrongX n x i) := by
        apply List.filter_congr
        intro i hi
        rw [List.mem_range'_1] at hi
        have e3 : i - k = (i - (k + 1)) + 1 := by omega
        rw [e3, List.getElem?_cons_succ]
      simp only [e2, Bool.false_eq_true, if_false]
theorem wrong_eq (p : List Ins) : wrong p = ((List.range p.length).filter (wrongAt p)).head? := by
  rw [wrong_def]
  have h := find_idx p.length p 0
  rw [List.range_eq_range']
  exact h
theorem wrong_none {p : List Ins} (h : wrong p = none) {i : Nat} {x : Ins} (hi : p[i]? = some x) : wrongX p.length x i = false := by
  rw [wrong_eq, List.head?_eq_none_iff, List.filter_eq_nil_iff] at h
  have hlt := (List.getElem?_eq_some_iff.mp hi).1
  have z := h i (List.mem_range.mpr hlt)
  unfold wrongAt at z
  rw [hi] at z
  exact Bool.eq_false_iff.mpr z
theorem wrongX_false {n : Nat} {x : Ins} {i : Nat} (h : wrongX n x i = false) : x.op ≤ 11 ∧ (8 ≤ x.op ∧ x.op ≤ 10 → i + 1 + x.yes < n ∧ i + 1 + x.no < n) ∧ (i + 1 = n → x.op = 11) := by
  unfold wrongX at h
  simp only [Bool.not_eq_false', Bool.and_eq_true, decide_eq_true_eq] at h
  obtain ⟨⟨h1, h2⟩, h3⟩ := h
  refine ⟨h1, fun c => ?_, fun c => ?_⟩
  · rw [if_pos c] at h2
    simpa using h2
  · rw [if_pos c] at h3
    simpa using h3

/-! ### programs run -/
def loadN (e : Entry) (f : Bytes) (op k : Nat) : Nat := if op = 0 then f.getD k 0 else if op = 1 then 256 * f.getD k 0 + f.getD (k + 1) 0 else if op = 2 then e.len else if op = 3 then e.kind else if op = 4 then e.queue else e.time
def passN (op a k : Nat) : Bool := if op = 8 then a == k else if op = 9 then decide (k < a) else (Nat.land a k != 0)
/-- the place and the number behind an instruction that isn't the last -/
def nextI (x : Ins) (i a : Nat) : Nat := if 8 ≤ x.op ∧ x.op ≤ 10 then i + 1 + (if passN x.op a x.k then x.yes else x.no) else i + 1
def nextA (e : Entry) (f : Bytes) (x : Ins) (a : Nat) : Nat := if 8 ≤ x.op ∧ x.op ≤ 10 then a else if x.op = 6 then Nat.land a x.k else if x.op = 7 then a / 2 ^ (x.k % 32) else loadN e f x.op x.k
theorem run_tells {e : Entry} {f : Bytes} {p : List Ins} {m i a : Nat} {x : Ins} (hi : p[i]? = some x) (h : x.op = 11) : run e f p (m + 1) i a = x.k := by
  rw [run, hi]
  simp only [h]
theorem run_goes {e : Entry} {f : Bytes} {p : List Ins} {m i a : Nat} {x : Ins} (hi : p[i]? = some x) (h : x.op ≤ 10) : run e f p (m + 1) i a = run e f p m (nextI x i a) (nextA e f x a) := by
  rw [run, hi]
  have c : x.op = 0 ∨ x.op = 1 ∨ x.op = 2 ∨ x.op = 3 ∨ x.op = 4 ∨ x.op = 5 ∨ x.op = 6 ∨ x.op = 7 ∨ x.op = 8 ∨ x.op = 9 ∨ x.op = 10 := by omega
  rcases c with c | c | c | c | c | c | c | c | c | c | c <;> simp [c, nextI, nextA, loadN, passN]
theorem nextI_gt (x : Ins) (i a : Nat) : i < nextI x i a := by
  unfold nextI
  split <;> omega
theorem nextI_lt {n : Nat} {x : Ins} {i : Nat} (a : Nat) (hi : i < n) (h : wrongX n x i = false) (h11 : x.op ≠ 11) : nextI x i a < n := by
  obtain ⟨h1, h2, h3⟩ := wrongX_false h
  unfold nextI
  split
  · rename_i c
    have := h2 c
    split <;> omega
  · have : i + 1 ≠ n := fun z => h11 (h3 z)
    omega
theorem run_kept {p : List Ins} {f : Bytes} {t k q l : Nat} {x y : Bytes} : ∀ (m i a : Nat), run ⟨t, k, q, l, x⟩ f p m i a = run ⟨t, k, q, l, y⟩ f p m i a
  | 0, _, _ => rfl
  | m + 1, i, a => by
    cases hi : p[i]? with
    | none => rw [run, run, hi]
    | some z =>
      by_cases h : z.op ≤ 10
      · rw [run_goes hi h, run_goes hi h]
        have e : nextA ⟨t, k, q, l, x⟩ f z a = nextA ⟨t, k, q, l, y⟩ f z a := rfl
        rw [e]
        exact run_kept m _ _
      · rw [run, run, hi]
        dsimp only
        have c : ∀ n, n ≤ 10 → z.op ≠ n := fun n hn e => h (by omega)
        have c0 := c 0 (by omega); have c1 := c 1 (by omega); have c2 := c 2 (by omega); have c3 := c 3 (by omega); have c4 := c 4 (by omega); have c5 := c 5 (by omega)
        have c6 := c 6 (by omega); have c7 := c 7 (by omega); have c8 := c 8 (by omega); have c9 := c 9 (by omega); have c10 := c 10 (by omega)
        split <;> first | rfl | (exfalso; omega) | simp_all

/-! ### instructions four by four -/
theorem insOf_len : ∀ (n : Nat) (l : List Int), l.length = 4 * n → (insOf n l).length = n
  | 0, l, h => by
    have e : l = [] := List.eq_nil_of_length_eq_zero (by omega)
    subst e
    rfl
  | n + 1, a :: b :: c :: d :: l, h => by
    simp only [List.length_cons] at h
    show (insOf n l).length + 1 = n + 1
    rw [insOf_len n l (by omega)]
  | n + 1, [], h => by simp at h
  | n + 1, [_], h => by simp at h; omega
  | n + 1, [_, _], h => by simp at h; omega
  | n + 1, [_, _, _], h => by simp at h; omega
theorem insOf_at : ∀ (n : Nat) (l : List Int), l.length = 4 * n → ∀ i, i < n → ∃ a b c d, (l.drop (4 * i)).take 4 = [a, b, c, d] ∧ (insOf n l)[i]? = some ⟨a.toNat, b.toNat, c.toNat, d.toNat⟩
  | 0, l, h, i, hi => absurd hi (Nat.not_lt_zero _)
  | n + 1, a :: b :: c :: d :: l, h, 0, hi => ⟨a, b, c, d, by simp, rfl⟩
  | n + 1, a :: b :: c :: d :: l, h, i + 1, hi => by
    simp only [List.length_cons] at h
    obtain ⟨a', b', c', d', e1, e2⟩ := insOf_at n l (by omega) i (by omega)
    refine ⟨a', b', c', d', ?_, ?_⟩
    · have e : 4 * (i + 1) = 4 * i + 1 + 1 + 1 + 1 := by omega
      rw [e, List.drop_succ_cons, List.drop_succ_cons, List.drop_succ_cons, List.drop_succ_cons]
      exact e1
    · show (insOf n l)[i]? = _
      exact e2
  | n + 1, [], h, _, _ => by simp at h
  | n + 1, [_], h, _, _ => by simp at h; omega
  | n + 1, [_, _], h, _, _ => by simp at h; omega
  | n + 1, [_, _, _], h, _, _ => by simp at h; omega
end G
namespace G
open Sj55

/-! ### the record as the program holds it -/
structure Kst where
  size : Nat
  snap : Nat
  prog : List Ins
  entries : List Sj55.Entry
  kf : Nat
  lf : Nat
  ge : Nat
def tellsN (p : List Ins) (e : Sj55.Entry) : Nat := Sj55.run e e.kept p (p.length + 1) 0 0
structure GoodP (p : List Ins) : Prop where
  wrong : Sj55.wrong p = none
  pos : 0 < p.length
def goneN (size need : Nat) (es : List Sj55.Entry) : Nat := es.length - (room size need es).length
def keepE (s : Kst) (e : Sj55.Entry) : Sj55.Entry := { e with kept := e.kept.take (min (tellsN s.prog e) s.snap) }
def Kst.goBy (s : Kst) (e : Sj55.Entry) : Kst :=
  if tellsN s.prog e = 0 then { s with lf := s.lf + 1 } else
    { s with entries := s.entries.drop (goneN s.size (keepE s e).size s.entries) ++ [keepE s e], kf := s.kf + 1, ge := s.ge + goneN s.size (keepE s e).size s.entries }
def Kst.byA (s : Kst) (e : Sj55.Entry) : Nat × Nat := if tellsN s.prog e = 0 then (0, 0) else (1, goneN s.size (keepE s e).size s.entries)
def Kst.again (s : Kst) : Kst := { s with entries := s.entries.filter fun e => tellsN s.prog e != 0 }

def lastT (es : List Sj55.Entry) : Nat := match es.getLast? with
  | none => 0
  | some e => e.time
def countsN (s : Kst) : List Int := [(s.kf : Int), (s.lf : Int), ((s.ge % 4294967296 : Nat) : Int), (s.entries.length : Int), ((Sj55.total s.entries : Nat) : Int)]
def freshK (size snap : Nat) : Kst := ⟨size, snap, [Sj55.all], [], 0, 0, 0⟩
theorem room_len : ∀ (size need : Nat) (es : List Sj55.Entry), (room size need es).length ≤ es.length
  | _, _, [] => Nat.le_refl _
  | size, need, e :: l => by
    unfold room
    split
    · exact Nat.le_refl _
    · exact Nat.le_succ_of_le (room_len size need l)
theorem room_drop : ∀ (size need : Nat) (es : List Sj55.Entry), room size need es = es.drop (goneN size need es)
  | _, _, [] => rfl
  | size, need, e :: l => by
    unfold goneN
    by_cases h : total (e :: l) + need ≤ size
    · rw [room, if_pos h, Nat.sub_self]
      rfl
    · rw [room, if_neg h]
      have ih := room_drop size need l
      unfold goneN at ih
      have hl := room_len size need l
      have e1 : (e :: l).length - (room size need l).length = (l.length - (room size need l).length) + 1 := by
        rw [List.length_cons]
        omega
      rw [e1, List.drop_succ_cons]
      exact ih
theorem room_at {size need : Nat} {es : List Sj55.Entry} {i : Nat} (hi : i < es.length) (h : room size need (es.drop i) = room size need es) (hf : total (es.drop i) + need ≤ size) : goneN size need es = i := by
  unfold goneN
  rw [← h, List.drop_eq_getElem_cons hi] at *
  rw [room, if_pos hf, List.length_cons, List.length_drop]
  omega
theorem room_on {size need : Nat} {es : List Sj55.Entry} {i : Nat} {e : Sj55.Entry} (hi : es[i]? = some e) (h : room size need (es.drop i) = room size need es) (hf : ¬ total (es.drop i) + need ≤ size) : room size need (es.drop (i + 1)) = room size need es := by
  obtain ⟨hlt, rfl⟩ := List.getElem?_eq_some_iff.mp hi
  rw [← h, List.drop_eq_getElem_cons hlt, room, if_neg]
  rw [← List.drop_eq_getElem_cons hlt]
  exact hf
theorem room_end {size need : Nat} {es : List Sj55.Entry} (h : room size need (es.drop es.length) = room size need es) : goneN size need es = es.length := by
  unfold goneN
  rw [← h, List.drop_length]
  exact Nat.sub_zero _
theorem total_drop {es : List Sj55.Entry} {i : Nat} {e : Sj55.Entry} (hi : es[i]? = some e) : total (es.drop i) = e.size + total (es.drop (i + 1)) := by
  obtain ⟨hlt, rfl⟩ := List.getElem?_eq_some_iff.mp hi
  rw [List.drop_eq_getElem_cons hlt]
  rfl
end G
namespace G
open Sj55

/-! ### writing down -/
theorem seven_low {f n : Nat} (hf : 1 ≤ f) (h : n < 128) : seven f n = [n] := by
  cases f with
  | zero => omega
  | succ f => rw [seven, if_pos h]
theorem seven_high {f n : Nat} (h : ¬ n < 128) : seven (f + 1) n = (128 + n % 128) :: seven f (n / 128) := by
  rw [seven, if_neg h]
theorem seven_len : ∀ (f n : Nat), (seven f n).length ≤ f
  | 0, _ => Nat.le_refl _
  | f + 1, n => by
    rw [seven]
    split
    · simp
    · rw [List.length_cons]
      exact Nat.succ_le_succ (seven_len f _)
theorem bitStep_eq (c : Nat) : bitStep c = if c % 2 = 1 then Nat.xor (c / 2) 2197175160 else c / 2 := rfl
theorem land_one (z : Nat) : Nat.land z 1 = z % 2 := Nat.and_one_is_mod z
theorem land_255 (z : Nat) : Nat.land z 255 = z % 256 := Nat.and_two_pow_sub_one_eq_mod z 8
theorem low_four (v : Nat) : low 4 v = (List.range 4).map fun i => v / 2 ^ (8 * i) % 256 := by
  show [v % 256, v / 256 % 256, v / 256 / 256 % 256, v / 256 / 256 / 256 % 256] = [v / 2 ^ 0 % 256, v / 2 ^ 8 % 256, v / 2 ^ 16 % 256, v / 2 ^ 24 % 256]
  rw [Nat.div_div_eq_div_mul, Nat.div_div_eq_div_mul]
  simp
/-- an entry written down behind a time -/
def entB (t : Nat) (e : Sj55.Entry) : Bytes := num (e.time - t) ++ [e.kind, e.queue] ++ num e.len ++ num e.kept.length ++ e.kept
/-- the time ahead of the i-th -/
def timeAt (t : Nat) (es : List Sj55.Entry) (i : Nat) : Nat := if i = 0 then t else (es[i - 1]?.map fun e => e.time).getD t
theorem entriesOut_more : ∀ (es : List Sj55.Entry) (t i : Nat) (e : Sj55.Entry), es[i]? = some e → entriesOut t (es.take (i + 1)) = entriesOut t (es.take i) ++ entB (timeAt t es i) e
  | [], _, _, _, h => by simp at h
  | x :: es, t, 0, e, h => by
    simp at h
    subst h
    simp [entriesOut, entB, timeAt]
  | x :: es, t, i + 1, e, h => by
    have h' : es[i]? = some e := by simpa using h
    have ih := entriesOut_more es x.time i e h'
    rw [List.take_succ_cons, entriesOut, ih, List.take_succ_cons, entriesOut]
    have et : timeAt x.time es i = timeAt t (x :: es) (i + 1) := by
      unfold timeAt
      rw [if_neg (Nat.succ_ne_zero i)]
      cases i with
      | zero => simp
      | succ i =>
        rw [if_neg (Nat.succ_ne_zero i)]
        have hl : i < es.length := by have := (List.getElem?_eq_some_iff.mp h').1; omega
        simp [hl]
    rw [et]
    simp only [List.append_assoc]
theorem timeAt_succ {t : Nat} {es : List Sj55.Entry} {i : Nat} {e : Sj55.Entry} (h : es[i]? = some e) : timeAt t es (i + 1) = e.time := by
  unfold timeAt
  rw [if_neg (Nat.succ_ne_zero i)]
  simp [h]
def Sorted (es : List Sj55.Entry) : Prop := es.Pairwise fun a b => a.time ≤ b.time
theorem timeAt_le {es : List Sj55.Entry} {i : Nat} {e : Sj55.Entry} (hs : Sorted es) (h : es[i]? = some e) : timeAt 0 es i ≤ e.time := by
  cases i with
  | zero => exact Nat.zero_le _
  | succ i =>
    have hlt := (List.getElem?_eq_some_iff.mp h).1
    have hi : es[i]? = some es[i] := List.getElem?_eq_getElem (by omega)
    rw [timeAt_succ hi]
    obtain ⟨h1, h2⟩ := List.getElem?_eq_some_iff.mp h
    rw [← h2]
    exact List.pairwise_iff_getElem.mp hs i (i + 1) (by omega) h1 (by omega)
structure EOk (e : Sj55.Entry) : Prop where
  time : e.time < 2147483648
  kind : e.kind ≤ 15
  queue : e.queue ≤ 7
  len : e.len ≤ 1024
  kept : e.kept.length ≤ 256
theorem entB_len {t : Nat} {e : Sj55.Entry} (h : EOk e) : (entB t e).length ≤ 300 := by
  unfold entB num
  simp only [List.length_append, List.length_cons, List.length_nil]
  have h1 := seven_len 6 (e.time - t)
  have h2 := seven_len 6 e.len
  have h3 := seven_len 6 e.kept.length
  have h4 := h.kept
  omega
theorem entriesOut_len : ∀ (es : List Sj55.Entry) (t : Nat), (∀ e ∈ es, EOk e) → (entriesOut t es).length ≤ 300 * es.length
  | [], _, _ => Nat.zero_le _
  | e :: es, t, h => by
    have ih := entriesOut_len es e.time fun x hx => h x (List.mem_cons_of_mem _ hx)
    have h1 := entB_len (t := t) (h e (List.mem_cons_self ..))
    have e1 : entriesOut t (e :: es) = entB t e ++ entriesOut e.time es := rfl
    rw [e1, List.length_append, List.length_cons]
    omega
def headB (es : List Sj55.Entry) : Bytes := [0x57] ++ num es.length
def outB (es : List Sj55.Entry) : Bytes := (headB es ++ entriesOut 0 es) ++ low 4 (rest (headB es ++ entriesOut 0 es))
end G
namespace G
open Sj55

/-! ### numbers read -/
def findEnd : Nat → Bytes → Option Nat
  | 0, _ => none
  | _ + 1, [] => none
  | f + 1, b :: l => if b < 128 then some 0 else (findEnd f l).map (· + 1)
def valR : Nat → Bytes → Nat
  | _, [] => 0
  | 0, b :: _ => b
  | k + 1, b :: l => b % 128 + 128 * valR k l
theorem findEnd_at : ∀ (f : Nat) (l : Bytes) (k : Nat), findEnd f l = some k → k < f ∧ ∃ b, l[k]? = some b ∧ b < 128
  | 0, _, _, h => by simp [findEnd] at h
  | _ + 1, [], _, h => by simp [findEnd] at h
  | f + 1, b :: l, k, h => by
    rw [findEnd] at h
    by_cases hb : b < 128
    · rw [if_pos hb] at h
      cases h
      exact ⟨by omega, b, rfl, hb⟩
    · rw [if_neg hb] at h
      obtain ⟨j, hj, rfl⟩ := Option.map_eq_some_iff.mp h
      obtain ⟨h1, c, h2, h3⟩ := findEnd_at f l j hj
      exact ⟨by omega, c, by simpa using h2, h3⟩
theorem findEnd_before : ∀ (f : Nat) (l : Bytes) (k : Nat), findEnd f l = some k → ∀ j, j < k → ∃ b, l[j]? = some b ∧ ¬ b < 128
  | 0, _, _, h, _, _ => by simp [findEnd] at h
  | _ + 1, [], _, h, _, _ => by simp [findEnd] at h
  | f + 1, b :: l, k, h, j, hj => by
    rw [findEnd] at h
    by_cases hb : b < 128
    · rw [if_pos hb] at h
      cases h
      omega
    · rw [if_neg hb] at h
      obtain ⟨i, hi, rfl⟩ := Option.map_eq_some_iff.mp h
      cases j with
      | zero => exact ⟨b, rfl, hb⟩
      | succ j =>
        obtain ⟨c, h2, h3⟩ := findEnd_before f l i hi j (by omega)
        exact ⟨c, by simpa using h2, h3⟩
theorem valR_pos : ∀ (k : Nat) (l : Bytes) (b : Nat), l[k]? = some b → b ≠ 0 → valR k l ≠ 0
  | _, [], _, h, _ => by simp at h
  | 0, c :: l, b, h, hb => by
    simp at h
    subst h
    exact hb
  | k + 1, c :: l, b, h, hb => by
    have := valR_pos k l b (by simpa using h) hb
    rw [valR]
    omega
theorem valR_zero (l : Bytes) (b : Nat) (h : l[0]? = some b) : valR 0 l = b := by
  cases l with
  | nil => simp at h
  | cons c l =>
    simp at h
    subst h
    rfl
theorem seven_read : ∀ (f : Nat) (l : Bytes), seven? f l = match findEnd f l with
    | none => none
    | some k => if l[k]? = some 0 ∧ 0 < k then none else some (valR k l, l.drop (k + 1))
  | 0, _ => rfl
  | f + 1, [] => rfl
  | f + 1, b :: l => by
    rw [seven?, findEnd]
    by_cases hb : b < 128
    · rw [if_pos hb, if_pos hb]
      simp [valR]
    · rw [if_neg hb, if_neg hb, seven_read f l]
      cases h : findEnd f l with
      | none => rfl
      | some k =>
        obtain ⟨_, c, hc, _⟩ := findEnd_at f l k h
        by_cases h0 : c = 0
        · subst h0
          have e2 : (b :: l)[k + 1]? = some 0 ∧ 0 < k + 1 := ⟨by simpa using hc, by omega⟩
          by_cases hk : 0 < k
          · simp only [Option.map_some]
            rw [if_pos ⟨hc, hk⟩, if_pos e2]
            rfl
          · have hk0 : k = 0 := by omega
            subst hk0
            simp only [Option.map_some]
            rw [if_neg (fun z => hk z.2), if_pos e2]
            have := valR_zero l 0 hc
            simp [this]
        · have e1 : ¬ (l[k]? = some 0 ∧ 0 < k) := fun z => h0 (by rw [hc] at z; exact Option.some.inj z.1)
          have e2 : ¬ ((b :: l)[k + 1]? = some 0 ∧ 0 < k + 1) := fun z => h0 (by
            have := z.1
            rw [List.getElem?_cons_succ, hc] at this
            exact Option.some.inj this)
          simp only [Option.map_some]
          rw [if_neg e1, if_neg e2]
          have hv := valR_pos k l c hc h0
          simp [hv, valR]
theorem num_read (l : Bytes) : num? l = match findEnd 5 l with
    | none => none
    | some k => if l[k]? = some 0 ∧ 0 < k then none else some (valR k l, l.drop (k + 1)) := seven_read 5 l
/-- the search goes on -/
theorem findEnd_on {f : Nat} {l : Bytes} {b : Nat} (hb : l[0]? = some b) (h : ¬ b < 128) : findEnd (f + 1) l = (findEnd f (l.drop 1)).map (· + 1) := by
  cases l with
  | nil => simp at hb
  | cons c l =>
    simp at hb
    subst hb
    rw [findEnd, if_neg h]
    rfl
theorem findEnd_here {f : Nat} {l : Bytes} {b : Nat} (hb : l[0]? = some b) (h : b < 128) : findEnd (f + 1) l = some 0 := by
  cases l with
  | nil => simp at hb
  | cons c l =>
    simp at hb
    subst hb
    rw [findEnd, if_pos h]
theorem findEnd_nil (f : Nat) : findEnd f [] = none := by cases f <;> rfl
/-- found from the highest down: one place more -/
theorem valR_step {l : Bytes} {k j b : Nat} (hj : j < k) (hb : l[j]? = some b) (h : ¬ b < 128) (h256 : b < 256) : valR (k - j) (l.drop j) = 128 * valR (k - (j + 1)) (l.drop (j + 1)) + (b - 128) := by
  obtain ⟨hlt, e⟩ := List.getElem?_eq_some_iff.mp hb
  rw [List.drop_eq_getElem_cons hlt, e]
  have ek : k - j = (k - (j + 1)) + 1 := by omega
  rw [ek, valR]
  omega
theorem valR_last {l : Bytes} {k b : Nat} (hb : l[k]? = some b) : valR (k - k) (l.drop k) = b := by
  rw [Nat.sub_self]
  exact valR_zero _ _ (by simpa using hb)

/-! ### one entry read -/
def entryIn (snap t : Nat) (l : Bytes) : Nat ⊕ (Sj55.Entry × Bytes) := match num? l with
  | none => .inl 2
  | some (d, l) => match l with
    | k :: q :: l => (match num? l with
      | none => .inl 2
      | some (len, l) => match num? l with
        | none => .inl 2
        | some (c, l) => if 2 ^ 31 ≤ t + d ∨ 15 < k ∨ 7 < q ∨ 1024 < len ∨ len < c ∨ snap < c then .inl 3 else if l.length < c then .inl 4 else .inr (⟨t + d, k, q, len, l.take c⟩, l.drop c))
    | _ => .inl 4
theorem entriesIn_succ (snap n t : Nat) (l : Bytes) : entriesIn snap (n + 1) t l = match entryIn snap t l with
    | .inl e => .inl e
    | .inr (e, l) => match entriesIn snap n e.time l with
      | .inl x => .inl x
      | .inr y => .inr (e :: y.1, y.2) := by
  rw [entriesIn, entryIn]
  cases num? l with
  | none => rfl
  | some x =>
    obtain ⟨d, l⟩ := x
    dsimp only
    match l with
    | [] => rfl
    | [_] => rfl
    | k :: q :: l =>
      dsimp only
      cases num? l with
      | none => rfl
      | some x =>
        obtain ⟨len, l⟩ := x
        dsimp only
        cases num? l with
        | none => rfl
        | some x =>
          obtain ⟨c, l⟩ := x
          dsimp only
          split
          · rfl
          · split
            · rfl
            · rfl
/-- behind some entries -/
def joinIn (acc : List Sj55.Entry) (x : Nat ⊕ (List Sj55.Entry × Bytes)) : Nat ⊕ (List Sj55.Entry × Bytes) := match x with
  | .inl e => .inl e
  | .inr y => .inr (acc ++ y.1, y.2)
theorem joinIn_nil (x : Nat ⊕ (List Sj55.Entry × Bytes)) : joinIn [] x = x := by
  cases x <;> rfl
theorem joinIn_fault {snap n t f : Nat} {l : Bytes} {acc : List Sj55.Entry} (h : entryIn snap t l = .inl f) : joinIn acc (entriesIn snap (n + 1) t l) = .inl f := by
  rw [entriesIn_succ, h]
  rfl
theorem joinIn_more {snap n t : Nat} {l l' : Bytes} {acc : List Sj55.Entry} {e : Sj55.Entry} (h : entryIn snap t l = .inr (e, l')) : joinIn acc (entriesIn snap (n + 1) t l) = joinIn (acc ++ [e]) (entriesIn snap n e.time l') := by
  rw [entriesIn_succ, h]
  cases h2 : entriesIn snap n e.time l' with
  | inl x => simp [joinIn, h2]
  | inr y => simp [joinIn, h2]
theorem entryIn_ok {snap t : Nat} {l l' : Bytes} {e : Sj55.Entry} (hs : snap ≤ 256) (h : entryIn snap t l = .inr (e, l')) : EOk e ∧ t ≤ e.time ∧ e.kept.length ≤ snap := by
  unfold entryIn at h
  split at h
  · cases h
  · split at h
    · split at h
      · cases h
      · split at h
        · cases h
        · split at h
          · cases h
          · rename_i hb
            split at h
            · cases h
            · rename_i hl
              cases h
              have e31 : (2 : Nat) ^ 31 = 2147483648 := by decide
              rw [e31] at hb
              refine ⟨⟨?_, ?_, ?_, ?_, ?_⟩, ?_, ?_⟩ <;> simp only [List.length_take] <;> omega
    · cases h
end G
namespace G
open Sj55

def readC (size : Nat) (x : Nat ⊕ (List Sj55.Entry × Bytes)) : Nat ⊕ List Sj55.Entry := match x with
  | .inl e => .inl e
  | .inr x => if x.2 ≠ [] then .inl 5 else if size < total x.1 then .inl 6 else .inr x.1
def readB (size snap : Nat) (l : Bytes) : Nat ⊕ List Sj55.Entry := match num? l with
  | none => .inl 2
  | some (n, l) => if 1024 < n then .inl 3 else readC size (entriesIn snap n 0 l)
def headOk (l : Bytes) : Prop := 6 ≤ l.length ∧ l[0]? = some 87 ∧ low 4 (rest (l.take (l.length - 4))) = l.drop (l.length - 4)
instance (l : Bytes) : Decidable (headOk l) := by
  unfold headOk
  infer_instance
def readN (size snap : Nat) (l : Bytes) : Nat ⊕ List Sj55.Entry :=
  if l.length < 6 ∨ l.drop (l.length - 4) ≠ low 4 (rest (l.take (l.length - 4))) ∨ (l.take (l.length - 4)).head? ≠ some 0x57 then .inl 1 else readB size snap ((l.take (l.length - 4)).drop 1)
theorem read_eq (r : Record) (l : Bytes) : r.read l = readN r.size r.snap l := by
  unfold Record.read readN readB readC
  dsimp only
  split
  · rfl
  · cases num? ((l.take (l.length - 4)).drop 1) with
    | none => rfl
    | some x =>
      obtain ⟨n, l'⟩ := x
      dsimp only
      split
      · rfl
      · cases entriesIn r.snap n 0 l' with
        | inl e => rfl
        | inr x => rfl
theorem readN_bad {size snap : Nat} {l : Bytes} (h : ¬ headOk l) : readN size snap l = .inl 1 := by
  unfold readN
  rw [if_pos]
  by_cases h6 : l.length < 6
  · exact .inl h6
  · by_cases hl : l.drop (l.length - 4) = low 4 (rest (l.take (l.length - 4)))
    · refine .inr (.inr fun z => h ⟨by omega, ?_, hl.symm⟩)
      rw [List.head?_take, if_neg (by omega)] at z
      rw [← z, List.head?_eq_getElem?]
    · exact .inr (.inl hl)
theorem readN_good {size snap : Nat} {l : Bytes} (h : headOk l) : readN size snap l = readB size snap ((l.take (l.length - 4)).drop 1) := by
  obtain ⟨h6, h0, hl⟩ := h
  unfold readN
  rw [if_neg]
  rintro (z | z | z)
  · omega
  · exact z hl.symm
  · apply z
    rw [List.head?_take, if_neg (by omega), List.head?_eq_getElem?, h0]
theorem joinIn_end {snap t : Nat} {l : Bytes} {acc : List Sj55.Entry} : joinIn acc (entriesIn snap 0 t l) = .inr (acc, l) := by
  simp [joinIn, entriesIn]
/-- what's read is in order -/
theorem entriesIn_ok : ∀ (n snap t : Nat) (l : Bytes) (x : List Sj55.Entry × Bytes), snap ≤ 256 → entriesIn snap n t l = .inr x → (∀ e ∈ x.1, EOk e ∧ t ≤ e.time) ∧ Sorted x.1 ∧ x.1.length = n
  | 0, snap, t, l, x, _, h => by
    rw [entriesIn] at h
    cases h
    exact ⟨fun e he => by simp at he, List.Pairwise.nil, rfl⟩
  | n + 1, snap, t, l, x, hs, h => by
    rw [entriesIn_succ] at h
    cases h1 : entryIn snap t l with
    | inl e => rw [h1] at h; cases h
    | inr y =>
      obtain ⟨e, l'⟩ := y
      rw [h1] at h
      dsimp only at h
      cases h2 : entriesIn snap n e.time l' with
      | inl e => rw [h2] at h; cases h
      | inr z =>
        rw [h2] at h
        dsimp only at h
        cases h
        obtain ⟨ok, hle, _⟩ := entryIn_ok hs h1
        obtain ⟨i1, i2, i3⟩ := entriesIn_ok n snap e.time l' z hs h2
        refine ⟨fun a ha => ?_, ?_, by simp [i3]⟩
        · rcases List.mem_cons.mp ha with rfl | ha
          · exact ⟨ok, hle⟩
          · exact ⟨(i1 a ha).1, Nat.le_trans hle (i1 a ha).2⟩
        · exact List.pairwise_cons.mpr ⟨fun a ha => (i1 a ha).2, i2⟩
theorem readN_ok {size snap : Nat} {l : Bytes} {es : List Sj55.Entry} (hs : snap ≤ 256) (h : readN size snap l = .inr es) : (∀ e ∈ es, EOk e) ∧ Sorted es ∧ total es ≤ size := by
  unfold readN at h
  split at h
  · cases h
  · unfold readB at h
    split at h
    · cases h
    · split at h
      · cases h
      · rename_i n l' _ _
        unfold readC at h
        cases h2 : entriesIn snap n 0 l' with
        | inl e => rw [h2] at h; cases h
        | inr x =>
          rw [h2] at h
          dsimp only at h
          split at h
          · cases h
          · split at h
            · cases h
            · cases h
              obtain ⟨i1, i2, _⟩ := entriesIn_ok n snap 0 l' x hs h2
              exact ⟨fun e he => (i1 e he).1, i2, by omega⟩
theorem total_len : ∀ es : List Sj55.Entry, 12 * es.length ≤ total es
  | [] => Nat.zero_le _
  | e :: es => by
    have ih := total_len es
    have e1 : total (e :: es) = e.size + total es := rfl
    rw [e1, List.length_cons]
    unfold Sj55.Entry.size
    omega
theorem drop_at {l : Bytes} {i b : Nat} (h : l[i]? = some b) : l.drop i = b :: l.drop (i + 1) := by
  obtain ⟨hlt, e⟩ := List.getElem?_eq_some_iff.mp h
  rw [List.drop_eq_getElem_cons hlt, e]
end G
namespace G
open Sj55

def frameE (t k q n : Int) (l : List Int) : Sj55.Entry := ⟨t.toNat, k.toNat, q.toNat, n.toNat, nats l⟩

/-- the record as the specification has it -/
def Kst.rc (s : Kst) : Record := ⟨s.size, s.snap, s.prog, s.entries, [s.kf % 2 ^ 32, s.lf % 2 ^ 32, s.ge % 2 ^ 32]⟩
structure Kst.Ok (s : Kst) : Prop where
  size : s.size ≤ 4096
  least : 512 ≤ s.size
  snap : s.snap ≤ 256
  good : GoodP s.prog
  plen : s.prog.length ≤ 64
  tot : total s.entries ≤ s.size
  eok : ∀ e ∈ s.entries, EOk e
  sorted : Sorted s.entries
theorem Kst.Ok.few {s : Kst} (h : s.Ok) : s.entries.length ≤ 1000 := by
  have := total_len s.entries
  have := h.tot
  have := h.size
  omega
def callGood : Sj55.Call → Prop
  | .program n l => l.length = 4 * Sj55Neutral.many n 1 64 ∧ ∀ z ∈ l, 0 ≤ z
  | .put _ _ _ n l => l.length = Sj55Neutral.many n 0 1024 ∧ ∀ z ∈ l, 0 ≤ z ∧ z ≤ 255
  | .test _ _ _ n l => l.length = Sj55Neutral.many n 0 1024 ∧ ∀ z ∈ l, 0 ≤ z ∧ z ≤ 255
  | .read n l => l.length = Sj55Neutral.many n 0 8192 ∧ ∀ z ∈ l, 0 ≤ z ∧ z ≤ 255
  | _ => True
def isOpen : Sj55.Call → Bool
  | .open_ _ _ => true
  | _ => false
/-- what the program does of a call -/
def Kst.on (s : Kst) : Sj55.Call → Kst × List Int
  | .program n l => if isIn 1 64 n = false then (s, [-2]) else match wrong (insOf n.toNat l) with
    | some k => (s, [-100 - nat k])
    | none => ({ s with prog := insOf n.toNat l }, [n])
  | .put t k q n l => if isFrame t k q n = false then (s, [-2]) else if t < (lastT s.entries : Int) then (s, [-3]) else
    (s.goBy (frameE t k q n l), [nat (s.byA (frameE t k q n l)).1, nat (s.byA (frameE t k q n l)).2])
  | .get i => if isIn 0 1023 i = false then (s, [-2]) else match s.entries[i.toNat]? with
    | none => (s, [-6])
    | some e => (s, [nat e.kept.length, nat e.time, nat e.kind, nat e.queue, nat e.len] ++ Sj55.ints e.kept)
  | .find t => if isIn 0 (2 ^ 31 - 1) t = false then (s, [-2]) else (s, [nat (s.entries.filter fun e => decide (nat e.time < t)).length])
  | .test t k q n l => if isFrame t k q n = false then (s, [-2]) else (s, [0, nat (tellsN s.prog (frameE t k q n l))])
  | .again => (s.again, [nat s.entries.length - nat s.again.entries.length])
  | .out => (s, nat (outB s.entries).length :: Sj55.ints (outB s.entries))
  | .read n l => if isIn 0 8192 n = false then (s, [-2]) else match readN s.size s.snap (nats l) with
    | .inl f => (s, [-10 - nat f])
    | .inr es => ({ s with entries := es }, [nat es.length])
  | .sums => (s, 0 :: sumsOf s.entries)
  | .counts => (s, 0 :: countsN s)
  | .open_ _ _ => (s, [-2])

theorem isIn_iff {a b z : Int} : isIn a b z = true ↔ a ≤ z ∧ z ≤ b := by
  unfold isIn
  rw [Bool.and_eq_true, decide_eq_true_eq, decide_eq_true_eq]
theorem many_in {n lo most : Int} (h : isIn lo most n = true) : Sj55Neutral.many n lo most = n.toNat := by
  unfold Sj55Neutral.many
  rw [if_pos (isIn_iff.mp h)]
theorem isFrame_iff {t k q n : Int} : isFrame t k q n = true ↔ (0 ≤ t ∧ t ≤ 2147483647) ∧ (0 ≤ k ∧ k ≤ 15) ∧ (0 ≤ q ∧ q ≤ 7) ∧ (0 ≤ n ∧ n ≤ 1024) := by
  unfold isFrame
  rw [Bool.and_eq_true, Bool.and_eq_true, Bool.and_eq_true, isIn_iff, isIn_iff, isIn_iff, isIn_iff]
  have e : (2 : Int) ^ 31 - 1 = 2147483647 := by decide
  rw [e]
  constructor
  · rintro ⟨⟨⟨h1, h2⟩, h3⟩, h4⟩
    exact ⟨h1, h2, h3, h4⟩
  · rintro ⟨h1, h2, h3, h4⟩
    exact ⟨⟨⟨h1, h2⟩, h3⟩, h4⟩
theorem isFrame_n {t k q n : Int} (h : isFrame t k q n = true) : isIn 0 1024 n = true := isIn_iff.mpr (isFrame_iff.mp h).2.2.2
theorem take_all {l : List Int} {n : Nat} (h : l.length = n) : l.take n = l := List.take_of_length_le (by omega)
theorem nats_len (l : List Int) : (nats l).length = l.length := List.length_map ..
theorem last_le : ∀ {es : List Sj55.Entry}, Sorted es → ∀ e ∈ es, e.time ≤ lastT es
  | [], _, e, h => by simp at h
  | x :: es, hs, e, h => by
    obtain ⟨h1, h2⟩ := List.pairwise_cons.mp hs
    cases es with
    | nil =>
      rcases List.mem_cons.mp h with rfl | h
      · exact Nat.le_refl _
      · simp at h
    | cons y es =>
      have e1 : lastT (x :: y :: es) = lastT (y :: es) := by
        unfold lastT
        rw [List.getLast?_cons_cons]
      rw [e1]
      rcases List.mem_cons.mp h with rfl | h
      · have := last_le h2 y (List.mem_cons_self ..)
        have := h1 y (List.mem_cons_self ..)
        omega
      · exact last_le h2 e h
theorem room_fit : ∀ (size need : Nat) (es : List Sj55.Entry), room size need es = [] ∨ total (room size need es) + need ≤ size
  | _, _, [] => .inl rfl
  | size, need, e :: l => by
    by_cases h : total (e :: l) + need ≤ size
    · rw [room, if_pos h]
      exact .inr h
    · rw [room, if_neg h]
      exact room_fit size need l
theorem total_app : ∀ (a b : List Sj55.Entry), total (a ++ b) = total a + total b
  | [], b => by
    show total b = 0 + total b
    omega
  | x :: a, b => by
    have e1 : total (x :: a ++ b) = x.size + total (a ++ b) := rfl
    have e2 : total (x :: a) = x.size + total a := rfl
    rw [e1, e2, total_app a b]
    omega
theorem total_filter (g : Sj55.Entry → Bool) : ∀ es : List Sj55.Entry, total (es.filter g) ≤ total es
  | [] => Nat.le_refl _
  | x :: es => by
    have ih := total_filter g es
    have e2 : total (x :: es) = x.size + total es := rfl
    rw [List.filter_cons]
    split
    · have e1 : total (x :: es.filter g) = x.size + total (es.filter g) := rfl
      rw [e1, e2]
      omega
    · rw [e2]
      omega
theorem frameE_ok {t k q n : Int} {l : List Int} (h : isFrame t k q n = true) (s : Kst) (hs : s.snap ≤ 256) : EOk (keepE s (frameE t k q n l)) := by
  obtain ⟨h1, h2, h3, h4⟩ := isFrame_iff.mp h
  refine ⟨?_, ?_, ?_, ?_, ?_⟩
  · show t.toNat < _
    omega
  · show k.toNat ≤ _
    omega
  · show q.toNat ≤ _
    omega
  · show n.toNat ≤ _
    omega
  · show ((nats l).take _).length ≤ _
    rw [List.length_take]
    omega
theorem goBy_ok {s : Kst} {t k q n : Int} {l : List Int} (h : s.Ok) (hf : isFrame t k q n = true) (ht : ¬ t < (lastT s.entries : Int)) : (s.goBy (frameE t k q n l)).Ok := by
  unfold Kst.goBy
  split
  · exact ⟨h.size, h.least, h.snap, h.good, h.plen, h.tot, h.eok, h.sorted⟩
  · have he := frameE_ok (l := l) hf s h.snap
    have htm : (keepE s (frameE t k q n l)).time = t.toNat := rfl
    generalize keepE s (frameE t k q n l) = e at *
    refine ⟨h.size, h.least, h.snap, h.good, h.plen, ?_, ?_, ?_⟩
    · show total (s.entries.drop (goneN s.size e.size s.entries) ++ [e]) ≤ s.size
      rw [← room_drop, total_app]
      have e1 : total [e] = e.size := rfl
      rw [e1]
      rcases room_fit s.size e.size s.entries with z | z
      · rw [z]
        have e0 : total [] = 0 := rfl
        have := he.kept
        have := h.least
        rw [e0]
        unfold Sj55.Entry.size
        omega
      · exact z
    · intro x hx
      rcases List.mem_append.mp hx with hx | hx
      · exact h.eok x (List.mem_of_mem_drop hx)
      · rw [List.mem_singleton.mp hx]
        exact he
    · refine List.pairwise_append.mpr ⟨List.Pairwise.drop h.sorted, List.pairwise_singleton _ _, fun a ha b hb => ?_⟩
      rw [List.mem_singleton.mp hb, htm]
      have := last_le h.sorted a (List.mem_of_mem_drop ha)
      omega
theorem on_ok {s : Kst} {c : Sj55.Call} (h : s.Ok) (hc : callGood c) : (s.on c).1.Ok := by
  cases c with
  | program n l =>
    unfold Kst.on
    dsimp only
    split
    · exact h
    · rename_i hi
      have hi' : isIn 1 64 n = true := by simpa using hi
      have hn := isIn_iff.mp hi'
      split
      · exact h
      · rename_i hw
        obtain ⟨hl, _⟩ := hc
        rw [many_in hi'] at hl
        have hlen := insOf_len n.toNat l hl
        exact ⟨h.size, h.least, h.snap, ⟨hw, by rw [hlen]; omega⟩, by show (insOf n.toNat l).length ≤ 64; rw [hlen]; omega, h.tot, h.eok, h.sorted⟩
  | put t k q n l =>
    unfold Kst.on
    dsimp only
    split
    · exact h
    · rename_i hi
      split
      · exact h
      · rename_i ht
        exact goBy_ok h (by simpa using hi) ht
  | get i =>
    unfold Kst.on
    dsimp only
    split
    · exact h
    · split <;> exact h
  | find t =>
    unfold Kst.on
    dsimp only
    split <;> exact h
  | test t k q n l =>
    unfold Kst.on
    dsimp only
    split <;> exact h
  | again =>
    exact ⟨h.size, h.least, h.snap, h.good, h.plen, Nat.le_trans (total_filter _ _) h.tot, fun e he => h.eok e (List.mem_filter.mp he).1, List.Pairwise.filter _ h.sorted⟩
  | out => exact h
  | read n l =>
    unfold Kst.on
    dsimp only
    split
    · exact h
    · cases hr : readN s.size s.snap (nats l) with
      | inl f => exact h
      | inr es =>
        obtain ⟨h1, h2, h3⟩ := readN_ok h.snap hr
        exact ⟨h.size, h.least, h.snap, h.good, h.plen, h3, h1, h2⟩
  | sums => exact h
  | counts => exact h
  | open_ n m => exact h
theorem tells_want {s : Kst} {t k q n : Int} {l : List Int} (hn : (nats l).length = n.toNat) : s.rc.want ⟨t.toNat, k.toNat, q.toNat, (nats l).length, []⟩ (nats l) = tellsN s.prog (frameE t k q n l) := by
  unfold Record.want tellsN frameE
  rw [hn]
  exact run_kept _ _ _
theorem set3 (a b c x : Nat) : [a, b, c].set 0 x = [x, b, c] ∧ [a, b, c].set 1 x = [a, x, c] ∧ [a, b, c].set 2 x = [a, b, x] := ⟨rfl, rfl, rfl⟩
theorem on_spec {s : Kst} {c : Sj55.Call} (h : s.Ok) (hc : callGood c) (hkf : s.kf < 4294967296) (hlf : s.lf < 4294967296) (ho : isOpen c = false) : (Sj55.on s.rc c).1 = (s.on c).1.rc ∧ (Sj55.on s.rc c).2.v :: (Sj55.on s.rc c).2.l = (s.on c).2 := by
  have e32 : (2 : Nat) ^ 32 = 4294967296 := by decide
  cases c with
  | open_ n m => cases ho
  | program n l =>
    unfold Sj55.on Kst.on
    dsimp only
    cases hi : isIn 1 64 n with
    | false => exact ⟨rfl, rfl⟩
    | true =>
      rw [if_neg (by decide), if_neg (by decide)]
      cases hw : wrong (insOf n.toNat l) with
      | some k => exact ⟨rfl, rfl⟩
      | none => exact ⟨rfl, rfl⟩
  | put t k q n l =>
    obtain ⟨hl, _⟩ := hc
    unfold Sj55.on Kst.on
    dsimp only
    cases hi : isFrame t k q n with
    | false => exact ⟨rfl, rfl⟩
    | true =>
      rw [if_neg (show ¬ (!true) = true by decide), if_neg (show ¬ true = false by decide)]
      rw [many_in (isFrame_n hi)] at hl
      have ht := (isFrame_iff.mp hi).1
      have hlast : (s.rc.entries.getLast?.any fun e => decide (t.toNat < e.time)) = decide (t < (lastT s.entries : Int)) := by
        show (s.entries.getLast?.any fun e => decide (t.toNat < e.time)) = _
        unfold lastT
        cases s.entries.getLast? with
        | none =>
          show false = decide (t < ((0 : Nat) : Int))
          rw [decide_eq_false (by omega)]
        | some e =>
          show decide (t.toNat < e.time) = decide (t < ((e.time : Nat) : Int))
          apply decide_eq_decide.mpr
          omega
      rw [hlast]
      by_cases hlt : t < (lastT s.entries : Int)
      · rw [if_pos (decide_eq_true hlt), if_pos hlt]
        exact ⟨rfl, rfl⟩
      · rw [if_neg (by simpa using hlt), if_neg hlt, take_all hl]
        have hnl : (nats l).length = n.toNat := by rw [nats_len]; exact hl
        have hw := tells_want (s := s) (t := t) (k := k) (q := q) hnl
        unfold Record.put
        dsimp only
        rw [hw]
        have hk : (⟨t.toNat, k.toNat, q.toNat, (nats l).length, (nats l).take (min (tellsN s.prog (frameE t k q n l)) s.rc.snap)⟩ : Sj55.Entry) = keepE s (frameE t k q n l) := by
          rw [hnl]
          rfl
        rw [hk]
        by_cases h0 : tellsN s.prog (frameE t k q n l) = 0
        · rw [if_pos h0]
          unfold Kst.goBy Kst.byA
          rw [if_pos h0, if_pos h0]
          refine ⟨?_, rfl⟩
          show (⟨s.size, s.snap, s.prog, s.entries, counted [s.kf % 2 ^ 32, s.lf % 2 ^ 32, s.ge % 2 ^ 32] 1 1⟩ : Record) = ⟨s.size, s.snap, s.prog, s.entries, [s.kf % 2 ^ 32, (s.lf + 1) % 2 ^ 32, s.ge % 2 ^ 32]⟩
          congr 1
          show [s.kf % 2 ^ 32, (s.lf % 2 ^ 32 + 1) % 2 ^ 32, s.ge % 2 ^ 32] = _
          rw [Nat.mod_add_mod]
        · rw [if_neg h0]
          unfold Kst.goBy Kst.byA
          rw [if_neg h0, if_neg h0]
          have hg : s.rc.entries.length - (room s.rc.size (keepE s (frameE t k q n l)).size s.rc.entries).length = goneN s.size (keepE s (frameE t k q n l)).size s.entries := rfl
          have hd : room s.rc.size (keepE s (frameE t k q n l)).size s.rc.entries = s.entries.drop (goneN s.size (keepE s (frameE t k q n l)).size s.entries) := room_drop _ _ _
          dsimp only
          rw [hg, hd]
          refine ⟨?_, rfl⟩
          generalize goneN s.size (keepE s (frameE t k q n l)).size s.entries = g
          show (⟨s.size, s.snap, s.prog, _, counted (counted [s.kf % 2 ^ 32, s.lf % 2 ^ 32, s.ge % 2 ^ 32] 0 1) 2 g⟩ : Record) = ⟨s.size, s.snap, s.prog, _, [(s.kf + 1) % 2 ^ 32, s.lf % 2 ^ 32, (s.ge + g) % 2 ^ 32]⟩
          congr 1
          show [(s.kf % 2 ^ 32 + 1) % 2 ^ 32, s.lf % 2 ^ 32, (s.ge % 2 ^ 32 + g) % 2 ^ 32] = _
          rw [Nat.mod_add_mod, Nat.mod_add_mod]
  | get i =>
    unfold Sj55.on Kst.on
    dsimp only
    cases hi : isIn 0 1023 i with
    | false => exact ⟨rfl, rfl⟩
    | true =>
      rw [if_neg (by decide), if_neg (by decide)]
      show _ ∧ _
      have e : s.rc.entries = s.entries := rfl
      rw [e]
      cases s.entries[i.toNat]? with
      | none => exact ⟨rfl, rfl⟩
      | some e => exact ⟨rfl, rfl⟩
  | find t =>
    unfold Sj55.on Kst.on
    dsimp only
    cases hi : isIn 0 (2 ^ 31 - 1) t with
    | false => exact ⟨rfl, rfl⟩
    | true => exact ⟨rfl, rfl⟩
  | test t k q n l =>
    obtain ⟨hl, _⟩ := hc
    unfold Sj55.on Kst.on
    dsimp only
    cases hi : isFrame t k q n with
    | false => exact ⟨rfl, rfl⟩
    | true =>
      rw [if_neg (by decide), if_neg (by decide)]
      rw [many_in (isFrame_n hi)] at hl
      rw [take_all hl]
      have hnl : (nats l).length = n.toNat := by rw [nats_len]; exact hl
      rw [tells_want (s := s) (t := t) (k := k) (q := q) hnl]
      exact ⟨rfl, rfl⟩
  | again =>
    have hf : (s.rc.entries.filter fun e => s.rc.want e e.kept != 0) = s.again.entries := rfl
    unfold Sj55.on Kst.on
    dsimp only
    rw [hf]
    exact ⟨rfl, rfl⟩
  | out => exact ⟨rfl, rfl⟩
  | read n l =>
    obtain ⟨hl, _⟩ := hc
    unfold Sj55.on Kst.on
    dsimp only
    cases hi : isIn 0 8192 n with
    | false => exact ⟨rfl, rfl⟩
    | true =>
      rw [if_neg (by decide), if_neg (by decide)]
      rw [many_in hi] at hl
      rw [take_all hl, read_eq]
      have e : readN s.rc.size s.rc.snap (nats l) = readN s.size s.snap (nats l) := rfl
      rw [e]
      cases readN s.size s.snap (nats l) with
      | inl f => exact ⟨rfl, rfl⟩
      | inr es => exact ⟨rfl, rfl⟩
  | sums => exact ⟨rfl, rfl⟩
  | counts =>
    refine ⟨rfl, ?_⟩
    show 0 :: ([nat (s.kf % 2 ^ 32), nat (s.lf % 2 ^ 32), nat (s.ge % 2 ^ 32)] ++ [nat s.entries.length, nat (total s.entries)]) = 0 :: countsN s
    rw [e32, Nat.mod_eq_of_lt hkf, Nat.mod_eq_of_lt hlf]
    rfl
end G
namespace G
open Sj55

/-! ### calls -/
def wordOf : Sj55.Call → Int
  | .open_ _ _ => 1
  | .program _ _ => 2
  | .put _ _ _ _ _ => 3
  | .get _ => 4
  | .find _ => 5
  | .test _ _ _ _ _ => 6
  | .again => 7
  | .out => 8
  | .read _ _ => 9
  | .sums => 10
  | .counts => 11
def numsOf : Sj55.Call → List Int
  | .open_ n m => [n, m]
  | .program n _ => [n]
  | .put t k q n _ => [t, k, q, n]
  | .get i => [i]
  | .find t => [t]
  | .test t k q n _ => [t, k, q, n]
  | .again => []
  | .out => []
  | .read n _ => [n]
  | .sums => []
  | .counts => []
def rowOf : Sj55.Call → List Int
  | .program _ l => l
  | .put _ _ _ _ l => l
  | .test _ _ _ _ l => l
  | .read _ l => l
  | _ => []
def hasRow : Sj55.Call → Bool
  | .program _ _ => true
  | .put _ _ _ _ _ => true
  | .test _ _ _ _ _ => true
  | .read _ _ => true
  | _ => false
/-- what the program does of a call, with or without a record -/
def stepK (st : Option Kst) (c : Sj55.Call) : Option Kst × List Int := match c with
  | .open_ n m => if (isIn 512 4096 n && isIn 0 256 m) = true then (some (freshK n.toNat m.toNat), [0]) else (st, [-2])
  | c => match st with
    | none => (none, [-7])
    | some s => (some (s.on c).1, (s.on c).2)
theorem stepK_none {c : Sj55.Call} (h : isOpen c = false) : stepK none c = (none, [-7]) := by
  cases c <;> first | rfl | cases h
theorem stepK_some {c : Sj55.Call} {s : Kst} (h : isOpen c = false) : stepK (some s) c = (some (s.on c).1, (s.on c).2) := by
  cases c <;> first | rfl | cases h
/-- so many frames at most were counted -/
def few (st : Option Kst) (n : Nat) : Prop := ∀ s, st = some s → s.Ok ∧ s.kf + n ≤ 40 ∧ s.lf + n ≤ 40
theorem goBy_few {s : Kst} (e : Sj55.Entry) : (s.goBy e).kf ≤ s.kf + 1 ∧ (s.goBy e).lf ≤ s.lf + 1 := by
  unfold Kst.goBy
  split <;> exact ⟨by simp, by simp⟩
theorem on_few {s : Kst} {c : Sj55.Call} : (s.on c).1.kf ≤ s.kf + 1 ∧ (s.on c).1.lf ≤ s.lf + 1 := by
  have t : s.kf ≤ s.kf + 1 ∧ s.lf ≤ s.lf + 1 := ⟨by omega, by omega⟩
  cases c with
  | program n l =>
    unfold Kst.on
    dsimp only
    split
    · exact t
    · split <;> exact t
  | put a b c d l =>
    unfold Kst.on
    dsimp only
    split
    · exact t
    · split
      · exact t
      · exact goBy_few _
  | get i =>
    unfold Kst.on
    dsimp only
    split
    · exact t
    · split <;> exact t
  | find a =>
    unfold Kst.on
    dsimp only
    split <;> exact t
  | test a b c d l =>
    unfold Kst.on
    dsimp only
    split <;> exact t
  | again => exact t
  | out => exact t
  | read n l =>
    unfold Kst.on
    dsimp only
    split
    · exact t
    · split <;> exact t
  | sums => exact t
  | counts => exact t
  | open_ n m => exact t
theorem fresh_ok {n m : Int} (h : (isIn 512 4096 n && isIn 0 256 m) = true) : (freshK n.toNat m.toNat).Ok := by
  rw [Bool.and_eq_true] at h
  have h1 := isIn_iff.mp h.1
  have h2 := isIn_iff.mp h.2
  refine ⟨?_, ?_, ?_, ⟨by show wrong [Sj55.all] = none; decide, by show 0 < 1; decide⟩, by show 1 ≤ 64; decide, ?_, ?_, List.Pairwise.nil⟩
  · show n.toNat ≤ 4096
    omega
  · show 512 ≤ n.toNat
    omega
  · show m.toNat ≤ 256
    omega
  · exact Nat.zero_le _
  · intro e he
    cases he
theorem step_few {st : Option Kst} {c : Sj55.Call} {n : Nat} (h : few st (n + 1)) (hn : n ≤ 40) (hc : callGood c) : few (stepK st c).1 n := by
  intro s hs
  cases ho : isOpen c with
  | true =>
    cases c with
    | open_ a b =>
      unfold stepK at hs
      dsimp only at hs
      split at hs
      · rename_i hb
        cases hs
        exact ⟨fresh_ok hb, by show 0 + n ≤ 40; omega, by show 0 + n ≤ 40; omega⟩
      · obtain ⟨h1, h2, h3⟩ := h s hs
        exact ⟨h1, by omega, by omega⟩
    | _ => cases ho
  | false =>
    cases st with
    | none =>
      rw [stepK_none ho] at hs
      cases hs
    | some s0 =>
      rw [stepK_some ho] at hs
      cases hs
      obtain ⟨h1, h2, h3⟩ := h s0 rfl
      have z := on_few (s := s0) (c := c)
      exact ⟨on_ok h1 hc, by omega, by omega⟩
theorem step_spec {st : Option Kst} {c : Sj55.Call} {n : Nat} (h : few st n) (hc : callGood c) : Sj55.step (st.map Kst.rc) c = ((stepK st c).1.map Kst.rc, ⟨(stepK st c).2.headD 0, (stepK st c).2.tail⟩) ∧ (stepK st c).2 ≠ [] := by
  cases ho : isOpen c with
  | true =>
    cases c with
    | open_ a b =>
      unfold Sj55.step stepK
      dsimp only
      cases h1 : isIn 512 4096 a with
      | false => exact ⟨rfl, by simp⟩
      | true =>
        cases h2 : isIn 0 256 b with
        | false => exact ⟨rfl, by simp⟩
        | true => exact ⟨rfl, by simp⟩
    | _ => cases ho
  | false =>
    cases st with
    | none =>
      rw [stepK_none ho]
      refine ⟨?_, by simp⟩
      cases c <;> first | rfl | cases ho
    | some s =>
      rw [stepK_some ho]
      obtain ⟨h1, h2, h3⟩ := h s rfl
      obtain ⟨e1, e2⟩ := on_spec h1 hc (by omega) (by omega) ho
      have e3 : Sj55.step ((some s).map Kst.rc) c = (some (Sj55.on s.rc c).1, (Sj55.on s.rc c).2) := by
        cases c <;> first | rfl | cases ho
      rw [e3, e1]
      dsimp only
      rw [← e2]
      exact ⟨rfl, by simp⟩

/-! ### the list of calls -/
theorem row_some {l x s : List Int} (h : PyFlat.row l = some (x, s)) : ∃ m r, l = m :: r ∧ 0 ≤ m ∧ m.toNat ≤ r.length ∧ x = r.take m.toNat ∧ s = r.drop m.toNat := by
  cases l with
  | nil => cases h
  | cons m r =>
    have h' : (if 0 ≤ m ∧ m.toNat ≤ r.length then some (r.take m.toNat, r.drop m.toNat) else none) = some (x, s) := h
    by_cases hc : 0 ≤ m ∧ m.toNat ≤ r.length
    · rw [if_pos hc] at h'
      cases h'
      exact ⟨m, r, rfl, hc.1, hc.2, rfl, rfl⟩
    · rw [if_neg hc] at h'
      cases h'
theorem shape_iff {p : Int} {n k : Nat} (h : PySj55.shape p = some (n, k)) : (p = 1 ∧ n = 2 ∧ k = 0) ∨ (p = 2 ∧ n = 1 ∧ k = 1) ∨ (p = 3 ∧ n = 4 ∧ k = 1) ∨ (p = 4 ∧ n = 1 ∧ k = 0) ∨ (p = 5 ∧ n = 1 ∧ k = 0) ∨ (p = 6 ∧ n = 4 ∧ k = 1) ∨ (p = 7 ∧ n = 0 ∧ k = 0) ∨ (p = 8 ∧ n = 0 ∧ k = 0) ∨ (p = 9 ∧ n = 1 ∧ k = 1) ∨ (p = 10 ∧ n = 0 ∧ k = 0) ∨ (p = 11 ∧ n = 0 ∧ k = 0) := by
  unfold PySj55.shape at h
  repeat' (split at h)
  all_goals (first | (cases h; done) | (cases h; rename_i hp; simp [hp]))
/-- a call ahead of the others: its place, its numbers, its row -/
theorem calls_cons {f : Nat} {l : List Int} {raw : List (List (List Int))} (h : PyFlat.calls PySj55.shape f l = some raw) (hl : l ≠ []) :
    ∃ (p : Int) (r : List Int) (n k : Nat) (xs : List (List Int)) (t : List Int) (cs : List (List (List Int))) (f' : Nat), l = p :: r ∧ PySj55.shape p = some (n, k) ∧ n ≤ r.length ∧ PyFlat.rows k (r.drop n) = some (xs, t) ∧ raw = ((p :: r.take n) :: xs) :: cs ∧ PyFlat.calls PySj55.shape f' t = some cs := by
  cases l with
  | nil => exact absurd rfl hl
  | cons p r =>
    cases f with
    | zero => cases h
    | succ f =>
      rw [PyFlat.calls] at h
      cases hc : PyFlat.call PySj55.shape (p :: r) with
      | none => rw [hc] at h; cases h
      | some ct =>
        obtain ⟨c, t⟩ := ct
        rw [hc] at h
        dsimp only at h
        cases hcs : PyFlat.calls PySj55.shape f t with
        | none => rw [hcs] at h; cases h
        | some cs =>
          rw [hcs] at h
          dsimp only at h
          cases h
          rw [PyFlat.call] at hc
          cases hs : PySj55.shape p with
          | none => rw [hs] at hc; cases hc
          | some nk =>
            obtain ⟨n, k⟩ := nk
            rw [hs] at hc
            dsimp only at hc
            split at hc
            · cases hc
            · rename_i hlt
              cases hr : PyFlat.rows k (r.drop n) with
              | none => rw [hr] at hc; cases hc
              | some y =>
                obtain ⟨xs, t'⟩ := y
                rw [hr] at hc
                dsimp only at hc
                cases hc
                exact ⟨p, r, n, k, xs, t, cs, f, rfl, hs, by omega, hr, rfl, hcs⟩
theorem rows_zero {l t : List Int} {xs : List (List Int)} (h : PyFlat.rows 0 l = some (xs, t)) : xs = [] ∧ t = l := by
  rw [PyFlat.rows] at h
  cases h
  exact ⟨rfl, rfl⟩
theorem rows_one {l t : List Int} {xs : List (List Int)} (h : PyFlat.rows 1 l = some (xs, t)) : ∃ x, xs = [x] ∧ PyFlat.row l = some (x, t) := by
  rw [PyFlat.rows] at h
  cases hr : PyFlat.row l with
  | none => rw [hr] at h; cases h
  | some y =>
    obtain ⟨x, s⟩ := y
    rw [hr] at h
    dsimp only at h
    rw [PyFlat.rows] at h
    dsimp only at h
    cases h
    exact ⟨x, rfl, rfl⟩
theorem bytes_ok {l : List Int} (h : Sj55Neutral.bytesOk l = true) : ∀ z ∈ l, 0 ≤ z ∧ z ≤ 255 := fun z hz => by
  have := List.all_eq_true.mp h z hz
  rw [Bool.and_eq_true, decide_eq_true_eq, decide_eq_true_eq] at this
  exact this
/-- what a call of the list is -/
theorem call_is {p : Int} {nums : List Int} {xs : List (List Int)} {n k : Nat} {q : Sj55.Call} (hs : PySj55.shape p = some (n, k)) (hn : nums.length = n) (hk : xs.length = k) (hq : Sj55Neutral.callOf ((PySj55.whole ((p :: nums) :: xs)).headD []) = some q) :
    wordOf q = p ∧ numsOf q = nums ∧ rowOf q = xs.headD [] ∧ hasRow q = decide (k = 1) ∧ callGood q := by
  rcases shape_iff hs with ⟨rfl, rfl, rfl⟩ | ⟨rfl, rfl, rfl⟩ | ⟨rfl, rfl, rfl⟩ | ⟨rfl, rfl, rfl⟩ | ⟨rfl, rfl, rfl⟩ | ⟨rfl, rfl, rfl⟩ | ⟨rfl, rfl, rfl⟩ | ⟨rfl, rfl, rfl⟩ | ⟨rfl, rfl, rfl⟩ | ⟨rfl, rfl, rfl⟩ | ⟨rfl, rfl, rfl⟩
  · match nums, xs, hn, hk with
    | [a, b], [], _, _ =>
      have hq' : (if Sj55Neutral.small [a, b] = true then some (Sj55.Call.open_ a b) else none) = some q := hq
      split at hq'
      · cases hq'
        exact ⟨rfl, rfl, rfl, rfl, trivial⟩
      · cases hq'
  · match nums, xs, hn, hk with
    | [a], [r], _, _ =>
      have hq' : (if Sj55Neutral.small [a] = true ∧ r.length = 4 * Sj55Neutral.many a 1 64 ∧ (r.all fun z => decide (0 ≤ z)) = true then some (Sj55.Call.program a r) else none) = some q := hq
      split at hq'
      · rename_i hc
        cases hq'
        exact ⟨rfl, rfl, rfl, rfl, hc.2.1, fun z hz => of_decide_eq_true (List.all_eq_true.mp hc.2.2 z hz)⟩
      · cases hq'
  · match nums, xs, hn, hk with
    | [a, b, c, d], [r], _, _ =>
      have hq' : (if Sj55Neutral.small [a, b, c, d] = true ∧ r.length = Sj55Neutral.many d 0 1024 ∧ Sj55Neutral.bytesOk r = true then some (Sj55.Call.put a b c d r) else none) = some q := hq
      split at hq'
      · rename_i hc
        cases hq'
        exact ⟨rfl, rfl, rfl, rfl, hc.2.1, bytes_ok hc.2.2⟩
      · cases hq'
  · match nums, xs, hn, hk with
    | [a], [], _, _ =>
      have hq' : (if Sj55Neutral.small [a] = true then some (Sj55.Call.get a) else none) = some q := hq
      split at hq'
      · cases hq'
        exact ⟨rfl, rfl, rfl, rfl, trivial⟩
      · cases hq'
  · match nums, xs, hn, hk with
    | [a], [], _, _ =>
      have hq' : (if Sj55Neutral.small [a] = true then some (Sj55.Call.find a) else none) = some q := hq
      split at hq'
      · cases hq'
        exact ⟨rfl, rfl, rfl, rfl, trivial⟩
      · cases hq'
  · match nums, xs, hn, hk with
    | [a, b, c, d], [r], _, _ =>
      have hq' : (if Sj55Neutral.small [a, b, c, d] = true ∧ r.length = Sj55Neutral.many d 0 1024 ∧ Sj55Neutral.bytesOk r = true then some (Sj55.Call.test a b c d r) else none) = some q := hq
      split at hq'
      · rename_i hc
        cases hq'
        exact ⟨rfl, rfl, rfl, rfl, hc.2.1, bytes_ok hc.2.2⟩
      · cases hq'
  · match nums, xs, hn, hk with
    | [], [], _, _ =>
      have hq' : some Sj55.Call.again = some q := hq
      cases hq'
      exact ⟨rfl, rfl, rfl, rfl, trivial⟩
  · match nums, xs, hn, hk with
    | [], [], _, _ =>
      have hq' : some Sj55.Call.out = some q := hq
      cases hq'
      exact ⟨rfl, rfl, rfl, rfl, trivial⟩
  · match nums, xs, hn, hk with
    | [a], [r], _, _ =>
      have hq' : (if Sj55Neutral.small [a] = true ∧ r.length = Sj55Neutral.many a 0 8192 ∧ Sj55Neutral.bytesOk r = true then some (Sj55.Call.read a r) else none) = some q := hq
      split at hq'
      · rename_i hc
        cases hq'
        exact ⟨rfl, rfl, rfl, rfl, hc.2.1, bytes_ok hc.2.2⟩
      · cases hq'
  · match nums, xs, hn, hk with
    | [], [], _, _ =>
      have hq' : some Sj55.Call.sums = some q := hq
      cases hq'
      exact ⟨rfl, rfl, rfl, rfl, trivial⟩
  · match nums, xs, hn, hk with
    | [], [], _, _ =>
      have hq' : some Sj55.Call.counts = some q := hq
      cases hq'
      exact ⟨rfl, rfl, rfl, rfl, trivial⟩
/-- what is still to be answered -/
def restA (st : Option Kst) (raw : List (List (List Int))) : List Int := PyFlat.told (PyFlat.played Sj55Neutral.step (st.map Kst.rc) (raw.map PySj55.whole))
theorem restA_nil (st : Option Kst) : restA st [] = [] := rfl
theorem restA_cons {st : Option Kst} {c : List (List Int)} {cs : List (List (List Int))} {q : Sj55.Call} {n : Nat} (h : few st n) (hq : Sj55Neutral.callOf ((PySj55.whole c).headD []) = some q) (hc : callGood q) :
    restA st (c :: cs) = (((stepK st q).2.length : Int) :: (stepK st q).2) ++ restA (stepK st q).1 cs := by
  obtain ⟨e1, e2⟩ := step_spec h hc
  have e3 : Sj55Neutral.step (st.map Kst.rc) (PySj55.whole c) = ((stepK st q).1.map Kst.rc, (stepK st q).2) := by
    unfold Sj55Neutral.step
    rw [hq]
    dsimp only
    rw [e1]
    dsimp only
    cases hl : (stepK st q).2 with
    | nil => exact absurd hl e2
    | cons a l => rfl
  unfold restA
  rw [List.map_cons, PyFlat.played, e3]
  unfold PyFlat.told
  rw [List.flatMap_cons]
structure Asked (ns : List Int) (raw : List (List (List Int))) : Prop where
  calls : PyFlat.calls PySj55.shape ns.length ns = some raw
  few : raw.length ≤ 40
  each : ∀ c ∈ raw, ∃ q, Sj55Neutral.callOf ((PySj55.whole c).headD []) = some q
  ans : PySj55.answers ns = restA none raw
  short : (PySj55.answers ns).length ≤ 10000000
theorem asked_of {ns : List Int} (h : PySj55.answers_asked ns = true) : ∃ raw, Asked ns raw := by
  unfold PySj55.answers_asked at h
  split at h
  · cases h
  · rename_i raw hc
    simp only [Bool.and_eq_true] at h
    obtain ⟨⟨⟨⟨h1, h2⟩, h3⟩, h4⟩, h5⟩ := h
    refine ⟨raw, hc, of_decide_eq_true h2, fun c hcm => ?_, ?_, of_decide_eq_true h5⟩
    · unfold Sj55Neutral.asked at h4
      rw [Bool.and_eq_true] at h4
      have z := List.all_eq_true.mp h4.1 (PySj55.whole c) (List.mem_map_of_mem hcm)
      unfold Sj55Neutral.asked1 at z
      rw [Bool.and_eq_true, Bool.and_eq_true] at z
      exact Option.isSome_iff_exists.mp z.2.2
    · unfold PySj55.answers PySj55.calls
      rw [hc]
      rfl
end G
namespace G
open PySem PySem.Spec PyProof.Rows L2 Evl

/-! ### the text by places -/
def top (i : Nat) : Stmt := PySem.Challenge.pw_goneby_s01_answers.main.body.getD i (.Pass ⟨0, 0, 0, 0⟩)

/-! ### handles: a def, a method, a class that stand behind the top and keep a promise -/
structure Has (P : Program) (w : World) (K : PySem.W.Frag) (mg : Str → Option Value) (base : Heap) (CX : CXT) (k : Nat) (x : Str) (ps : List Str) (sp : Sp) : Prop where
  ex : ∃ (f : Addr) (fd : FuncData), mg x = some (.ref f) ∧ PySem.W.keepIn K (.ref f) = true ∧ Binds K fd ps [] ∧ FnOk P w K mg base CX k f fd ps sp
structure HasM (P : Program) (w : World) (K : PySem.W.Frag) (mg : Str → Option Value) (base : Heap) (CX : CXT) (k : Nat) (C : Addr) (m : Str) (ps : List Str) (sp : Sp) : Prop where
  cl : Cls K C
  ex : ∃ (f : Addr) (fd : FuncData), Meth K C m f ∧ Binds K fd ps [] ∧ FnOk P w K mg base CX k f fd ps sp
structure HasC (P : Program) (w : World) (K : PySem.W.Frag) (mg : Str → Option Value) (base : Heap) (CX : CXT) (k : Nat) (C : Addr) (x : Str) (ps : List Str) (sp : Sp) : Prop where
  ex : ∃ (f : Addr) (fd : FuncData), mg x = some (.ref C) ∧ Mk K C f ∧ Binds K fd ps [] ∧ FnOk P w K mg base CX k f fd ps sp
/-- a module's constant that is an int -/
def GI (mg : Str → Option Value) (x : Str) (i : Int) : Prop := ∃ t, mg x = some (.int i t)

section
variable {X : Cx} {CX : CXT} {k : Nat} {C : Addr} {ps : List Str} {sp : Sp} {E : XK} {x m : Str} {p pos apos : Pos} {e o : Expr} {es : List Expr} {ta : TE} {t : TA}
theorem pe_fn (h : Has X.prog X.w X.K X.mg X.base CX k x ps sp) (hr : Room k X.A) (hg : Gl X x) (hx : Passes CX X E) (ha : PA X (e :: es) t)
    (hdb : (x == ("__debug__" : Str)) = false := by decide) (he : starEach (e :: es) X.env = (false, eval e X.env) :: starEach es X.env := by rfl) (hpl : (backTo pos (starEach es X.env)).any (·.1) = false := by rfl) :
    PE X (.Call (.Name x p) (e :: es) [] pos) (tCall sp [] E t) := by
  obtain ⟨f, fd, hm, hk, hb, F⟩ := h.ex
  exact pe_call F hr hg hm hk hb .nil hx ha hdb he hpl
theorem pe_mt {pl : Sem Bool} (h : HasM X.prog X.w X.K X.mg X.base CX k C m ps sp) (hr : Room k X.A) (hx : Passes CX X E) (ho : PE X o ta) (ha : PA X (e :: es) t)
    (hst : starEach (e :: es) X.env = (false, eval e X.env) :: starEach es X.env := by rfl) (hpl : (backTo pos (starEach es X.env)).any (·.1) = false := by rfl)
    (ht : eval (.Call (.Attribute o m apos) (e :: es) [] pos) X.env = (do
      let ov ← eval o X.env
      standAt apos.atName
      let (f, first) ← holding [ov] (getMethod ov m pl)
      callWith pos f first (backTo pos (starEach (e :: es) X.env)) (backToKw pos (keywordEach [] X.env))) := by rfl) :
    PE X (.Call (.Attribute o m apos) (e :: es) [] pos) (tMeth C m sp [] E ta t) := by
  obtain ⟨f, fd, hm, hb, F⟩ := h.ex
  exact pe_meth ho h.cl hm F hr hb .nil hx ha hst hpl ht
theorem pe_mt0 {pl : Sem Bool} (h : HasM X.prog X.w X.K X.mg X.base CX k C m ps sp) (hr : Room k X.A) (hx : Passes CX X E) (ho : PE X o ta)
    (ht : eval (.Call (.Attribute o m apos) [] [] pos) X.env = (do
      let ov ← eval o X.env
      standAt apos.atName
      let (f, first) ← holding [ov] (getMethod ov m pl)
      callWith pos f first (backTo pos (starEach [] X.env)) (backToKw pos (keywordEach [] X.env))) := by rfl) :
    PE X (.Call (.Attribute o m apos) [] [] pos) (tMeth C m sp [] E ta tNil) := by
  obtain ⟨f, fd, hm, hb, F⟩ := h.ex
  exact pe_meth0 ho h.cl hm F hr hb .nil hx ht
theorem pe_mk (h : HasC X.prog X.w X.K X.mg X.base CX k C x ps sp) (hr : Room (k + 1) X.A) (hg : Gl X x) (hx : Passes CX X E) (ha : PA X (e :: es) t)
    (hdb : (x == ("__debug__" : Str)) = false := by decide) (he : starEach (e :: es) X.env = (false, eval e X.env) :: starEach es X.env := by rfl) (hpl : (backTo pos (starEach es X.env)).any (·.1) = false := by rfl) :
    PE X (.Call (.Name x p) (e :: es) [] pos) (tMake C sp [] E t) := by
  obtain ⟨f, fd, hm, hk, hb, F⟩ := h.ex
  exact pe_make hk F hr hg hm hb .nil hx ha hdb he hpl
theorem pe_gi {i : Int} (h : GI X.mg x i) (hg : Gl X x) (hd : (x == ("__debug__" : Str)) = false := by decide) : PE X (.Name x pos) (tC (.int i)) := by
  obtain ⟨t, hm⟩ := h
  exact pe_glob hg hm ⟨t, rfl⟩ hd
end

section
variable {X : Cx} {x : Str} {pos : Pos}
theorem pe_gref {a : Addr} (h : X.mg x = some (.ref a)) (hg : Gl X x) (hd : (x == ("__debug__" : Str)) = false := by decide) : PE X (.Name x pos) (tC (.ref a)) := pe_glob hg h rfl hd
end

/-! ### more of what evaluates to what -/
section
variable {K : PySem.W.Frag} {σ : L2.St} {H H' : Hp} {ta tb tc te : TE} {t u : TT} {x y z v : V} {r r' : R2}
theorem ev_fld {a C dx : Addr} {fs : List (Str × V)} {f : Str} (h : Ev ta σ H (.ref a)) (ho : H a = some (.ins C dx fs)) (hc : Cls K C) (hn : NoAttr K C f) (hl : fs.lookup f = some v) : Ev (tFld K ta f) σ H v := fun H1 e _ q =>
  h H1 e _ fun H2 e2 => ⟨a, C, dx, fs, v, rfl, e2 _ _ (e _ _ ho), hc, hn, hl, q H2 e2⟩
theorem ev_chain {a b : Bool} (h1 : Ev ta σ H x) (h2 : Ev tb σ H y) (hr : RV r x y H (.bl a)) (h3 : a = true → Ev tc σ H z) (hr' : a = true → RV r' y z H (.bl b)) : Ev (tChain r r' ta tb tc) σ H (.bl (a && b)) := fun H1 e Q q =>
  h1 H1 e _ fun H2 e2 => h2 H2 (e.trans e2) _ fun H3 e3 => hr H3 ((e.trans e2).trans e3) _ fun H4 e4 => ⟨a, rfl, by
    cases a with
    | true =>
      show tc σ H4 fun w' H4 => r' y w' H4 Q
      exact h3 rfl H4 (((e.trans e2).trans e3).trans e4) _ fun H5 e5 => hr' rfl H5 ((((e.trans e2).trans e3).trans e4).trans e5) _ fun H6 e6 => q H6 ((((e2.trans e3).trans e4).trans e5).trans e6)
    | false =>
      show Q (.bl false) H4
      exact q H4 ((e2.trans e3).trans e4)⟩
/-- a new instance -/
def EvI (te : TE) (σ : L2.St) (H : Hp) (P : Hp → Addr → Prop) : Prop := ∀ H1, Ex H H1 → ∀ Q : VK, (∀ x H2, H1 x = none → Ex H1 H2 → P H2 x → Q (.ref x) H2) → te σ H1 Q
theorem ev_meth {C a dx : Addr} {m : Str} {fs : List (Str × V)} {sp : Sp} {E : XK} {tA : TA} {vs : List V} (h : Ev ta σ H (.ref a)) (ho : H a = some (.ins C dx fs)) (hn : fs.lookup m = none) (hA : EvA tA σ H vs) (hs : SpV sp (.ref a :: (vs ++ [])) H z) :
    Ev (tMeth C m sp [] E ta tA) σ H z := fun H1 e Q q =>
  h H1 e _ fun H2 e2 => ⟨a, dx, fs, rfl, e2 _ _ (e _ _ ho), hn, hA H2 (e.trans e2) _ fun H3 e3 => hs H3 ((e.trans e2).trans e3) Q (fun H4 e4 => q H4 ((e2.trans e3).trans e4)) E⟩
def SpI (sp : Sp) (vs : List V) (H : Hp) (P : Hp → Addr → Prop) : Prop := ∀ H1, Ex H H1 → ∀ Q : VK, (∀ x H2, H1 x = none → Ex H1 H2 → P H2 x → Q (.ref x) H2) → ∀ E : XK, sp vs H1 Q E
theorem ei_call {sp : Sp} {vs : List V} {E : XK} {tA : TA} {P : Hp → Addr → Prop} (h : EvA tA σ H vs) (hs : SpI sp (vs ++ []) H P) : EvI (tCall sp [] E tA) σ H P := fun H1 e Q q =>
  h H1 e _ fun H2 e2 => hs H2 (e.trans e2) Q (fun x H3 hx e3 h3 => q x H3 (fresh_back e2 hx) (e2.trans e3) h3) E
theorem ei_meth {C a dx : Addr} {m : Str} {fs : List (Str × V)} {sp : Sp} {E : XK} {tA : TA} {vs : List V} {P : Hp → Addr → Prop} (h : Ev ta σ H (.ref a)) (ho : H a = some (.ins C dx fs)) (hn : fs.lookup m = none) (hA : EvA tA σ H vs) (hs : SpI sp (.ref a :: (vs ++ [])) H P) :
    EvI (tMeth C m sp [] E ta tA) σ H P := fun H1 e Q q =>
  h H1 e _ fun H2 e2 => ⟨a, dx, fs, rfl, e2 _ _ (e _ _ ho), hn, hA H2 (e.trans e2) _ fun H3 e3 => hs H3 ((e.trans e2).trans e3) Q (fun x H4 hx e4 h4 => q x H4 (fresh_back (e2.trans e3) hx) ((e2.trans e3).trans e4) h4) E⟩
theorem el_meth {C a dx : Addr} {m : Str} {fs : List (Str × V)} {sp : Sp} {E : XK} {tA : TA} {vs xs : List V} (h : Ev ta σ H (.ref a)) (ho : H a = some (.ins C dx fs)) (hn : fs.lookup m = none) (hA : EvA tA σ H vs) (hs : SpL sp (.ref a :: (vs ++ [])) H xs) :
    EvL (tMeth C m sp [] E ta tA) σ H xs := fun H1 e Q q =>
  h H1 e _ fun H2 e2 => ⟨a, dx, fs, rfl, e2 _ _ (e _ _ ho), hn, hA H2 (e.trans e2) _ fun H3 e3 => hs H3 ((e.trans e2).trans e3) Q (fun x H4 hx e4 h4 => q x H4 (fresh_back (e2.trans e3) hx) ((e2.trans e3).trans e4) h4) E⟩
theorem s_retI {D : Ends} {P : Hp → Addr → Prop} (h : EvI te σ H P) (k : ∀ x H1, H x = none → Ex H H1 → P H1 x → D.rt (.ref x) H1) : tRet te D σ H := h H (Ex.refl H) _ k
theorem s_asgI {D : Ends} {P : Hp → Addr → Prop} {i : Nat} (h : EvI te σ H P) (k : ∀ x H1, H x = none → Ex H H1 → P H1 x → D.nx (σ.set i (some (.ref x))) H1) : tAsg te (gName i) D σ H := h H (Ex.refl H) _ k
theorem q_asgI {D : Ends} {tz : TS} {P : Hp → Addr → Prop} {i : Nat} (h : EvI te σ H P) (k : ∀ x H1, H x = none → Ex H H1 → P H1 x → tz D (σ.set i (some (.ref x))) H1) : tSeq (tAsg te (gName i)) tz D σ H := h H (Ex.refl H) _ k
/-- arguments, something known of them -/
def EvP (ta : TA) (σ : L2.St) (H : Hp) (P : Hp → List V → Prop) : Prop := ∀ H1, Ex H H1 → ∀ Q : List V → Hp → Prop, (∀ vs H2, Ex H1 H2 → P H2 vs → Q vs H2) → ta σ H1 Q
theorem ep_cons {tr : TA} {P : Hp → List V → Prop} (h : Ev ta σ H x) (hr : EvP tr σ H P) : EvP (tCons ta tr) σ H (fun H2 vs => ∃ r, vs = x :: r ∧ P H2 r) := fun H1 e _ q =>
  h H1 e _ fun H2 e2 => hr H2 (e.trans e2) _ fun r H3 e3 hp => q _ H3 (e2.trans e3) ⟨r, rfl, hp⟩
theorem ep_lastL {xs : List V} (h : EvL te σ H xs) : EvP (tCons te tNil) σ H (fun H2 vs => ∃ p, vs = [.ref p] ∧ H2 p = some (.lst xs)) := fun H1 e _ q =>
  h H1 e _ fun p H2 _ e2 h2 => q _ H2 e2 ⟨p, rfl, h2⟩
theorem ev_min2 {i j : Int} (ha : Ev ta σ H (.int i)) (hb : Ev tb σ H (.int j)) : Ev (tCB (fun xs H Q => ∃ i j, xs = [.int i, .int j] ∧ Q (.int (if j < i then j else i)) H) (tCons ta (tCons tb tNil))) σ H (.int (if j < i then j else i)) := fun H1 e Q q =>
  ha H1 e _ fun H2 e2 => hb H2 (e.trans e2) _ fun H3 e3 => ⟨i, j, rfl, q H3 (e2.trans e3)⟩
theorem ev_sum {xs : List V} {ns : List Int} (ha : EvL ta σ H xs) (hx : xs = ns.map V.int) : Ev (tCB (rSum K) (tCons ta tNil)) σ H (.int ns.sum) := fun H1 e Q q =>
  ha H1 e _ fun p H2 _ e2 h2 => ⟨p, ns, rfl, sq_of (by rw [h2, hx]), q H2 e2⟩
theorem el_cat {xs ys : List V} (ha : EvL ta σ H xs) (hb : EvL tb σ H ys) (hz : xs.length + ys.length ≤ sizeLine) : EvL (tOp rCat ta tb) σ H (xs ++ ys) := fun H1 e Q k =>
  ha H1 e _ fun p H2 hp0 e2 hp => hb H2 (e.trans e2) _ fun q H3 _ e3 hq => ⟨p, q, xs, ys, rfl, rfl, e3 p _ hp, hq, hz, fun l hl => k l _ (fresh_back (e2.trans e3) hl) ((e2.trans e3).trans (Ex.new hl)) upd_same⟩
end

/-! ### fields -/
theorem lk_here {k : Str} {v : V} {r : List (Str × V)} : List.lookup k ((k, v) :: r) = some v := by
  have e : (k == k) = true := beq_self_eq_true k
  simp only [List.lookup, e]
theorem lk_past {k g : Str} {v : V} {r : List (Str × V)} (h : (k == g) = false) : List.lookup k ((g, v) :: r) = List.lookup k r := by
  simp only [List.lookup, h]
theorem put_here {f : Str} {v x : V} {r : List (Str × V)} : putF f v ((f, x) :: r) = (f, v) :: r := if_pos rfl
theorem put_past {f g : Str} {v x : V} {r : List (Str × V)} (h : ¬ g = f) : putF f v ((g, x) :: r) = (g, x) :: putF f v r := if_neg h

/-! ### values that are natural numbers -/
def ivs (l : List Nat) : List V := l.map fun (n : Nat) => V.int (n : Int)
theorem ivs_len (l : List Nat) : (ivs l).length = l.length := List.length_map ..
theorem ivs_at (l : List Nat) (i : Nat) : (ivs l)[i]? = (l[i]?).map fun (n : Nat) => V.int (n : Int) := List.getElem?_map ..
theorem ivs_app (l m : List Nat) : ivs (l ++ m) = ivs l ++ ivs m := List.map_append ..

/-! ### addresses of what the top has written -/
structure Ad where
  cF : Addr
  cK : Addr
  cR : Addr
  cX : Addr
  aP : Addr
  aW : Addr
  aF : Addr
  aI : Addr
/-- a frame (an entry) at a -/
def fF (e : Sj55.Entry) (d : Addr) : List (Str × V) := [("time", .int e.time), ("kind", .int e.kind), ("queue", .int e.queue), ("length", .int e.len), ("data", .ref d)]
def FrameAt (A : Ad) (H : Hp) (a : Addr) (e : Sj55.Entry) : Prop := ∃ dx d, H a = some (.ins A.cF dx (fF e d)) ∧ H d = some (.lst (ivs e.kept))
theorem FrameAt.ex {A : Ad} {H H' : Hp} {a : Addr} {e : Sj55.Entry} (x : Ex H H') (h : FrameAt A H a e) : FrameAt A H' a e := by
  obtain ⟨dx, d, h1, h2⟩ := h
  exact ⟨dx, d, x _ _ h1, x _ _ h2⟩
theorem fF_time (e : Sj55.Entry) (d : Addr) : (fF e d).lookup ("time" : Str) = some (.int e.time) := lk_here
theorem fF_kind (e : Sj55.Entry) (d : Addr) : (fF e d).lookup ("kind" : Str) = some (.int e.kind) := (lk_past (by decide +kernel)).trans lk_here
theorem fF_queue (e : Sj55.Entry) (d : Addr) : (fF e d).lookup ("queue" : Str) = some (.int e.queue) := (lk_past (by decide +kernel)).trans ((lk_past (by decide +kernel)).trans lk_here)
theorem fF_length (e : Sj55.Entry) (d : Addr) : (fF e d).lookup ("length" : Str) = some (.int e.len) := (lk_past (by decide +kernel)).trans ((lk_past (by decide +kernel)).trans ((lk_past (by decide +kernel)).trans lk_here))
theorem fF_data (e : Sj55.Entry) (d : Addr) : (fF e d).lookup ("data" : Str) = some (.ref d) := (lk_past (by decide +kernel)).trans ((lk_past (by decide +kernel)).trans ((lk_past (by decide +kernel)).trans ((lk_past (by decide +kernel)).trans lk_here)))
theorem fF_no (e : Sj55.Entry) (d : Addr) {m : Str} (h1 : (m == ("time" : Str)) = false) (h2 : (m == ("kind" : Str)) = false) (h3 : (m == ("queue" : Str)) = false) (h4 : (m == ("length" : Str)) = false) (h5 : (m == ("data" : Str)) = false) : (fF e d).lookup m = none :=
  (lk_past h1).trans ((lk_past h2).trans ((lk_past h3).trans ((lk_past h4).trans ((lk_past h5).trans rfl))))
/-- entries at addresses -/
def FramesAt (A : Ad) (H : Hp) : List Addr → List Sj55.Entry → Prop := Paired (FrameAt A H)
theorem Paired.imp2 {α β : Type} {F F' : α → β → Prop} (f : ∀ a b, F a b → F' a b) : ∀ {l : List α} {m : List β}, Paired F l m → Paired F' l m
  | _, _, .nil => .nil
  | _, _, .cons r t => .cons (f _ _ r) (Paired.imp2 f t)
theorem Paired.app {α β : Type} {F : α → β → Prop} : ∀ {l l' : List α} {m m' : List β}, Paired F l m → Paired F l' m' → Paired F (l ++ l') (m ++ m')
  | _, _, _, _, .nil, q => q
  | _, _, _, _, .cons r t, q => .cons r (Paired.app t q)
theorem FramesAt.ex {A : Ad} {H H' : Hp} {as : List Addr} {es : List Sj55.Entry} (x : Ex H H') (h : FramesAt A H as es) : FramesAt A H' as es := Paired.imp2 (fun _ _ => FrameAt.ex x) h
theorem Paired.get2 {α β : Type} {F : α → β → Prop} : ∀ {l : List α} {m : List β} {i : Nat} {a : α}, Paired F l m → l[i]? = some a → ∃ b, m[i]? = some b ∧ F a b
  | _, _, _, _, .nil, e => by simp at e
  | _, _, 0, _, .cons r _, e => by simp at e; subst e; exact ⟨_, rfl, r⟩
  | _, _, i + 1, x, .cons _ t, e => by
    obtain ⟨u, h1, h2⟩ := Paired.get2 (i := i) (a := x) t (by simpa using e)
    exact ⟨u, by simpa using h1, h2⟩
end G
namespace G
open PySem PySem.Spec PyProof.Rows L2 Evl

/-! ### programs in the heap -/
def InsAt (K : PySem.W.Frag) (H : Hp) (t : Addr) (x : Sj55.Ins) : Prop := SqT K H t [.int x.op, .int x.k, .int x.yes, .int x.no]
def ProgAt (K : PySem.W.Frag) (H : Hp) (a : Addr) (p : List Sj55.Ins) : Prop := ∃ ts : List Addr, SqT K H a (ts.map V.ref) ∧ Paired (InsAt K H) ts p
theorem ProgAt.ex {K : PySem.W.Frag} {H H' : Hp} {a : Addr} {p : List Sj55.Ins} (x : Ex H H') (h : ProgAt K H a p) : ProgAt K H' a p := by
  obtain ⟨ts, h1, h2⟩ := h
  exact ⟨ts, ex_t x h1, Paired.imp2 (fun _ _ q => ex_t x q) h2⟩

/-! ### a written dict with int keys -/
def keysI (es : List DictEntry) : Bool := es.all fun e => match e.key with
  | .int i _ => decide (e.hash = hashInt i)
  | _ => false
structure PlainD (K : PySem.W.Frag) (a : Addr) (f : Int → Option Int) : Prop where
  ex : ∃ es n, K.lookup a = some ⟨.type "dict", none, .dict es n, #[]⟩ ∧ keysI es.toList = true ∧ ∀ (i j : Int), f i = some j → ∃ t, findBy Value.isInt es i = some (.int j t)
theorem keysI_of {prog : Program} {w : World} {es : Array DictEntry} (hk : keysI es.toList = true) : PySem.KeysOf (intKind prog w) es := fun d hd => by
  have z : (match d.key with
    | .int i _ => decide (d.hash = hashInt i)
    | _ => false) = true := List.all_eq_true.mp hk d (Array.mem_toList_iff.mpr hd)
  split at z
  · rename_i i t hkk
    rw [hkk]
    exact ⟨i, intKind_is prog w i t, of_decide_eq_true z⟩
  · cases z
def rPlain (a : Addr) (f : Int → Option Int) : R2 := fun x y H Q => ∃ i j, x = .ref a ∧ y = .int i ∧ f i = some j ∧ Q (.int j) H
theorem ix_plain {X : Cx} {a : Addr} {f : Int → Option Int} (D : PlainD X.K a f) : IxR X (rPlain a f) := by
  intro value slice pins s σ H x y v u Q I rx ry h hs
  obtain ⟨i, j, rfl, rfl, e, q⟩ := h
  obtain rfl : v = Value.ref a := rx
  obtain ⟨t, rfl⟩ := ry
  obtain ⟨es, n, hl, hk, hf⟩ := D.ex
  obtain ⟨t', hf⟩ := hf i j e
  have hm : s.heap.MapOf (intKind X.prog X.w) a (fun k => findBy Value.isInt es k) := ⟨_, es, n, I.kIn _ _ hl, ⟨rfl, rfl, rfl⟩, rfl, keysI_of hk, fun _ => rfl⟩
  exact tail_any hm.typeIs slot_dict_getitem.lookup (wpAny_getItem_of (intKind_is X.prog X.w i t) hm hf ⟨.int j, H, I.tok _, ⟨t', rfl⟩, q⟩) hs

/-! ### a list against [] -/
def rNeNil (K : PySem.W.Frag) : R2 := fun x y H Q => ∃ a b xs, x = .ref a ∧ y = .ref b ∧ SqL K H a xs ∧ SqL K H b [] ∧ Q (.bl (!xs.isEmpty)) H

theorem op_neNil {X : Cx} (hu : X.A.units + 64 < cLine) : OpR X (compareOp .NotEq) (rNeNil X.K) := by
  intro pins s σ H x y v u Q I rx ry h
  obtain ⟨a, b, xs, rfl, rfl, h1, h2, q⟩ := h
  cases rx
  cases ry
  obtain ⟨its, rv, pl, _⟩ := I.list h1
  obtain ⟨its', rv', pl', _⟩ := I.list h2
  have e' : its' = [] := List.eq_nil_of_length_eq_zero rv'.length.symm
  subst e'
  have hl : (its.toArray).size = xs.length := by rw [List.size_toArray, rv.length]
  have hu' : X.A.units < cLine := Nat.lt_of_le_of_lt (Nat.le_add_right _ _) hu
  cases xs with
  | nil =>
    have e2 : its = [] := List.eq_nil_of_length_eq_zero rv.length.symm
    subst e2
    refine SeqAt.RcNeAt.lists pl.isList pl'.isList rfl hu' (e := fun _ => true) (fun j h1 => absurd h1 (Nat.not_lt_zero _)) X.prog X.w _ _ ?_
    exact ⟨.bl _, H, I, rfl, q⟩
  | cons x xs =>
    refine SeqAt.RcNeAt.lists_lengths pl.isList pl'.isList ?_ hu' X.prog X.w _ _ ?_
    · rw [hl]
      simp
    · exact ⟨.bl _, H, I, rfl, q⟩
theorem ev_neNil {K : PySem.W.Frag} {σ : L2.St} {H : Hp} {ta : TE} {a : Addr} {xs : List V} (h : Ev ta σ H (.ref a)) (hx : SqL K H a xs) : Ev (tOp (rNeNil K) ta (tLst tNil)) σ H (.bl (!xs.isEmpty)) :=
  ev_opL h (el_lst ea_nil (Nat.zero_le _)) fun p H1 hp e => fun H2 e2 Q q => ⟨a, p, xs, rfl, rfl, ex_l (e.trans e2) hx, sq_of (e2 _ _ hp), q H2 (Ex.refl H2)⟩

/-! ### exceptions of the class Faulty -/
structure HasX (P : Program) (w : World) (K : PySem.W.Frag) (mg : Str → Option Value) (base : Heap) (k : Nat) (C : Addr) (x : Str) (ps : List Str) (sp : Sp) : Prop where
  cl : OexC K C
  ex : ∃ (f : Addr) (fd : FuncData), PySem.W.findIn K (.ref C) "__init__" = some (some (.ref f)) ∧ PySem.W.typeIn K (.ref f) = some (.type "function") ∧ mg x = some (.ref C) ∧ Binds K fd ps [] ∧ FnOk P w K mg base CX0 k f fd ps sp
theorem pmk_flt {X : Cx} {k : Nat} {C : Addr} {x : Str} {ps : List Str} {sp : Sp} {e : Expr} {es : List Expr} {ta : TA} {p pos : Pos} (h : HasX X.prog X.w X.K X.mg X.base k C x ps sp) (hr : Room (k + 1) X.A) (hg : Gl X x) (ha : PA X (e :: es) ta)
    (hdb : (x == ("__debug__" : Str)) = false := by decide) (he : starEach (e :: es) X.env = (false, eval e X.env) :: starEach es X.env := by rfl) (hpl : (backTo pos (starEach es X.env)).any (·.1) = false := by rfl) :
    PMk X (.Call (.Name x p) (e :: es) [] pos) (tMkO C sp [] ta) := by
  obtain ⟨f, fd, iC, tI, hm, hb, F⟩ := h.ex
  exact pmk_oex h.cl iC tI F hr hb .nil pass0 hg hm ha hdb he hpl

/-! ### slices -/
theorem cutV_to (xs : List V) (n : Nat) : cutV xs none (some (n : Int)) = xs.take n := by
  unfold cutV
  rw [HT.sIx_none, HT.sIx_nat, List.drop_zero, Nat.sub_zero]
  by_cases h : n ≤ xs.length
  · rw [Nat.min_eq_left h]
  · rw [Nat.min_eq_right (by omega), List.take_of_length_le (Nat.le_refl _), List.take_of_length_le (by omega)]
theorem cutV_from (xs : List V) (n : Nat) : cutV xs (some (n : Int)) none = xs.drop n := by
  unfold cutV
  rw [HT.sIx_none, HT.sIx_nat]
  by_cases h : n ≤ xs.length
  · rw [Nat.min_eq_left h, List.take_of_length_le (by rw [List.length_drop]; omega)]
  · rw [Nat.min_eq_right (by omega), List.drop_of_length_le (Nat.le_refl _), List.drop_of_length_le (by omega), List.take_nil]
theorem cutV_mid (xs : List V) (i j : Nat) : cutV xs (some (i : Int)) (some (j : Int)) = (xs.drop i).take (j - i) := by
  unfold cutV
  rw [HT.sIx_nat, HT.sIx_nat]
  apply List.ext_getElem?
  intro k
  rw [List.getElem?_take, List.getElem?_take, List.getElem?_drop, List.getElem?_drop]
  by_cases h : i + k < xs.length
  · have e1 : min i xs.length = i := by omega
    have e2 : (k < min j xs.length - i) ↔ (k < j - i) := by omega
    rw [e1]
    simp only [e2]
  · have e1 : ¬ k < min j xs.length - min i xs.length := by omega
    rw [if_neg e1]
    split
    · rw [List.getElem?_eq_none (by omega)]
    · rfl
theorem ivs_take (l : List Nat) (n : Nat) : (ivs l).take n = ivs (l.take n) := List.map_take.symm
theorem ivs_drop (l : List Nat) (n : Nat) : (ivs l).drop n = ivs (l.drop n) := List.map_drop.symm

/-! ### what the top has written -/
def plainF (i : Int) : Option Int := if i = 1 then some 2 else if i = 2 then some 1 else if i = 3 then some 4 else if i = 4 then some 1 else if i = 5 then some 1 else if i = 6 then some 4 else if i = 7 then some 0 else if i = 8 then some 0 else if i = 9 then some 1 else if i = 10 then some 0 else if i = 11 then some 0 else none
structure Txt (K : PySem.W.Frag) (mg : Str → Option Value) (A : Ad) : Prop where
  c_ENTRY_BYTES : GI mg "ENTRY_BYTES" 12
  c_STEP : GI mg "STEP" 4
  c_PARTS : GI mg "PARTS" 4
  c_LAST_OP : GI mg "LAST_OP" 11
  c_TELLS : GI mg "TELLS" 11
  c_FIRST_TEST : GI mg "FIRST_TEST" 8
  c_LAST_TEST : GI mg "LAST_TEST" 10
  c_SHIFTS : GI mg "SHIFTS" 32
  c_WRAP : GI mg "WRAP" 4294967296
  c_MANY_KINDS : GI mg "MANY_KINDS" 16
  c_MARK : GI mg "MARK" 87
  c_ALL_ONES : GI mg "ALL_ONES" 4294967295
  c_DIVISOR : GI mg "DIVISOR" 2197175160
  c_MORE : GI mg "MORE" 128
  c_REST_BYTES : GI mg "REST_BYTES" 4
  c_LEAST_BYTES : GI mg "LEAST_BYTES" 6
  c_MOST_NUMBER_BYTES : GI mg "MOST_NUMBER_BYTES" 5
  c_MOST_ENTRIES : GI mg "MOST_ENTRIES" 1024
  c_MOST_TIME : GI mg "MOST_TIME" 2147483647
  c_MOST_KIND : GI mg "MOST_KIND" 15
  c_MOST_QUEUE : GI mg "MOST_QUEUE" 7
  c_MOST_LENGTH : GI mg "MOST_LENGTH" 1024
  c_NO_MARK : GI mg "NO_MARK" 1
  c_NO_NUMBER : GI mg "NO_NUMBER" 2
  c_BEYOND : GI mg "BEYOND" 3
  c_TOO_SOON : GI mg "TOO_SOON" 4
  c_BEHIND : GI mg "BEHIND" 5
  c_NO_ROOM : GI mg "NO_ROOM" 6
  c_OPEN : GI mg "OPEN" 1
  c_PROGRAM : GI mg "PROGRAM" 2
  c_PUT : GI mg "PUT" 3
  c_GET : GI mg "GET" 4
  c_FIND : GI mg "FIND" 5
  c_TEST : GI mg "TEST" 6
  c_AGAIN : GI mg "AGAIN" 7
  c_OUT : GI mg "OUT" 8
  c_SUMS : GI mg "SUMS" 10
  c_NO_RECORD : GI mg "NO_RECORD" (-7)
  c_NO_SUCH_NUMBER : GI mg "NO_SUCH_NUMBER" (-2)
  c_TOO_EARLY : GI mg "TOO_EARLY" (-3)
  c_NO_ENTRY : GI mg "NO_ENTRY" (-6)
  c_WRONG : GI mg "WRONG" (-100)
  c_FAULT : GI mg "FAULT" (-10)
  c_LEAST_SIZE : GI mg "LEAST_SIZE" 512
  c_MOST_SIZE : GI mg "MOST_SIZE" 4096
  c_MOST_SNAP : GI mg "MOST_SNAP" 256
  c_MOST_INSTRUCTIONS : GI mg "MOST_INSTRUCTIONS" 64
  c_MOST_PLACE : GI mg "MOST_PLACE" 1023
  c_MOST_BYTES : GI mg "MOST_BYTES" 8192
  b_len : mg "len" = none
  b_sum : mg "sum" = none
  b_list : mg "list" = none
  b_tuple : mg "tuple" = none
  b_max : mg "max" = none
  b_min : mg "min" = none
  b_range : mg "range" = none
  b_ValueError : mg "ValueError" = none
  g_PLAIN : mg "PLAIN" = some (.ref A.aP)
  g_WITH_ROW : mg "WITH_ROW" = some (.ref A.aW)
  g_FIRST_PROGRAM : mg "FIRST_PROGRAM" = some (.ref A.aF)
  plain : PlainD K A.aP plainF
  wrow : ∀ H, SqT K H A.aW [.int 2, .int 3, .int 6, .int 9]
  fprog : ∀ H, ProgAt K H A.aF [Sj55.all]
  clF : Cls K A.cF
  clK : Cls K A.cK
  clR : Cls K A.cR
  nF_time : NoAttr K A.cF "time"
  nF_kind : NoAttr K A.cF "kind"
  nF_queue : NoAttr K A.cF "queue"
  nF_length : NoAttr K A.cF "length"
  nF_data : NoAttr K A.cF "data"
  nK_size : NoAttr K A.cK "size"
  nK_snap : NoAttr K A.cK "snap"
  nK_program : NoAttr K A.cK "program"
  nK_entries : NoAttr K A.cK "entries"
  nK_kept_frames : NoAttr K A.cK "kept_frames"
  nK_left_frames : NoAttr K A.cK "left_frames"
  nK_gone_entries : NoAttr K A.cK "gone_entries"
  nR_data : NoAttr K A.cR "data"
  nR_at : NoAttr K A.cR "at"
  oex : OexC K A.cX
  gX : mg "Faulty" = some (.ref A.cX)
  xf : XfC K A.cX
  nX_fault : PySem.W.findIn K (.ref A.cX) "fault" = some none
  veI : PySem.W.findCls K (.type "ValueError") (.type "type") "__init__" = some (.val (.builtin "ValueError.__init__"))
  te : PySem.W.exmOne K (.ref A.cX) (.ref A.cX) = some true

section
variable {P : Program} {w : World} {K : PySem.W.Frag} {mg : Str → Option Value} {base : Heap} {A : Ad}
/-! ### Frame -/
abbrev s_Frame___init__ : Stmt := (inClass (top 3) 0)
theorem sc_Frame___init__ : FnScope ["self", "time", "kind", "queue", "length", "data"] ["self", "time", "kind", "queue", "length", "data"] (defScope s_Frame___init__) := ⟨rfl, rfl, rfl, by decide +kernel, rfl, by decide +kernel, by decide +kernel⟩
def sp_Frame_init (A : Ad) : Sp := fun vs H Q _ => ∃ (p dx : Addr) (a b c d e : V), vs = [.ref p, a, b, c, d, e] ∧ H p = some (.ins A.cF dx []) ∧
  Q .non (upd H p (.ins A.cF dx [("time", a), ("kind", b), ("queue", c), ("length", d), ("data", e)]))
theorem fr1 (a : V) : putF "time" a ([] : List (Str × V)) = ([(("time" : Str), a)] : List (Str × V)) := rfl
theorem fr2 (a b : V) : putF "kind" b ([(("time" : Str), a)] : List (Str × V)) = ([("time", a), ("kind", b)] : List (Str × V)) := (put_past (by decide +kernel)).trans rfl
theorem fr3 (a b c : V) : putF "queue" c ([(("time" : Str), a), ("kind", b)] : List (Str × V)) = ([("time", a), ("kind", b), ("queue", c)] : List (Str × V)) := (put_past (by decide +kernel)).trans (congrArg _ ((put_past (by decide +kernel)).trans rfl))
theorem fr4 (a b c d : V) : putF "length" d ([(("time" : Str), a), ("kind", b), ("queue", c)] : List (Str × V)) = ([("time", a), ("kind", b), ("queue", c), ("length", d)] : List (Str × V)) := (put_past (by decide +kernel)).trans (congrArg _ ((put_past (by decide +kernel)).trans (congrArg _ ((put_past (by decide +kernel)).trans rfl))))
theorem fr5 (a b c d e : V) : putF "data" e ([(("time" : Str), a), ("kind", b), ("queue", c), ("length", d)] : List (Str × V)) = ([("time", a), ("kind", b), ("queue", c), ("length", d), ("data", e)] : List (Str × V)) := (put_past (by decide +kernel)).trans (congrArg _ ((put_past (by decide +kernel)).trans (congrArg _ ((put_past (by decide +kernel)).trans (congrArg _ ((put_past (by decide +kernel)).trans rfl))))))
theorem ok_Frame_init {f : Addr} {fd : FuncData} (F : Fun K "__init__" "Frame.__init__" s_Frame___init__ f fd) (T : Txt K mg A) : FnOk P w K mg base CX0 1 f fd ["self", "time", "kind", "queue", "length", "data"] (sp_Frame_init A) := by
  refine F.ok sc_Frame___init__ (fun vs H Q E h => ?_) (fun cdv Ar outer s H vs Q E hr h => ?_)
  · obtain ⟨p, dx, a, b, c, d, e, rfl, _⟩ := h
    rfl
  · obtain ⟨p, dx, a, b, c, d, e, rfl, hp, k⟩ := h
    refine ⟨_, (pss_cons (ps_fld (pv 0) (pv 1) rfl)
      (pss_cons (ps_fld (pv 0) (pv 2) rfl)
      (pss_cons (ps_fld (pv 0) (pv 3) rfl)
      (pss_cons (ps_fld (pv 0) (pv 4) rfl)
      (pss_one (ps_fld (pv 0) (pv 5) rfl)))))), ?_⟩
    refine ⟨_, rfl, _, rfl, p, A.cF, dx, _, rfl, hp, T.clF, T.nF_time, (by show 0 < 1000; decide), ?_⟩
    rw [fr1]
    refine ⟨_, rfl, _, rfl, p, A.cF, dx, _, rfl, upd_same, T.clF, T.nF_kind, (by show 1 < 1000; decide), ?_⟩
    rw [fr2, upd_upd]
    refine ⟨_, rfl, _, rfl, p, A.cF, dx, _, rfl, upd_same, T.clF, T.nF_queue, (by show 2 < 1000; decide), ?_⟩
    rw [fr3, upd_upd]
    refine ⟨_, rfl, _, rfl, p, A.cF, dx, _, rfl, upd_same, T.clF, T.nF_length, (by show 3 < 1000; decide), ?_⟩
    rw [fr4, upd_upd]
    refine ⟨_, rfl, _, rfl, p, A.cF, dx, _, rfl, upd_same, T.clF, T.nF_data, (by show 4 < 1000; decide), ?_⟩
    rw [fr5, upd_upd]
    exact k
/-- making a frame -/
theorem mk_frame {H1 : Hp} {Q : VK} {E : XK} {e : Sj55.Entry} {d : Addr} (hd : H1 d = some (.lst (ivs e.kept))) (q : ∀ x H2, H1 x = none → Ex H1 H2 → FrameAt A H2 x e → Q (.ref x) H2) (x dx : Addr) (nx : H1 x = none) (nd : H1 dx = none) (_ : dx ≠ x) :
    sp_Frame_init A (.ref x :: ([.int e.time, .int e.kind, .int e.queue, .int e.len, .ref d] ++ [])) (upd (upd H1 dx (.own x)) x (.ins A.cF dx [])) (fun v H2 => v = .non ∧ Q (.ref x) H2) E :=
  ⟨x, dx, _, _, _, _, _, rfl, upd_same, rfl, by
    refine q x _ nx (fun b o hb => ?_) ⟨dx, d, upd_same, ?_⟩
    · rw [upd_upd, upd_ne (ne_of_none hb nx), upd_ne (ne_of_none hb nd)]
      exact hb
    · rw [upd_upd, upd_ne (ne_of_none hd nx), upd_ne (ne_of_none hd nd)]
      exact hd⟩
theorem ei_frame {σ : L2.St} {H : Hp} {ta : TA} {E : XK} {e : Sj55.Entry} {d : Addr} (h : EvA ta σ H [.int e.time, .int e.kind, .int e.queue, .int e.len, .ref d]) (hd : H d = some (.lst (ivs e.kept))) :
    EvI (tMake A.cF (sp_Frame_init A) [] E ta) σ H (fun H' x => FrameAt A H' x e) := fun H1 x1 Q q =>
  h H1 x1 _ fun H2 e2 => mk_frame (e2 _ _ (x1 _ _ hd)) fun x H3 nx x3 h3 => q x H3 (fresh_back e2 nx) (e2.trans x3) h3
theorem ei_frameP {σ : L2.St} {H : Hp} {ta : TA} {E : XK} {e : Sj55.Entry} {P : Hp → List V → Prop} (h : EvP ta σ H P) (hP : ∀ H1 vs, P H1 vs → ∃ d, vs = [.int e.time, .int e.kind, .int e.queue, .int e.len, .ref d] ∧ H1 d = some (.lst (ivs e.kept))) :
    EvI (tMake A.cF (sp_Frame_init A) [] E ta) σ H (fun H' x => FrameAt A H' x e) := fun H1 x1 Q q =>
  h H1 x1 _ fun vs H2 e2 hp => by
    obtain ⟨d, rfl, hd⟩ := hP H2 vs hp
    exact mk_frame hd fun x H3 nx x3 h3 => q x H3 (fresh_back e2 nx) (e2.trans x3) h3
abbrev s_Frame_byte : Stmt := (inClass (top 3) 1)
theorem sc_Frame_byte : FnScope ["self", "at"] ["self", "at"] (defScope s_Frame_byte) := ⟨rfl, rfl, rfl, by decide +kernel, rfl, by decide +kernel, by decide +kernel⟩
def sp_Frame_byte (A : Ad) : Sp := fun vs H Q _ => ∃ (a : Addr) (e : Sj55.Entry) (n : Nat), vs = [.ref a, .int n] ∧ FrameAt A H a e ∧ RetV (.int (e.kept.getD n 0 : Nat)) H Q
theorem ok_Frame_byte {f : Addr} {fd : FuncData} (F : Fun K "byte" "Frame.byte" s_Frame_byte f fd) (T : Txt K mg A) : FnOk P w K mg base CX0 1 f fd ["self", "at"] (sp_Frame_byte A) := by
  refine F.ok sc_Frame_byte (fun vs H Q E h => ?_) (fun cdv Ar outer s H vs Q E hr h => ?_)
  · obtain ⟨a, e, n, rfl, _⟩ := h
    rfl
  · obtain ⟨a, e, n, rfl, ⟨dx, d, ha, hd⟩, k⟩ := h
    refine ⟨_, (pss_one (ps_ret (pe_ifExp (pt_cmpR op_lt (pv 1) (pe_callB call_len_seq (by rfl) T.b_len PySem.boot_len (pa_cons (pe_fld (pv 0) rfl) pa_nil)) (nomark _)) (pe_ix ix_list (pe_fld (pv 0) rfl) (pv 1) (fun _ _ => rfl)) pe_int))), ?_⟩
    have ed : ∀ (σ : L2.St), σ[0]? = some (some (V.ref a)) → Ev (tFld K (tVar 0) "data") σ H (.ref d) := fun σ hs => ev_fld (ev_var hs) ha T.clF T.nF_data (fF_data e d)
    refine s_ret (ev_if (et_test (ev_op (ev_var rfl) (ev_len (ed _ rfl) (sq_of hd)) rv_I0)) (fun hb => ?_) (fun hb => ?_)) k
    · rw [ivs_len] at hb
      have hlt : n < e.kept.length := by have := of_decide_eq_true hb; omega
      refine ev_op (ed _ rfl) (ev_var rfl) (rv_ixL (sq_of hd) (atI_nat ?_))
      rw [ivs_at, List.getElem?_eq_getElem hlt]
      simp [hlt]
    · rw [ivs_len] at hb
      have hge : ¬ n < e.kept.length := fun z => by have := of_decide_eq_false hb; omega
      refine ev_is ev_c ?_
      simp [List.getD, hge]
abbrev s_Frame_kept_by : Stmt := (inClass (top 3) 2)
theorem sc_Frame_kept_by : FnScope ["self", "many"] ["self", "many"] (defScope s_Frame_kept_by) := ⟨rfl, rfl, rfl, by decide +kernel, rfl, by decide +kernel, by decide +kernel⟩
def sp_Frame_kept_by (A : Ad) : Sp := fun vs H Q _ => ∃ (a : Addr) (e : Sj55.Entry) (n : Nat), vs = [.ref a, .int n] ∧ FrameAt A H a e ∧
  ∀ x H', H x = none → Ex H H' → FrameAt A H' x { e with kept := e.kept.take n } → Q (.ref x) H'
theorem ok_Frame_kept_by {f : Addr} {fd : FuncData} (F : Fun K "kept_by" "Frame.kept_by" s_Frame_kept_by f fd) (T : Txt K mg A) (h_Frame : HasC P w K mg base CX0 1 A.cF "Frame" ["self", "time", "kind", "queue", "length", "data"] (sp_Frame_init A)) :
    FnOk P w K mg base CX0 3 f fd ["self", "many"] (sp_Frame_kept_by A) := by
  refine F.ok sc_Frame_kept_by (fun vs H Q E h => ?_) (fun cdv Ar outer s H vs Q E hr h => ?_)
  · obtain ⟨a, e, n, rfl, _⟩ := h
    rfl
  · obtain ⟨a, e, n, rfl, ⟨dx, d, ha, hd⟩, k⟩ := h
    refine ⟨_, (pss_one (ps_ret (pe_mk h_Frame (hr.mono (by decide)) (by rfl) pass0 (pa_cons (pe_fld (pv 0) rfl) (pa_cons (pe_fld (pv 0) rfl) (pa_cons (pe_fld (pv 0) rfl) (pa_cons (pe_fld (pv 0) rfl) (pa_cons (pe_slice sl_list (pe_fld (pv 0) rfl) po_none (po_some (pv 1))) pa_nil)))))))), ?_⟩
    have ef : ∀ {g : Str} {v : V}, NoAttr K A.cF g → (fF e d).lookup g = some v → Ev (tFld K (tVar 0) g) (start ["self", "many"] [V.ref a, V.int n]) H v := fun hn hl => ev_fld (ev_var rfl) ha T.clF hn hl
    refine s_retI (ei_frameP (e := { e with kept := e.kept.take n }) (ep_cons (ef T.nF_time (fF_time e d)) (ep_cons (ef T.nF_kind (fF_kind e d)) (ep_cons (ef T.nF_queue (fF_queue e d)) (ep_cons (ef T.nF_length (fF_length e d)) (ep_lastL (el_sl (ef T.nF_data (fF_data e d)) eo_none (eo_some (ev_var rfl)) (sq_of hd))))))) ?_) k
    rintro H1 vs ⟨_, rfl, _, rfl, _, rfl, _, rfl, p, rfl, hp⟩
    rw [cutV_to, ivs_take] at hp
    exact ⟨p, rfl, hp⟩
abbrev s_room_of : Stmt := (top 4)
theorem sc_room_of : FnScope ["entry"] ["entry"] (defScope s_room_of) := ⟨rfl, rfl, rfl, by decide +kernel, rfl, by decide +kernel, by decide +kernel⟩
def sp_room_of (A : Ad) : Sp := fun vs H Q _ => ∃ (a : Addr) (e : Sj55.Entry), vs = [.ref a] ∧ FrameAt A H a e ∧ RetV (.int (e.size : Nat)) H Q
theorem ok_room_of {f : Addr} {fd : FuncData} (F : Fun K "room_of" "room_of" s_room_of f fd) (T : Txt K mg A) : FnOk P w K mg base CX0 1 f fd ["entry"] (sp_room_of A) := by
  refine F.ok sc_room_of (fun vs H Q E h => ?_) (fun cdv Ar outer s H vs Q E hr h => ?_)
  · obtain ⟨a, e, rfl, _⟩ := h
    rfl
  · obtain ⟨a, e, rfl, ⟨dx, d, ha, hd⟩, k⟩ := h
    refine ⟨_, (pss_one (ps_ret (pe_op op_add (pe_gi T.c_ENTRY_BYTES rfl) (pe_op op_mul (pe_op op_fdiv (pe_op op_sub (pe_op op_add (pe_callB call_len_seq (by rfl) T.b_len PySem.boot_len (pa_cons (pe_fld (pv 0) rfl) pa_nil)) (pe_gi T.c_STEP rfl)) pe_int) (pe_gi T.c_STEP rfl)) (pe_gi T.c_STEP rfl))))), ?_⟩
    have ed : ∀ (σ : L2.St), σ[0]? = some (some (V.ref a)) → Ev (tFld K (tVar 0) "data") σ H (.ref d) := fun σ hs => ev_fld (ev_var hs) ha T.clF T.nF_data (fF_data e d)
    refine s_ret (ev_is (ev_op ev_c (ev_op (ev_op (ev_op (ev_op (ev_len (ed _ rfl) (sq_of hd)) ev_c rv_I0) ev_c rv_I0) ev_c (rv_I ⟨by decide, by decide⟩)) ev_c (rv_I (.inr ⟨by decide, by decide⟩))) rv_I0) ?_) k
    rw [ivs_len]
    unfold Sj55.Entry.size
    congr 1
    omega
theorem sp_room_of_v {H : Hp} {a : Addr} {e : Sj55.Entry} (h : FrameAt A H a e) : SpV (sp_room_of A) [.ref a] H (.int (e.size : Nat)) := fun H1 x Q q E => ⟨a, e, rfl, h.ex x, q⟩
abbrev s_room_of_all : Stmt := (top 5)
theorem sc_room_of_all : FnScope ["entries", "entry"] ["entries"] (defScope s_room_of_all) := ⟨rfl, rfl, rfl, by decide +kernel, rfl, by decide +kernel, by decide +kernel⟩
def EntriesAt (A : Ad) (H : Hp) (l : Addr) (es : List Sj55.Entry) : Prop := ∃ as : List Addr, H l = some (.lst (as.map V.ref)) ∧ FramesAt A H as es
theorem EntriesAt.ex {H H' : Hp} {l : Addr} {es : List Sj55.Entry} (x : Ex H H') (h : EntriesAt A H l es) : EntriesAt A H' l es := by
  obtain ⟨as, h1, h2⟩ := h
  exact ⟨as, x _ _ h1, h2.ex x⟩
def sp_room_of_all (A : Ad) : Sp := fun vs H Q _ => ∃ (l : Addr) (es : List Sj55.Entry), vs = [.ref l] ∧ EntriesAt A H l es ∧ es.length ≤ 40000 ∧ RetV (.int (Sj55.total es : Nat)) H Q
theorem given_all (n : Nat) (v : Nat → V) : given n (fun _ => true) v = (List.range n).map v := by
  unfold given
  rw [List.filter_eq_self.mpr fun _ _ => rfl]
theorem given_map (es : List Sj55.Entry) (g : Sj55.Entry → Int) (v : Nat → V) (h : ∀ i e, es[i]? = some e → v i = .int (g e)) : given es.length (fun _ => true) v = (es.map g).map V.int := by
  rw [given_all]
  apply List.ext_getElem?
  intro i
  rw [List.getElem?_map, List.getElem?_map, List.getElem?_map]
  by_cases hi : i < es.length
  · rw [List.getElem?_eq_getElem (by rw [List.length_range]; exact hi), List.getElem?_eq_getElem hi, List.getElem_range]
    show some (v i) = some (.int (g es[i]))
    rw [h i es[i] (List.getElem?_eq_getElem hi)]
  · rw [List.getElem?_eq_none (by rw [List.length_range]; omega), List.getElem?_eq_none (by omega)]
    rfl
theorem sum_total : ∀ es : List Sj55.Entry, (es.map fun e => ((e.size : Nat) : Int)).sum = ((Sj55.total es : Nat) : Int)
  | [] => rfl
  | e :: es => by
    rw [List.map_cons, List.sum_cons, sum_total es]
    show _ = ((e.size + Sj55.total es : Nat) : Int)
    omega
theorem ok_room_of_all {f : Addr} {fd : FuncData} (F : Fun K "room_of_all" "room_of_all" s_room_of_all f fd) (T : Txt K mg A) (h_room_of : Has P w K mg base CX0 1 "room_of" ["entry"] (sp_room_of A)) :
    FnOk P w K mg base CX0 2 f fd ["entries"] (sp_room_of_all A) := by
  refine F.ok sc_room_of_all (fun vs H Q E h => ?_) (fun cdv Ar outer s H vs Q E hr h => ?_)
  · obtain ⟨l, es, rfl, _⟩ := h
    rfl
  · obtain ⟨l, es, rfl, ⟨as, hl, hp⟩, hz, k⟩ := h
    have hlen : as.length = es.length := Paired.length hp
    refine ⟨_, (pss_one (ps_ret (pe_callB (cr_sum rfl) (by rfl) T.b_sum (by decide +kernel) (pa_cons (pe_lc (own := [("entry", 1)]) (g := gName 1) (tt := tYes) rfl sc_room_of_all.nd (pi_list (pv 0)) (blkOk_by (N := ["entries", "entry"]) (sc := defScope s_room_of_all) (by decide +kernel)) (fun _ _ _ _ _ => pg_name (i := 1) sc_room_of_all.nd rfl (Or.inl rfl)) (fun _ _ _ _ _ => pts_nil) (fun _ _ _ _ _ => (pe_fn h_room_of (hr.mono (by decide)) (by rfl) pass0 (pa_cons (pv 1) pa_nil)))) pa_nil)))), ?_⟩
    refine s_ret (ev_is (ev_sum (ns := es.map fun e => ((e.size : Nat) : Int)) (el_lcL (fun _ => true) (fun i => .int (((es[i]?).map fun e => ((e.size : Nat) : Int)).getD 0)) (ev_var rfl) (sq_of hl) (by rw [List.length_map]; omega) (fun _ => rfl) (fun _ _ _ _ _ => fun H1 _ _ q => q H1 (Ex.refl H1)) ?_) ?_) (by rw [sum_total])) k
    · intro i x H1 x1 hx _
      rw [List.getElem?_map] at hx
      obtain ⟨a, ha, rfl⟩ := Option.map_eq_some_iff.mp hx
      obtain ⟨e, he, hf⟩ := Paired.get2 hp ha
      rw [he]
      exact ev_call (ea_cons (ev_var rfl) ea_nil) (sp_room_of_v (hf.ex x1))
    · rw [List.length_map, hlen]
      exact given_map es _ _ fun i e he => by rw [he]; rfl
end
end G
namespace G
open PySem PySem.Spec PyProof.Rows L2 Evl
open Sj55 (Ins)

/-! ### words for programs -/
theorem lc_rangeC {lo c : Int} {n : Nat} {g : TG} {tt : TT} {te : TE} {vs : List Nat} {σ : L2.St} {H1 : Hp} {D : Addr} {Qd : Hp → Prop} (Pv : Nat → Hp → Prop) (h0 : Pv 0 (upd H1 D (.lst [])))
    (hs : ∀ i H, i < n → Pv i H → g (.int (lo + (i : Nat) * c)) (wipe σ vs) H fun σ2 H2 => wipe σ2 vs = wipe σ vs ∧ tt σ2 H2 fun b H3 =>
      if b = true then te σ2 H3 fun y H4 => ∃ acc, H4 D = some (.lst acc) ∧ acc.length < sizeLine ∧ Pv (i + 1) (upd H4 D (.lst (acc ++ [y]))) else Pv (i + 1) H3) (hd : ∀ H, Pv n H → Qd H) :
    ∃ W : Nat → Nat → Hp → Prop, (∃ m, W 0 m (upd H1 D (.lst []))) ∧ ∀ i m H, W i m H →
      ((Itc lo c n).stop i H ∧ Qd H) ∨ ((Itc lo c n).go i H ∧ ∃ Nx : Hp → Prop, (∀ H', Nx H' → ∃ m', m' < m ∧ W (i + 1) m' H') ∧ ∀ x H', (Itc lo c n).yld i H x H' → g x (wipe σ vs) H' fun σ2 H2 => wipe σ2 vs = wipe σ vs ∧ tt σ2 H2 fun b H3 =>
        if b = true then te σ2 H3 fun y H4 => ∃ acc, H4 D = some (.lst acc) ∧ acc.length < sizeLine ∧ Nx (upd H4 D (.lst (acc ++ [y]))) else Nx H3) := by
  refine ⟨fun i m H => m = n - i ∧ i ≤ n ∧ Pv i H, ⟨n, by simp, Nat.zero_le _, h0⟩, ?_⟩
  rintro i m H ⟨rfl, hi, p⟩
  by_cases hlt : i < n
  · refine .inr ⟨hlt, Pv (i + 1), fun H' p' => ⟨n - (i + 1), by omega, rfl, hlt, p'⟩, fun x H' y => ?_⟩
    obtain ⟨e, y⟩ := y
    subst e y
    exact hs i _ hlt p
  · have e : i = n := by omega
    subst e
    exact .inl ⟨Nat.le_refl _, hd H p⟩
theorem rgC_four (n : Nat) (h : n ≤ 1000) : RgC 0 ((4 * n : Nat) : Int) 4 n := by
  have e : Builtin.Range.rangeSize 0 ((4 * n : Nat) : Int) 4 = (n : Int) := by
    unfold Builtin.Range.rangeSize
    rw [if_pos (by decide)]
    by_cases hn : (0 : Int) < ((4 * n : Nat) : Int)
    · rw [if_pos hn]
      omega
    · rw [if_neg hn]
      omega
  refine ⟨by decide, by decide, ?_, e⟩
  unfold Builtin.Range.small
  rw [e]
  unfold Builtin.Range.rangeFitsLong
  have h1 : ((4 * n : Nat) : Int) ≤ 4000 := by omega
  have h2 : (0 : Int) ≤ ((4 * n : Nat) : Int) := by omega
  have h3 : (0 : Int) ≤ (n : Int) := by omega
  have h4 : (n : Int) ≤ 1000 := by omega
  simp
  omega
section
variable {K : PySem.W.Frag} {σ : L2.St} {H H' : Hp} {ta tb te : TE} {D : Ends} {tz : TS}
def rTupOf (K : PySem.W.Frag) : List V → Hp → VK → Prop := fun xs H Q => ∃ p ys, xs = [.ref p] ∧ ((SqL K H p ys ∧ ∀ l, H l = none → Q (.ref l) (upd H l (.tup ys))) ∨ (SqT K H p ys ∧ Q (.ref p) H))
theorem eu_tupL {xs : List V} (h : EvL ta σ H xs) : EvU (tCB (rTupOf K) (tCons ta tNil)) σ H xs := fun H1 e Q q =>
  h H1 e _ fun p H2 _ e2 hp => ⟨p, xs, rfl, .inl ⟨sq_of hp, fun l hl => q l _ (fresh_back e2 hl) (e2.trans (Ex.new hl)) upd_same⟩⟩
theorem yes_go {Q : VK} {R : Hp → Prop} (h : te σ H Q) : tYes σ H (fun b H3 => if b = true then te σ H3 Q else R H3) := by
  show (if true = true then te σ H Q else R H)
  exact iteT h
theorem q_unp4 {t : Addr} {a b c d : V} {i j k l : Nat} (h : Ev te σ H (.ref t)) (ht : SqT K H t [a, b, c, d]) (kk : ∀ H1, Ex H H1 → tz D ((((σ.set i (some a)).set j (some b)).set k (some c)).set l (some d)) H1) :
    tSeq (tAsg te (gTup K 4 (gCons (gName i) (gCons (gName j) (gCons (gName k) (gCons (gName l) gNil)))))) tz D σ H :=
  h H (Ex.refl H) _ fun H1 e => ⟨t, _, rfl, ex_t e ht, rfl, _, _, rfl, _, _, rfl, _, _, rfl, _, _, rfl, rfl, kk H1 e⟩
end
theorem ProgAt.get {K : PySem.W.Frag} {H : Hp} {a : Addr} {p : List Ins} (h : ProgAt K H a p) : ∃ ts : List Addr, SqT K H a (ts.map V.ref) ∧ ts.length = p.length ∧ ∀ (i : Nat) (x : Ins), p[i]? = some x → ∃ t : Addr, (ts.map V.ref)[i]? = some (V.ref t) ∧ SqT K H t [.int x.op, .int x.k, .int x.yes, .int x.no] := by
  obtain ⟨ts, h1, h2⟩ := h
  have hl : ts.length = p.length := Paired.length h2
  refine ⟨ts, h1, hl, fun i x hx => ?_⟩
  have hi : i < ts.length := by rw [hl]; exact (List.getElem?_eq_some_iff.mp hx).1
  obtain ⟨y, hy, hf⟩ := Paired.get2 h2 (List.getElem?_eq_getElem hi)
  rw [hx] at hy
  cases hy
  exact ⟨ts[i], by rw [List.getElem?_map, List.getElem?_eq_getElem hi]; rfl, hf⟩
section
variable {P : Program} {w : World} {K : PySem.W.Frag} {mg : Str → Option Value} {base : Heap} {A : Ad}
/-! ### instructions_of -/
abbrev s_instructions_of : Stmt := (top 14)
theorem sc_instructions_of : FnScope ["numbers", "at"] ["numbers"] (defScope s_instructions_of) := ⟨rfl, rfl, rfl, by decide +kernel, rfl, by decide +kernel, by decide +kernel⟩
def sp_instructions_of (K : PySem.W.Frag) : Sp := fun vs H Q _ => ∃ (l : Addr) (ns : List Int) (n : Nat), vs = [.ref l] ∧ SqL K H l (ns.map V.int) ∧ ns.length = 4 * n ∧ n ≤ 64 ∧ (∀ z ∈ ns, 0 ≤ z) ∧
  ∀ p H', H p = none → Ex H H' → ProgAt K H' p (Sj55.insOf n ns) → Q (.ref p) H'
theorem ok_instructions_of {f : Addr} {fd : FuncData} (F : Fun K "instructions_of" "instructions_of" s_instructions_of f fd) (T : Txt K mg A) : FnOk P w K mg base CX0 1 f fd ["numbers"] (sp_instructions_of K) := by
  refine F.ok sc_instructions_of (fun vs H Q E h => ?_) (fun cdv Ar outer s H vs Q E hr h => ?_)
  · obtain ⟨l, ns, n, rfl, _⟩ := h
    rfl
  · obtain ⟨l, ns, n, rfl, hl, hn, h64, h0, k⟩ := h
    refine ⟨_, (pss_one (ps_ret (pe_callTy (T := "tuple") call_tuple_of (by rfl) T.b_tuple (by decide +kernel) (pa_cons (pe_lc (own := [("at", 1)]) (g := gName 1) (tt := tYes) (te := tCB (rTupOf K) (tCons (tSl (rSlL K) (tVar 0) (tPart (tVar 1)) (tPart (tOp (rI0 fun i j => .int (i + j)) (tVar 1) (tC (.int 4))))) tNil)) rfl sc_instructions_of.nd (pi_range3 (by rfl) T.b_range (pa_cons pe_int (pa_cons (pe_callB call_len_seq (by rfl) T.b_len PySem.boot_len (pa_cons (pv 0) pa_nil)) (pa_cons (pe_gi T.c_PARTS rfl) pa_nil)))) (blkOk_by (N := ["numbers", "at"]) (sc := defScope s_instructions_of) (by decide +kernel)) (fun _ _ _ _ _ => pg_name (i := 1) sc_instructions_of.nd rfl (Or.inl rfl)) (fun _ _ _ _ _ => pts_nil) (fun _ _ _ _ _ => (pe_callTy (T := "tuple") call_tuple_of (by rfl) T.b_tuple (by decide +kernel) (pa_cons (pe_slice sl_list (pv 0) (po_some (pv 1)) (po_some (pe_op op_add (pv 1) (pe_gi T.c_PARTS rfl)))) pa_nil)))) pa_nil)))), ?_⟩
    have hz : Sj55.insOf n ns = (Sj55.insOf n ns).take n := by
      rw [List.take_of_length_le]
      rw [insOf_len n ns hn]
      exact Nat.le_refl _
    refine ⟨_, rfl, _, _, rfl, .inl hl, ⟨0, ((ns.map V.int).length : Int), 4, n, rfl, ?_, fun D hD => ?_⟩⟩
    · rw [List.length_map, hn]
      exact rgC_four n (by omega)
    refine lc_rangeC (fun i H' => Ex H H' ∧ ∃ ts : List Addr, ts.length = i ∧ H' D = some (.lst (ts.map V.ref)) ∧ Paired (InsAt K H') ts ((Sj55.insOf n ns).take i)) ⟨Ex.new hD, [], rfl, upd_same, .nil⟩ ?_ ?_
    · rintro i H1 hi ⟨x1, ts, hlen, hD1, hp⟩
      refine ⟨rfl, ?_⟩
      obtain ⟨a, b, c, d, e1, e2⟩ := insOf_at n ns hn i hi
      have hcut : cutV (ns.map V.int) (some ((0 : Int) + (i : Nat) * 4)) (some ((0 : Int) + (i : Nat) * 4 + 4)) = [.int a, .int b, .int c, .int d] := by
        have ea : (0 : Int) + (i : Nat) * 4 = ((4 * i : Nat) : Int) := by omega
        have eb : (0 : Int) + (i : Nat) * 4 + 4 = ((4 * i + 4 : Nat) : Int) := by omega
        rw [eb, ea, cutV_mid, ← List.map_drop, ← List.map_take]
        have ec : 4 * i + 4 - 4 * i = 4 := by omega
        rw [ec, e1]
        rfl
      have hmem : ∀ z ∈ [a, b, c, d], 0 ≤ z := fun z hz => h0 z (by
        rw [← e1] at hz
        exact List.mem_of_mem_drop (List.mem_of_mem_take hz))
      have ha := hmem a (by simp); have hb := hmem b (by simp); have hc := hmem c (by simp); have hd := hmem d (by simp)
      refine yes_go ?_
      have ev := eu_tupL (K := K) (el_sl (K := K) (te := tVar 0) (tl := tPart (tVar 1)) (th := tPart (tOp (rI0 fun i j => .int (i + j)) (tVar 1) (tC (.int 4)))) (σ := (wipe (start ["numbers", "at"] [V.ref l]) [1]).set 1 (some (.int ((0 : Int) + (i : Nat) * 4)))) (H := H1) (ev_var rfl) (eo_some (ev_var rfl)) (eo_some (ev_op (ev_var rfl) ev_c rv_I0)) (ex_l x1 hl))
      refine ev H1 (Ex.refl H1) _ fun t H2 ht e2' h2 => ⟨_, e2' _ _ hD1, ?_, (x1.trans e2').mut hD, ts ++ [t], by simp [hlen], ?_, ?_⟩
      · rw [List.length_map, hlen]
        exact Nat.lt_of_lt_of_le hi (Nat.le_trans h64 (by decide))
      · rw [upd_same, List.map_append]
        rfl
      · rw [hcut] at h2
        have hne : t ≠ D := fun z => by
          rw [z, hD1] at ht
          cases ht
        have h3 : upd H2 D (.lst (ts.map V.ref ++ [.ref t])) t = some (.tup [.int a, .int b, .int c, .int d]) := by
          rw [upd_ne hne]
          exact h2
        have e4 : (Sj55.insOf n ns).take (i + 1) = (Sj55.insOf n ns).take i ++ [⟨a.toNat, b.toNat, c.toNat, d.toNat⟩] := by
          rw [List.take_succ, e2]
          rfl
        rw [e4]
        refine Paired.app (Paired.imp2 (fun u y q => ?_) hp) (.cons ?_ .nil)
        · have q' : SqT K H2 u _ := ex_t e2' q
          rcases q' with (q' | ⟨o, q'⟩) | q'
          · exact .inl (.inl (by rw [upd_ne (ne_of q' (e2' _ _ hD1) (by intro z; cases z))]; exact q'))
          · exact .inl (.inr ⟨o, by rw [upd_ne (ne_of q' (e2' _ _ hD1) (by intro z; cases z))]; exact q'⟩)
          · exact .inr q'
        · show SqT K _ t [.int (a.toNat : Nat), .int (b.toNat : Nat), .int (c.toNat : Nat), .int (d.toNat : Nat)]
          rw [Int.toNat_of_nonneg ha, Int.toNat_of_nonneg hb, Int.toNat_of_nonneg hc, Int.toNat_of_nonneg hd]
          exact st_of h3
    · rintro H1 ⟨x1, ts, hlen, hD1, hp⟩
      refine ⟨D, _, rfl, .inl ⟨sq_of hD1, fun q hq => ?_⟩⟩
      refine k q _ (fresh_back x1 hq) (x1.trans (Ex.new hq)) ⟨ts, st_of upd_same, ?_⟩
      rw [hz]
      exact Paired.imp2 (fun u y r => ex_t (Ex.new hq) r) hp
end
end G
namespace G
open PySem PySem.Spec PyProof.Rows L2 Evl
open Sj55 (Ins)

theorem dInt (a b : Int) : decide (V.int a = V.int b) = decide (a = b) := by
  by_cases h : a = b
  · subst h
    simp
  · rw [decide_eq_false h, decide_eq_false]
    intro z
    exact h (V.int.inj z)
section
variable {K : PySem.W.Frag} {σ : L2.St} {H H' : Hp} {ta tb te : TE} {D : Ends} {tz : TS}
theorem ev_lenT {p : Addr} {xs : List V} (ha : Ev ta σ H (.ref p)) (h : SqT K H p xs) : Ev (tCB (rLenS K) (tCons ta tNil)) σ H (.int (xs.length : Int)) := fun H1 e Q q =>
  ha H1 e _ fun H2 e2 => ⟨p, xs, rfl, Or.inr (ex_t (e.trans e2) h), q H2 e2⟩
end
theorem RetV.at {v u : V} {H H' : Hp} {Q : VK} (k : RetV v H Q) (e : Ex H H') (h : u = v) : ∀ H2, Ex H' H2 → Q u H2 := fun H2 e2 => by
  rw [h]
  exact k H2 (e.trans e2)
section
variable {P : Program} {w : World} {K : PySem.W.Frag} {mg : Str → Option Value} {base : Heap} {A : Ad}
abbrev s_is_test : Stmt := (top 15)
theorem sc_is_test : FnScope ["op"] ["op"] (defScope s_is_test) := ⟨rfl, rfl, rfl, by decide +kernel, rfl, by decide +kernel, by decide +kernel⟩
def isTestB (op : Int) : Bool := decide (8 ≤ op) && decide (op ≤ 10)
def sp_is_test : Sp := fun vs H Q _ => ∃ op : Int, vs = [.int op] ∧ RetV (.bl (isTestB op)) H Q
theorem ok_is_test {f : Addr} {fd : FuncData} (F : Fun K "is_test" "is_test" s_is_test f fd) (T : Txt K mg A) : FnOk P w K mg base CX0 1 f fd ["op"] sp_is_test := by
  refine F.ok sc_is_test (fun vs H Q E h => ?_) (fun cdv Ar outer s H vs Q E hr h => ?_)
  · obtain ⟨op, rfl, _⟩ := h
    rfl
  · obtain ⟨op, rfl, k⟩ := h
    refine ⟨_, (pss_one (ps_ret (pe_chain op_le op_le (pe_gi T.c_FIRST_TEST rfl) (pv 0) (pe_gi T.c_LAST_TEST rfl)))), ?_⟩
    exact s_ret (ev_chain ev_c (ev_var rfl) rv_I0 (fun _ => ev_c) (fun _ => rv_I0)) k
theorem sp_is_test_v {H : Hp} (op : Int) : SpV sp_is_test [.int op] H (.bl (isTestB op)) := fun H1 x Q q E => ⟨op, rfl, q⟩
theorem isTest_nat (op : Nat) : isTestB (op : Int) = decide (8 ≤ op ∧ op ≤ 10) := by
  unfold isTestB
  rw [← Bool.decide_and]
  apply decide_eq_decide.mpr
  omega
abbrev s_is_wrong : Stmt := (top 16)
theorem sc_is_wrong : FnScope ["program", "at", "op", "number", "passed", "passed_else"] ["program", "at"] (defScope s_is_wrong) := ⟨rfl, rfl, rfl, by decide +kernel, rfl, by decide +kernel, by decide +kernel⟩
def sp_is_wrong (K : PySem.W.Frag) : Sp := fun vs H Q _ => ∃ (a : Addr) (p : List Ins) (i : Nat), vs = [.ref a, .int i] ∧ ProgAt K H a p ∧ i < p.length ∧ RetV (.bl (wrongAt p i)) H Q
theorem ok_is_wrong {f : Addr} {fd : FuncData} (F : Fun K "is_wrong" "is_wrong" s_is_wrong f fd) (T : Txt K mg A) (h_is_test : Has P w K mg base CX0 1 "is_test" ["op"] sp_is_test) : FnOk P w K mg base CX0 2 f fd ["program", "at"] (sp_is_wrong K) := by
  refine F.ok sc_is_wrong (fun vs H Q E h => ?_) (fun cdv Ar outer s H vs Q E hr h => ?_)
  · obtain ⟨a, p, i, rfl, _⟩ := h
    rfl
  · obtain ⟨a, p, i, rfl, hp, hi, k⟩ := h
    obtain ⟨ts, hT, hlen, hget⟩ := hp.get
    obtain ⟨t, hti, ht⟩ := hget i p[i] (List.getElem?_eq_getElem hi)
    have hw : wrongAt p i = wrongX p.length p[i] i := by
      unfold wrongAt
      rw [List.getElem?_eq_getElem hi]
    rw [hw] at k
    generalize p[i] = x at *
    refine ⟨_, (pss_cons (ps_asg (pe_ix ix_tup (pv 0) (pv 1) (fun _ _ => rfl)) (pg_tup rfl (pgs_cons (pg_name (i := 2) sc_is_wrong.nd rfl (Or.inl rfl)) (pgs_cons (pg_name (i := 3) sc_is_wrong.nd rfl (Or.inl rfl)) (pgs_cons (pg_name (i := 4) sc_is_wrong.nd rfl (Or.inl rfl)) (pgs_cons (pg_name (i := 5) sc_is_wrong.nd rfl (Or.inl rfl)) pgs_nil))))))
      (pss_cons (ps_if (pt_cmpR op_gt (pv 2) (pe_gi T.c_LAST_OP rfl) (nomark _)) (pss_one (ps_ret pe_bl)) pss_nil)
      (pss_cons (ps_if (PW.pt (pw_and (pt_val (pe_fn h_is_test (hr.mono (by decide)) (by rfl) pass0 (pa_cons (pv 2) pa_nil))) (pw_and1 (pt_cmpR op_ge (pe_op op_add (pe_op op_add (pv 1) pe_int) (pe_callB (call_max2 rfl) (by rfl) T.b_max (by decide +kernel) (pa_cons (pv 4) (pa_cons (pv 5) pa_nil)))) (pe_callB call_len_seq (by rfl) T.b_len PySem.boot_len (pa_cons (pv 0) pa_nil)) (nomark _))))) (pss_one (ps_ret pe_bl)) pss_nil)
      (pss_one (ps_ret (pe_and (pe_cmpR op_eq (pv 1) (pe_op op_sub (pe_callB call_len_seq (by rfl) T.b_len PySem.boot_len (pa_cons (pv 0) pa_nil)) pe_int) (nomark _)) (pe_one (pe_cmpR op_ne (pv 2) (pe_gi T.c_TELLS rfl) (nomark _))))))))), ?_⟩
    refine q_unp4 (ev_op (ev_var rfl) (ev_var rfl) (rv_ixT hT (atI_nat hti))) ht (fun H1 x1 => ?_)
    refine q_when (et_test (ev_op (ev_var rfl) ev_c rv_I0)) (fun hb H2 x2 => ?_) (fun hb H2 x2 => ?_)
    · refine s_ret ev_c (RetV.at k (x1.trans x2) ?_)
      have h1 := of_decide_eq_true hb
      have h2 : ¬ x.op ≤ 11 := by omega
      simp [wrongX, h2]
    have h1 := of_decide_eq_false hb
    have h2 : x.op ≤ 11 := by omega
    refine q_when (et_and (et_B (ev_call (ea_cons (ev_var rfl) ea_nil) (sp_is_test_v _))) (fun _ => et_test (ev_op (ev_op (ev_op (ev_var rfl) ev_c rv_I0) (ev_max2 (ev_var rfl) (ev_var rfl)) rv_I0) (ev_lenT (ev_var rfl) (ex_t (x1.trans x2) hT)) rv_I0))) (fun hb2 H3 x3 => ?_) (fun hb2 H3 x3 => ?_)
    · refine s_ret ev_c (RetV.at k ((x1.trans x2).trans x3) ?_)
      rw [isTest_nat, Bool.and_eq_true, decide_eq_true_eq, decide_eq_true_eq, List.length_map, hlen] at hb2
      obtain ⟨c1, c2⟩ := hb2
      have h3 : ¬ (i + 1 + x.yes < p.length ∧ i + 1 + x.no < p.length) := by
        split at c2 <;> omega
      have h4 : (decide (i + 1 + x.yes < p.length) && decide (i + 1 + x.no < p.length)) = false := by
        rw [← Bool.decide_and]
        exact decide_eq_false h3
      unfold wrongX
      rw [if_pos c1, h4]
      simp
    · refine s_ret (ev_andV (ev_op (ev_var rfl) (ev_op (ev_lenT (ev_var rfl) (ex_t ((x1.trans x2).trans x3) hT)) ev_c rv_I0) (rv_eq rfl)) (fun _ => ev_op (ev_var rfl) ev_c (rv_ne rfl))) (RetV.at k ((x1.trans x2).trans x3) ?_)
      rw [dInt, dInt, List.length_map, hlen]
      rw [isTest_nat, Bool.and_eq_false_iff, decide_eq_false_iff_not, decide_eq_false_iff_not, List.length_map, hlen] at hb2
      have h4 : (if 8 ≤ x.op ∧ x.op ≤ 10 then decide (i + 1 + x.yes < p.length) && decide (i + 1 + x.no < p.length) else true) = true := by
        by_cases c1 : 8 ≤ x.op ∧ x.op ≤ 10
        · rw [if_pos c1, ← Bool.decide_and, decide_eq_true_eq]
          rcases hb2 with c | c
          · exact absurd c1 c
          · split at c <;> omega
        · rw [if_neg c1]
      unfold wrongX
      rw [h4, decide_eq_true h2]
      congr 1
      by_cases c : i + 1 = p.length
      · have c' : (i : Int) = (p.length : Int) - 1 := by omega
        rw [if_pos c, decide_eq_true c']
        by_cases c3 : x.op = 11
        · simp [c3]
        · have c4 : ¬ (x.op : Int) = 11 := by omega
          simp [c3, c4]
      · have c' : ¬ (i : Int) = (p.length : Int) - 1 := by omega
        rw [if_neg c, decide_eq_false c']
        rfl
theorem sp_is_wrong_v {H : Hp} {a : Addr} {p : List Ins} {i : Nat} (h : ProgAt K H a p) (hi : i < p.length) : SpV (sp_is_wrong K) [.ref a, .int i] H (.bl (wrongAt p i)) := fun H1 x Q q E => ⟨a, p, i, rfl, h.ex x, hi, q⟩
abbrev s_first_wrong : Stmt := (top 17)
theorem sc_first_wrong : FnScope ["program", "wrong", "at"] ["program"] (defScope s_first_wrong) := ⟨rfl, rfl, rfl, by decide +kernel, rfl, by decide +kernel, by decide +kernel⟩
def wrongV (o : Option Nat) : V := match o with
  | none => .non
  | some k => .int (k : Nat)
def sp_first_wrong (K : PySem.W.Frag) : Sp := fun vs H Q _ => ∃ (a : Addr) (p : List Ins), vs = [.ref a] ∧ ProgAt K H a p ∧ p.length ≤ 64 ∧ RetV (wrongV (Sj55.wrong p)) H Q
theorem ok_first_wrong {f : Addr} {fd : FuncData} (F : Fun K "first_wrong" "first_wrong" s_first_wrong f fd) (T : Txt K mg A) (h_is_wrong : Has P w K mg base CX0 2 "is_wrong" ["program", "at"] (sp_is_wrong K)) : FnOk P w K mg base CX0 3 f fd ["program"] (sp_first_wrong K) := by
  refine F.ok sc_first_wrong (fun vs H Q E h => ?_) (fun cdv Ar outer s H vs Q E hr h => ?_)
  · obtain ⟨a, p, rfl, _⟩ := h
    rfl
  · obtain ⟨a, p, rfl, hp, hz, k⟩ := h
    obtain ⟨ts, hT, hlen, _⟩ := hp.get
    have hlen' : ((ts.map V.ref).length : Int) = (p.length : Int) := by rw [List.length_map, hlen]
    refine ⟨_, (pss_cons (ps_setLc (i := 1) (own := [("at", 2)]) (g := gName 2) rfl sc_first_wrong.nd rfl rfl (sw_true rfl rfl rfl (by decide +kernel)) (pi_range1 (by rfl) T.b_range (pa_cons (pe_callB call_len_seq (by rfl) T.b_len PySem.boot_len (pa_cons (pv 0) pa_nil)) pa_nil)) (blkOk_by (N := ["program", "wrong", "at"]) (sc := defScope s_first_wrong) (by decide +kernel)) (fun _ _ _ _ _ => pg_name (i := 2) sc_first_wrong.nd rfl (Or.inl rfl)) (fun _ _ _ _ _ => pts_one (pt_val (pe_fn h_is_wrong (hr.mono (by decide)) (by rfl) pass0 (pa_cons (pv 0) (pa_cons (pv 2) pa_nil))))) (fun _ _ _ _ _ => (pv 2)))
      (pss_one (ps_ret (pe_ifExp (pt_cmpR (op_neNil hr.units) (pv 1) (pe_lst pa_nil) (nomark _)) (pe_ix ix_list (pv 1) pe_int (fun _ _ => rfl)) pe_non)))), ?_⟩
    refine q_asgL (el_lcR1 (wrongAt p) (fun i => .int (i : Nat)) (ea_cons (ev_lenT (ev_var rfl) hT) ea_nil) (by omega) (fun _ => rfl) (fun i H1 x1 hi => ?_) (fun i H1 x1 hi _ => ev_var rfl)) (fun q H1 hq x1 h1 => ?_)
    · rw [hlen'] at hi
      exact et_B (ev_call (ea_cons (ev_var rfl) (ea_cons (ev_var rfl) ea_nil)) (sp_is_wrong_v (hp.ex x1) (by omega)))
    · rw [hlen', Int.toNat_natCast] at h1
      have hw := wrong_eq p
      unfold given at h1
      generalize (List.range p.length).filter (wrongAt p) = ws at h1 hw
      refine s_ret (ev_if (et_test (ev_neNil (ev_var rfl) (sq_of h1))) (fun hb => ?_) (fun hb => ?_)) (fun H2 x2 => k H2 (x1.trans x2))
      · cases ws with
        | nil => simp at hb
        | cons y ws =>
          rw [hw]
          exact ev_op (ev_var rfl) ev_c (rv_ixL (sq_of h1) (atI_nat (j := 0) rfl))
      · cases ws with
        | nil =>
          rw [hw]
          exact ev_c
        | cons y ws => simp at hb
theorem sp_first_wrong_v {H : Hp} {a : Addr} {p : List Ins} (h : ProgAt K H a p) (hi : p.length ≤ 64) : SpV (sp_first_wrong K) [.ref a] H (wrongV (Sj55.wrong p)) := fun H1 x Q q E => ⟨a, p, rfl, h.ex x, hi, q⟩
end
end G
namespace G
open PySem PySem.Spec PyProof.Rows L2 Evl
open Sj55 (Ins)

theorem band_nat (a b : Nat) : Builtin.bitAnd (a : Int) (b : Int) = ((Nat.land a b : Nat) : Int) := by
  rw [PyProof.Rows.bitAnd_pp (by omega) (by omega)]
  rfl
theorem bxor_nat (a b : Nat) : Builtin.bitXor (a : Int) (b : Int) = ((Nat.xor a b : Nat) : Int) := by
  rw [Bits.bitXor_pp (by omega) (by omega)]
  rfl
theorem shr_nat (a k : Nat) : ((a : Int) / 2 ^ ((k : Int) - (k : Int) / 32 * 32).toNat) = ((a / 2 ^ (k % 32) : Nat) : Int) := by
  have e : ((k : Int) - (k : Int) / 32 * 32).toNat = k % 32 := by omega
  rw [e]
  exact_mod_cast rfl
section
variable {P : Program} {w : World} {K : PySem.W.Frag} {mg : Str → Option Value} {base : Heap} {A : Ad}
abbrev s_loaded : Stmt := (top 18)
theorem sc_loaded : FnScope ["frame", "op", "number"] ["frame", "op", "number"] (defScope s_loaded) := ⟨rfl, rfl, rfl, by decide +kernel, rfl, by decide +kernel, by decide +kernel⟩
def sp_loaded (A : Ad) : Sp := fun vs H Q _ => ∃ (a : Addr) (e : Sj55.Entry) (op k : Nat), vs = [.ref a, .int op, .int k] ∧ FrameAt A H a e ∧ RetV (.int (loadN e e.kept op k : Nat)) H Q
theorem sp_Frame_byte_v {H : Hp} {a : Addr} {e : Sj55.Entry} (h : FrameAt A H a e) (n : Nat) : SpV (sp_Frame_byte A) [.ref a, .int n] H (.int (e.kept.getD n 0 : Nat)) := fun H1 x Q q E => ⟨a, e, n, rfl, h.ex x, q⟩
theorem ok_loaded {f : Addr} {fd : FuncData} (F : Fun K "loaded" "loaded" s_loaded f fd) (T : Txt K mg A) (h_Frame_byte : HasM P w K mg base CX0 1 A.cF "byte" ["self", "at"] (sp_Frame_byte A)) : FnOk P w K mg base CX0 2 f fd ["frame", "op", "number"] (sp_loaded A) := by
  refine F.ok sc_loaded (fun vs H Q E h => ?_) (fun cdv Ar outer s H vs Q E hr h => ?_)
  · obtain ⟨a, e, op, k, rfl, _⟩ := h
    rfl
  · obtain ⟨a, e, op, k, rfl, hF, kk⟩ := h
    obtain ⟨dx, d, ha, hd⟩ := id hF
    refine ⟨_, (pss_cons (ps_if (pt_cmpR op_eq (pv 1) pe_int (nomark _)) (pss_one (ps_ret (pe_mt h_Frame_byte (hr.mono (by decide)) pass0 (pv 0) (pa_cons (pv 2) pa_nil)))) pss_nil)
      (pss_cons (ps_if (pt_cmpR op_eq (pv 1) pe_int (nomark _)) (pss_one (ps_ret (pe_op op_add (pe_op op_mul pe_int (pe_mt h_Frame_byte (hr.mono (by decide)) pass0 (pv 0) (pa_cons (pv 2) pa_nil))) (pe_mt h_Frame_byte (hr.mono (by decide)) pass0 (pv 0) (pa_cons (pe_op op_add (pv 2) pe_int) pa_nil))))) pss_nil)
      (pss_cons (ps_if (pt_cmpR op_eq (pv 1) pe_int (nomark _)) (pss_one (ps_ret (pe_fld (pv 0) rfl))) pss_nil)
      (pss_cons (ps_if (pt_cmpR op_eq (pv 1) pe_int (nomark _)) (pss_one (ps_ret (pe_fld (pv 0) rfl))) pss_nil)
      (pss_one (ps_ret (pe_ifExp (pt_cmpR op_eq (pv 1) pe_int (nomark _)) (pe_fld (pv 0) rfl) (pe_fld (pv 0) rfl)))))))), ?_⟩
    have nb : (fF e d).lookup ("byte" : Str) = none := fF_no e d (by decide +kernel) (by decide +kernel) (by decide +kernel) (by decide +kernel) (by decide +kernel)
    refine q_when (et_test (ev_op (ev_var rfl) ev_c (rv_eq rfl))) (fun hb H1 x1 => ?_) (fun hb H1 x1 => ?_)
    · rw [dInt, decide_eq_true_eq] at hb
      have hb' : op = 0 := by omega
      exact s_ret (ev_meth (ev_var rfl) (x1 _ _ ha) nb (ea_cons (ev_var rfl) ea_nil) (sp_Frame_byte_v (hF.ex x1) k)) (RetV.at kk x1 (by simp [loadN, hb']))
    rw [dInt, decide_eq_false_iff_not] at hb
    have n0 : ¬ op = 0 := by omega
    refine q_when (et_test (ev_op (ev_var rfl) ev_c (rv_eq rfl))) (fun hb H2 x2 => ?_) (fun hb H2 x2 => ?_)
    · rw [dInt, decide_eq_true_eq] at hb
      have hb' : op = 1 := by omega
      have xx := x1.trans x2
      refine s_ret (ev_op (ev_op ev_c (ev_meth (ev_var rfl) (xx _ _ ha) nb (ea_cons (ev_var rfl) ea_nil) (sp_Frame_byte_v (hF.ex xx) k)) (rv_I (.inl ⟨by decide, by decide⟩))) (ev_meth (ev_var rfl) (xx _ _ ha) nb (ea_cons (ev_op (ev_var rfl) ev_c rv_I0) ea_nil) (sp_Frame_byte_v (hF.ex xx) (k + 1))) rv_I0) (RetV.at kk xx ?_)
      rw [loadN, if_neg n0, if_pos hb']
      rfl
    rw [dInt, decide_eq_false_iff_not] at hb
    have n1 : ¬ op = 1 := by omega
    refine q_when (et_test (ev_op (ev_var rfl) ev_c (rv_eq rfl))) (fun hb H3 x3 => ?_) (fun hb H3 x3 => ?_)
    · rw [dInt, decide_eq_true_eq] at hb
      have hb' : op = 2 := by omega
      have xx := (x1.trans x2).trans x3
      exact s_ret (ev_fld (ev_var rfl) (xx _ _ ha) T.clF T.nF_length (fF_length e d)) (RetV.at kk xx (by simp [loadN, hb']))
    rw [dInt, decide_eq_false_iff_not] at hb
    have n2 : ¬ op = 2 := by omega
    refine q_when (et_test (ev_op (ev_var rfl) ev_c (rv_eq rfl))) (fun hb H4 x4 => ?_) (fun hb H4 x4 => ?_)
    · rw [dInt, decide_eq_true_eq] at hb
      have hb' : op = 3 := by omega
      have xx := ((x1.trans x2).trans x3).trans x4
      exact s_ret (ev_fld (ev_var rfl) (xx _ _ ha) T.clF T.nF_kind (fF_kind e d)) (RetV.at kk xx (by simp [loadN, hb']))
    rw [dInt, decide_eq_false_iff_not] at hb
    have n3 : ¬ op = 3 := by omega
    have xx := ((x1.trans x2).trans x3).trans x4
    refine s_ret (ev_if (v := .int (loadN e e.kept op k : Nat)) (et_test (ev_op (ev_var rfl) ev_c (rv_eq rfl))) (fun hb => ?_) (fun hb => ?_)) (RetV.at kk xx rfl)
    · rw [dInt, decide_eq_true_eq] at hb
      have hb' : op = 4 := by omega
      exact ev_is (ev_fld (ev_var rfl) (xx _ _ ha) T.clF T.nF_queue (fF_queue e d)) (by simp [loadN, hb'])
    · rw [dInt, decide_eq_false_iff_not] at hb
      have n4 : ¬ op = 4 := by omega
      exact ev_is (ev_fld (ev_var rfl) (xx _ _ ha) T.clF T.nF_time (fF_time e d)) (by simp [loadN, n0, n1, n2, n3, n4])
theorem sp_loaded_v {H : Hp} {a : Addr} {e : Sj55.Entry} (h : FrameAt A H a e) (op k : Nat) : SpV (sp_loaded A) [.ref a, .int op, .int k] H (.int (loadN e e.kept op k : Nat)) := fun H1 x Q q E => ⟨a, e, op, k, rfl, h.ex x, q⟩
abbrev s_passes : Stmt := (top 19)
theorem sc_passes : FnScope ["op", "value", "number"] ["op", "value", "number"] (defScope s_passes) := ⟨rfl, rfl, rfl, by decide +kernel, rfl, by decide +kernel, by decide +kernel⟩
def sp_passes : Sp := fun vs H Q _ => ∃ (op a k : Nat), vs = [.int op, .int a, .int k] ∧ RetV (.bl (passN op a k)) H Q
theorem ok_passes {f : Addr} {fd : FuncData} (F : Fun K "passes" "passes" s_passes f fd) : FnOk P w K mg base CX0 1 f fd ["op", "value", "number"] sp_passes := by
  refine F.ok sc_passes (fun vs H Q E h => ?_) (fun cdv Ar outer s H vs Q E hr h => ?_)
  · obtain ⟨op, a, k, rfl, _⟩ := h
    rfl
  · obtain ⟨op, a, k, rfl, kk⟩ := h
    refine ⟨_, (pss_cons (ps_if (pt_cmpR op_eq (pv 0) pe_int (nomark _)) (pss_one (ps_ret (pe_cmpR op_eq (pv 1) (pv 2) (nomark _)))) pss_nil)
      (pss_cons (ps_if (pt_cmpR op_eq (pv 0) pe_int (nomark _)) (pss_one (ps_ret (pe_cmpR op_gt (pv 1) (pv 2) (nomark _)))) pss_nil)
      (pss_one (ps_ret (pe_cmpR op_ne (pe_op op_and (pv 1) (pv 2)) pe_int (nomark _)))))), ?_⟩
    refine q_when (et_test (ev_op (ev_var rfl) ev_c (rv_eq rfl))) (fun hb H1 x1 => ?_) (fun hb H1 x1 => ?_)
    · rw [dInt, decide_eq_true_eq] at hb
      have hb' : op = 8 := by omega
      refine s_ret (ev_op (ev_var rfl) (ev_var rfl) (rv_eq rfl)) (RetV.at kk x1 ?_)
      rw [dInt, passN, if_pos hb']
      congr 1
      by_cases h : a = k
      · simp [h]
      · have h' : ¬ (a : Int) = (k : Int) := by omega
        simp [h, h']
    rw [dInt, decide_eq_false_iff_not] at hb
    have n8 : ¬ op = 8 := by omega
    refine q_when (et_test (ev_op (ev_var rfl) ev_c (rv_eq rfl))) (fun hb H2 x2 => ?_) (fun hb H2 x2 => ?_)
    · rw [dInt, decide_eq_true_eq] at hb
      have hb' : op = 9 := by omega
      refine s_ret (ev_op (ev_var rfl) (ev_var rfl) rv_I0) (RetV.at kk (x1.trans x2) ?_)
      rw [passN, if_neg n8, if_pos hb']
      congr 1
      apply decide_eq_decide.mpr
      omega
    rw [dInt, decide_eq_false_iff_not] at hb
    have n9 : ¬ op = 9 := by omega
    refine s_ret (ev_op (ev_op (ev_var rfl) (ev_var rfl) rv_I0) ev_c (rv_ne rfl)) (RetV.at kk (x1.trans x2) ?_)
    rw [dInt, passN, if_neg n8, if_neg n9, band_nat]
    congr 1
    generalize Nat.land a k = z
    by_cases h : z = 0
    · subst h
      rfl
    · have h' : ¬ (z : Int) = 0 := by omega
      rw [decide_eq_false h']
      simp [h]
theorem sp_passes_v {H : Hp} (op a k : Nat) : SpV sp_passes [.int op, .int a, .int k] H (.bl (passN op a k)) := fun H1 x Q q E => ⟨op, a, k, rfl, q⟩
abbrev s_run_on : Stmt := (top 20)
theorem sc_run_on : FnScope ["program", "frame", "value", "at", "op", "number", "passed", "passed_else"] ["program", "frame"] (defScope s_run_on) := ⟨rfl, rfl, rfl, by decide +kernel, rfl, by decide +kernel, by decide +kernel⟩
def sp_run_on (K : PySem.W.Frag) (A : Ad) : Sp := fun vs H Q _ => ∃ (pa a : Addr) (p : List Ins) (e : Sj55.Entry), vs = [.ref pa, .ref a] ∧ ProgAt K H pa p ∧ GoodP p ∧ FrameAt A H a e ∧ RetV (.int (tellsN p e : Nat)) H Q
theorem ok_run_on {f : Addr} {fd : FuncData} (F : Fun K "run_on" "run_on" s_run_on f fd) (T : Txt K mg A) (h_is_test : Has P w K mg base CX0 1 "is_test" ["op"] sp_is_test) (h_passes : Has P w K mg base CX0 1 "passes" ["op", "value", "number"] sp_passes)
    (h_loaded : Has P w K mg base CX0 2 "loaded" ["frame", "op", "number"] (sp_loaded A)) : FnOk P w K mg base CX0 3 f fd ["program", "frame"] (sp_run_on K A) := by
  refine F.ok sc_run_on (fun vs H Q E h => ?_) (fun cdv Ar outer s H vs Q E hr h => ?_)
  · obtain ⟨pa, a, p, e, rfl, _⟩ := h
    rfl
  · obtain ⟨pa, a, p, e, rfl, hp, ⟨hw, hpos⟩, hF, kk⟩ := h
    obtain ⟨ts, hT, hlen, hget⟩ := hp.get
    refine ⟨_, (pss_cons (ps_set (i := 2) sc_run_on.nd rfl (Or.inl rfl) pe_int)
      (pss_cons (ps_set (i := 3) sc_run_on.nd rfl (Or.inl rfl) pe_int)
      (pss_cons (ps_while PassesOwn.never (pt_cmpR op_ne (pe_ix ix_tup (pe_ix ix_tup (pv 0) (pv 3) (fun _ _ => rfl)) pe_int (fun _ _ => rfl)) (pe_gi T.c_TELLS rfl) (nomark _)) (pss_cons (ps_asg (pe_ix ix_tup (pv 0) (pv 3) (fun _ _ => rfl)) (pg_tup rfl (pgs_cons (pg_name (i := 4) sc_run_on.nd rfl (Or.inl rfl)) (pgs_cons (pg_name (i := 5) sc_run_on.nd rfl (Or.inl rfl)) (pgs_cons (pg_name (i := 6) sc_run_on.nd rfl (Or.inl rfl)) (pgs_cons (pg_name (i := 7) sc_run_on.nd rfl (Or.inl rfl)) pgs_nil))))))
      (pss_cons (ps_set (i := 3) sc_run_on.nd rfl (Or.inl rfl) (pe_op op_add (pv 3) pe_int))
      (pss_one (ps_if (pt_val (pe_fn h_is_test (hr.mono (by decide)) (by rfl) pass0 (pa_cons (pv 4) pa_nil))) (pss_one (ps_set (i := 3) sc_run_on.nd rfl (Or.inl rfl) (pe_op op_add (pv 3) (pe_ifExp (pt_val (pe_fn h_passes (hr.mono (by decide)) (by rfl) pass0 (pa_cons (pv 4) (pa_cons (pv 2) (pa_cons (pv 5) pa_nil))))) (pv 6) (pv 7))))) (pss_one (ps_if (pt_cmpR op_eq (pv 4) pe_int (nomark _)) (pss_one (ps_set (i := 2) sc_run_on.nd rfl (Or.inl rfl) (pe_op op_and (pv 2) (pv 5)))) (pss_one (ps_if (pt_cmpR op_eq (pv 4) pe_int (nomark _)) (pss_one (ps_set (i := 2) sc_run_on.nd rfl (Or.inl rfl) (pe_op op_shr (pv 2) (pe_op op_sub (pv 5) (pe_op op_mul (pe_op op_fdiv (pv 5) (pe_gi T.c_SHIFTS rfl)) (pe_gi T.c_SHIFTS rfl)))))) (pss_one (ps_set (i := 2) sc_run_on.nd rfl (Or.inl rfl) (pe_fn h_loaded (hr.mono (by decide)) (by rfl) pass0 (pa_cons (pv 1) (pa_cons (pv 4) (pa_cons (pv 5) pa_nil)))))))))))))))
      (pss_one (ps_ret (pe_ix ix_tup (pe_ix ix_tup (pv 0) (pv 3) (fun _ _ => rfl)) pe_int (fun _ _ => rfl))))))), ?_⟩
    refine q_asg ev_c fun H1 x1 => q_asg ev_c fun H2 x2 => ?_
    have x12 := x1.trans x2
    refine q_while (fun m σ H' => ∃ (i v : Nat) (v4 v5 v6 v7 : Option V) (fuel : Nat), m = p.length - i ∧ i < p.length ∧ σ = [some (.ref pa), some (.ref a), some (.int v), some (.int i), v4, v5, v6, v7] ∧ Ex H H' ∧ Sj55.run e e.kept p fuel i v = tellsN p e ∧ p.length + 1 ≤ fuel + i)
      (p.length - 0) ⟨0, 0, none, none, none, none, p.length + 1, rfl, hpos, rfl, x12, rfl, by omega⟩ ?_
    rintro m σ H3 ⟨i, v, v4, v5, v6, v7, fuel, rfl, hi, rfl, x3, hrun, hfuel⟩
    obtain ⟨t, hti, ht⟩ := hget i p[i] (List.getElem?_eq_getElem hi)
    have hwx := wrong_none hw (List.getElem?_eq_getElem hi)
    have hgx : p[i]? = some p[i] := List.getElem?_eq_getElem hi
    generalize p[i] = x at *
    have ht3 := ex_t x3 ht
    have hT3 := ex_t x3 hT
    have fuel2 : ∃ f2, fuel = f2 + 1 := ⟨fuel - 1, by omega⟩
    obtain ⟨f2, rfl⟩ := fuel2
    refine ⟨_, et_test (ev_op (ev_op (ev_op (ev_var rfl) (ev_var rfl) (rv_ixT hT3 (atI_nat hti))) ev_c (rv_ixT ht3 (atI_nat (j := 0) rfl))) ev_c (rv_ne rfl)), fun hb H4 x4 => ?_, fun hb H4 x4 => ?_⟩
    · rw [dInt, Bool.not_eq_true', decide_eq_false_iff_not] at hb
      have n11 : x.op ≠ 11 := by omega
      have h10 : x.op ≤ 10 := by have := (wrongX_false hwx).1; omega
      rw [run_goes hgx h10] at hrun
      have hgt := nextI_gt x i v
      have hlt := nextI_lt v hi hwx n11
      refine ⟨fun σ2 H2 => ∃ m', m' < p.length - i ∧ ∃ (i v : Nat) (v4 v5 v6 v7 : Option V) (fuel : Nat), m' = p.length - i ∧ i < p.length ∧ σ2 = [some (.ref pa), some (.ref a), some (.int v), some (.int i), v4, v5, v6, v7] ∧ Ex H H2 ∧ Sj55.run e e.kept p fuel i v = tellsN p e ∧ p.length + 1 ≤ fuel + i, fun _ _ h => h, ?_⟩
      have fin : ∀ {H5 : Hp} {w4 w5 w6 w7 : Option V}, Ex H3 H5 → ∃ m', m' < p.length - i ∧ ∃ (i' v' : Nat) (v4 v5 v6 v7 : Option V) (fuel : Nat), m' = p.length - i' ∧ i' < p.length ∧
          ([some (.ref pa), some (.ref a), some (.int (nextA e e.kept x v : Nat)), some (.int (nextI x i v : Nat)), w4, w5, w6, w7] : L2.St) = [some (.ref pa), some (.ref a), some (.int v'), some (.int i'), v4, v5, v6, v7] ∧ Ex H H5 ∧ Sj55.run e e.kept p fuel i' v' = tellsN p e ∧ p.length + 1 ≤ fuel + i' :=
        fun {H5 w4 w5 w6 w7} x5 => ⟨p.length - nextI x i v, by omega, nextI x i v, nextA e e.kept x v, w4, w5, w6, w7, f2, rfl, hlt, rfl, x3.trans x5, hrun, by omega⟩
      refine q_unp4 (ev_op (ev_var rfl) (ev_var rfl) (rv_ixT (ex_t x4 hT3) (atI_nat hti))) (ex_t x4 ht3) (fun H5 x5 => ?_)
      refine q_asg (ev_op (ev_var rfl) ev_c rv_I0) fun H6 x6 => ?_
      have x36 := (x4.trans x5).trans x6
      refine s_if (et_B (ev_call (ea_cons (ev_var rfl) ea_nil) (sp_is_test_v _))) (fun hb2 H7 x7 => ?_) (fun hb2 H7 x7 => ?_)
      · rw [isTest_nat, decide_eq_true_eq] at hb2
        have ei : ((i : Int) + 1 + (if passN x.op v x.k = true then (x.yes : Int) else (x.no : Int))) = ((nextI x i v : Nat) : Int) := by
          rw [nextI, if_pos hb2]
          split <;> omega
        have ea : nextA e e.kept x v = v := by rw [nextA, if_pos hb2]
        refine s_asg (ev_is (ev_op (ev_var rfl) (ev_if (v := .int (if passN x.op v x.k = true then (x.yes : Int) else (x.no : Int))) (et_B (ev_call (ea_cons (ev_var rfl) (ea_cons (ev_var rfl) (ea_cons (ev_var rfl) ea_nil))) (sp_passes_v x.op v x.k))) (fun hc => ?_) (fun hc => ?_)) rv_I0) (congrArg V.int ei)) (fun H8 x8 => ?_)
        · rw [if_pos hc]
          exact ev_var rfl
        · rw [if_neg (by rw [hc]; decide)]
          exact ev_var rfl
        · have z := fin (w4 := some (.int x.op)) (w5 := some (.int x.k)) (w6 := some (.int x.yes)) (w7 := some (.int x.no)) ((x36.trans x7).trans x8)
          rw [ea] at z
          exact z
      · rw [isTest_nat, decide_eq_false_iff_not] at hb2
        have ei : ((i : Int) + 1) = ((nextI x i v : Nat) : Int) := by
          rw [nextI, if_neg hb2]
          omega
        have fin2 : ∀ {H5 : Hp} {u : V}, Ex H3 H5 → u = .int (nextA e e.kept x v : Nat) → ∃ m', m' < p.length - i ∧ ∃ (i' v' : Nat) (v4 v5 v6 v7 : Option V) (fuel : Nat), m' = p.length - i' ∧ i' < p.length ∧
            ([some (.ref pa), some (.ref a), some u, some (.int ((i : Int) + 1)), some (.int x.op), some (.int x.k), some (.int x.yes), some (.int x.no)] : L2.St) = [some (.ref pa), some (.ref a), some (.int v'), some (.int i'), v4, v5, v6, v7] ∧ Ex H H5 ∧ Sj55.run e e.kept p fuel i' v' = tellsN p e ∧ p.length + 1 ≤ fuel + i' := fun {H5 u} x5 hu => by
          rw [ei, hu]
          exact fin x5
        refine s_if (et_test (ev_op (ev_var rfl) ev_c (rv_eq rfl))) (fun hb3 H8 x8 => ?_) (fun hb3 H8 x8 => ?_)
        · rw [dInt, decide_eq_true_eq] at hb3
          have h6 : x.op = 6 := by omega
          refine s_asg (ev_op (ev_var rfl) (ev_var rfl) rv_I0) (fun H9 x9 => fin2 (((x36.trans x7).trans x8).trans x9) ?_)
          rw [band_nat, nextA, if_neg hb2, if_pos h6]
        rw [dInt, decide_eq_false_iff_not] at hb3
        have n6 : ¬ x.op = 6 := by omega
        refine s_if (et_test (ev_op (ev_var rfl) ev_c (rv_eq rfl))) (fun hb4 H9 x9 => ?_) (fun hb4 H9 x9 => ?_)
        · rw [dInt, decide_eq_true_eq] at hb4
          have h7 : x.op = 7 := by omega
          refine s_asg (ev_op (ev_var rfl) (ev_op (ev_var rfl) (ev_op (ev_op (ev_var rfl) ev_c (rv_I ⟨by decide, by decide⟩)) ev_c (rv_I (.inr ⟨by decide, by decide⟩))) rv_I0) (rv_I (by show (0 : Int) ≤ _; omega))) (fun H10 x10 => fin2 ((((x36.trans x7).trans x8).trans x9).trans x10) ?_)
          rw [nextA, if_neg hb2, if_neg n6, if_pos h7]
          exact congrArg V.int (shr_nat v x.k)
        rw [dInt, decide_eq_false_iff_not] at hb4
        have n7 : ¬ x.op = 7 := by omega
        refine s_asg (ev_call (ea_cons (ev_var rfl) (ea_cons (ev_var rfl) (ea_cons (ev_var rfl) ea_nil))) (sp_loaded_v (hF.ex (((x3.trans x36).trans x7).trans (x8.trans x9))) x.op x.k)) (fun H10 x10 => fin2 ((((x36.trans x7).trans x8).trans x9).trans x10) ?_)
        rw [nextA, if_neg hb2, if_neg n6, if_neg n7]
    · rw [dInt, Bool.not_eq_false', decide_eq_true_eq] at hb
      have h11 : x.op = 11 := by omega
      rw [run_tells hgx h11] at hrun
      refine s_ret (ev_op (ev_op (ev_var rfl) (ev_var rfl) (rv_ixT (ex_t x4 hT3) (atI_nat hti))) ev_c (rv_ixT (ex_t x4 ht3) (atI_nat (j := 1) rfl))) (RetV.at kk (x3.trans x4) ?_)
      rw [hrun]
theorem sp_run_on_v {H : Hp} {pa a : Addr} {p : List Ins} {e : Sj55.Entry} (h : ProgAt K H pa p) (hg : GoodP p) (hF : FrameAt A H a e) : SpV (sp_run_on K A) [.ref pa, .ref a] H (.int (tellsN p e : Nat)) := fun H1 x Q q E => ⟨pa, a, p, e, rfl, h.ex x, hg, hF.ex x, q⟩
end
end G
namespace G
open PySem PySem.Spec PyProof.Rows L2 Evl
open Sj55 (Ins)

/-! ### the record in the heap -/
def kF (s : Kst) (pa la : Addr) : List (Str × V) := [("size", .int s.size), ("snap", .int s.snap), ("program", .ref pa), ("entries", .ref la), ("kept_frames", .int s.kf), ("left_frames", .int s.lf), ("gone_entries", .int s.ge)]
def KeptAt (K : PySem.W.Frag) (A : Ad) (H : Hp) (a : Addr) (s : Kst) : Prop := ∃ dx pa la, H a = some (.ins A.cK dx (kF s pa la)) ∧ ProgAt K H pa s.prog ∧ EntriesAt A H la s.entries
theorem KeptAt.ex {K : PySem.W.Frag} {A : Ad} {H H' : Hp} {a : Addr} {s : Kst} (x : Ex H H') (h : KeptAt K A H a s) : KeptAt K A H' a s := by
  obtain ⟨dx, pa, la, h1, h2, h3⟩ := h
  exact ⟨dx, pa, la, x _ _ h1, h2.ex x, h3.ex x⟩
theorem kF_size (s : Kst) (pa la : Addr) : (kF s pa la).lookup ("size" : Str) = some (.int s.size) := lk_here
theorem kF_snap (s : Kst) (pa la : Addr) : (kF s pa la).lookup ("snap" : Str) = some (.int s.snap) := (lk_past (by decide +kernel)).trans lk_here
theorem kF_program (s : Kst) (pa la : Addr) : (kF s pa la).lookup ("program" : Str) = some (.ref pa) := (lk_past (by decide +kernel)).trans ((lk_past (by decide +kernel)).trans lk_here)
theorem kF_entries (s : Kst) (pa la : Addr) : (kF s pa la).lookup ("entries" : Str) = some (.ref la) := (lk_past (by decide +kernel)).trans ((lk_past (by decide +kernel)).trans ((lk_past (by decide +kernel)).trans lk_here))
theorem kF_kept_frames (s : Kst) (pa la : Addr) : (kF s pa la).lookup ("kept_frames" : Str) = some (.int s.kf) := (lk_past (by decide +kernel)).trans ((lk_past (by decide +kernel)).trans ((lk_past (by decide +kernel)).trans ((lk_past (by decide +kernel)).trans lk_here)))
theorem kF_left_frames (s : Kst) (pa la : Addr) : (kF s pa la).lookup ("left_frames" : Str) = some (.int s.lf) := (lk_past (by decide +kernel)).trans ((lk_past (by decide +kernel)).trans ((lk_past (by decide +kernel)).trans ((lk_past (by decide +kernel)).trans ((lk_past (by decide +kernel)).trans lk_here))))
theorem kF_gone_entries (s : Kst) (pa la : Addr) : (kF s pa la).lookup ("gone_entries" : Str) = some (.int s.ge) := (lk_past (by decide +kernel)).trans ((lk_past (by decide +kernel)).trans ((lk_past (by decide +kernel)).trans ((lk_past (by decide +kernel)).trans ((lk_past (by decide +kernel)).trans ((lk_past (by decide +kernel)).trans lk_here)))))
theorem kF_no (s : Kst) (pa la : Addr) {m : Str} (h1 : (m == ("size" : Str)) = false) (h2 : (m == ("snap" : Str)) = false) (h3 : (m == ("program" : Str)) = false) (h4 : (m == ("entries" : Str)) = false) (h5 : (m == ("kept_frames" : Str)) = false) (h6 : (m == ("left_frames" : Str)) = false) (h7 : (m == ("gone_entries" : Str)) = false) : (kF s pa la).lookup m = none :=
  (lk_past h1).trans ((lk_past h2).trans ((lk_past h3).trans ((lk_past h4).trans ((lk_past h5).trans ((lk_past h6).trans ((lk_past h7).trans rfl))))))
theorem kF_put_program (s : Kst) (pa la q : Addr) (p : List Ins) : putF "program" (.ref q) (kF s pa la) = kF { s with prog := p } q la := (put_past (by decide +kernel)).trans (congrArg _ ((put_past (by decide +kernel)).trans (congrArg _ put_here)))
theorem kF_put_entries (s : Kst) (pa la q : Addr) (es : List Sj55.Entry) : putF "entries" (.ref q) (kF s pa la) = kF { s with entries := es } pa q := (put_past (by decide +kernel)).trans (congrArg _ ((put_past (by decide +kernel)).trans (congrArg _ ((put_past (by decide +kernel)).trans (congrArg _ put_here)))))
theorem kF_put_kept_frames (s : Kst) (pa la : Addr) (n : Nat) : putF "kept_frames" (.int n) (kF s pa la) = kF { s with kf := n } pa la := (put_past (by decide +kernel)).trans (congrArg _ ((put_past (by decide +kernel)).trans (congrArg _ ((put_past (by decide +kernel)).trans (congrArg _ ((put_past (by decide +kernel)).trans (congrArg _ put_here)))))))
theorem kF_put_left_frames (s : Kst) (pa la : Addr) (n : Nat) : putF "left_frames" (.int n) (kF s pa la) = kF { s with lf := n } pa la := (put_past (by decide +kernel)).trans (congrArg _ ((put_past (by decide +kernel)).trans (congrArg _ ((put_past (by decide +kernel)).trans (congrArg _ ((put_past (by decide +kernel)).trans (congrArg _ ((put_past (by decide +kernel)).trans (congrArg _ put_here)))))))))
theorem kF_put_gone_entries (s : Kst) (pa la : Addr) (n : Nat) : putF "gone_entries" (.int n) (kF s pa la) = kF { s with ge := n } pa la := (put_past (by decide +kernel)).trans (congrArg _ ((put_past (by decide +kernel)).trans (congrArg _ ((put_past (by decide +kernel)).trans (congrArg _ ((put_past (by decide +kernel)).trans (congrArg _ ((put_past (by decide +kernel)).trans (congrArg _ ((put_past (by decide +kernel)).trans (congrArg _ put_here)))))))))))
theorem kF_few (s : Kst) (pa la : Addr) : (kF s pa la).length < 1000 := by show 7 < 1000; decide
/-- all but one object as it was -/
def ExB (a : Addr) (H H' : Hp) : Prop := ∀ b o, H b = some o → b ≠ a → H' b = some o
theorem ExB.of {a : Addr} {H H' : Hp} (x : Ex H H') : ExB a H H' := fun b o h _ => x b o h
theorem ExB.upd {a : Addr} {H H' : Hp} {o : HO} (x : ExB a H H') : ExB a H (L2.upd H' a o) := fun b u h n => by
  rw [upd_ne n]
  exact x b u h n
theorem ExB.trans {a : Addr} {H H1 H2 : Hp} (x : ExB a H H1) (y : ExB a H1 H2) : ExB a H H2 := fun b o h n => y b o (x b o h n) n
theorem ExB.ex {a : Addr} {H H1 H2 : Hp} (x : ExB a H H1) (y : Ex H1 H2) : ExB a H H2 := fun b o h n => y b o (x b o h n)
theorem ExB.sqT {K : PySem.W.Frag} {a t C dx : Addr} {fs : List (Str × V)} {H H' : Hp} {xs : List V} (x : ExB a H H') (ha : H a = some (.ins C dx fs)) (h : SqT K H t xs) : SqT K H' t xs := by
  rcases h with (h | ⟨o, h⟩) | h
  · exact .inl (.inl (x _ _ h (ne_of h ha (by intro z; cases z))))
  · exact .inl (.inr ⟨o, x _ _ h (ne_of h ha (by intro z; cases z))⟩)
  · exact .inr h
theorem ExB.sqL {K : PySem.W.Frag} {a t C dx : Addr} {fs : List (Str × V)} {H H' : Hp} {xs : List V} (x : ExB a H H') (ha : H a = some (.ins C dx fs)) (h : SqL K H t xs) : SqL K H' t xs := by
  rcases h with (h | ⟨o, h⟩) | h
  · exact .inl (.inl (x _ _ h (ne_of h ha (by intro z; cases z))))
  · exact .inl (.inr ⟨o, x _ _ h (ne_of h ha (by intro z; cases z))⟩)
  · exact .inr h
theorem ExB.prog {K : PySem.W.Frag} {a t C dx : Addr} {fs : List (Str × V)} {H H' : Hp} {p : List Ins} (x : ExB a H H') (ha : H a = some (.ins C dx fs)) (h : ProgAt K H t p) : ProgAt K H' t p := by
  obtain ⟨ts, h1, h2⟩ := h
  exact ⟨ts, x.sqT ha h1, Paired.imp2 (fun _ _ q => x.sqT ha q) h2⟩
theorem ExB.frame {A : Ad} {a t C dx : Addr} {fs : List (Str × V)} {H H' : Hp} {e : Sj55.Entry} (x : ExB a H H') (ha : H a = some (.ins C dx fs)) (hC : C ≠ A.cF) (h : FrameAt A H t e) : FrameAt A H' t e := by
  obtain ⟨dy, d, h1, h2⟩ := h
  exact ⟨dy, d, x _ _ h1 (ne_of h1 ha (by intro z; cases z; exact hC rfl)), x _ _ h2 (ne_of h2 ha (by intro z; cases z))⟩
theorem ExB.entries {A : Ad} {a t C dx : Addr} {fs : List (Str × V)} {H H' : Hp} {es : List Sj55.Entry} (x : ExB a H H') (ha : H a = some (.ins C dx fs)) (hC : C ≠ A.cF) (h : EntriesAt A H t es) : EntriesAt A H' t es := by
  obtain ⟨as, h1, h2⟩ := h
  exact ⟨as, x _ _ h1 (ne_of h1 ha (by intro z; cases z)), Paired.imp2 (fun _ _ q => x.frame ha hC q) h2⟩

/-! ### lists of what a comprehension gives -/
theorem given_filter {α : Type} {g : α → Bool} {h : α → V} : ∀ (l : List α) (f : Nat → Bool) (v : Nat → V), (∀ i x, l[i]? = some x → f i = g x ∧ v i = h x) → given l.length f v = (l.filter g).map h
  | [], _, _, _ => rfl
  | x :: l, f, v, hh => by
    have h0 := hh 0 x rfl
    have ih := given_filter l (fun i => f (i + 1)) (fun i => v (i + 1)) fun i y hy => hh (i + 1) y (by simpa using hy)
    unfold given at ih ⊢
    rw [List.length_cons, List.range_succ_eq_map, List.filter_cons, List.filter_cons, h0.1]
    have e : ((List.range l.length).map Nat.succ).filter f = ((List.range l.length).filter fun i => f (i + 1)).map Nat.succ := by
      rw [List.filter_map]
      rfl
    cases hg : g x with
    | true =>
      rw [if_pos rfl, if_pos rfl, List.map_cons, List.map_cons, h0.2, e, List.map_map]
      exact congrArg _ ih
    | false =>
      rw [if_neg Bool.false_ne_true, if_neg Bool.false_ne_true, e, List.map_map]
      exact ih
theorem Paired.zip_of {α β : Type} {F : α → β → Prop} : ∀ {l : List α} {m : List β}, Paired F l m → ∀ p ∈ l.zip m, F p.1 p.2
  | _, _, .nil, p, h => by simp at h
  | _, _, .cons r t, p, h => by
    rw [List.zip_cons_cons, List.mem_cons] at h
    rcases h with rfl | h
    · exact r
    · exact Paired.zip_of t p h
theorem Paired.of_zip {α β : Type} {F : α → β → Prop} : ∀ (l : List (α × β)), (∀ p ∈ l, F p.1 p.2) → Paired F (l.map Prod.fst) (l.map Prod.snd)
  | [], _ => .nil
  | p :: l, h => .cons (h p (by simp)) (Paired.of_zip l fun q hq => h q (by simp [hq]))
theorem zip_snd {α β : Type} {F : α → β → Prop} {g : β → Bool} : ∀ {l : List α} {m : List β}, Paired F l m → ((l.zip m).filter fun p => g p.2).map Prod.snd = m.filter g
  | _, _, .nil => rfl
  | _, _, .cons (a := a) (b := b) r t => by
    rw [List.zip_cons_cons, List.filter_cons, List.filter_cons]
    cases hg : g b with
    | true =>
      rw [if_pos rfl, if_pos rfl, List.map_cons, zip_snd t]
    | false =>
      rw [if_neg Bool.false_ne_true, if_neg Bool.false_ne_true, zip_snd t]
theorem zip_at {α β : Type} {F : α → β → Prop} : ∀ {l : List α} {m : List β} {i : Nat} {a : α} {b : β}, Paired F l m → (l.zip m)[i]? = some (a, b) → l[i]? = some a ∧ m[i]? = some b
  | _, _, _, _, _, .nil, h => by simp at h
  | _, _, 0, _, _, .cons r t, h => by
    simp at h
    simp [h.1, h.2]
  | _, _, i + 1, _, _, .cons r t, h => by
    simp only [List.zip_cons_cons, List.getElem?_cons_succ] at h ⊢
    exact zip_at t h
theorem Paired.drop2 {α β : Type} {F : α → β → Prop} : ∀ {l : List α} {m : List β} (n : Nat), Paired F l m → Paired F (l.drop n) (m.drop n)
  | _, _, 0, r => r
  | _, _, _ + 1, .nil => .nil
  | _, _, n + 1, .cons _ t => Paired.drop2 n t
theorem Paired.len_zip {α β : Type} {F : α → β → Prop} {l : List α} {m : List β} (h : Paired F l m) : (l.zip m).length = l.length := by
  have := Paired.length h
  rw [List.length_zip]
  omega
section
variable {K : PySem.W.Frag} {σ : L2.St} {H H' : Hp} {ta tb te : TE} {D : Ends} {tz : TS}
theorem s_ext {l : Addr} {xs ys : List V} (hl : H l = some (.lst xs)) (ha : Ev ta σ H (.ref l)) (h : EvL te σ H ys) (hz : xs.length + ys.length ≤ sizeLine) (k : ∀ H1, Ex H H1 → D.nx σ (upd H1 l (.lst (xs ++ ys)))) :
    tDrop (tBM K "list" rExtend ta (tCons te tNil)) D σ H := ha H (Ex.refl H) _ fun H1 e1 =>
  ⟨Or.inl ⟨rfl, xs, sq_of (e1 l _ hl)⟩, h H1 e1 _ fun p H2 hp e2 h2 => ⟨l, p, xs, ys, rfl, rfl, e2 l _ (e1 l _ hl), h2, hz, k H2 (e1.trans e2)⟩⟩
theorem ev_sumL {p : Addr} {ns : List Int} (ha : Ev ta σ H (.ref p)) (h : SqL K H p (ns.map V.int)) : Ev (tCB (rSum K) (tCons ta tNil)) σ H (.int ns.sum) := fun H1 e Q q =>
  ha H1 e _ fun H2 e2 => ⟨p, ns, rfl, ex_l (e.trans e2) h, q H2 e2⟩
end
section
variable {P : Program} {w : World} {K : PySem.W.Frag} {mg : Str → Option Value} {base : Heap} {A : Ad}
abbrev s_Kept___init__ : Stmt := (inClass (top 24) 0)
theorem sc_Kept___init__ : FnScope ["self", "size", "snap"] ["self", "size", "snap"] (defScope s_Kept___init__) := ⟨rfl, rfl, rfl, by decide +kernel, rfl, by decide +kernel, by decide +kernel⟩
def sp_Kept_init (K : PySem.W.Frag) (A : Ad) : Sp := fun vs H Q _ => ∃ (p dx : Addr) (size snap : Nat), vs = [.ref p, .int size, .int snap] ∧ H p = some (.ins A.cK dx []) ∧
  ∀ H', KeptAt K A H' p (freshK size snap) → ExB p H H' → Q .non H'
theorem kp1 (a : V) : putF "size" a ([] : List (Str × V)) = ([("size", a)] : List (Str × V)) := rfl
theorem kp2 (a b : V) : putF "snap" b ([("size", a)] : List (Str × V)) = ([("size", a), ("snap", b)] : List (Str × V)) := (put_past (by decide +kernel)).trans rfl
theorem kp3 (a b c : V) : putF "program" c ([("size", a), ("snap", b)] : List (Str × V)) = ([("size", a), ("snap", b), ("program", c)] : List (Str × V)) := (put_past (by decide +kernel)).trans (congrArg _ ((put_past (by decide +kernel)).trans rfl))
theorem kp4 (a b c d : V) : putF "entries" d ([("size", a), ("snap", b), ("program", c)] : List (Str × V)) = ([("size", a), ("snap", b), ("program", c), ("entries", d)] : List (Str × V)) := (put_past (by decide +kernel)).trans (congrArg _ ((put_past (by decide +kernel)).trans (congrArg _ ((put_past (by decide +kernel)).trans rfl))))
theorem kp5 (a b c d e : V) : putF "kept_frames" e ([("size", a), ("snap", b), ("program", c), ("entries", d)] : List (Str × V)) = ([("size", a), ("snap", b), ("program", c), ("entries", d), ("kept_frames", e)] : List (Str × V)) := (put_past (by decide +kernel)).trans (congrArg _ ((put_past (by decide +kernel)).trans (congrArg _ ((put_past (by decide +kernel)).trans (congrArg _ ((put_past (by decide +kernel)).trans rfl))))))
theorem kp6 (a b c d e f : V) : putF "left_frames" f ([("size", a), ("snap", b), ("program", c), ("entries", d), ("kept_frames", e)] : List (Str × V)) = ([("size", a), ("snap", b), ("program", c), ("entries", d), ("kept_frames", e), ("left_frames", f)] : List (Str × V)) := (put_past (by decide +kernel)).trans (congrArg _ ((put_past (by decide +kernel)).trans (congrArg _ ((put_past (by decide +kernel)).trans (congrArg _ ((put_past (by decide +kernel)).trans (congrArg _ ((put_past (by decide +kernel)).trans rfl))))))))
theorem kp7 (a b c d e f g : V) : putF "gone_entries" g ([("size", a), ("snap", b), ("program", c), ("entries", d), ("kept_frames", e), ("left_frames", f)] : List (Str × V)) = ([("size", a), ("snap", b), ("program", c), ("entries", d), ("kept_frames", e), ("left_frames", f), ("gone_entries", g)] : List (Str × V)) := (put_past (by decide +kernel)).trans (congrArg _ ((put_past (by decide +kernel)).trans (congrArg _ ((put_past (by decide +kernel)).trans (congrArg _ ((put_past (by decide +kernel)).trans (congrArg _ ((put_past (by decide +kernel)).trans (congrArg _ ((put_past (by decide +kernel)).trans rfl))))))))))
theorem ok_Kept_init {f : Addr} {fd : FuncData} (F : Fun K "__init__" "Kept.__init__" s_Kept___init__ f fd) (T : Txt K mg A) : FnOk P w K mg base CX0 1 f fd ["self", "size", "snap"] (sp_Kept_init K A) := by
  refine F.ok sc_Kept___init__ (fun vs H Q E h => ?_) (fun cdv Ar outer s H vs Q E hr h => ?_)
  · obtain ⟨p, dx, size, snap, rfl, _⟩ := h
    rfl
  · obtain ⟨p, dx, size, snap, rfl, hp, k⟩ := h
    refine ⟨_, (pss_cons (ps_fld (pv 0) (pv 1) rfl)
      (pss_cons (ps_fld (pv 0) (pv 2) rfl)
      (pss_cons (ps_fld (pv 0) (pe_gref T.g_FIRST_PROGRAM rfl) rfl)
      (pss_cons (ps_fld (pv 0) (pe_lst pa_nil) rfl)
      (pss_cons (ps_fld (pv 0) pe_int rfl)
      (pss_cons (ps_fld (pv 0) pe_int rfl)
      (pss_one (ps_fld (pv 0) pe_int rfl)))))))), ?_⟩
    refine ⟨_, rfl, _, rfl, p, A.cK, dx, _, rfl, hp, T.clK, T.nK_size, (by show 0 < 1000; decide), ?_⟩
    rw [kp1]
    refine ⟨_, rfl, _, rfl, p, A.cK, dx, _, rfl, upd_same, T.clK, T.nK_snap, (by show 1 < 1000; decide), ?_⟩
    rw [kp2, upd_upd]
    refine ⟨_, rfl, p, A.cK, dx, _, rfl, upd_same, T.clK, T.nK_program, (by show 2 < 1000; decide), ?_⟩
    rw [kp3, upd_upd]
    refine ⟨Nat.zero_le _, fun l hl => ?_⟩
    have npl : p ≠ l := fun z => by
      rw [z, upd_same] at hl
      cases hl
    refine ⟨_, rfl, p, A.cK, dx, _, rfl, (by rw [upd_ne npl]; exact upd_same), T.clK, T.nK_entries, (by show 3 < 1000; decide), ?_⟩
    rw [kp4]
    refine ⟨_, rfl, p, A.cK, dx, _, rfl, upd_same, T.clK, T.nK_kept_frames, (by show 4 < 1000; decide), ?_⟩
    rw [kp5, upd_upd]
    refine ⟨_, rfl, p, A.cK, dx, _, rfl, upd_same, T.clK, T.nK_left_frames, (by show 5 < 1000; decide), ?_⟩
    rw [kp6, upd_upd]
    refine ⟨_, rfl, p, A.cK, dx, _, rfl, upd_same, T.clK, T.nK_gone_entries, (by show 6 < 1000; decide), ?_⟩
    rw [kp7, upd_upd]
    refine k _ ⟨dx, A.aF, l, upd_same, T.fprog _, [], ?_, .nil⟩ fun b o hb n => ?_
    · rw [upd_ne npl.symm, upd_same]
      rfl
    · have nl : b ≠ l := fun z => by
        rw [z] at hb
        rw [upd_ne npl.symm, hb] at hl
        cases hl
      rw [upd_ne n, upd_ne nl, upd_ne n]
      exact hb
abbrev s_Kept_last_time : Stmt := (inClass (top 24) 1)
theorem sc_Kept_last_time : FnScope ["self"] ["self"] (defScope s_Kept_last_time) := ⟨rfl, rfl, rfl, by decide +kernel, rfl, by decide +kernel, by decide +kernel⟩
def sp_Kept_last_time (K : PySem.W.Frag) (A : Ad) : Sp := fun vs H Q _ => ∃ (a : Addr) (s : Kst), vs = [.ref a] ∧ KeptAt K A H a s ∧ RetV (.int (lastT s.entries : Nat)) H Q
theorem ok_Kept_last_time {f : Addr} {fd : FuncData} (F : Fun K "last_time" "Kept.last_time" s_Kept_last_time f fd) (T : Txt K mg A) : FnOk P w K mg base CX0 1 f fd ["self"] (sp_Kept_last_time K A) := by
  refine F.ok sc_Kept_last_time (fun vs H Q E h => ?_) (fun cdv Ar outer s H vs Q E hr h => ?_)
  · obtain ⟨a, s, rfl, _⟩ := h
    rfl
  · obtain ⟨a, s, rfl, ⟨dx, pa, la, ha, hp, as, hl, hf⟩, k⟩ := h
    refine ⟨_, (pss_one (ps_ret (pe_ifExp (pt_cmpR (op_neNil hr.units) (pe_fld (pv 0) rfl) (pe_lst pa_nil) (nomark _)) (pe_fld (pe_ix ix_list (pe_fld (pv 0) rfl) (pe_un un_neg pe_int) (fun _ _ => rfl)) rfl) pe_int))), ?_⟩
    have ee : ∀ (σ : L2.St), σ[0]? = some (some (V.ref a)) → Ev (tFld K (tVar 0) "entries") σ H (.ref la) := fun σ hs => ev_fld (ev_var hs) ha T.clK T.nK_entries (kF_entries s pa la)
    have hlen : as.length = s.entries.length := Paired.length hf
    refine s_ret (ev_if (et_test (ev_neNil (ee _ rfl) (sq_of hl))) (fun hb => ?_) (fun hb => ?_)) k
    · have hpos : 0 < s.entries.length := by
        rw [← hlen]
        cases as with
        | nil => simp at hb
        | cons x as => simp
      have hi : s.entries.length - 1 < as.length := by omega
      obtain ⟨e, he, hF⟩ := Paired.get2 hf (List.getElem?_eq_getElem hi)
      obtain ⟨dy, d, hA, _⟩ := hF
      have hlast : lastT s.entries = e.time := by
        unfold lastT
        rw [List.getLast?_eq_getElem?, he]
      rw [hlast]
      refine ev_fld (ev_op (ee _ rfl) (ev_un ev_c ru_neg) (rv_ixL (sq_of hl) (v := .ref as[s.entries.length - 1]) ?_)) hA T.clF T.nF_time (fF_time e d)
      have hn : (as.map V.ref).length = s.entries.length := by rw [List.length_map, hlen]
      unfold atI ixN
      rw [if_neg (by decide), if_pos (by rw [hn]; omega)]
      show (as.map V.ref)[(-1 + ((as.map V.ref).length : Int)).toNat]? = _
      have e1 : (-1 + ((as.map V.ref).length : Int)).toNat = s.entries.length - 1 := by rw [hn]; omega
      rw [e1, List.getElem?_map, List.getElem?_eq_getElem hi]
      rfl
    · have hz : s.entries = [] := by
        apply List.eq_nil_of_length_eq_zero
        rw [← hlen]
        cases as with
        | nil => rfl
        | cons x as => simp at hb
      rw [hz]
      exact ev_c
end
end G
namespace G
open PySem PySem.Spec PyProof.Rows L2 Evl
open Sj55 (Ins)
section
variable {K : PySem.W.Frag} {σ : L2.St} {H H' : Hp} {ta tv : TE} {D : Ends} {tz : TS} {a C dx : Addr} {fs : List (Str × V)} {f : Str}
theorem q_fld {y : V} (h : Ev tv σ H y) (ha : Ev ta σ H (.ref a)) (ho : H a = some (.ins C dx fs)) (hc : Cls K C) (hn : NoAttr K C f) (hl : fs.length < 1000) (k : ∀ H1, Ex H H1 → tz D σ (upd H1 a (.ins C dx (putF f y fs)))) : tSeq (sFld K ta tv f) tz D σ H :=
  h H (Ex.refl H) _ fun H1 e1 => ha H1 e1 _ fun H2 e2 => ⟨a, C, dx, fs, rfl, (e1.trans e2) _ _ ho, hc, hn, hl, k H2 (e1.trans e2)⟩
theorem q_fldL {ys : List V} (h : EvL tv σ H ys) (ha : Ev ta σ H (.ref a)) (ho : H a = some (.ins C dx fs)) (hc : Cls K C) (hn : NoAttr K C f) (hl : fs.length < 1000) (k : ∀ p H1, H p = none → Ex H H1 → H1 p = some (.lst ys) → tz D σ (upd H1 a (.ins C dx (putF f (.ref p) fs)))) : tSeq (sFld K ta tv f) tz D σ H :=
  h H (Ex.refl H) _ fun p H1 hp e1 h1 => ha H1 e1 _ fun H2 e2 => ⟨a, C, dx, fs, rfl, (e1.trans e2) _ _ ho, hc, hn, hl, k p H2 hp (e1.trans e2) (e2 _ _ h1)⟩
theorem s_fld {y : V} (h : Ev tv σ H y) (ha : Ev ta σ H (.ref a)) (ho : H a = some (.ins C dx fs)) (hc : Cls K C) (hn : NoAttr K C f) (hl : fs.length < 1000) (k : ∀ H1, Ex H H1 → D.nx σ (upd H1 a (.ins C dx (putF f y fs)))) : sFld K ta tv f D σ H :=
  h H (Ex.refl H) _ fun H1 e1 => ha H1 e1 _ fun H2 e2 => ⟨a, C, dx, fs, rfl, (e1.trans e2) _ _ ho, hc, hn, hl, k H2 (e1.trans e2)⟩
theorem el_is {te : TE} {xs ys : List V} (h : EvL te σ H xs) (e : xs = ys) : EvL te σ H ys := by
  rw [← e]
  exact h
end
section
variable {P : Program} {w : World} {K : PySem.W.Frag} {mg : Str → Option Value} {base : Heap} {A : Ad}
theorem sp_room_of_all_v {H : Hp} {l : Addr} {es : List Sj55.Entry} (h : EntriesAt A H l es) (hz : es.length ≤ 40000) : SpV (sp_room_of_all A) [.ref l] H (.int (Sj55.total es : Nat)) := fun H1 x Q q E => ⟨l, es, rfl, h.ex x, hz, q⟩
abbrev s_Kept_going_for : Stmt := (inClass (top 24) 3)
theorem sc_Kept_going_for : FnScope ["self", "entry", "room", "gone", "old"] ["self", "entry"] (defScope s_Kept_going_for) := ⟨rfl, rfl, rfl, by decide +kernel, rfl, by decide +kernel, by decide +kernel⟩
def sp_Kept_going_for (K : PySem.W.Frag) (A : Ad) : Sp := fun vs H Q _ => ∃ (a f : Addr) (s : Kst) (e : Sj55.Entry), vs = [.ref a, .ref f] ∧ KeptAt K A H a s ∧ FrameAt A H f e ∧ s.entries.length ≤ 1000 ∧ RetV (.int (goneN s.size e.size s.entries : Nat)) H Q
theorem ok_Kept_going_for {f : Addr} {fd : FuncData} (F : Fun K "going_for" "Kept.going_for" s_Kept_going_for f fd) (T : Txt K mg A) (h_room_of : Has P w K mg base CX0 1 "room_of" ["entry"] (sp_room_of A)) (h_room_of_all : Has P w K mg base CX0 2 "room_of_all" ["entries"] (sp_room_of_all A)) :
    FnOk P w K mg base CX0 3 f fd ["self", "entry"] (sp_Kept_going_for K A) := by
  refine F.ok sc_Kept_going_for (fun vs H Q E h => ?_) (fun cdv Ar outer s H vs Q E hr h => ?_)
  · obtain ⟨a, f, s, e, rfl, _⟩ := h
    rfl
  · obtain ⟨a, fa, s, e, rfl, ⟨dx, pa, la, ha, hp, hE⟩, hF, hz, k⟩ := h
    obtain ⟨as, hl, hf⟩ := id hE
    have hlen : as.length = s.entries.length := Paired.length hf
    refine ⟨_, (pss_cons (ps_set (i := 2) sc_Kept_going_for.nd rfl (Or.inl rfl) (pe_op op_add (pe_fn h_room_of_all (hr.mono (by decide)) (by rfl) pass0 (pa_cons (pe_fld (pv 0) rfl) pa_nil)) (pe_fn h_room_of (hr.mono (by decide)) (by rfl) pass0 (pa_cons (pv 1) pa_nil))))
      (pss_cons (ps_set (i := 3) sc_Kept_going_for.nd rfl (Or.inl rfl) pe_int)
      (pss_cons (ps_for PassesOwn.never rfl (pi_list (pe_fld (pv 0) rfl)) (pg_name (i := 4) sc_Kept_going_for.nd rfl (Or.inl rfl)) (pss_cons (ps_if (pt_cmpR op_le (pv 2) (pe_fld (pv 0) rfl) (nomark _)) (pss_one (ps_ret (pv 3))) pss_nil)
      (pss_cons (ps_set (i := 2) sc_Kept_going_for.nd rfl (Or.inl rfl) (pe_op op_sub (pv 2) (pe_fn h_room_of (hr.mono (by decide)) (by rfl) pass0 (pa_cons (pv 4) pa_nil))))
      (pss_one (ps_set (i := 3) sc_Kept_going_for.nd rfl (Or.inl rfl) (pe_op op_add (pv 3) pe_int))))))
      (pss_one (ps_ret (pv 3)))))), ?_⟩
    have ee : ∀ (σ : L2.St) (H1 : Hp), Ex H H1 → σ[0]? = some (some (V.ref a)) → Ev (tFld K (tVar 0) "entries") σ H1 (.ref la) := fun σ H1 x hs => ev_fld (ev_var hs) (x _ _ ha) T.clK T.nK_entries (kF_entries s pa la)
    refine q_asg (ev_is (ev_op (ev_call (ea_cons (ee _ H (Ex.refl H) rfl) ea_nil) (sp_room_of_all_v hE (by omega))) (ev_call (ea_cons (ev_var rfl) ea_nil) (sp_room_of_v hF)) rv_I0) (show V.int (((Sj55.total s.entries : Nat) : Int) + ((e.size : Nat) : Int)) = .int (Sj55.total (s.entries.drop 0) + e.size : Nat) by rw [List.drop_zero]; rfl)) fun H1 x1 => ?_
    refine q_asg ev_c fun H2 x2 => ?_
    have x12 := x1.trans x2
    refine q_forLn (ee _ H2 x12 rfl) (sq_of (x12 _ _ hl)) (fun i σ' H' => ∃ v, σ' = [some (.ref a), some (.ref fa), some (.int (Sj55.total (s.entries.drop i) + e.size : Nat)), some (.int (i : Nat)), v] ∧ Ex H H' ∧ Sj55.room s.size e.size (s.entries.drop i) = Sj55.room s.size e.size s.entries)
      (fun H3 x3 => ⟨none, rfl, x12.trans x3, by rw [List.drop_zero]⟩) (fun i σ' H' _ ⟨_, _, x, _⟩ => sq_of (x _ _ hl)) ?_ ?_
    · rintro i y σ' H3 hy ⟨v, rfl, x3, hroom⟩
      rw [List.getElem?_map] at hy
      obtain ⟨b, hb, rfl⟩ := Option.map_eq_some_iff.mp hy
      obtain ⟨o, ho, hO⟩ := Paired.get2 hf hb
      have hi : i < s.entries.length := (List.getElem?_eq_some_iff.mp ho).1
      refine q_when (et_test (ev_op (ev_var rfl) (ev_fld (ev_var rfl) (x3 _ _ ha) T.clK T.nK_size (kF_size s pa la)) rv_I0)) (fun hb H4 x4 => ?_) (fun hb H4 x4 => ?_)
      · have hle : Sj55.total (s.entries.drop i) + e.size ≤ s.size := by have := of_decide_eq_true hb; omega
        refine s_ret (ev_var rfl) (RetV.at k (x3.trans x4) ?_)
        rw [room_at hi hroom hle]
      · have hgt : ¬ Sj55.total (s.entries.drop i) + e.size ≤ s.size := by have := of_decide_eq_false hb; omega
        refine q_asg (ev_is (ev_op (ev_var rfl) (ev_call (ea_cons (ev_var rfl) ea_nil) (sp_room_of_v (hO.ex (x3.trans x4)))) rv_I0) (show V.int (((Sj55.total (s.entries.drop i) + e.size : Nat) : Int) - ((o.size : Nat) : Int)) = .int (Sj55.total (s.entries.drop (i + 1)) + e.size : Nat) by
            rw [total_drop ho]
            congr 1
            omega)) fun H5 x5 => ?_
        refine s_asg (ev_op (ev_var rfl) ev_c rv_I0) fun H6 x6 => ?_
        exact ⟨some (.ref b), rfl, ((x3.trans x4).trans x5).trans x6, room_on ho hroom hgt⟩
    · rintro σ' H3 ⟨v, rfl, x3, hroom⟩
      rw [List.length_map, hlen] at hroom ⊢
      refine s_ret (ev_var rfl) (RetV.at k x3 ?_)
      rw [room_end hroom]
theorem sp_Kept_going_for_v {H : Hp} {a f : Addr} {s : Kst} {e : Sj55.Entry} (h : KeptAt K A H a s) (hF : FrameAt A H f e) (hz : s.entries.length ≤ 1000) : SpV (sp_Kept_going_for K A) [.ref a, .ref f] H (.int (goneN s.size e.size s.entries : Nat)) := fun H1 x Q q E => ⟨a, f, s, e, rfl, h.ex x, hF.ex x, hz, q⟩
abbrev s_Kept_go_by : Stmt := (inClass (top 24) 2)
theorem sc_Kept_go_by : FnScope ["self", "frame", "told", "entry", "gone"] ["self", "frame"] (defScope s_Kept_go_by) := ⟨rfl, rfl, rfl, by decide +kernel, rfl, by decide +kernel, by decide +kernel⟩
def sp_Kept_go_by (K : PySem.W.Frag) (A : Ad) : Sp := fun vs H Q _ => ∃ (a f : Addr) (s : Kst) (e : Sj55.Entry), vs = [.ref a, .ref f] ∧ KeptAt K A H a s ∧ FrameAt A H f e ∧ s.entries.length ≤ 1000 ∧ GoodP s.prog ∧ A.cK ≠ A.cF ∧
  ∀ H' p, ExB a H H' → KeptAt K A H' a (s.goBy e) → H' p = some (.tup [.int ((s.byA e).1 : Nat), .int ((s.byA e).2 : Nat)]) → Q (.ref p) H'
theorem ok_Kept_go_by {f : Addr} {fd : FuncData} (F : Fun K "go_by" "Kept.go_by" s_Kept_go_by f fd) (T : Txt K mg A) (h_run_on : Has P w K mg base CX0 3 "run_on" ["program", "frame"] (sp_run_on K A)) (h_Frame_kept_by : HasM P w K mg base CX0 3 A.cF "kept_by" ["self", "many"] (sp_Frame_kept_by A))
    (h_Kept_going_for : HasM P w K mg base CX0 3 A.cK "going_for" ["self", "entry"] (sp_Kept_going_for K A)) : FnOk P w K mg base CX0 4 f fd ["self", "frame"] (sp_Kept_go_by K A) := by
  refine F.ok sc_Kept_go_by (fun vs H Q E h => ?_) (fun cdv Ar outer s H vs Q E hr h => ?_)
  · obtain ⟨a, f, s, e, rfl, _⟩ := h
    rfl
  · obtain ⟨a, fa, s, e, rfl, hK, hF, hz, hG, hne, k⟩ := h
    obtain ⟨dx, pa, la, ha, hp, hE⟩ := id hK
    refine ⟨_, (pss_cons (ps_set (i := 2) sc_Kept_go_by.nd rfl (Or.inl rfl) (pe_fn h_run_on (hr.mono (by decide)) (by rfl) pass0 (pa_cons (pe_fld (pv 0) rfl) (pa_cons (pv 1) pa_nil))))
      (pss_cons (ps_if (pt_cmpR op_eq (pv 2) pe_int (nomark _)) (pss_cons (ps_fld (pv 0) (pe_op op_add (pe_fld (pv 0) rfl) pe_int) rfl)
      (pss_one (ps_ret (pe_tup (pa_cons pe_int (pa_cons pe_int pa_nil)))))) pss_nil)
      (pss_cons (ps_set (i := 3) sc_Kept_go_by.nd rfl (Or.inl rfl) (pe_mt h_Frame_kept_by (hr.mono (by decide)) pass0 (pv 1) (pa_cons (pe_callB (call_min2 rfl) (by rfl) T.b_min (by decide +kernel) (pa_cons (pv 2) (pa_cons (pe_fld (pv 0) rfl) pa_nil))) pa_nil)))
      (pss_cons (ps_set (i := 4) sc_Kept_go_by.nd rfl (Or.inl rfl) (pe_mt h_Kept_going_for (hr.mono (by decide)) pass0 (pv 0) (pa_cons (pv 3) pa_nil)))
      (pss_cons (ps_fld (pv 0) (pe_op op_cat (pe_slice sl_list (pe_fld (pv 0) rfl) (po_some (pv 4)) po_none) (pe_lst (pa_cons (pv 3) pa_nil))) rfl)
      (pss_cons (ps_fld (pv 0) (pe_op op_add (pe_fld (pv 0) rfl) pe_int) rfl)
      (pss_cons (ps_fld (pv 0) (pe_op op_add (pe_fld (pv 0) rfl) (pv 4)) rfl)
      (pss_one (ps_ret (pe_tup (pa_cons pe_int (pa_cons (pv 4) pa_nil)))))))))))), ?_⟩
    refine q_asg (ev_call (ea_cons (ev_fld (ev_var rfl) ha T.clK T.nK_program (kF_program s pa la)) (ea_cons (ev_var rfl) ea_nil)) (sp_run_on_v hp hG hF)) fun H1 x1 => ?_
    refine q_when (et_test (ev_op (ev_var rfl) ev_c (rv_eq rfl))) (fun hb H2 x2 => ?_) (fun hb H2 x2 => ?_)
    · rw [dInt, decide_eq_true_eq] at hb
      have h0 : tellsN s.prog e = 0 := by omega
      have x12 := x1.trans x2
      refine q_fld (y := .int (s.lf + 1 : Nat)) (ev_op (ev_fld (ev_var rfl) (x12 _ _ ha) T.clK T.nK_left_frames (kF_left_frames s pa la)) ev_c rv_I0) (ev_var rfl) (x12 _ _ ha) T.clK T.nK_left_frames (kF_few s pa la) fun H3 x3 => ?_
      rw [kF_put_left_frames]
      have x13 := x12.trans x3
      have xb : ExB a H (upd H3 a (.ins A.cK dx (kF { s with lf := s.lf + 1 } pa la))) := (ExB.of x13).upd
      refine s_retU (eu_tup (ea_cons ev_c (ea_cons ev_c ea_nil)) (by show 2 ≤ 100000; decide)) fun p H4 hp4 x4 h4 => ?_
      refine k H4 p (xb.ex x4) ?_ ?_
      · rw [Kst.goBy, if_pos h0]
        exact KeptAt.ex x4 ⟨dx, pa, la, upd_same, xb.prog ha hp, xb.entries ha hne hE⟩
      · rw [Kst.byA, if_pos h0]
        exact h4
    · rw [dInt, decide_eq_false_iff_not] at hb
      have h0 : ¬ tellsN s.prog e = 0 := by omega
      have x12 := x1.trans x2
      obtain ⟨dy, d, hA, hd⟩ := id hF
      have nkb : (fF e d).lookup ("kept_by" : Str) = none := fF_no e d (by decide +kernel) (by decide +kernel) (by decide +kernel) (by decide +kernel) (by decide +kernel)
      have emin : (if (s.snap : Int) < ((tellsN s.prog e : Nat) : Int) then (s.snap : Int) else ((tellsN s.prog e : Nat) : Int)) = ((min (tellsN s.prog e) s.snap : Nat) : Int) := by
        split <;> omega
      refine q_asgI (P := fun H' x => FrameAt A H' x (keepE s e)) (ei_meth (ev_var rfl) (x12 _ _ hA) nkb (ea_cons (ev_is (ev_min2 (ev_var rfl) (ev_fld (ev_var rfl) (x12 _ _ ha) T.clK T.nK_snap (kF_snap s pa la))) (congrArg V.int emin)) ea_nil) (fun H3 x3 Q3 q3 E3 => ⟨fa, e, _, rfl, hF.ex (x12.trans x3), q3⟩)) fun x H3 hx x3 hx3 => ?_
      have x13 := x12.trans x3
      have ngf : (kF s pa la).lookup ("going_for" : Str) = none := kF_no s pa la (by decide +kernel) (by decide +kernel) (by decide +kernel) (by decide +kernel) (by decide +kernel) (by decide +kernel) (by decide +kernel)
      refine q_asg (ev_meth (ev_var rfl) (x13 _ _ ha) ngf (ea_cons (ev_var rfl) ea_nil) (sp_Kept_going_for_v (hK.ex x13) hx3 hz)) fun H4 x4 => ?_
      have x14 := x13.trans x4
      generalize hgn : goneN s.size (keepE s e).size s.entries = gn at *
      obtain ⟨as, hl, hf⟩ := id hE
      have hlen : as.length = s.entries.length := Paired.length hf
      -- self.entries = self.entries[gone:] + [entry]
      refine q_fldL (el_cat (el_is (el_sl (ev_fld (ev_var rfl) (x14 _ _ ha) T.clK T.nK_entries (kF_entries s pa la)) (eo_some (ev_var rfl)) eo_none (sq_of (x14 _ _ hl))) ((cutV_from _ gn).trans List.map_drop.symm)) (el_lst (ea_cons (ev_var rfl) ea_nil) (by show 1 ≤ 100000; decide)) ?_) (ev_var rfl) (x14 _ _ ha) T.clK T.nK_entries (kF_few s pa la) fun q H5 hq x5 h5 => ?_
      · rw [List.length_map, List.length_drop]
        have : (1000 : Nat) + 1 ≤ sizeLine := by decide
        show as.length - gn + 1 ≤ sizeLine
        omega
      have x15 := x14.trans x5
      have nq : q ≠ a := fun z => by
        rw [z, x14 _ _ ha] at hq
        cases hq
      rw [kF_put_entries s pa la q (s.entries.drop gn ++ [keepE s e])]
      refine q_fld (y := .int (s.kf + 1 : Nat)) (ev_op (ev_fld (ev_var rfl) upd_same T.clK T.nK_kept_frames (kF_kept_frames _ pa q)) ev_c rv_I0) (ev_var rfl) upd_same T.clK T.nK_kept_frames (kF_few _ pa q) fun H6 x6 => ?_
      rw [kF_put_kept_frames]
      refine q_fld (y := .int (s.ge + gn : Nat)) (ev_op (ev_fld (ev_var rfl) upd_same T.clK T.nK_gone_entries (kF_gone_entries _ pa q)) (ev_var rfl) rv_I0) (ev_var rfl) upd_same T.clK T.nK_gone_entries (kF_few _ pa q) fun H7 x7 => ?_
      rw [kF_put_gone_entries]
      have xb5 : ExB a H5 (upd H7 a (.ins A.cK dx (kF { s with entries := s.entries.drop gn ++ [keepE s e], kf := s.kf + 1, ge := s.ge + gn } pa q))) := ((((ExB.of (Ex.refl H5)).upd.ex x6).upd).ex x7).upd
      have xb : ExB a H (upd H7 a (.ins A.cK dx (kF { s with entries := s.entries.drop gn ++ [keepE s e], kf := s.kf + 1, ge := s.ge + gn } pa q))) := (ExB.of x15).trans xb5
      refine s_retU (eu_tup (ea_cons ev_c (ea_cons (ev_var rfl) ea_nil)) (by show 2 ≤ 100000; decide)) fun p H8 hp8 x8 h8 => ?_
      refine k H8 p (xb.ex x8) ?_ ?_
      · rw [Kst.goBy, if_neg h0, hgn]
        refine KeptAt.ex x8 ⟨dx, pa, q, upd_same, xb.prog ha hp, as.drop gn ++ [x], ?_, ?_⟩
        · rw [xb5 _ _ h5 nq, List.map_append]
          rfl
        · refine Paired.app (Paired.drop2 gn (Paired.imp2 (fun _ _ z => xb.frame ha hne z) hf)) (.cons ?_ .nil)
          exact ((ExB.of (x4.trans x5)).trans xb5).frame (x13 _ _ ha) hne hx3
      · rw [Kst.byA, if_neg h0, hgn]
        exact h8
end
end G
namespace G
open PySem PySem.Spec PyProof.Rows L2 Evl
open Sj55 (Ins)
section
variable {P : Program} {w : World} {K : PySem.W.Frag} {mg : Str → Option Value} {base : Heap} {A : Ad}
abbrev s_Kept_run_again : Stmt := (inClass (top 24) 4)
theorem sc_Kept_run_again : FnScope ["self", "many", "entry"] ["self"] (defScope s_Kept_run_again) := ⟨rfl, rfl, rfl, by decide +kernel, rfl, by decide +kernel, by decide +kernel⟩
def sp_Kept_run_again (K : PySem.W.Frag) (A : Ad) : Sp := fun vs H Q _ => ∃ (a : Addr) (s : Kst), vs = [.ref a] ∧ KeptAt K A H a s ∧ s.entries.length ≤ 1000 ∧ GoodP s.prog ∧ A.cK ≠ A.cF ∧
  ∀ H', ExB a H H' → KeptAt K A H' a s.again → Q (.int ((s.entries.length : Int) - (s.again.entries.length : Int))) H'
/-- what a comprehension over entries keeps -/
def fAt (es : List Sj55.Entry) (g : Sj55.Entry → Bool) (i : Nat) : Bool := match es[i]? with
  | none => false
  | some e => g e
def vAt (as : List Addr) (i : Nat) : V := match as[i]? with
  | none => .non
  | some b => .ref b
def lAt (es : List Sj55.Entry) (i : Nat) : V := match es[i]? with
  | none => .non
  | some e => .int (e.len : Nat)
theorem given_frames {H : Hp} {as : List Addr} {es : List Sj55.Entry} (h : FramesAt A H as es) (g : Sj55.Entry → Bool) : ∃ bs : List Addr, given as.length (fAt es g) (vAt as) = bs.map V.ref ∧ FramesAt A H bs (es.filter g) := by
  refine ⟨((as.zip es).filter fun p => g p.2).map Prod.fst, ?_, ?_⟩
  · have z := given_filter (g := fun p : Addr × Sj55.Entry => g p.2) (h := fun p => V.ref p.1) (as.zip es) (fAt es g) (vAt as) fun i x hx => by
      obtain ⟨h1, h2⟩ := zip_at h (a := x.1) (b := x.2) hx
      unfold fAt vAt
      rw [h1, h2]
      exact ⟨rfl, rfl⟩
    rw [Paired.len_zip h] at z
    rw [z, List.map_map]
    rfl
  · rw [← zip_snd h]
    exact Paired.of_zip _ fun p hp => Paired.zip_of h p (List.mem_filter.mp hp).1
theorem ok_Kept_run_again {f : Addr} {fd : FuncData} (F : Fun K "run_again" "Kept.run_again" s_Kept_run_again f fd) (T : Txt K mg A) (h_run_on : Has P w K mg base CX0 3 "run_on" ["program", "frame"] (sp_run_on K A)) : FnOk P w K mg base CX0 4 f fd ["self"] (sp_Kept_run_again K A) := by
  refine F.ok sc_Kept_run_again (fun vs H Q E h => ?_) (fun cdv Ar outer s H vs Q E hr h => ?_)
  · obtain ⟨a, s, rfl, _⟩ := h
    rfl
  · obtain ⟨a, s, rfl, hK, hz, hG, hne, k⟩ := h
    obtain ⟨dx, pa, la, ha, hp, hE⟩ := id hK
    obtain ⟨as, hl, hf⟩ := id hE
    have hlen : as.length = s.entries.length := Paired.length hf
    refine ⟨_, (pss_cons (ps_set (i := 1) sc_Kept_run_again.nd rfl (Or.inl rfl) (pe_callB call_len_seq (by rfl) T.b_len PySem.boot_len (pa_cons (pe_fld (pv 0) rfl) pa_nil)))
      (pss_cons (ps_fld (pv 0) (pe_lc (own := [("entry", 2)]) (g := gName 2) (tt := tTest (tOp rNe (tCall (sp_run_on K A) [] E0 (tCons (tFld K (tVar 0) "program") (tCons (tVar 2) tNil))) (tC (.int 0)))) (te := tVar 2) rfl sc_Kept_run_again.nd (pi_list (pe_fld (pv 0) rfl)) (blkOk_by (N := ["self", "many", "entry"]) (sc := defScope s_Kept_run_again) (by decide +kernel)) (fun _ _ _ _ _ => pg_name (i := 2) sc_Kept_run_again.nd rfl (Or.inl rfl)) (fun _ _ _ _ _ => pts_one (pt_cmpR op_ne (pe_fn h_run_on (hr.mono (by decide)) (by rfl) pass0 (pa_cons (pe_fld (pv 0) rfl) (pa_cons (pv 2) pa_nil))) pe_int (nomark _))) (fun _ _ _ _ _ => (pv 2))) rfl)
      (pss_one (ps_ret (pe_op op_sub (pv 1) (pe_callB call_len_seq (by rfl) T.b_len PySem.boot_len (pa_cons (pe_fld (pv 0) rfl) pa_nil))))))), ?_⟩
    refine q_asg (ev_len (ev_fld (ev_var rfl) ha T.clK T.nK_entries (kF_entries s pa la)) (sq_of hl)) fun H1 x1 => ?_
    obtain ⟨bs, hbs, hfb⟩ := given_frames hf fun e => tellsN s.prog e != 0
    refine q_fldL (el_lcL (fAt s.entries fun e => tellsN s.prog e != 0) (vAt as) (ev_fld (ev_var rfl) (x1 _ _ ha) T.clK T.nK_entries (kF_entries s pa la)) (sq_of (x1 _ _ hl)) (by rw [List.length_map]; omega) (fun _ => rfl) (fun i x H2 x2 hx => ?_) (fun i x H2 x2 hx _ => ?_))
      (ev_var rfl) (x1 _ _ ha) T.clK T.nK_entries (kF_few s pa la) fun q H2 hq x2 h2 => ?_
    · rw [List.getElem?_map] at hx
      obtain ⟨b, hb, rfl⟩ := Option.map_eq_some_iff.mp hx
      obtain ⟨e, he, hF⟩ := Paired.get2 hf hb
      have xx := x1.trans x2
      refine et_is (et_test (ev_op (ev_call (ea_cons (ev_fld (ev_var rfl) (xx _ _ ha) T.clK T.nK_program (kF_program s pa la)) (ea_cons (ev_var rfl) ea_nil)) (sp_run_on_v (hp.ex xx) hG (hF.ex xx))) ev_c (rv_ne rfl))) ?_
      rw [dInt]
      unfold fAt
      rw [he]
      show _ = (tellsN s.prog e != 0)
      generalize tellsN s.prog e = z
      by_cases h : z = 0
      · subst h
        rfl
      · have h' : ¬ (z : Int) = 0 := by omega
        rw [decide_eq_false h']
        simp [h]
    · rw [List.getElem?_map] at hx
      obtain ⟨b, hb, rfl⟩ := Option.map_eq_some_iff.mp hx
      unfold vAt
      rw [hb]
      exact ev_var rfl
    · rw [List.length_map, hbs] at h2
      have x12 := x1.trans x2
      rw [kF_put_entries s pa la q (s.entries.filter fun e => tellsN s.prog e != 0)]
      have nq : q ≠ a := fun z => by
        rw [z, x1 _ _ ha] at hq
        cases hq
      have xb2 : ExB a H2 (upd H2 a (.ins A.cK dx (kF s.again pa q))) := (ExB.of (Ex.refl H2)).upd
      have xb : ExB a H (upd H2 a (.ins A.cK dx (kF s.again pa q))) := (ExB.of x12).upd
      have hq3 : upd H2 a (.ins A.cK dx (kF s.again pa q)) q = some (.lst (bs.map V.ref)) := xb2 _ _ h2 nq
      have hlb : bs.length = s.again.entries.length := Paired.length hfb
      refine s_ret (ev_is (ev_op (ev_var rfl) (ev_len (ev_fld (ev_var rfl) upd_same T.clK T.nK_entries (kF_entries s.again pa q)) (sq_of hq3)) rv_I0) (show V.int (((as.map V.ref).length : Int) - ((bs.map V.ref).length : Int)) = .int ((s.entries.length : Int) - (s.again.entries.length : Int)) by rw [List.length_map, List.length_map, hlen, hlb])) fun H3 x3 => ?_
      exact k H3 (xb.ex x3) (KeptAt.ex x3 ⟨dx, pa, q, upd_same, xb.prog ha hp, bs, hq3, Paired.imp2 (fun _ _ z => xb.frame ha hne z) hfb⟩)
abbrev s_Kept_earlier : Stmt := (inClass (top 24) 5)
theorem sc_Kept_earlier : FnScope ["self", "time", "entry"] ["self", "time"] (defScope s_Kept_earlier) := ⟨rfl, rfl, rfl, by decide +kernel, rfl, by decide +kernel, by decide +kernel⟩
def sp_Kept_earlier (K : PySem.W.Frag) (A : Ad) : Sp := fun vs H Q _ => ∃ (a : Addr) (s : Kst) (t : Int), vs = [.ref a, .int t] ∧ KeptAt K A H a s ∧ s.entries.length ≤ 1000 ∧ RetV (.int ((s.entries.filter fun e => decide (Sj55.nat e.time < t)).length : Nat)) H Q
theorem ok_Kept_earlier {f : Addr} {fd : FuncData} (F : Fun K "earlier" "Kept.earlier" s_Kept_earlier f fd) (T : Txt K mg A) : FnOk P w K mg base CX0 1 f fd ["self", "time"] (sp_Kept_earlier K A) := by
  refine F.ok sc_Kept_earlier (fun vs H Q E h => ?_) (fun cdv Ar outer s H vs Q E hr h => ?_)
  · obtain ⟨a, s, t, rfl, _⟩ := h
    rfl
  · obtain ⟨a, s, t, rfl, ⟨dx, pa, la, ha, hp, as, hl, hf⟩, hz, k⟩ := h
    have hlen : as.length = s.entries.length := Paired.length hf
    obtain ⟨bs, hbs, hfb⟩ := given_frames hf fun e => decide (Sj55.nat e.time < t)
    refine ⟨_, (pss_one (ps_ret (pe_callB call_len_seq (by rfl) T.b_len PySem.boot_len (pa_cons (pe_lc (own := [("entry", 2)]) (g := gName 2) (tt := tTest (tOp (rI0 fun i j => .bl (decide (i < j))) (tFld K (tVar 2) "time") (tVar 1))) (te := tVar 2) rfl sc_Kept_earlier.nd (pi_list (pe_fld (pv 0) rfl)) (blkOk_by (N := ["self", "time", "entry"]) (sc := defScope s_Kept_earlier) (by decide +kernel)) (fun _ _ _ _ _ => pg_name (i := 2) sc_Kept_earlier.nd rfl (Or.inl rfl)) (fun _ _ _ _ _ => pts_one (pt_cmpR op_lt (pe_fld (pv 2) rfl) (pv 1) (nomark _))) (fun _ _ _ _ _ => (pv 2))) pa_nil)))), ?_⟩
    refine s_ret (ev_is (ev_lenN (el_lcL (fAt s.entries fun e => decide (Sj55.nat e.time < t)) (vAt as) (ev_fld (ev_var rfl) ha T.clK T.nK_entries (kF_entries s pa la)) (sq_of hl) (by rw [List.length_map]; omega) (fun _ => rfl) (fun i x H2 x2 hx => ?_) (fun i x H2 x2 hx _ => ?_))) ?_) k
    · rw [List.getElem?_map] at hx
      obtain ⟨b, hb, rfl⟩ := Option.map_eq_some_iff.mp hx
      obtain ⟨e, he, dy, d, hA, _⟩ := Paired.get2 hf hb
      refine et_is (et_test (ev_op (ev_fld (ev_var rfl) (x2 _ _ hA) T.clF T.nF_time (fF_time e d)) (ev_var rfl) rv_I0)) ?_
      unfold fAt
      rw [he]
      rfl
    · rw [List.getElem?_map] at hx
      obtain ⟨b, hb, rfl⟩ := Option.map_eq_some_iff.mp hx
      unfold vAt
      rw [hb]
      exact ev_var rfl
    · rw [List.length_map, hbs, List.length_map, Paired.length hfb]
theorem sp_Kept_earlier_v {H : Hp} {a : Addr} {s : Kst} (h : KeptAt K A H a s) (hz : s.entries.length ≤ 1000) (t : Int) : SpV (sp_Kept_earlier K A) [.ref a, .int t] H (.int ((s.entries.filter fun e => decide (Sj55.nat e.time < t)).length : Nat)) := fun H1 x Q q E => ⟨a, s, t, rfl, h.ex x, hz, q⟩
abbrev s_Kept_sums : Stmt := (inClass (top 24) 6)
theorem sc_Kept_sums : FnScope ["self", "found", "kind", "lengths", "entry"] ["self"] (defScope s_Kept_sums) := ⟨rfl, rfl, rfl, by decide +kernel, rfl, by decide +kernel, by decide +kernel⟩
def chunkN (es : List Sj55.Entry) (k : Nat) : List Int := let m := es.filter fun e => e.kind == k
  [Sj55.nat m.length, Sj55.nat ((m.map fun e => e.len).foldr (fun a b => a + b) 0)]
theorem sumsOf_eq (es : List Sj55.Entry) : Sj55.sumsOf es = (List.range 16).flatMap (chunkN es) := rfl
theorem sum_lens : ∀ m : List Sj55.Entry, (m.map fun e => ((e.len : Nat) : Int)).sum = (((m.map fun e => e.len).foldr (fun a b => a + b) 0 : Nat) : Int)
  | [] => rfl
  | e :: m => by
    rw [List.map_cons, List.sum_cons, sum_lens m, List.map_cons, List.foldr_cons]
    omega
def sp_Kept_sums (K : PySem.W.Frag) (A : Ad) : Sp := fun vs H Q _ => ∃ (a : Addr) (s : Kst), vs = [.ref a] ∧ KeptAt K A H a s ∧ s.entries.length ≤ 1000 ∧ RetL ((Sj55.sumsOf s.entries).map V.int) H Q
theorem ok_Kept_sums {f : Addr} {fd : FuncData} (F : Fun K "sums" "Kept.sums" s_Kept_sums f fd) (T : Txt K mg A) : FnOk P w K mg base CX0 1 f fd ["self"] (sp_Kept_sums K A) := by
  refine F.ok sc_Kept_sums (fun vs H Q E h => ?_) (fun cdv Ar outer s H vs Q E hr h => ?_)
  · obtain ⟨a, s, rfl, _⟩ := h
    rfl
  · obtain ⟨a, s, rfl, ⟨dx, pa, la, ha, hp, as, hl, hf⟩, hz, k⟩ := h
    have hlen : as.length = s.entries.length := Paired.length hf
    refine ⟨_, (pss_cons (ps_set (i := 1) sc_Kept_sums.nd rfl (Or.inl rfl) (pe_lst pa_nil))
      (pss_cons (ps_for PassesOwn.never rfl (pi_range1 (by rfl) T.b_range (pa_cons (pe_gi T.c_MANY_KINDS rfl) pa_nil)) (pg_name (i := 2) sc_Kept_sums.nd rfl (Or.inr rfl)) (pss_cons (ps_setLc (i := 3) (own := [("entry", 4)]) (g := gName 4) (tt := tTest (tOp rEq (tFld K (tVar 4) "kind") (tVar 2))) (te := tFld K (tVar 4) "length") rfl sc_Kept_sums.nd rfl rfl (sw_true rfl rfl rfl (by decide +kernel)) (pi_list (pe_fld (pv 0) rfl)) (blkOk_by (N := ["self", "found", "kind", "lengths", "entry"]) (sc := defScope s_Kept_sums) (by decide +kernel)) (fun _ _ _ _ _ => pg_name (i := 4) sc_Kept_sums.nd rfl (Or.inl rfl)) (fun _ _ _ _ _ => pts_one (pt_cmpR op_eq (pe_fld (pv 4) rfl) (pv 2) (nomark _))) (fun _ _ _ _ _ => (pe_fld (pv 4) rfl)))
      (pss_one (ps_expr (pe_bm PySem.F.plainAttrs_list PySem.F.slot_list_extend PySem.F.type_list_extend mt_extend (pv 1) (pa_cons (pe_lst (pa_cons (pe_callB call_len_seq (by rfl) T.b_len PySem.boot_len (pa_cons (pv 3) pa_nil)) (pa_cons (pe_callB (cr_sum rfl) (by rfl) T.b_sum (by decide +kernel) (pa_cons (pv 3) pa_nil)) pa_nil))) pa_nil))))))
      (pss_one (ps_ret (pv 1))))), ?_⟩
    refine q_asgL (el_lst ea_nil (Nat.zero_le _)) fun fl H1 hfl x1 h1 => ?_
    refine q_forR1 (ea_cons ev_c ea_nil) ⟨by decide, by decide⟩ (fun i σ' H' => ∃ v2 v3 v4, σ' = [some (.ref a), some (.ref fl), v2, v3, v4] ∧ Ex H H' ∧ H' fl = some (.lst (((List.range i).flatMap (chunkN s.entries)).map V.int)))
      (fun H2 x2 => ⟨none, none, none, rfl, x1.trans x2, x2 _ _ h1⟩) ?_ ?_
    · rintro i σ' H2 hi ⟨v2, v3, v4, rfl, x2, h2⟩
      have hg := given_filter (g := fun e : Sj55.Entry => e.kind == i) (h := fun e => V.int (e.len : Nat)) s.entries (fAt s.entries fun e => e.kind == i) (lAt s.entries) fun j e he => by
        unfold fAt lAt
        rw [he]
        exact ⟨rfl, rfl⟩
      refine q_asgL (el_lcL (fAt s.entries fun e => e.kind == i) (lAt s.entries) (ev_fld (ev_var rfl) (x2 _ _ ha) T.clK T.nK_entries (kF_entries s pa la)) (sq_of (x2 _ _ hl)) (by rw [List.length_map]; omega) (fun _ => rfl) (fun j x H3 x3 hx => ?_) (fun j x H3 x3 hx _ => ?_)) fun q H3 hq x3 h3 => ?_
      · rw [List.getElem?_map] at hx
        obtain ⟨b, hb, rfl⟩ := Option.map_eq_some_iff.mp hx
        obtain ⟨e, he, dy, d, hA, _⟩ := Paired.get2 hf hb
        refine et_is (et_test (ev_op (ev_fld (ev_var rfl) ((x2.trans x3) _ _ hA) T.clF T.nF_kind (fF_kind e d)) (ev_var rfl) (rv_eq rfl))) ?_
        rw [dInt]
        unfold fAt
        rw [he]
        show _ = (e.kind == i)
        by_cases h : e.kind = i
        · simp [h]
        · have h' : ¬ (e.kind : Int) = (i : Int) := by omega
          simp [h, h']
      · rw [List.getElem?_map] at hx
        obtain ⟨b, hb, rfl⟩ := Option.map_eq_some_iff.mp hx
        obtain ⟨e, he, dy, d, hA, _⟩ := Paired.get2 hf hb
        unfold lAt
        rw [he]
        exact ev_fld (ev_var rfl) ((x2.trans x3) _ _ hA) T.clF T.nF_length (fF_length e d)
      · rw [List.length_map, hlen, hg] at h3
        have h3' : H3 q = some (.lst (((s.entries.filter fun e => e.kind == i).map fun e => ((e.len : Nat) : Int)).map V.int)) := by
          rw [h3, List.map_map]
          rfl
        have ey : [V.int ((((s.entries.filter fun e => e.kind == i).map fun e => ((e.len : Nat) : Int)).map V.int).length : Int), V.int ((s.entries.filter fun e => e.kind == i).map fun e => ((e.len : Nat) : Int)).sum] = (chunkN s.entries i).map V.int := by
          rw [List.length_map, List.length_map, sum_lens]
          rfl
        refine s_ext (ys := (chunkN s.entries i).map V.int) (x3 _ _ h2) (ev_var rfl) (el_is (el_lst (ea_cons (ev_len (ev_var rfl) (sq_of h3')) (ea_cons (ev_sumL (ev_var rfl) (sq_of h3')) ea_nil)) (by show 2 ≤ 100000; decide)) ey) ?_ fun H4 x4 => ?_
        · rw [List.length_map, List.length_map]
          have hb : ∀ n, ((List.range n).flatMap (chunkN s.entries)).length = 2 * n := fun n => by
            rw [List.length_flatMap]
            have : (List.map (fun a => (chunkN s.entries a).length) (List.range n)) = List.replicate n 2 := by
              apply List.ext_getElem
              · simp
              · intro i h1 h2
                simp [chunkN]
            rw [this]
            simp
            omega
          rw [hb]
          show 2 * i + 2 ≤ sizeLine
          have : (100 : Nat) ≤ sizeLine := by decide
          omega
        · refine ⟨some (.int i), some (.ref q), v4, rfl, (x2.trans (x3.trans x4)).mut hfl, ?_⟩
          rw [upd_same, List.range_succ, List.flatMap_append, List.map_append]
          simp
    · rintro σ' H2 ⟨v2, v3, v4, rfl, x2, h2⟩
      refine s_ret (ev_var rfl) fun H3 x3 => ?_
      exact k fl H3 hfl (x2.trans x3) (x3 _ _ h2)
abbrev s_Kept_counts : Stmt := (inClass (top 24) 7)
theorem sc_Kept_counts : FnScope ["self", "gone"] ["self"] (defScope s_Kept_counts) := ⟨rfl, rfl, rfl, by decide +kernel, rfl, by decide +kernel, by decide +kernel⟩
def sp_Kept_counts (K : PySem.W.Frag) (A : Ad) : Sp := fun vs H Q _ => ∃ (a : Addr) (s : Kst), vs = [.ref a] ∧ KeptAt K A H a s ∧ s.entries.length ≤ 1000 ∧ RetL ((countsN s).map V.int) H Q
theorem ok_Kept_counts {f : Addr} {fd : FuncData} (F : Fun K "counts" "Kept.counts" s_Kept_counts f fd) (T : Txt K mg A) (h_room_of_all : Has P w K mg base CX0 2 "room_of_all" ["entries"] (sp_room_of_all A)) : FnOk P w K mg base CX0 3 f fd ["self"] (sp_Kept_counts K A) := by
  refine F.ok sc_Kept_counts (fun vs H Q E h => ?_) (fun cdv Ar outer s H vs Q E hr h => ?_)
  · obtain ⟨a, s, rfl, _⟩ := h
    rfl
  · obtain ⟨a, s, rfl, ⟨dx, pa, la, ha, hp, hE⟩, hz, k⟩ := h
    obtain ⟨as, hl, hf⟩ := id hE
    have hlen : as.length = s.entries.length := Paired.length hf
    refine ⟨_, (pss_cons (ps_set (i := 1) sc_Kept_counts.nd rfl (Or.inl rfl) (pe_op op_sub (pe_fld (pv 0) rfl) (pe_op op_mul (pe_op op_fdivW (pe_fld (pv 0) rfl) (pe_gi T.c_WRAP rfl)) (pe_gi T.c_WRAP rfl))))
      (pss_one (ps_ret (pe_lst (pa_cons (pe_fld (pv 0) rfl) (pa_cons (pe_fld (pv 0) rfl) (pa_cons (pv 1) (pa_cons (pe_callB call_len_seq (by rfl) T.b_len PySem.boot_len (pa_cons (pe_fld (pv 0) rfl) pa_nil)) (pa_cons (pe_fn h_room_of_all (hr.mono (by decide)) (by rfl) pass0 (pa_cons (pe_fld (pv 0) rfl) pa_nil)) pa_nil))))))))), ?_⟩
    have eg : ∀ (σ : L2.St), σ[0]? = some (some (V.ref a)) → Ev (tFld K (tVar 0) "gone_entries") σ H (.int s.ge) := fun σ hs => ev_fld (ev_var hs) ha T.clK T.nK_gone_entries (kF_gone_entries s pa la)
    refine q_asg (ev_is (ev_op (eg _ rfl) (ev_op (ev_op (eg _ rfl) ev_c (rv_I ⟨by decide, by decide +kernel⟩)) ev_c (rv_I (.inr ⟨by decide, by decide⟩))) rv_I0) (show V.int ((s.ge : Int) - (s.ge : Int) / 4294967296 * 4294967296) = .int ((s.ge % 4294967296 : Nat) : Int) by congr 1; omega)) fun H1 x1 => ?_
    refine s_retL (el_is (el_lst (ea_cons (ev_fld (ev_var rfl) (x1 _ _ ha) T.clK T.nK_kept_frames (kF_kept_frames s pa la)) (ea_cons (ev_fld (ev_var rfl) (x1 _ _ ha) T.clK T.nK_left_frames (kF_left_frames s pa la)) (ea_cons (ev_var rfl) (ea_cons (ev_len (ev_fld (ev_var rfl) (x1 _ _ ha) T.clK T.nK_entries (kF_entries s pa la)) (sq_of (x1 _ _ hl)))
      (ea_cons (ev_call (ea_cons (ev_fld (ev_var rfl) (x1 _ _ ha) T.clK T.nK_entries (kF_entries s pa la)) ea_nil) (sp_room_of_all_v (hE.ex x1) (by omega))) ea_nil))))) (by show 5 ≤ 100000; decide)) ?_) fun p H2 hp2 x2 h2 => k p H2 (fresh_back x1 hp2) (x1.trans x2) h2
    rw [List.length_map, hlen]
    rfl
end
end G
namespace G
open PySem PySem.Spec PyProof.Rows L2 Evl
open Sj55 (Ins)
section
variable {K : PySem.W.Frag} {σ : L2.St} {H H' : Hp} {ta tb te : TE} {D : Ends} {tz : TS}
theorem el_cat1 {l : Addr} {xs ys : List V} (ha : Ev ta σ H (.ref l)) (hl : H l = some (.lst xs)) (hb : EvL tb σ H ys) (hz : xs.length + ys.length ≤ sizeLine) : EvL (tOp rCat ta tb) σ H (xs ++ ys) := fun H1 e Q k =>
  ha H1 e _ fun H2 e2 => hb H2 (e.trans e2) _ fun q H3 _ e3 hq => ⟨l, q, xs, ys, rfl, rfl, ((e.trans e2).trans e3) _ _ hl, hq, hz, fun p hp => k p _ (fresh_back (e2.trans e3) hp) ((e2.trans e3).trans (Ex.new hp)) upd_same⟩
theorem el_cat2 {l : Addr} {xs ys : List V} (ha : EvL ta σ H xs) (hb : Ev tb σ H (.ref l)) (hl : H l = some (.lst ys)) (hz : xs.length + ys.length ≤ sizeLine) : EvL (tOp rCat ta tb) σ H (xs ++ ys) := fun H1 e Q k =>
  ha H1 e _ fun p0 H2 _ e2 h2 => hb H2 (e.trans e2) _ fun H3 e3 => ⟨p0, l, xs, ys, rfl, rfl, e3 _ _ h2, ((e.trans e2).trans e3) _ _ hl, hz, fun p hp => k p _ (fresh_back (e2.trans e3) hp) ((e2.trans e3).trans (Ex.new hp)) upd_same⟩
theorem q_ext {l : Addr} {xs ys : List V} (hl : H l = some (.lst xs)) (ha : Ev ta σ H (.ref l)) (h : EvL te σ H ys) (hz : xs.length + ys.length ≤ sizeLine) (k : ∀ H1, Ex H H1 → tz D σ (upd H1 l (.lst (xs ++ ys)))) :
    tSeq (tDrop (tBM K "list" rExtend ta (tCons te tNil))) tz D σ H := s_ext (D := { D with nx := tz D }) hl ha h hz k
theorem ev_eqInt {a b : Int} (ha : Ev ta σ H (.int a)) (hb : Ev tb σ H (.int b)) : Ev (tOp rEq ta tb) σ H (.bl (decide (a = b))) := ev_is (ev_op ha hb (rv_eq rfl)) (congrArg V.bl (dInt a b))
end
section
variable {P : Program} {w : World} {K : PySem.W.Frag} {mg : Str → Option Value} {base : Heap} {A : Ad}
abbrev s_rest_behind : Stmt := (top 31)
theorem sc_rest_behind : FnScope ["rest", "byte", "found", "turn", "lowest"] ["rest", "byte"] (defScope s_rest_behind) := ⟨rfl, rfl, rfl, by decide +kernel, rfl, by decide +kernel, by decide +kernel⟩
def sp_rest_behind : Sp := fun vs H Q _ => ∃ (c b : Nat), vs = [.int c, .int b] ∧ RetV (.int (Sj55.byteStep c b : Nat)) H Q
theorem ok_rest_behind {f : Addr} {fd : FuncData} (F : Fun K "rest_behind" "rest_behind" s_rest_behind f fd) (T : Txt K mg A) : FnOk P w K mg base CX0 1 f fd ["rest", "byte"] sp_rest_behind := by
  refine F.ok sc_rest_behind (fun vs H Q E h => ?_) (fun cdv Ar outer s H vs Q E hr h => ?_)
  · obtain ⟨c, b, rfl, _⟩ := h
    rfl
  · obtain ⟨c, b, rfl, k⟩ := h
    refine ⟨_, (pss_cons (ps_set (i := 2) sc_rest_behind.nd rfl (Or.inl rfl) (pe_op op_xor (pv 0) (pv 1)))
      (pss_cons (ps_for PassesOwn.never rfl (pi_range1 (by rfl) T.b_range (pa_cons pe_int pa_nil)) (pg_name (i := 3) sc_rest_behind.nd rfl (Or.inl rfl)) (pss_cons (ps_set (i := 4) sc_rest_behind.nd rfl (Or.inl rfl) (pe_op op_and (pv 2) pe_int))
      (pss_cons (ps_set (i := 2) sc_rest_behind.nd rfl (Or.inl rfl) (pe_op op_fdiv (pv 2) pe_int))
      (pss_one (ps_if (pt_cmpR op_eq (pv 4) pe_int (nomark _)) (pss_one (ps_set (i := 2) sc_rest_behind.nd rfl (Or.inl rfl) (pe_op op_xor (pv 2) (pe_gi T.c_DIVISOR rfl)))) pss_nil)))))
      (pss_one (ps_ret (pv 2))))), ?_⟩
    refine q_asg (ev_is (ev_op (ev_var rfl) (ev_var rfl) rv_I0) (congrArg V.int (bxor_nat c b))) fun H1 x1 => ?_
    refine q_forR1 (ea_cons ev_c ea_nil) ⟨by decide, by decide⟩ (fun i σ' H' => ∃ v3 v4, σ' = [some (.int c), some (.int b), some (.int ((List.range i).foldl (fun c _ => Sj55.bitStep c) (Nat.xor c b) : Nat)), v3, v4] ∧ Ex H H')
      (fun H2 x2 => ⟨none, none, rfl, x1.trans x2⟩) ?_ ?_
    · rintro i σ' H2 hi ⟨v3, v4, rfl, x2⟩
      have hs : (List.range (i + 1)).foldl (fun c _ => Sj55.bitStep c) (Nat.xor c b) = Sj55.bitStep ((List.range i).foldl (fun c _ => Sj55.bitStep c) (Nat.xor c b)) := by
        rw [List.range_succ, List.foldl_append]
        rfl
      rw [hs]
      generalize (List.range i).foldl (fun c _ => Sj55.bitStep c) (Nat.xor c b) = z
      refine q_asg (ev_is (ev_op (ev_var rfl) ev_c rv_I0) (show V.int (Builtin.bitAnd (z : Int) 1) = .int (z % 2 : Nat) from congrArg V.int ((band_nat z 1).trans (congrArg _ (land_one z))))) fun H3 x3 => ?_
      refine q_asg (ev_is (ev_op (ev_var rfl) ev_c (rv_I ⟨by decide, by decide⟩)) (show V.int ((z : Int) / 2) = .int (z / 2 : Nat) from rfl)) fun H4 x4 => ?_
      have x24 := (x2.trans x3).trans x4
      refine s_when (et_test (ev_eqInt (ev_var rfl) ev_c)) (fun hb H5 x5 => ?_) (fun hb H5 x5 => ?_)
      · have h1 : z % 2 = 1 := by have := of_decide_eq_true hb; omega
        refine s_asg (ev_is (ev_op (ev_var rfl) ev_c rv_I0) (congrArg V.int (bxor_nat (z / 2) 2197175160))) fun H6 x6 => ?_
        rw [bitStep_eq, if_pos h1]
        exact ⟨some (.int i), some (.int (z % 2 : Nat)), rfl, (x24.trans x5).trans x6⟩
      · have h1 : ¬ z % 2 = 1 := by have := of_decide_eq_false hb; omega
        rw [bitStep_eq, if_neg h1]
        exact ⟨some (.int i), some (.int (z % 2 : Nat)), rfl, x24.trans x5⟩
    · rintro σ' H2 ⟨v3, v4, rfl, x2⟩
      exact s_ret (ev_var rfl) (RetV.at k x2 rfl)
theorem sp_rest_behind_v {H : Hp} (c b : Nat) : SpV sp_rest_behind [.int c, .int b] H (.int (Sj55.byteStep c b : Nat)) := fun H1 x Q q E => ⟨c, b, rfl, q⟩
abbrev s_rest_of : Stmt := (top 32)
theorem sc_rest_of : FnScope ["data", "found", "byte"] ["data"] (defScope s_rest_of) := ⟨rfl, rfl, rfl, by decide +kernel, rfl, by decide +kernel, by decide +kernel⟩
def sp_rest_of (K : PySem.W.Frag) : Sp := fun vs H Q _ => ∃ (d : Addr) (l : List Nat), vs = [.ref d] ∧ SqL K H d (ivs l) ∧ RetV (.int (Sj55.rest l : Nat)) H Q
theorem ok_rest_of {f : Addr} {fd : FuncData} (F : Fun K "rest_of" "rest_of" s_rest_of f fd) (T : Txt K mg A) (h_rest_behind : Has P w K mg base CX0 1 "rest_behind" ["rest", "byte"] sp_rest_behind) : FnOk P w K mg base CX0 2 f fd ["data"] (sp_rest_of K) := by
  refine F.ok sc_rest_of (fun vs H Q E h => ?_) (fun cdv Ar outer s H vs Q E hr h => ?_)
  · obtain ⟨d, l, rfl, _⟩ := h
    rfl
  · obtain ⟨d, l, rfl, hd, k⟩ := h
    refine ⟨_, (pss_cons (ps_set (i := 1) sc_rest_of.nd rfl (Or.inl rfl) (pe_gi T.c_ALL_ONES rfl))
      (pss_cons (ps_for PassesOwn.never rfl (pi_list (pv 0)) (pg_name (i := 2) sc_rest_of.nd rfl (Or.inl rfl)) (pss_one (ps_set (i := 1) sc_rest_of.nd rfl (Or.inl rfl) (pe_fn h_rest_behind (hr.mono (by decide)) (by rfl) pass0 (pa_cons (pv 1) (pa_cons (pv 2) pa_nil))))))
      (pss_one (ps_ret (pe_op op_xor (pv 1) (pe_gi T.c_ALL_ONES rfl)))))), ?_⟩
    refine q_asg ev_c fun H1 x1 => ?_
    refine q_forLn (ev_var rfl) (ex_l x1 hd) (fun i σ' H' => ∃ v2, σ' = [some (.ref d), some (.int ((l.take i).foldl Sj55.byteStep 4294967295 : Nat)), v2] ∧ Ex H H')
      (fun H2 x2 => ⟨none, rfl, x1.trans x2⟩) (fun i σ' H' _ ⟨_, _, x⟩ => ex_l x hd) ?_ ?_
    · rintro i x σ' H2 hx ⟨v2, rfl, x2⟩
      rw [ivs_at] at hx
      obtain ⟨b, hb, rfl⟩ := Option.map_eq_some_iff.mp hx
      refine s_asg (ev_call (ea_cons (ev_var rfl) (ea_cons (ev_var rfl) ea_nil)) (sp_rest_behind_v _ b)) fun H3 x3 => ?_
      refine ⟨some (.int b), ?_, x2.trans x3⟩
      rw [List.take_succ, hb, List.foldl_append]
      rfl
    · rintro σ' H2 ⟨v2, rfl, x2⟩
      rw [ivs_len, List.take_length]
      exact s_ret (ev_is (ev_op (ev_var rfl) ev_c rv_I0) (congrArg V.int (bxor_nat _ 4294967295))) (RetV.at k x2 rfl)
theorem sp_rest_of_v {H : Hp} {d : Addr} {l : List Nat} (h : SqL K H d (ivs l)) : SpV (sp_rest_of K) [.ref d] H (.int (Sj55.rest l : Nat)) := fun H1 x Q q E => ⟨d, l, rfl, ex_l x h, q⟩
abbrev s_number_bytes : Stmt := (top 33)
theorem sc_number_bytes : FnScope ["number", "found", "left"] ["number"] (defScope s_number_bytes) := ⟨rfl, rfl, rfl, by decide +kernel, rfl, by decide +kernel, by decide +kernel⟩
def sp_number_bytes : Sp := fun vs H Q _ => ∃ n : Nat, vs = [.int n] ∧ n < 128 ^ 6 ∧ RetL (ivs (Sj55.num n)) H Q
theorem ok_number_bytes {f : Addr} {fd : FuncData} (F : Fun K "number_bytes" "number_bytes" s_number_bytes f fd) (T : Txt K mg A) : FnOk P w K mg base CX0 1 f fd ["number"] sp_number_bytes := by
  refine F.ok sc_number_bytes (fun vs H Q E h => ?_) (fun cdv Ar outer s H vs Q E hr h => ?_)
  · obtain ⟨n, rfl, _⟩ := h
    rfl
  · obtain ⟨n, rfl, hn, k⟩ := h
    refine ⟨_, (pss_cons (ps_set (i := 1) sc_number_bytes.nd rfl (Or.inl rfl) (pe_lst pa_nil))
      (pss_cons (ps_set (i := 2) sc_number_bytes.nd rfl (Or.inl rfl) (pv 0))
      (pss_cons (ps_while PassesOwn.never (pt_cmpR op_ge (pv 2) (pe_gi T.c_MORE rfl) (nomark _)) (pss_cons (ps_expr (pe_bm PySem.F.plainAttrs_list PySem.F.slot_list_append PySem.F.type_list_append mt_append (pv 1) (pa_cons (pe_op op_add (pe_op op_sub (pv 2) (pe_op op_mul (pe_op op_fdiv (pv 2) (pe_gi T.c_MORE rfl)) (pe_gi T.c_MORE rfl))) (pe_gi T.c_MORE rfl)) pa_nil)))
      (pss_one (ps_set (i := 2) sc_number_bytes.nd rfl (Or.inl rfl) (pe_op op_fdiv (pv 2) (pe_gi T.c_MORE rfl))))))
      (pss_one (ps_ret (pe_op op_cat (pv 1) (pe_lst (pa_cons (pv 2) pa_nil)))))))), ?_⟩
    refine q_asgL (el_lst ea_nil (Nat.zero_le _)) fun fl H1 hfl x1 h1 => ?_
    refine q_asg (ev_var rfl) fun H2 x2 => ?_
    refine q_while (fun m σ' H' => ∃ (l : List Nat) (left fu : Nat), m = left ∧ σ' = [some (.int n), some (.ref fl), some (.int left)] ∧ Ex H H' ∧ H' fl = some (.lst (ivs l)) ∧ l ++ Sj55.seven fu left = Sj55.num n ∧ left < 128 ^ fu ∧ 1 ≤ fu) n
      ⟨[], n, 6, rfl, rfl, x1.trans x2, x2 _ _ h1, rfl, hn, by decide⟩ ?_
    rintro m σ' H3 ⟨l, left, fu, rfl, rfl, x3, h3, hs, hlt, hfu⟩
    have hll : l.length ≤ 6 := by
      have := congrArg List.length hs
      rw [List.length_append] at this
      have h6 := seven_len 6 n
      unfold Sj55.num at this
      omega
    refine ⟨_, et_test (ev_op (ev_var rfl) ev_c rv_I0), fun hb H4 x4 => ?_, fun hb H4 x4 => ?_⟩
    · have hge : ¬ m < 128 := by have := of_decide_eq_true hb; omega
      have hfu2 : ∃ f2, fu = f2 + 1 ∧ 1 ≤ f2 := by
        rcases fu with _ | _ | f2
        · omega
        · exact absurd hlt (by omega)
        · exact ⟨f2 + 1, rfl, by omega⟩
      obtain ⟨f2, rfl, hf2⟩ := hfu2
      refine ⟨fun σ2 H2 => ∃ m', m' < m ∧ ∃ (l : List Nat) (left fu : Nat), m' = left ∧ σ2 = [some (.int n), some (.ref fl), some (.int left)] ∧ Ex H H2 ∧ H2 fl = some (.lst (ivs l)) ∧ l ++ Sj55.seven fu left = Sj55.num n ∧ left < 128 ^ fu ∧ 1 ≤ fu, fun _ _ h => h, ?_⟩
      refine q_app (v := .int (128 + m % 128 : Nat)) (x4 _ _ h3) (ev_var rfl) (ev_is (ev_op (ev_op (ev_var rfl) (ev_op (ev_op (ev_var rfl) ev_c (rv_I ⟨by decide, by decide⟩)) ev_c (rv_I (.inr ⟨by decide, by decide⟩))) rv_I0) ev_c rv_I0) (show V.int ((m : Int) - (m : Int) / 128 * 128 + 128) = .int (128 + m % 128 : Nat) by congr 1; omega)) (by rw [ivs_len]; omega) fun H5 x5 => ?_
      refine s_asg (ev_is (ev_op (ev_var rfl) ev_c (rv_I ⟨by decide, by decide⟩)) (show V.int ((m : Int) / 128) = .int (m / 128 : Nat) from rfl)) fun H6 x6 => ?_
      refine ⟨m / 128, by omega, l ++ [128 + m % 128], m / 128, f2, rfl, rfl, Ex.trans ((x3.trans (x4.trans x5)).mut hfl) x6, ?_, ?_, ?_, hf2⟩
      · rw [x6 _ _ upd_same, ivs_app]
        rfl
      · rw [← hs, seven_high hge, List.append_assoc]
        rfl
      · rw [Nat.pow_succ] at hlt
        exact Nat.div_lt_of_lt_mul (by rw [Nat.mul_comm]; exact hlt)
    · have hlt' : m < 128 := by have := of_decide_eq_false hb; omega
      refine s_retL (el_is (el_cat1 (ev_var rfl) (x4 _ _ h3) (el_lst (ea_cons (ev_var rfl) ea_nil) (by show 1 ≤ 100000; decide)) ?_) ?_) fun p H5 hp x5 h5 => k p H5 (fresh_back (x3.trans x4) hp) ((x3.trans x4).trans x5) h5
      · rw [ivs_len]
        show l.length + 1 ≤ sizeLine
        have : (100 : Nat) ≤ sizeLine := by decide
        omega
      · rw [← hs, seven_low hfu hlt', ivs_app]
        rfl
theorem sp_number_bytes_v {H : Hp} (n : Nat) (hn : n < 128 ^ 6) : SpL sp_number_bytes [.int n] H (ivs (Sj55.num n)) := fun H1 x Q q E => ⟨n, rfl, hn, q⟩
abbrev s_rest_bytes : Stmt := (top 34)
theorem sc_rest_bytes : FnScope ["data", "rest", "place"] ["data"] (defScope s_rest_bytes) := ⟨rfl, rfl, rfl, by decide +kernel, rfl, by decide +kernel, by decide +kernel⟩
def sp_rest_bytes (K : PySem.W.Frag) : Sp := fun vs H Q _ => ∃ (d : Addr) (l : List Nat), vs = [.ref d] ∧ SqL K H d (ivs l) ∧ RetL (ivs (Sj55.low 4 (Sj55.rest l))) H Q
theorem ok_rest_bytes {f : Addr} {fd : FuncData} (F : Fun K "rest_bytes" "rest_bytes" s_rest_bytes f fd) (T : Txt K mg A) (h_rest_of : Has P w K mg base CX0 2 "rest_of" ["data"] (sp_rest_of K)) : FnOk P w K mg base CX0 3 f fd ["data"] (sp_rest_bytes K) := by
  refine F.ok sc_rest_bytes (fun vs H Q E h => ?_) (fun cdv Ar outer s H vs Q E hr h => ?_)
  · obtain ⟨d, l, rfl, _⟩ := h
    rfl
  · obtain ⟨d, l, rfl, hd, k⟩ := h
    refine ⟨_, (pss_cons (ps_set (i := 1) sc_rest_bytes.nd rfl (Or.inr rfl) (pe_fn h_rest_of (hr.mono (by decide)) (by rfl) pass0 (pa_cons (pv 0) pa_nil)))
      (pss_one (ps_ret (pe_lc (own := [("place", 2)]) (g := gName 2) (tt := tYes) rfl sc_rest_bytes.nd (pi_range1 (by rfl) T.b_range (pa_cons (pe_gi T.c_REST_BYTES rfl) pa_nil)) (blkOk_by (N := ["data", "rest", "place"]) (sc := defScope s_rest_bytes) (by decide +kernel)) (fun _ _ _ _ _ => pg_name (i := 2) sc_rest_bytes.nd rfl (Or.inl rfl)) (fun _ _ _ _ _ => pts_nil) (fun _ _ _ _ _ => (pe_op op_and (pe_op op_shr (pv 1) (pe_op op_mul pe_int (pv 2))) pe_int)))))), ?_⟩
    refine q_asg (ev_call (ea_cons (ev_var rfl) ea_nil) (sp_rest_of_v hd)) fun H1 x1 => ?_
    generalize Sj55.rest l = v at *
    refine s_retL (el_is (el_lcR1 (fun _ => true) (fun i => .int (v / 2 ^ (8 * i) % 256 : Nat)) (ea_cons ev_c ea_nil) ⟨by decide, by decide⟩ (fun _ => rfl) (fun i H2 _ _ => fun H3 _ _ q => q H3 (Ex.refl H3)) (fun i H2 x2 hi _ => ?_)) ?_) fun p H2 hp x2 h2 => k p H2 (fresh_back x1 hp) (x1.trans x2) h2
    · refine ev_is (ev_op (ev_op (ev_var rfl) (ev_op ev_c (ev_var rfl) (rv_I (.inl ⟨by decide, by decide⟩))) (rv_I (by show (0 : Int) ≤ _; omega))) ev_c rv_I0) ?_
      have e1 : ((8 : Int) * (i : Int)).toNat = 8 * i := by omega
      have e2 : ((v : Int) / 2 ^ (8 * i)) = ((v / 2 ^ (8 * i) : Nat) : Int) := by exact_mod_cast rfl
      rw [e1, e2]
      exact congrArg V.int ((band_nat _ 255).trans (congrArg _ (land_255 _)))
    · rw [given_all, low_four]
      unfold ivs
      rw [List.map_map]
      rfl
theorem sp_rest_bytes_v {H : Hp} {d : Addr} {l : List Nat} (h : SqL K H d (ivs l)) : SpL (sp_rest_bytes K) [.ref d] H (ivs (Sj55.low 4 (Sj55.rest l))) := fun H1 x Q q E => ⟨d, l, rfl, ex_l x h, q⟩
abbrev s_entry_bytes : Stmt := (top 35)
theorem sc_entry_bytes : FnScope ["entry", "time", "found"] ["entry", "time"] (defScope s_entry_bytes) := ⟨rfl, rfl, rfl, by decide +kernel, rfl, by decide +kernel, by decide +kernel⟩
def sp_entry_bytes (A : Ad) : Sp := fun vs H Q _ => ∃ (a : Addr) (e : Sj55.Entry) (t : Nat), vs = [.ref a, .int t] ∧ FrameAt A H a e ∧ EOk e ∧ t ≤ e.time ∧ RetL (ivs (entB t e)) H Q
theorem ok_entry_bytes {f : Addr} {fd : FuncData} (F : Fun K "entry_bytes" "entry_bytes" s_entry_bytes f fd) (T : Txt K mg A) (h_number_bytes : Has P w K mg base CX0 1 "number_bytes" ["number"] sp_number_bytes) : FnOk P w K mg base CX0 2 f fd ["entry", "time"] (sp_entry_bytes A) := by
  refine F.ok sc_entry_bytes (fun vs H Q E h => ?_) (fun cdv Ar outer s H vs Q E hr h => ?_)
  · obtain ⟨a, e, t, rfl, _⟩ := h
    rfl
  · obtain ⟨a, e, t, rfl, ⟨dx, d, ha, hd⟩, hk, hle, k⟩ := h
    have big : ∀ n : Nat, n < 2147483648 → n < 128 ^ 6 := fun n h => Nat.lt_of_lt_of_le h (by decide)
    have ht := hk.time
    have hl := hk.len
    have hkl := hk.kept
    have hz : ∀ n : Nat, n ≤ 10000 → n ≤ sizeLine := fun n h => Nat.le_trans h (by decide)
    have l1 := seven_len 6 (e.time - t)
    have l2 := seven_len 6 e.len
    have l3 := seven_len 6 e.kept.length
    refine ⟨_, (pss_cons (ps_set (i := 2) sc_entry_bytes.nd rfl (Or.inl rfl) (pe_op op_cat (pe_fn h_number_bytes (hr.mono (by decide)) (by rfl) pass0 (pa_cons (pe_op op_sub (pe_fld (pv 0) rfl) (pv 1)) pa_nil)) (pe_lst (pa_cons (pe_fld (pv 0) rfl) (pa_cons (pe_fld (pv 0) rfl) pa_nil)))))
      (pss_one (ps_ret (pe_op op_cat (pe_op op_cat (pe_op op_cat (pv 2) (pe_fn h_number_bytes (hr.mono (by decide)) (by rfl) pass0 (pa_cons (pe_fld (pv 0) rfl) pa_nil))) (pe_fn h_number_bytes (hr.mono (by decide)) (by rfl) pass0 (pa_cons (pe_callB call_len_seq (by rfl) T.b_len PySem.boot_len (pa_cons (pe_fld (pv 0) rfl) pa_nil)) pa_nil))) (pe_callTy (T := "list") call_list_of (by rfl) T.b_list (by decide +kernel) (pa_cons (pe_fld (pv 0) rfl) pa_nil)))))), ?_⟩
    refine q_asgL (el_cat (el_call (ea_cons (ev_is (ev_op (ev_fld (ev_var rfl) ha T.clF T.nF_time (fF_time e d)) (ev_var rfl) rv_I0) (show V.int ((e.time : Int) - (t : Int)) = .int (e.time - t : Nat) by congr 1; omega)) ea_nil) (sp_number_bytes_v (e.time - t) (big _ (by omega)))) (el_lst (ea_cons (ev_fld (ev_var rfl) ha T.clF T.nF_kind (fF_kind e d)) (ea_cons (ev_fld (ev_var rfl) ha T.clF T.nF_queue (fF_queue e d)) ea_nil)) (by show 2 ≤ 100000; decide)) ?_) fun q H1 hq x1 h1 => ?_
    · rw [ivs_len]
      exact hz _ (by unfold Sj55.num; show _ + 2 ≤ 10000; omega)
    refine s_retL (el_is (el_cat (el_cat (el_cat1 (ev_var rfl) h1 (el_call (ea_cons (ev_fld (ev_var rfl) (x1 _ _ ha) T.clF T.nF_length (fF_length e d)) ea_nil) (sp_number_bytes_v e.len (big _ (by omega)))) ?_) (el_call (ea_cons (ev_is (ev_len (ev_fld (ev_var rfl) (x1 _ _ ha) T.clF T.nF_data (fF_data e d)) (sq_of (x1 _ _ hd))) (show V.int ((ivs e.kept).length : Int) = .int (e.kept.length : Nat) by rw [ivs_len])) ea_nil) (sp_number_bytes_v e.kept.length (big _ (by omega)))) ?_) (el_list (ev_fld (ev_var rfl) (x1 _ _ ha) T.clF T.nF_data (fF_data e d)) (sq_of (x1 _ _ hd))) ?_) ?_) fun p H2 hp x2 h2 => k p H2 (fresh_back x1 hp) (x1.trans x2) h2
    · simp only [List.length_append, ivs_len]
      exact hz _ (by unfold Sj55.num; show _ + 2 + _ ≤ 10000; omega)
    · simp only [List.length_append, ivs_len]
      exact hz _ (by unfold Sj55.num; show _ + 2 + _ + _ ≤ 10000; omega)
    · simp only [List.length_append, ivs_len]
      exact hz _ (by unfold Sj55.num; show _ + 2 + _ + _ + _ ≤ 10000; omega)
    · unfold entB
      rw [ivs_app, ivs_app, ivs_app, ivs_app]
      rfl
theorem sp_entry_bytes_v {H : Hp} {a : Addr} {e : Sj55.Entry} {t : Nat} (h : FrameAt A H a e) (hk : EOk e) (hl : t ≤ e.time) : SpL (sp_entry_bytes A) [.ref a, .int t] H (ivs (entB t e)) := fun H1 x Q q E => ⟨a, e, t, rfl, h.ex x, hk, hl, q⟩
abbrev s_written : Stmt := (top 36)
theorem sc_written : FnScope ["entries", "found", "time", "entry"] ["entries"] (defScope s_written) := ⟨rfl, rfl, rfl, by decide +kernel, rfl, by decide +kernel, by decide +kernel⟩
def sp_written (A : Ad) : Sp := fun vs H Q _ => ∃ (l : Addr) (es : List Sj55.Entry), vs = [.ref l] ∧ EntriesAt A H l es ∧ es.length ≤ 1000 ∧ (∀ e ∈ es, EOk e) ∧ Sorted es ∧ RetL (ivs (outB es)) H Q
theorem ok_written {f : Addr} {fd : FuncData} (F : Fun K "written" "written" s_written f fd) (T : Txt K mg A) (h_number_bytes : Has P w K mg base CX0 1 "number_bytes" ["number"] sp_number_bytes) (h_rest_bytes : Has P w K mg base CX0 3 "rest_bytes" ["data"] (sp_rest_bytes K)) (h_entry_bytes : Has P w K mg base CX0 2 "entry_bytes" ["entry", "time"] (sp_entry_bytes A)) :
    FnOk P w K mg base CX0 4 f fd ["entries"] (sp_written A) := by
  refine F.ok sc_written (fun vs H Q E h => ?_) (fun cdv Ar outer s H vs Q E hr h => ?_)
  · obtain ⟨l, es, rfl, _⟩ := h
    rfl
  · obtain ⟨l, es, rfl, ⟨as, hl, hf⟩, hz, hok, hso, k⟩ := h
    have hlen : as.length = es.length := Paired.length hf
    have hsz : ∀ n : Nat, n ≤ 1000000 → n ≤ sizeLine := fun n h => Nat.le_trans h (by decide)
    have l1 := seven_len 6 es.length
    refine ⟨_, (pss_cons (ps_set (i := 1) sc_written.nd rfl (Or.inl rfl) (pe_op op_cat (pe_lst (pa_cons (pe_gi T.c_MARK rfl) pa_nil)) (pe_fn h_number_bytes (hr.mono (by decide)) (by rfl) pass0 (pa_cons (pe_callB call_len_seq (by rfl) T.b_len PySem.boot_len (pa_cons (pv 0) pa_nil)) pa_nil))))
      (pss_cons (ps_set (i := 2) sc_written.nd rfl (Or.inl rfl) pe_int)
      (pss_cons (ps_for PassesOwn.never rfl (pi_list (pv 0)) (pg_name (i := 3) sc_written.nd rfl (Or.inl rfl)) (pss_cons (ps_expr (pe_bm PySem.F.plainAttrs_list PySem.F.slot_list_extend PySem.F.type_list_extend mt_extend (pv 1) (pa_cons (pe_fn h_entry_bytes (hr.mono (by decide)) (by rfl) pass0 (pa_cons (pv 3) (pa_cons (pv 2) pa_nil))) pa_nil)))
      (pss_one (ps_set (i := 2) sc_written.nd rfl (Or.inl rfl) (pe_fld (pv 3) rfl)))))
      (pss_one (ps_ret (pe_op op_cat (pv 1) (pe_fn h_rest_bytes (hr.mono (by decide)) (by rfl) pass0 (pa_cons (pv 1) pa_nil)))))))), ?_⟩
    refine q_asgL (xs := ivs (headB es ++ Sj55.entriesOut 0 (es.take 0))) (el_is (el_cat (el_lst (ea_cons ev_c ea_nil) (by show 1 ≤ 100000; decide)) (el_call (ea_cons (ev_is (ev_len (ev_var rfl) (sq_of hl)) (show V.int ((as.map V.ref).length : Int) = .int (es.length : Nat) by rw [List.length_map, hlen])) ea_nil) (sp_number_bytes_v es.length (Nat.lt_of_le_of_lt hz (by decide)))) ?_) ?_) fun fl H1 hfl x1 h1 => ?_
    · rw [ivs_len]
      exact hsz _ (by unfold Sj55.num; show 1 + _ ≤ 1000000; omega)
    · show _ = ivs (headB es ++ [])
      rw [List.append_nil, headB, ivs_app]
      rfl
    refine q_asg ev_c fun H2 x2 => ?_
    have x12 := x1.trans x2
    refine q_forLn (ev_var rfl) (sq_of (x12 _ _ hl)) (fun i σ' H' => ∃ v3, σ' = [some (.ref l), some (.ref fl), some (.int (timeAt 0 es i : Nat)), v3] ∧ Ex H H' ∧ H' fl = some (.lst (ivs (headB es ++ Sj55.entriesOut 0 (es.take i)))))
      (fun H3 x3 => ⟨none, rfl, x12.trans x3, (x2.trans x3) _ _ h1⟩) (fun i σ' H' _ ⟨_, _, x, _⟩ => sq_of (x _ _ hl)) ?_ ?_
    · rintro i x σ' H3 hx ⟨v3, rfl, x3, h3⟩
      rw [List.getElem?_map] at hx
      obtain ⟨b, hb, rfl⟩ := Option.map_eq_some_iff.mp hx
      obtain ⟨e, he, hF⟩ := Paired.get2 hf hb
      have hi : i < es.length := (List.getElem?_eq_some_iff.mp he).1
      have hmem : e ∈ es := List.mem_of_getElem? he
      have hb1 := entB_len (t := timeAt 0 es i) (hok e hmem)
      have hb2 := entriesOut_len (es.take i) 0 fun x hx => hok x (List.mem_of_mem_take hx)
      rw [List.length_take] at hb2
      refine q_ext h3 (ev_var rfl) (el_call (ea_cons (ev_var rfl) (ea_cons (ev_var rfl) ea_nil)) (sp_entry_bytes_v (hF.ex x3) (hok e hmem) (timeAt_le hso he))) ?_ fun H4 x4 => ?_
      · rw [ivs_len, ivs_len, List.length_append]
        refine hsz _ ?_
        have : (headB es).length ≤ 10 := by
          unfold headB Sj55.num
          rw [List.length_append]
          show 1 + _ ≤ 10
          omega
        omega
      · obtain ⟨dy, d, hA, hd⟩ := hF
        have nb : b ≠ fl := fun z => by
          rw [z, hfl] at hA
          cases hA
        refine s_asg (ev_fld (ev_var rfl) (show upd H4 fl _ b = some _ by rw [upd_ne nb]; exact x4 _ _ (x3 _ _ hA)) T.clF T.nF_time (fF_time e d)) fun H5 x5 => ?_
        refine ⟨some (.ref b), ?_, Ex.trans ((x3.trans x4).mut hfl) x5, ?_⟩
        · rw [timeAt_succ he]
          rfl
        · rw [x5 _ _ upd_same, entriesOut_more es 0 i e he, ← ivs_app, List.append_assoc]
    · rintro σ' H3 ⟨v3, rfl, x3, h3⟩
      rw [List.length_map, hlen, List.take_length] at h3
      refine s_retL (el_is (el_cat1 (ev_var rfl) h3 (el_call (ea_cons (ev_var rfl) ea_nil) (sp_rest_bytes_v (sq_of h3))) ?_) ?_) fun p H4 hp x4 h4 => k p H4 (fresh_back x3 hp) (x3.trans x4) h4
      · rw [ivs_len, ivs_len, List.length_append]
        refine hsz _ ?_
        have hb2 := entriesOut_len es 0 hok
        have : (headB es).length ≤ 10 := by
          unfold headB Sj55.num
          rw [List.length_append]
          show 1 + _ ≤ 10
          omega
        show _ + 4 ≤ 1000000
        omega
      · rw [← ivs_app]
        rfl
theorem sp_written_v {H : Hp} {l : Addr} {es : List Sj55.Entry} (h : EntriesAt A H l es) (hz : es.length ≤ 1000) (hok : ∀ e ∈ es, EOk e) (hs : Sorted es) : SpL (sp_written A) [.ref l] H (ivs (outB es)) := fun H1 x Q q E => ⟨l, es, rfl, h.ex x, hz, hok, hs, q⟩
end
end G
namespace G
open PySem PySem.Spec PyProof.Rows L2 Evl
open Sj55 (Ins)

/-! ### faults -/
def xdF (f : Nat) : HO := .xd [(("fault" : Str), .int (f : Nat))]
/-- a fault is let out: all that was tracked, but what r is, stands -/
def FltB (A : Ad) (r : Addr) (f : Nat) (H : Hp) (E : XK) : Prop := ∀ H' d, ExB r H H' → H' d = some (xdF f) → E (.ref A.cX) (some d) H'
def Flt (A : Ad) (f : Nat) (H : Hp) (E : XK) : Prop := ∀ H' d, Ex H H' → H' d = some (xdF f) → E (.ref A.cX) (some d) H'
theorem FltB.flt {A : Ad} {r : Addr} {f : Nat} {H : Hp} {E : XK} (h : FltB A r f H E) : Flt A f H E := fun H' d x hd => h H' d (ExB.of x) hd
theorem FltB.on {A : Ad} {r : Addr} {f : Nat} {H H1 : Hp} {E : XK} (h : FltB A r f H E) (x : ExB r H H1) : FltB A r f H1 E := fun H' d y hd => h H' d (x.trans y) hd
theorem Flt.on {A : Ad} {f : Nat} {H H1 : Hp} {E : XK} (h : Flt A f H E) (x : Ex H H1) : Flt A f H1 E := fun H' d y hd => h H' d (x.trans y) hd
/-- r is new: behind H it may change -/
theorem Flt.fresh {A : Ad} {f : Nat} {r : Addr} {H H1 : Hp} {E : XK} (h : Flt A f H E) (x : Ex H H1) (hr : H r = none) : FltB A r f H1 E := fun H' d y hd => h H' d (fun b o hb => y b o (x b o hb) (ne_of_none hb hr)) hd

section
variable {P : Program} {w : World} {K : PySem.W.Frag} {mg : Str → Option Value} {base : Heap} {A : Ad}
abbrev s_Faulty___init__ : Stmt := (inClass (top 51) 0)
theorem sc_Faulty___init__ : FnScope ["self", "fault"] ["self", "fault"] (defScope s_Faulty___init__) := ⟨rfl, rfl, rfl, by decide +kernel, rfl, by decide +kernel, by decide +kernel⟩
def sp_Faulty_init (A : Ad) : Sp := fun vs H Q _ => ∃ (a : Addr) (f : Nat), vs = [.ref a, .int f] ∧ H a = some (exo a A.cX none) ∧ ∀ dx, H dx = none → dx ≠ a → Q .non (upd (upd H dx (exd dx [(("fault" : Str), .int (f : Nat))])) a (exo a A.cX (some dx)))
theorem ok_Faulty_init {f : Addr} {fd : FuncData} (F : Fun K "__init__" "Faulty.__init__" s_Faulty___init__ f fd) (T : Txt K mg A) : FnOk P w K mg base CX0 1 f fd ["self", "fault"] (sp_Faulty_init A) := by
  refine F.ok sc_Faulty___init__ (fun vs H Q E h => ?_) (fun cdv Ar outer s H vs Q E hr h => ?_)
  · obtain ⟨a, n, rfl, _⟩ := h
    rfl
  · obtain ⟨a, n, rfl, ha, k⟩ := h
    refine ⟨_, (pss_cons (ps_expr (pe_veinit (by rfl) T.b_ValueError T.veI (pa_cons (pv 0) (pa_cons pe_str pa_nil))))
      (pss_one (ps_ost (pv 0) (pv 1)))), ?_⟩
    exact ⟨_, rfl, a, A.cX, _, rfl, (by show 1 ≤ 1000; decide), T.oex, ha, _, rfl, _, rfl, a, A.cX, rfl, T.oex, T.nX_fault, .inl ⟨ha, fun dx hd hne => k dx hd hne⟩⟩
/-- raise Faulty(f) -/
theorem flt_raise {σ : L2.St} {H : Hp} {ta : TA} {f : Nat} {Q : XK} (h : EvA ta σ H [.int f]) (k : ∀ H1 d, Ex H H1 → H1 d = some (xdF f) → Q (.ref A.cX) (some d) H1) : tMkO A.cX (sp_Faulty_init A) [] ta σ H Q :=
  h H (Ex.refl H) _ fun H1 x1 => ⟨by show 1 ≤ 1000; decide, fun a ha => ⟨a, f, rfl, upd_same, fun dx hdx hne => by
    have hd1 : H1 dx = none := by
      rw [upd_ne hne] at hdx
      exact hdx
    refine ⟨rfl, dx, [(("fault" : Str), .int (f : Nat))], upd_same, ?_, hd1, ?_⟩
    · rw [upd_ne hne, upd_same]
    · refine k _ dx (fun b o hb => ?_) upd_same
      have z := x1 b o hb
      have n1 : b ≠ dx := ne_of_none z hd1
      have n2 : b ≠ a := ne_of_none z ha
      rw [upd_ne n1, del_ne n2, upd_ne n2, upd_ne n1, upd_ne n2]
      exact z⟩⟩
/-! ### Reader -/
def rF (d : Addr) (i : Nat) : List (Str × V) := [("data", .ref d), ("at", .int (i : Nat))]
theorem rF_data (d : Addr) (i : Nat) : (rF d i).lookup ("data" : Str) = some (.ref d) := lk_here
theorem rF_at (d : Addr) (i : Nat) : (rF d i).lookup ("at" : Str) = some (.int (i : Nat)) := (lk_past (by decide +kernel)).trans lk_here
theorem rF_no (d : Addr) (i : Nat) {m : Str} (h1 : (m == ("data" : Str)) = false) (h2 : (m == ("at" : Str)) = false) : (rF d i).lookup m = none := (lk_past h1).trans ((lk_past h2).trans rfl)
theorem rF_put (d : Addr) (i j : Nat) : putF "at" (.int (j : Nat)) (rF d i) = rF d j := (put_past (by decide +kernel)).trans (congrArg _ put_here)
theorem rF_few (d : Addr) (i : Nat) : (rF d i).length < 1000 := by show 2 < 1000; decide
def ReaderAt (A : Ad) (H : Hp) (a : Addr) (data : List Nat) (i : Nat) : Prop := ∃ dx d, H a = some (.ins A.cR dx (rF d i)) ∧ H d = some (.lst (ivs data))
theorem ReaderAt.ex {H H' : Hp} {a : Addr} {data : List Nat} {i : Nat} (x : Ex H H') (h : ReaderAt A H a data i) : ReaderAt A H' a data i := by
  obtain ⟨dx, d, h1, h2⟩ := h
  exact ⟨dx, d, x _ _ h1, x _ _ h2⟩
abbrev s_Reader___init__ : Stmt := (inClass (top 52) 0)
theorem sc_Reader___init__ : FnScope ["self", "data"] ["self", "data"] (defScope s_Reader___init__) := ⟨rfl, rfl, rfl, by decide +kernel, rfl, by decide +kernel, by decide +kernel⟩
def sp_Reader_init (A : Ad) : Sp := fun vs H Q _ => ∃ (p dx d : Addr), vs = [.ref p, .ref d] ∧ H p = some (.ins A.cR dx []) ∧ Q .non (upd H p (.ins A.cR dx (rF d 0)))
theorem ok_Reader_init {f : Addr} {fd : FuncData} (F : Fun K "__init__" "Reader.__init__" s_Reader___init__ f fd) (T : Txt K mg A) : FnOk P w K mg base CX0 1 f fd ["self", "data"] (sp_Reader_init A) := by
  refine F.ok sc_Reader___init__ (fun vs H Q E h => ?_) (fun cdv Ar outer s H vs Q E hr h => ?_)
  · obtain ⟨p, dx, d, rfl, _⟩ := h
    rfl
  · obtain ⟨p, dx, d, rfl, hp, k⟩ := h
    refine ⟨_, (pss_cons (ps_fld (pv 0) (pv 1) rfl)
      (pss_one (ps_fld (pv 0) pe_int rfl))), ?_⟩
    refine ⟨_, rfl, _, rfl, p, A.cR, dx, _, rfl, hp, T.clR, T.nR_data, (by show 0 < 1000; decide), ?_⟩
    refine ⟨_, rfl, p, A.cR, dx, _, rfl, upd_same, T.clR, T.nR_at, (by show 1 < 1000; decide), ?_⟩
    have e1 : putF "at" (.int 0) (putF "data" (.ref d) []) = rF d 0 := (put_past (by decide +kernel)).trans rfl
    rw [e1, upd_upd]
    exact k
abbrev s_Reader_byte : Stmt := (inClass (top 52) 1)
theorem sc_Reader_byte : FnScope ["self"] ["self"] (defScope s_Reader_byte) := ⟨rfl, rfl, rfl, by decide +kernel, rfl, by decide +kernel, by decide +kernel⟩
def sp_Reader_byte (A : Ad) : Sp := fun vs H Q E => ∃ (a : Addr) (data : List Nat) (i : Nat), vs = [.ref a] ∧ ReaderAt A H a data i ∧ (data[i]? = none → FltB A a 4 H E) ∧
  ∀ b, data[i]? = some b → ∀ H', ExB a H H' → ReaderAt A H' a data (i + 1) → Q (.int (b : Nat)) H'
theorem ok_Reader_byte {f : Addr} {fd : FuncData} (F : Fun K "byte" "Reader.byte" s_Reader_byte f fd) (T : Txt K mg A) (h_Faulty : HasX P w K mg base 1 A.cX "Faulty" ["self", "fault"] (sp_Faulty_init A)) : FnOk P w K mg base (L2.CX P w) 3 f fd ["self"] (sp_Reader_byte A) := by
  refine F.okX sc_Reader_byte (fun vs H Q E h => ?_) (fun cdv Ar outer s H vs Q E hr h => ?_)
  · obtain ⟨a, data, i, rfl, _⟩ := h
    rfl
  · obtain ⟨a, data, i, rfl, ⟨dx, d, ha, hd⟩, kf, k⟩ := h
    refine ⟨_, (pss_cons (ps_if (pt_cmpR op_ge (pe_fld (pv 0) rfl) (pe_callB call_len_seq (by rfl) T.b_len PySem.boot_len (pa_cons (pe_fld (pv 0) rfl) pa_nil)) (nomark _)) (pss_one (ps_raise rfl (takes_of rfl rfl rfl rfl) (pmk_flt h_Faulty (hr.mono (by decide)) (by rfl) (pa_cons (pe_gi T.c_TOO_SOON rfl) pa_nil)))) pss_nil)
      (pss_cons (ps_fld (pv 0) (pe_op op_add (pe_fld (pv 0) rfl) pe_int) rfl)
      (pss_one (ps_ret (pe_ix ix_list (pe_fld (pv 0) rfl) (pe_op op_sub (pe_fld (pv 0) rfl) pe_int) (fun _ _ => rfl)))))), ?_⟩
    refine q_when (et_test (ev_op (ev_fld (ev_var rfl) ha T.clR T.nR_at (rF_at d i)) (ev_len (ev_fld (ev_var rfl) ha T.clR T.nR_data (rF_data d i)) (sq_of hd)) rv_I0)) (fun hb H1 x1 => ?_) (fun hb H1 x1 => ?_)
    · have hge : data.length ≤ i := by have := of_decide_eq_true hb; rw [ivs_len] at this; omega
      exact flt_raise (f := 4) (ea_cons ev_c ea_nil) fun H2 e x2 h2 => kf (List.getElem?_eq_none hge) H2 e (ExB.of (x1.trans x2)) h2
    · have hlt : i < data.length := by have := of_decide_eq_false hb; rw [ivs_len] at this; omega
      refine q_fld (y := .int (i + 1 : Nat)) (ev_op (ev_fld (ev_var rfl) (x1 _ _ ha) T.clR T.nR_at (rF_at d i)) ev_c rv_I0) (ev_var rfl) (x1 _ _ ha) T.clR T.nR_at (rF_few d i) fun H2 x2 => ?_
      rw [rF_put]
      have nd : d ≠ a := ne_of hd ha (by intro z; cases z)
      have x12 := x1.trans x2
      have hd2 : upd H2 a (.ins A.cR dx (rF d (i + 1))) d = some (.lst (ivs data)) := by
        rw [upd_ne nd]
        exact x12 _ _ hd
      refine s_ret (ev_op (ev_fld (ev_var rfl) upd_same T.clR T.nR_data (rF_data d (i + 1))) (ev_is (ev_op (ev_fld (ev_var rfl) upd_same T.clR T.nR_at (rF_at d (i + 1))) ev_c rv_I0) (show V.int (((i + 1 : Nat) : Int) - 1) = .int (i : Nat) by congr 1; omega)) (rv_ixL (sq_of hd2) (atI_nat (v := .int (data[i] : Nat)) ?_))) fun H3 x3 => ?_
      · rw [ivs_at, List.getElem?_eq_getElem hlt]
        rfl
      · exact k _ (List.getElem?_eq_getElem hlt) H3 ((ExB.of x12).upd.ex x3) (ReaderAt.ex x3 ⟨dx, d, upd_same, hd2⟩)
abbrev s_Reader_number_end : Stmt := (inClass (top 52) 2)
theorem sc_Reader_number_end : FnScope ["self", "at"] ["self"] (defScope s_Reader_number_end) := ⟨rfl, rfl, rfl, by decide +kernel, rfl, by decide +kernel, by decide +kernel⟩
def sp_Reader_number_end (A : Ad) : Sp := fun vs H Q E => ∃ (a : Addr) (data : List Nat) (i : Nat), vs = [.ref a] ∧ ReaderAt A H a data i ∧ i ≤ data.length ∧ data.length ≤ 10000 ∧ (findEnd 5 (data.drop i) = none → Flt A 2 H E) ∧
  ∀ k, findEnd 5 (data.drop i) = some k → RetV (.int (i + k : Nat)) H Q
theorem ok_Reader_number_end {f : Addr} {fd : FuncData} (F : Fun K "number_end" "Reader.number_end" s_Reader_number_end f fd) (T : Txt K mg A) (h_Faulty : HasX P w K mg base 1 A.cX "Faulty" ["self", "fault"] (sp_Faulty_init A)) : FnOk P w K mg base (L2.CX P w) 3 f fd ["self"] (sp_Reader_number_end A) := by
  refine F.okX sc_Reader_number_end (fun vs H Q E h => ?_) (fun cdv Ar outer s H vs Q E hr h => ?_)
  · obtain ⟨a, data, i, rfl, _⟩ := h
    rfl
  · obtain ⟨a, data, i, rfl, ⟨dx, d, ha, hd⟩, hi, h4, kf, k⟩ := h
    have hdl : (data.drop i).length = data.length - i := List.length_drop
    refine ⟨_, (pss_cons (ps_for (passes_of rfl) rfl (pi_range2 (by rfl) T.b_range (pa_cons (pe_fld (pv 0) rfl) (pa_cons (pe_callB (call_min2 rfl) (by rfl) T.b_min (by decide +kernel) (pa_cons (pe_op op_add (pe_fld (pv 0) rfl) (pe_gi T.c_MOST_NUMBER_BYTES rfl)) (pa_cons (pe_callB call_len_seq (by rfl) T.b_len PySem.boot_len (pa_cons (pe_fld (pv 0) rfl) pa_nil)) pa_nil))) pa_nil))) (pg_name (i := 1) sc_Reader_number_end.nd rfl (Or.inl rfl)) (pss_one (ps_if (pt_cmpR op_lt (pe_ix ix_list (pe_fld (pv 0) rfl) (pv 1) (fun _ _ => rfl)) (pe_gi T.c_MORE rfl) (nomark _)) (pss_one (ps_ret (pv 1))) pss_nil)))
      (pss_one (ps_raise rfl (takes_of rfl rfl rfl rfl) (pmk_flt h_Faulty (hr.mono (by decide)) (by rfl) (pa_cons (pe_gi T.c_NO_NUMBER rfl) pa_nil))))), ?_⟩
    have emin : (if ((ivs data).length : Int) < (i : Int) + 5 then ((ivs data).length : Int) else (i : Int) + 5) = ((i + min 5 (data.length - i) : Nat) : Int) := by
      rw [ivs_len]
      split <;> omega
    refine q_forR2 (ea_cons (ev_fld (ev_var rfl) ha T.clR T.nR_at (rF_at d i)) (ea_cons (ev_is (ev_min2 (ev_op (ev_fld (ev_var rfl) ha T.clR T.nR_at (rF_at d i)) ev_c rv_I0) (ev_len (ev_fld (ev_var rfl) ha T.clR T.nR_data (rF_data d i)) (sq_of hd))) (congrArg V.int emin)) ea_nil)) (by omega)
      (fun j σ' H' => ∃ v1, σ' = [some (.ref a), v1] ∧ Ex H H' ∧ j ≤ 5 ∧ findEnd 5 (data.drop i) = (findEnd (5 - j) (data.drop (i + j))).map (· + j)) (fun H1 x1 => ⟨none, rfl, x1, by omega, by simp⟩) ?_ ?_
    · rintro j σ' H1 hj ⟨v1, rfl, x1, hj5, hf⟩
      have hlt : i + j < data.length := by omega
      have hj4 : j < 5 := by omega
      have hb : data[i + j]? = some data[i + j] := List.getElem?_eq_getElem hlt
      generalize data[i + j] = b at hb
      have h0 : (data.drop (i + j))[0]? = some b := by simpa using hb
      have e5 : 5 - j = (5 - (j + 1)) + 1 := by omega
      have eij : (i : Int) + (j : Int) = ((i + j : Nat) : Int) := by omega
      refine s_when (et_test (ev_op (ev_op (ev_fld (ev_var rfl) (x1 _ _ ha) T.clR T.nR_data (rF_data d i)) (ev_is (ev_var rfl) (congrArg V.int eij)) (rv_ixL (sq_of (x1 _ _ hd)) (atI_nat (v := .int (b : Nat)) (by rw [ivs_at, hb]; rfl)))) ev_c rv_I0)) (fun hb2 H2 x2 => ?_) (fun hb2 H2 x2 => ?_)
      · have hlt2 : b < 128 := by have := of_decide_eq_true hb2; omega
        rw [e5, findEnd_here h0 hlt2] at hf
        refine s_ret (ev_var rfl) fun H3 x3 => ?_
        have z := k (0 + j) hf H3 ((x1.trans x2).trans x3)
        rw [Nat.zero_add, ← eij] at z
        exact z
      · have hge : ¬ b < 128 := by have := of_decide_eq_false hb2; omega
        refine ⟨some (.int ((i : Int) + (j : Int))), rfl, x1.trans x2, by omega, ?_⟩
        rw [hf, e5, findEnd_on h0 hge, Option.map_map, List.drop_drop]
        congr 1
        funext z
        show z + 1 + j = z + (j + 1)
        omega
    · rintro σ' H1 ⟨v1, rfl, x1, hj5, hf⟩
      have ej : (((i + min 5 (data.length - i) : Nat) : Int) - (i : Int)).toNat = min 5 (data.length - i) := by omega
      rw [ej] at hf
      have hnone : findEnd 5 (data.drop i) = none := by
        rw [hf]
        by_cases h5 : 5 ≤ data.length - i
        · rw [Nat.min_eq_left h5]
          rfl
        · rw [Nat.min_eq_right (by omega)]
          have : data.drop (i + (data.length - i)) = [] := List.drop_of_length_le (by omega)
          rw [this, findEnd_nil]
          rfl
      exact flt_raise (f := 2) (ea_cons ev_c ea_nil) fun H2 e x2 h2 => kf hnone H2 e (x1.trans x2) h2
end
end G
namespace G
open PySem PySem.Spec PyProof.Rows L2 Evl
open Sj55 (Ins)
section
variable {K : PySem.W.Frag} {σ : L2.St} {H H' : Hp} {ta tb te : TE} {tA : TA} {D : Ends} {tz tu : TS}
/-- x = o.m(..), m may raise -/
theorem q_asgM {C a dx : Addr} {m : Str} {sp : Sp} {E : XK} {fs : List (Str × V)} {vs : List V} {i : Nat} (hv : Ev ta σ H (.ref a)) (ho : H a = some (.ins C dx fs)) (hn : fs.lookup m = none) (hA : EvA tA σ H vs)
    (hs : ∀ H1, Ex H H1 → sp (.ref a :: (vs ++ [])) H1 (fun v H2 => tz D (σ.set i (some v)) H2) E) : tSeq (tAsg (tMeth C m sp [] E ta tA) (gName i)) tz D σ H :=
  hv H (Ex.refl H) _ fun H1 e1 => ⟨a, dx, fs, rfl, e1 _ _ ho, hn, hA H1 e1 _ fun H2 e2 => hs H2 (e1.trans e2)⟩
/-- x = n + o.m(..) -/
theorem q_asgAddM {C a dx : Addr} {m : Str} {sp : Sp} {E : XK} {fs : List (Str × V)} {vs : List V} {i : Nat} {n : Int} (h1 : Ev tb σ H (.int n)) (hv : Ev ta σ H (.ref a)) (ho : H a = some (.ins C dx fs)) (hn : fs.lookup m = none) (hA : EvA tA σ H vs)
    (hs : ∀ H1, Ex H H1 → sp (.ref a :: (vs ++ [])) H1 (fun v H2 => ∃ j, v = .int j ∧ tz D (σ.set i (some (.int (n + j)))) H2) E) : tSeq (tAsg (tOp (rI0 fun i j => .int (i + j)) tb (tMeth C m sp [] E ta tA)) (gName i)) tz D σ H :=
  h1 H (Ex.refl H) _ fun H0 e0 => hv H0 e0 _ fun H1 e1 => ⟨a, dx, fs, rfl, (e0.trans e1) _ _ ho, hn, hA H1 (e0.trans e1) _ fun H2 e2 => by
    have z := hs H2 ((e0.trans e1).trans e2)
    have eq : (fun v H2 => ∃ j, v = V.int j ∧ tz D (σ.set i (some (.int (n + j)))) H2) = (fun y H2 => (rI0 fun i j => V.int (i + j)) (V.int n) y H2 fun x H1 => gName i x σ H1 (tz D)) := by
      funext v H2
      apply propext
      constructor
      · rintro ⟨j, rfl, q⟩
        exact ⟨n, j, rfl, rfl, q⟩
      · rintro ⟨i', j, e, rfl, q⟩
        cases e
        exact ⟨j, rfl, q⟩
    rw [eq] at z
    exact z⟩
/-- x = f(..), f may raise -/
theorem q_asgF {sp : Sp} {E : XK} {vs : List V} {i : Nat} (hA : EvA tA σ H vs) (hs : ∀ H1, Ex H H1 → sp (vs ++ []) H1 (fun v H2 => tz D (σ.set i (some v)) H2) E) : tSeq (tAsg (tCall sp [] E tA) (gName i)) tz D σ H :=
  hA H (Ex.refl H) _ fun H1 e1 => hs H1 e1
theorem q_forR3 {ta : TA} {j n : Nat} {lo hi c : Int} (h : EvA ta σ H [.int lo, .int hi, .int c]) (hr : RgC lo hi c n) (Pv : Nat → L2.St → Hp → Prop) (h0 : ∀ H1, Ex H H1 → Pv 0 σ H1)
    (hs : ∀ (i : Nat) σ' H', i < n → Pv i σ' H' → tu { D with nx := Pv (i + 1), ct := Pv (i + 1), bk := tz D } (σ'.set j (some (.int (lo + (i : Nat) * c)))) H') (hd : ∀ σ' H', Pv n σ' H' → tz D σ' H') : tSeq (tFor (iRng3 ta) (gName j) tu) tz D σ H :=
  h H (Ex.refl H) _ fun H1 e => ⟨lo, hi, c, n, rfl, hr, for_rangeC (lo := lo) (c := c) (n := n) Pv (h0 H1 e) (fun i σ' H' hi p => hs i σ' H' hi p) hd⟩
end
section
variable {P : Program} {w : World} {K : PySem.W.Frag} {mg : Str → Option Value} {base : Heap} {A : Ad}
abbrev s_Reader_number : Stmt := (inClass (top 52) 3)
theorem sc_Reader_number : FnScope ["self", "end", "found", "at", "low"] ["self"] (defScope s_Reader_number) := ⟨rfl, rfl, rfl, by decide +kernel, rfl, by decide +kernel, by decide +kernel⟩
def sp_Reader_number (A : Ad) : Sp := fun vs H Q E => ∃ (a : Addr) (data : List Nat) (i : Nat), vs = [.ref a] ∧ ReaderAt A H a data i ∧ i ≤ data.length ∧ data.length ≤ 10000 ∧ (∀ b ∈ data, b < 256) ∧ (Sj55.num? (data.drop i) = none → FltB A a 2 H E) ∧
  ∀ n l, Sj55.num? (data.drop i) = some (n, l) → ∀ H' i', ExB a H H' → ReaderAt A H' a data i' → i' ≤ data.length → data.drop i' = l → Q (.int (n : Nat)) H'
theorem ok_Reader_number {f : Addr} {fd : FuncData} (F : Fun K "number" "Reader.number" s_Reader_number f fd) (T : Txt K mg A) (h_Faulty : HasX P w K mg base 1 A.cX "Faulty" ["self", "fault"] (sp_Faulty_init A))
    (h_Reader_number_end : HasM P w K mg base (L2.CX P w) 3 A.cR "number_end" ["self"] (sp_Reader_number_end A)) : FnOk P w K mg base (L2.CX P w) 4 f fd ["self"] (sp_Reader_number A) := by
  refine F.okX sc_Reader_number (fun vs H Q E h => ?_) (fun cdv Ar outer s H vs Q E hr h => ?_)
  · obtain ⟨a, data, i, rfl, _⟩ := h
    rfl
  · obtain ⟨a, data, i, rfl, hR, hi, h4, h256, kf, k⟩ := h
    obtain ⟨dx, d, ha, hd⟩ := id hR
    refine ⟨_, (pss_cons (ps_set (i := 1) sc_Reader_number.nd rfl (Or.inl rfl) (pe_mt0 h_Reader_number_end (hr.mono (by decide)) (passes_call (takes_of rfl rfl rfl rfl) fun _ _ _ _ h => h) (pv 0)))
      (pss_cons (ps_if (PW.pt (pw_and (pt_cmpR op_eq (pe_ix ix_list (pe_fld (pv 0) rfl) (pv 1) (fun _ _ => rfl)) pe_int (nomark _)) (pw_and1 (pt_cmpR op_gt (pv 1) (pe_fld (pv 0) rfl) (nomark _))))) (pss_one (ps_raise rfl (takes_of rfl rfl rfl rfl) (pmk_flt h_Faulty (hr.mono (by decide)) (by rfl) (pa_cons (pe_gi T.c_NO_NUMBER rfl) pa_nil)))) pss_nil)
      (pss_cons (ps_set (i := 2) sc_Reader_number.nd rfl (Or.inl rfl) pe_int)
      (pss_cons (ps_for (passes_of rfl) rfl (pi_range3 (by rfl) T.b_range (pa_cons (pv 1) (pa_cons (pe_op op_sub (pe_fld (pv 0) rfl) pe_int) (pa_cons (pe_un un_neg pe_int) pa_nil)))) (pg_name (i := 3) sc_Reader_number.nd rfl (Or.inl rfl)) (pss_cons (ps_set (i := 4) sc_Reader_number.nd rfl (Or.inl rfl) (pe_ifExp (pt_cmpR op_eq (pv 3) (pv 1) (nomark _)) (pe_ix ix_list (pe_fld (pv 0) rfl) (pv 3) (fun _ _ => rfl)) (pe_op op_sub (pe_ix ix_list (pe_fld (pv 0) rfl) (pv 3) (fun _ _ => rfl)) (pe_gi T.c_MORE rfl))))
      (pss_one (ps_set (i := 2) sc_Reader_number.nd rfl (Or.inl rfl) (pe_op op_add (pe_op op_mul (pe_gi T.c_MORE rfl) (pv 2)) (pv 4))))))
      (pss_cons (ps_fld (pv 0) (pe_op op_add (pv 1) pe_int) rfl)
      (pss_one (ps_ret (pv 2)))))))), ?_⟩
    have nm : (rF d i).lookup ("number_end" : Str) = none := rF_no d i (by decide +kernel) (by decide +kernel)
    refine q_asgM (ev_var rfl) ha nm ea_nil fun H1 x1 => ⟨a, data, i, rfl, hR.ex x1, hi, h4, fun hnone => ?_, fun q hq H2 x2 => ?_⟩
    · have z : Sj55.num? (data.drop i) = none := by rw [num_read, hnone]
      exact (kf z).flt.on x1
    obtain ⟨hq5, c, hc, hc128⟩ := findEnd_at 5 _ q hq
    have hbef := findEnd_before 5 _ q hq
    have hcd : data[i + q]? = some c := by simpa using hc
    have hlt : i + q < data.length := (List.getElem?_eq_some_iff.mp hcd).1
    have hnum : Sj55.num? (data.drop i) = if (data.drop i)[q]? = some 0 ∧ 0 < q then none else some (valR q (data.drop i), (data.drop i).drop (q + 1)) := by rw [num_read, hq]
    have x12 := x1.trans x2
    have edat : ∀ (σ : L2.St) (H3 : Hp) (j : Nat) (b : Nat) (t : TE), Ex H H3 → σ[0]? = some (some (V.ref a)) → Ev t σ H3 (V.int (j : Nat)) → data[j]? = some b → Ev (tOp (rIxL K) (tFld K (tVar 0) "data") t) σ H3 (V.int (b : Nat)) := fun σ H3 j b t x3 hs ht hb =>
      ev_op (ev_fld (ev_var hs) (x3 _ _ ha) T.clR T.nR_data (rF_data d i)) ht (rv_ixL (sq_of (x3 _ _ hd)) (atI_nat (v := V.int (b : Nat)) (by rw [ivs_at, hb]; rfl)))
    refine q_when (et_and (et_test (ev_eqInt (edat _ H2 (i + q) c _ x12 rfl (ev_var rfl) hcd) ev_c)) (fun _ => et_test (ev_op (ev_var rfl) (ev_fld (ev_var rfl) (x12 _ _ ha) T.clR T.nR_at (rF_at d i)) rv_I0))) (fun hb H3 x3 => ?_) (fun hb H3 x3 => ?_)
    · rw [Bool.and_eq_true, decide_eq_true_eq, decide_eq_true_eq] at hb
      have hc0 : c = 0 := by omega
      have hq0 : 0 < q := by omega
      have z : Sj55.num? (data.drop i) = none := by rw [hnum, if_pos ⟨by rw [hc, hc0], hq0⟩]
      exact flt_raise (f := 2) (ea_cons ev_c ea_nil) fun H4 e x4 h4 => kf z H4 e (ExB.of ((x12.trans x3).trans x4)) h4
    · rw [Bool.and_eq_false_iff, decide_eq_false_iff_not, decide_eq_false_iff_not] at hb
      have hno : ¬ ((data.drop i)[q]? = some 0 ∧ 0 < q) := fun z => by
        have e0 : c = 0 := by
          have := z.1
          rw [hc] at this
          exact Option.some.inj this
        rcases hb with hb | hb
        · exact hb (by omega)
        · exact hb (by have := z.2; omega)
      rw [if_neg hno] at hnum
      have x13 := x12.trans x3
      refine q_asg ev_c fun H4 x4 => ?_
      have x14 := x13.trans x4
      refine q_forR3 (n := q + 1) (ea_cons (ev_var rfl) (ea_cons (ev_op (ev_fld (ev_var rfl) (x14 _ _ ha) T.clR T.nR_at (rF_at d i)) ev_c rv_I0) (ea_cons (ev_un ev_c ru_neg) ea_nil))) ?_
        (fun m σ' H' => ∃ v3 v4, σ' = [some (.ref a), some (.int (i + q : Nat)), some (.int ((if m = 0 then 0 else valR (m - 1) ((data.drop i).drop (q + 1 - m)) : Nat) : Int)), v3, v4] ∧ Ex H H' ∧ m ≤ q + 1) (fun H5 x5 => ⟨none, none, rfl, x14.trans x5, by omega⟩) ?_ ?_
      · have z := RgC.neg (i := ((i + q : Nat) : Int)) (j := (i : Int) - 1) (by omega) (by omega) (by omega) (by omega)
        have e1 : (((i + q : Nat) : Int) - ((i : Int) - 1)).toNat = q + 1 := by omega
        rw [e1] at z
        exact z
      · rintro m σ' H5 hm ⟨v3, v4, rfl, x5, _⟩
        have eat : ((i + q : Nat) : Int) + (m : Nat) * (-1) = ((i + (q - m) : Nat) : Int) := by omega
        obtain ⟨b, hb, hbl⟩ : ∃ b, (data.drop i)[q - m]? = some b ∧ (m ≠ 0 → ¬ b < 128) := by
          by_cases hm0 : m = 0
          · subst hm0
            exact ⟨c, hc, fun z => absurd rfl z⟩
          · obtain ⟨b, h1, h2⟩ := hbef (q - m) (by omega)
            exact ⟨b, h1, fun _ => h2⟩
        have hbd : data[i + (q - m)]? = some b := by simpa using hb
        have hb256 : b < 256 := h256 b (List.mem_of_getElem? hbd)
        rw [eat]
        refine q_asg (ev_if (v := .int ((if m = 0 then b else b - 128 : Nat) : Int)) (et_test (ev_eqInt (ev_var rfl) (ev_var rfl))) (fun hb2 => ?_) (fun hb2 => ?_)) fun H6 x6 => ?_
        · have hm0 : m = 0 := by have := of_decide_eq_true hb2; omega
          have el : (if m = 0 then b else b - 128) = b := if_pos hm0
          rw [el]
          exact edat _ H5 (i + (q - m)) b (tVar 3) x5 rfl (ev_var rfl) hbd
        · have hm0 : ¬ m = 0 := by have := of_decide_eq_false hb2; omega
          have el : (if m = 0 then b else b - 128) = b - 128 := if_neg hm0
          rw [el]
          refine ev_is (ev_op (edat _ H5 (i + (q - m)) b (tVar 3) x5 rfl (ev_var rfl) hbd) ev_c rv_I0) ?_
          have := hbl hm0
          congr 1
          omega
        · refine s_asg (ev_op (ev_op ev_c (ev_var rfl) (rv_I (.inl ⟨by decide, by decide⟩))) (ev_var rfl) rv_I0) fun H7 x7 => ?_
          refine ⟨some (.int (i + (q - m) : Nat)), some (.int ((if m = 0 then b else b - 128 : Nat) : Int)), ?_, (x5.trans x6).trans x7, by omega⟩
          have ev : ((128 : Int) * ((if m = 0 then 0 else valR (m - 1) ((data.drop i).drop (q + 1 - m)) : Nat) : Int) + ((if m = 0 then b else b - 128 : Nat) : Int)) = ((if m + 1 = 0 then 0 else valR (m + 1 - 1) ((data.drop i).drop (q + 1 - (m + 1))) : Nat) : Int) := by
            rw [if_neg (Nat.succ_ne_zero m)]
            have e2 : q + 1 - (m + 1) = q - m := by omega
            rw [e2]
            show _ = ((valR m _ : Nat) : Int)
            by_cases hm0 : m = 0
            · subst hm0
              rw [if_pos rfl, if_pos rfl, valR_zero _ b (by simpa using hb)]
              omega
            · rw [if_neg hm0, if_neg hm0]
              have z := valR_step (k := q) (j := q - m) (by omega) hb (hbl hm0) hb256
              have e3 : q - (q - m) = m := by omega
              have e4 : q - (q - m + 1) = m - 1 := by omega
              have e5 : q - m + 1 = q + 1 - m := by omega
              rw [e3, e4, e5] at z
              rw [z]
              omega
          rw [← ev]
          rfl
      · rintro σ' H5 ⟨v3, v4, rfl, x5, _⟩
        refine q_fld (y := .int (i + q + 1 : Nat)) (ev_op (ev_var rfl) ev_c rv_I0) (ev_var rfl) (x5 _ _ ha) T.clR T.nR_at (rF_few d i) fun H6 x6 => ?_
        rw [rF_put]
        have nd : d ≠ a := ne_of hd ha (by intro z; cases z)
        refine s_ret (ev_var rfl) fun H7 x7 => ?_
        have e0 : (if q + 1 = 0 then 0 else valR (q + 1 - 1) ((data.drop i).drop (q + 1 - (q + 1)))) = valR q (data.drop i) := by
          rw [if_neg (Nat.succ_ne_zero q), Nat.sub_self]
          rfl
        rw [e0]
        refine k _ _ hnum H7 (i + q + 1) ((ExB.of (x5.trans x6)).upd.ex x7) (ReaderAt.ex x7 ⟨dx, d, upd_same, ?_⟩) (by omega) (by rw [List.drop_drop, Nat.add_assoc])
        rw [upd_ne nd]
        exact x6 _ _ (x5 _ _ hd)
abbrev s_Reader_some : Stmt := (inClass (top 52) 4)
theorem sc_Reader_some : FnScope ["self", "many"] ["self", "many"] (defScope s_Reader_some) := ⟨rfl, rfl, rfl, by decide +kernel, rfl, by decide +kernel, by decide +kernel⟩
def sp_Reader_some (A : Ad) : Sp := fun vs H Q E => ∃ (a : Addr) (data : List Nat) (i c : Nat), vs = [.ref a, .int c] ∧ ReaderAt A H a data i ∧ i ≤ data.length ∧ ((data.drop i).length < c → FltB A a 4 H E) ∧
  (¬ (data.drop i).length < c → ∀ p H', H p = none → ExB a H H' → ReaderAt A H' a data (i + c) → H' p = some (.lst (ivs ((data.drop i).take c))) → Q (.ref p) H')
theorem ok_Reader_some {f : Addr} {fd : FuncData} (F : Fun K "some" "Reader.some" s_Reader_some f fd) (T : Txt K mg A) (h_Faulty : HasX P w K mg base 1 A.cX "Faulty" ["self", "fault"] (sp_Faulty_init A)) : FnOk P w K mg base (L2.CX P w) 3 f fd ["self", "many"] (sp_Reader_some A) := by
  refine F.okX sc_Reader_some (fun vs H Q E h => ?_) (fun cdv Ar outer s H vs Q E hr h => ?_)
  · obtain ⟨a, data, i, c, rfl, _⟩ := h
    rfl
  · obtain ⟨a, data, i, c, rfl, ⟨dx, d, ha, hd⟩, hi, kf, k⟩ := h
    have hdl : (data.drop i).length = data.length - i := List.length_drop
    refine ⟨_, (pss_cons (ps_if (pt_cmpR op_gt (pe_op op_add (pe_fld (pv 0) rfl) (pv 1)) (pe_callB call_len_seq (by rfl) T.b_len PySem.boot_len (pa_cons (pe_fld (pv 0) rfl) pa_nil)) (nomark _)) (pss_one (ps_raise rfl (takes_of rfl rfl rfl rfl) (pmk_flt h_Faulty (hr.mono (by decide)) (by rfl) (pa_cons (pe_gi T.c_TOO_SOON rfl) pa_nil)))) pss_nil)
      (pss_cons (ps_fld (pv 0) (pe_op op_add (pe_fld (pv 0) rfl) (pv 1)) rfl)
      (pss_one (ps_ret (pe_slice sl_list (pe_fld (pv 0) rfl) (po_some (pe_op op_sub (pe_fld (pv 0) rfl) (pv 1))) (po_some (pe_fld (pv 0) rfl))))))), ?_⟩
    refine q_when (et_test (ev_op (ev_op (ev_fld (ev_var rfl) ha T.clR T.nR_at (rF_at d i)) (ev_var rfl) rv_I0) (ev_len (ev_fld (ev_var rfl) ha T.clR T.nR_data (rF_data d i)) (sq_of hd)) rv_I0)) (fun hb H1 x1 => ?_) (fun hb H1 x1 => ?_)
    · have hgt : (data.drop i).length < c := by have := of_decide_eq_true hb; rw [ivs_len] at this; omega
      exact flt_raise (f := 4) (ea_cons ev_c ea_nil) fun H2 e x2 h2 => kf hgt H2 e (ExB.of (x1.trans x2)) h2
    · have hle : ¬ (data.drop i).length < c := by have := of_decide_eq_false hb; rw [ivs_len] at this; omega
      refine q_fld (y := .int (i + c : Nat)) (ev_op (ev_fld (ev_var rfl) (x1 _ _ ha) T.clR T.nR_at (rF_at d i)) (ev_var rfl) rv_I0) (ev_var rfl) (x1 _ _ ha) T.clR T.nR_at (rF_few d i) fun H2 x2 => ?_
      rw [rF_put]
      have nd : d ≠ a := ne_of hd ha (by intro z; cases z)
      have x12 := x1.trans x2
      have hd2 : upd H2 a (.ins A.cR dx (rF d (i + c))) d = some (.lst (ivs data)) := by
        rw [upd_ne nd]
        exact x12 _ _ hd
      refine s_retL (el_is (el_sl (ev_fld (ev_var rfl) upd_same T.clR T.nR_data (rF_data d (i + c))) (eo_some (ev_is (ev_op (ev_fld (ev_var rfl) upd_same T.clR T.nR_at (rF_at d (i + c))) (ev_var rfl) rv_I0) (show V.int (((i + c : Nat) : Int) - (c : Int)) = .int (i : Nat) by congr 1; omega))) (eo_some (ev_fld (ev_var rfl) upd_same T.clR T.nR_at (rF_at d (i + c)))) (sq_of hd2)) (show cutV (ivs data) (some (i : Int)) (some ((i + c : Nat) : Int)) = ivs ((data.drop i).take c) by
          rw [cutV_mid, ivs_drop, ivs_take]
          congr 2
          omega)) fun p H3 hp x3 h3 => ?_
      have hpH : H p = none := by
        by_cases hpa : p = a
        · rw [hpa, upd_same] at hp
          cases hp
        · rw [upd_ne hpa] at hp
          exact fresh_back x12 hp
      exact k hle p H3 hpH ((ExB.of x12).upd.ex x3) (ReaderAt.ex x3 ⟨dx, d, upd_same, hd2⟩) h3
abbrev s_Reader_is_over : Stmt := (inClass (top 52) 5)
theorem sc_Reader_is_over : FnScope ["self"] ["self"] (defScope s_Reader_is_over) := ⟨rfl, rfl, rfl, by decide +kernel, rfl, by decide +kernel, by decide +kernel⟩
def sp_Reader_is_over (A : Ad) : Sp := fun vs H Q _ => ∃ (a : Addr) (data : List Nat) (i : Nat), vs = [.ref a] ∧ ReaderAt A H a data i ∧ RetV (.bl (decide (i = data.length))) H Q
theorem ok_Reader_is_over {f : Addr} {fd : FuncData} (F : Fun K "is_over" "Reader.is_over" s_Reader_is_over f fd) (T : Txt K mg A) : FnOk P w K mg base CX0 1 f fd ["self"] (sp_Reader_is_over A) := by
  refine F.ok sc_Reader_is_over (fun vs H Q E h => ?_) (fun cdv Ar outer s H vs Q E hr h => ?_)
  · obtain ⟨a, data, i, rfl, _⟩ := h
    rfl
  · obtain ⟨a, data, i, rfl, ⟨dx, d, ha, hd⟩, k⟩ := h
    refine ⟨_, (pss_one (ps_ret (pe_cmpR op_eq (pe_fld (pv 0) rfl) (pe_callB call_len_seq (by rfl) T.b_len PySem.boot_len (pa_cons (pe_fld (pv 0) rfl) pa_nil)) (nomark _)))), ?_⟩
    refine s_ret (ev_is (ev_eqInt (ev_fld (ev_var rfl) ha T.clR T.nR_at (rF_at d i)) (ev_len (ev_fld (ev_var rfl) ha T.clR T.nR_data (rF_data d i)) (sq_of hd))) ?_) k
    rw [ivs_len]
    congr 1
    apply decide_eq_decide.mpr
    omega
theorem sp_Reader_is_over_v {H : Hp} {a : Addr} {data : List Nat} {i : Nat} (h : ReaderAt A H a data i) : SpV (sp_Reader_is_over A) [.ref a] H (.bl (decide (i = data.length))) := fun H1 x Q q E => ⟨a, data, i, rfl, h.ex x, q⟩
abbrev s_need : Stmt := (top 53)
theorem sc_need : FnScope ["is_right", "fault"] ["is_right", "fault"] (defScope s_need) := ⟨rfl, rfl, rfl, by decide +kernel, rfl, by decide +kernel, by decide +kernel⟩
def sp_need (A : Ad) : Sp := fun vs H Q E => ∃ (b : Bool) (f : Nat), vs = [.bl b, .int f] ∧ (b = false → Flt A f H E) ∧ (b = true → RetV .non H Q)
theorem ok_need {f : Addr} {fd : FuncData} (F : Fun K "need" "need" s_need f fd) (T : Txt K mg A) (h_Faulty : HasX P w K mg base 1 A.cX "Faulty" ["self", "fault"] (sp_Faulty_init A)) : FnOk P w K mg base (L2.CX P w) 3 f fd ["is_right", "fault"] (sp_need A) := by
  refine F.okX sc_need (fun vs H Q E h => ?_) (fun cdv Ar outer s H vs Q E hr h => ?_)
  · obtain ⟨b, n, rfl, _⟩ := h
    rfl
  · obtain ⟨b, n, rfl, kf, k⟩ := h
    refine ⟨_, (pss_one (ps_if (pt_not (pt_val (pv 0))) (pss_one (ps_raise rfl (takes_of rfl rfl rfl rfl) (pmk_flt h_Faulty (hr.mono (by decide)) (by rfl) (pa_cons (pv 1) pa_nil)))) pss_nil)), ?_⟩
    refine s_when (et_not (et_B (ev_var rfl))) (fun hb H1 x1 => ?_) (fun hb H1 x1 => ?_)
    · have hb' : b = false := by cases b <;> simp_all
      exact flt_raise (ea_cons (ev_var rfl) ea_nil) fun H2 e x2 h2 => kf hb' H2 e (x1.trans x2) h2
    · have hb' : b = true := by cases b <;> simp_all
      exact k hb' H1 x1
theorem q_need {σ : L2.St} {H : Hp} {tA : TA} {D : Ends} {tz : TS} {E : XK} {b : Bool} {f : Nat} (h : EvA tA σ H [.bl b, .int f]) (h0 : b = false → Flt A f H E) (h1 : b = true → ∀ H1, Ex H H1 → tz D σ H1) : tSeq (tDrop (tCall (sp_need A) [] E tA)) tz D σ H :=
  h H (Ex.refl H) _ fun H1 x1 => ⟨b, f, rfl, fun hb => (h0 hb).on x1, fun hb H2 x2 => h1 hb H2 (x1.trans x2)⟩
end
end G
namespace G
open PySem PySem.Spec PyProof.Rows L2 Evl
open Sj55 (Ins)

theorem dpAll_ints {K : PySem.W.Frag} {H : Hp} : ∀ ns : List Int, DpAll K H (ns.map V.int) (ns.map PyData.int)
  | [] => .nil
  | n :: ns => .cons (.int n) (dpAll_ints ns)
theorem ivs_ints (l : List Nat) : ivs l = (l.map fun n => ((n : Nat) : Int)).map V.int := by
  unfold ivs
  rw [List.map_map]
  rfl
theorem ints_inj (l m : List Nat) : ((l.map fun n => ((n : Nat) : Int)) = (m.map fun n => ((n : Nat) : Int))) ↔ l = m := by
  constructor
  · intro h
    have z := congrArg (List.map Int.toNat) h
    rw [List.map_map, List.map_map] at z
    have e : (Int.toNat ∘ fun n => ((n : Nat) : Int)) = id := by
      funext n
      simp
    rw [e, List.map_id, List.map_id] at z
    exact z
  · intro h
    rw [h]
section
variable {K : PySem.W.Frag} {σ : L2.St} {H H' : Hp} {ta tb te : TE} {tA : TA} {D : Ends} {tz tu : TS}
theorem ev_eqLL {l m : List Nat} (ha : EvL ta σ H (ivs l)) (hb : EvL tb σ H (ivs m)) : Ev (tOp (rEqD K) ta tb) σ H (.bl (decide (l = m))) :=
  ev_opLL ha hb fun p q H1 hp hq _ => fun H2 x2 Q k => by
    refine ⟨.list ((l.map fun n => ((n : Nat) : Int)).map PyData.int), .list ((m.map fun n => ((n : Nat) : Int)).map PyData.int), .lst (sq_of (x2 _ _ hp)) ?_, .lst (sq_of (x2 _ _ hq)) ?_, PySem.W.ke_shaped_ints _, PySem.W.ke_shaped_ints _, ?_⟩
    · rw [ivs_ints]
      exact dpAll_ints _
    · rw [ivs_ints]
      exact dpAll_ints _
    · have e : PyData.eqv (.list ((l.map fun n => ((n : Nat) : Int)).map PyData.int)) (.list ((m.map fun n => ((n : Nat) : Int)).map PyData.int)) = decide (l = m) := by
        show PyData.eqvAll _ _ = _
        rw [PySem.W.ked_eqvAll]
        exact decide_eq_decide.mpr (ints_inj l m)
      rw [e]
      exact k H2 (Ex.refl H2)
end
/-- a new frame: its object and its list are new -/
def FrameNew (A : Ad) (H H' : Hp) (x : Addr) (e : Sj55.Entry) : Prop := ∃ dx d, H x = none ∧ H d = none ∧ H' x = some (.ins A.cF dx (fF e d)) ∧ H' d = some (.lst (ivs e.kept))
theorem FrameNew.at {A : Ad} {H H' : Hp} {x : Addr} {e : Sj55.Entry} (h : FrameNew A H H' x e) : FrameAt A H' x e := by
  obtain ⟨dx, d, _, _, h1, h2⟩ := h
  exact ⟨dx, d, h1, h2⟩
theorem ExB.fresh {r x C dx : Addr} {fs : List (Str × V)} {H H' : Hp} (b : ExB r H H') (hx : H' x = none) (hr : H' r = some (.ins C dx fs)) : H x = none := by
  by_cases h : x = r
  · rw [h, hr] at hx
    cases hx
  · cases e : H x with
    | none => rfl
    | some o =>
      rw [b x o e h] at hx
      cases hx
theorem mk_frameD {A : Ad} {H1 : Hp} {Q : VK} {E : XK} {e : Sj55.Entry} {d : Addr} (q : ∀ x dx H2, H1 x = none → Ex H1 H2 → H2 x = some (.ins A.cF dx (fF e d)) → Q (.ref x) H2) (x dx : Addr) (nx : H1 x = none) (nd : H1 dx = none) (_ : dx ≠ x) :
    sp_Frame_init A (.ref x :: ([.int e.time, .int e.kind, .int e.queue, .int e.len, .ref d] ++ [])) (upd (upd H1 dx (.own x)) x (.ins A.cF dx [])) (fun v H2 => v = .non ∧ Q (.ref x) H2) E :=
  ⟨x, dx, _, _, _, _, _, rfl, upd_same, rfl, by
    refine q x dx _ nx (fun b o hb => ?_) upd_same
    rw [upd_upd, upd_ne (ne_of_none hb nx), upd_ne (ne_of_none hb nd)]
    exact hb⟩
theorem Ex.del {H H' : Hp} {a : Addr} (x : Ex H H') : Ex (del H a) (del H' a) := fun b o h => by
  by_cases hb : b = a
  · rw [hb, del_same] at h
    cases h
  · rw [del_ne hb] at h ⊢
    exact x b o h
theorem Ex.del_of {H : Hp} {a : Addr} : Ex (L2.del H a) H := fun b o h => by
  by_cases hb : b = a
  · rw [hb, del_same] at h
    cases h
  · rw [del_ne hb] at h
    exact h
theorem ExB.del {H H' : Hp} {r a : Addr} (x : ExB r H H') : ExB r (L2.del H a) (L2.del H' a) := fun b o h n => by
  by_cases hb : b = a
  · rw [hb, del_same] at h
    cases h
  · rw [del_ne hb] at h ⊢
    exact x b o h n
theorem del_upd {H : Hp} {a : Addr} {o : HO} : L2.del (L2.upd H a o) a = L2.del H a := by
  funext b
  by_cases hb : b = a
  · rw [hb, del_same, del_same]
  · rw [del_ne hb, del_ne hb, upd_ne hb]
section
variable {P : Program} {w : World} {K : PySem.W.Frag} {mg : Str → Option Value} {base : Heap} {A : Ad}
abbrev s_entry_read : Stmt := (top 54)
theorem sc_entry_read : FnScope ["reader", "ahead", "snap", "time", "kind", "queue", "length", "many"] ["reader", "ahead", "snap"] (defScope s_entry_read) := ⟨rfl, rfl, rfl, by decide +kernel, rfl, by decide +kernel, by decide +kernel⟩
def sp_entry_read (A : Ad) : Sp := fun vs H Q E => ∃ (r : Addr) (data : List Nat) (i t snap : Nat), vs = [.ref r, .int t, .int snap] ∧ ReaderAt A H r data i ∧ i ≤ data.length ∧ data.length ≤ 10000 ∧ (∀ b ∈ data, b < 256) ∧ (∀ f, entryIn snap t (data.drop i) = .inl f → FltB A r f H E) ∧
  ∀ e l, entryIn snap t (data.drop i) = .inr (e, l) → ∀ x H' i', ExB r H H' → FrameNew A H H' x e → ReaderAt A H' r data i' → i' ≤ data.length → data.drop i' = l → Q (.ref x) H'
theorem ok_entry_read {f : Addr} {fd : FuncData} (F : Fun K "entry_read" "entry_read" s_entry_read f fd) (T : Txt K mg A) (h_Frame : HasC P w K mg base CX0 1 A.cF "Frame" ["self", "time", "kind", "queue", "length", "data"] (sp_Frame_init A))
    (h_Reader_byte : HasM P w K mg base (L2.CX P w) 3 A.cR "byte" ["self"] (sp_Reader_byte A)) (h_Reader_number : HasM P w K mg base (L2.CX P w) 4 A.cR "number" ["self"] (sp_Reader_number A)) (h_Reader_some : HasM P w K mg base (L2.CX P w) 3 A.cR "some" ["self", "many"] (sp_Reader_some A))
    (h_need : Has P w K mg base (L2.CX P w) 3 "need" ["is_right", "fault"] (sp_need A)) : FnOk P w K mg base (L2.CX P w) 5 f fd ["reader", "ahead", "snap"] (sp_entry_read A) := by
  refine F.okX sc_entry_read (fun vs H Q E h => ?_) (fun cdv Ar outer s H vs Q E hr h => ?_)
  · obtain ⟨r, data, i, t, snap, rfl, _⟩ := h
    rfl
  · obtain ⟨r, data, i, t, snap, rfl, hR, hi, h4, h256, kf, k⟩ := h
    have nn : ∀ d j, (rF d j).lookup ("number" : Str) = none := fun d j => rF_no d j (by decide +kernel) (by decide +kernel)
    have nb : ∀ d j, (rF d j).lookup ("byte" : Str) = none := fun d j => rF_no d j (by decide +kernel) (by decide +kernel)
    have ns : ∀ d j, (rF d j).lookup ("some" : Str) = none := fun d j => rF_no d j (by decide +kernel) (by decide +kernel)
    refine ⟨_, (pss_cons (ps_set (i := 3) sc_entry_read.nd rfl (Or.inl rfl) (pe_op op_add (pv 1) (pe_mt0 h_Reader_number (hr.mono (by decide)) (passes_call (takes_of rfl rfl rfl rfl) fun _ _ _ _ h => h) (pv 0))))
      (pss_cons (ps_set (i := 4) sc_entry_read.nd rfl (Or.inl rfl) (pe_mt0 h_Reader_byte (hr.mono (by decide)) (passes_call (takes_of rfl rfl rfl rfl) fun _ _ _ _ h => h) (pv 0)))
      (pss_cons (ps_set (i := 5) sc_entry_read.nd rfl (Or.inl rfl) (pe_mt0 h_Reader_byte (hr.mono (by decide)) (passes_call (takes_of rfl rfl rfl rfl) fun _ _ _ _ h => h) (pv 0)))
      (pss_cons (ps_set (i := 6) sc_entry_read.nd rfl (Or.inl rfl) (pe_mt0 h_Reader_number (hr.mono (by decide)) (passes_call (takes_of rfl rfl rfl rfl) fun _ _ _ _ h => h) (pv 0)))
      (pss_cons (ps_set (i := 7) sc_entry_read.nd rfl (Or.inl rfl) (pe_mt0 h_Reader_number (hr.mono (by decide)) (passes_call (takes_of rfl rfl rfl rfl) fun _ _ _ _ h => h) (pv 0)))
      (pss_cons (ps_expr (pe_fn h_need (hr.mono (by decide)) (by rfl) (passes_call (takes_of rfl rfl rfl rfl) fun _ _ _ _ h => h) (pa_cons (pe_and (pe_cmpR op_le (pv 3) (pe_gi T.c_MOST_TIME rfl) (nomark _)) (pe_and (pe_cmpR op_le (pv 4) (pe_gi T.c_MOST_KIND rfl) (nomark _)) (pe_one (pe_cmpR op_le (pv 5) (pe_gi T.c_MOST_QUEUE rfl) (nomark _))))) (pa_cons (pe_gi T.c_BEYOND rfl) pa_nil))))
      (pss_cons (ps_expr (pe_fn h_need (hr.mono (by decide)) (by rfl) (passes_call (takes_of rfl rfl rfl rfl) fun _ _ _ _ h => h) (pa_cons (pe_and (pe_cmpR op_le (pv 6) (pe_gi T.c_MOST_LENGTH rfl) (nomark _)) (pe_and (pe_cmpR op_le (pv 7) (pv 6) (nomark _)) (pe_one (pe_cmpR op_le (pv 7) (pv 2) (nomark _))))) (pa_cons (pe_gi T.c_BEYOND rfl) pa_nil))))
      (pss_one (ps_ret (pe_mk h_Frame (hr.mono (by decide)) (by rfl) pass0 (pa_cons (pv 3) (pa_cons (pv 4) (pa_cons (pv 5) (pa_cons (pv 6) (pa_cons (pe_mt h_Reader_some (hr.mono (by decide)) (passes_call (takes_of rfl rfl rfl rfl) fun _ _ _ _ h => h) (pv 0) (pa_cons (pv 7) pa_nil)) pa_nil))))))))))))))), ?_⟩
    -- time = ahead + reader.number()
    obtain ⟨dx, d, ha, hd⟩ := id hR
    refine q_asgAddM (ev_var rfl) (ev_var rfl) ha (nn d i) ea_nil fun H1 x1 => ⟨r, data, i, rfl, hR.ex x1, hi, h4, h256, fun hno => ?_, fun dt l1 hn1 H2 i2 b2 R2 hi2 hl1 => ⟨_, rfl, ?_⟩⟩
    · exact (kf 2 (by unfold entryIn; rw [hno])).on (ExB.of x1)
    have b02 : ExB r H H2 := (ExB.of x1).trans b2
    subst hl1
    have hE1 : entryIn snap t (data.drop i) = match data.drop i2 with
      | k :: q :: l => (match Sj55.num? l with
        | none => .inl 2
        | some (len, l) => match Sj55.num? l with
          | none => .inl 2
          | some (c, l) => if 2 ^ 31 ≤ t + dt ∨ 15 < k ∨ 7 < q ∨ 1024 < len ∨ len < c ∨ snap < c then .inl 3 else if l.length < c then .inl 4 else .inr (⟨t + dt, k, q, len, l.take c⟩, l.drop c))
      | _ => .inl 4 := by
      unfold entryIn
      rw [hn1]
      rfl
    -- kind = reader.byte()
    obtain ⟨dx2, d2, ha2, hd2⟩ := id R2
    refine q_asgM (ev_var rfl) ha2 (nb d2 i2) ea_nil fun H3 x3 => ⟨r, data, i2, rfl, R2.ex x3, fun hno => ?_, fun kd hkd H4 b4 R4 => ?_⟩
    · have e0 : data.drop i2 = [] := List.drop_of_length_le (List.getElem?_eq_none_iff.mp hno)
      rw [e0] at hE1
      exact (kf 4 hE1).on (b02.ex x3)
    have b04 : ExB r H H4 := (b02.ex x3).trans b4
    have e1 := drop_at hkd
    -- queue = reader.byte()
    obtain ⟨dx4, d4, ha4, hd4⟩ := id R4
    refine q_asgM (ev_var rfl) ha4 (nb d4 (i2 + 1)) ea_nil fun H5 x5 => ⟨r, data, i2 + 1, rfl, R4.ex x5, fun hno => ?_, fun qu hqu H6 b6 R6 => ?_⟩
    · have e0 : data.drop (i2 + 1) = [] := List.drop_of_length_le (List.getElem?_eq_none_iff.mp hno)
      rw [e1, e0] at hE1
      exact (kf 4 hE1).on (b04.ex x5)
    have b06 : ExB r H H6 := (b04.ex x5).trans b6
    have e2 := drop_at hqu
    rw [e1, e2] at hE1
    dsimp only at hE1
    have hi6 : i2 + 1 + 1 ≤ data.length := (List.getElem?_eq_some_iff.mp hqu).1
    -- length = reader.number()
    obtain ⟨dx6, d6, ha6, hd6⟩ := id R6
    refine q_asgM (ev_var rfl) ha6 (nn d6 (i2 + 1 + 1)) ea_nil fun H7 x7 => ⟨r, data, i2 + 1 + 1, rfl, R6.ex x7, hi6, h4, h256, fun hno => ?_, fun le l7 hn7 H8 i8 b8 R8 hi8 hl8 => ?_⟩
    · rw [hno] at hE1
      exact (kf 2 hE1).on (b06.ex x7)
    have b08 : ExB r H H8 := (b06.ex x7).trans b8
    subst hl8
    rw [hn7] at hE1
    dsimp only at hE1
    -- many = reader.number()
    obtain ⟨dx8, d8, ha8, hd8⟩ := id R8
    refine q_asgM (ev_var rfl) ha8 (nn d8 i8) ea_nil fun H9 x9 => ⟨r, data, i8, rfl, R8.ex x9, hi8, h4, h256, fun hno => ?_, fun c l9 hn9 H10 i10 b10 R10 hi10 hl10 => ?_⟩
    · rw [hno] at hE1
      exact (kf 2 hE1).on (b08.ex x9)
    have b010 : ExB r H H10 := (b08.ex x9).trans b10
    subst hl10
    rw [hn9] at hE1
    dsimp only at hE1
    have e31 : (2 : Nat) ^ 31 = 2147483648 := by decide
    rw [e31] at hE1
    -- the two needs
    refine q_need (f := 3) (ea_cons (ev_andV (ev_op (ev_var rfl) ev_c rv_I0) (fun _ => ev_andV (ev_op (ev_var rfl) ev_c rv_I0) (fun _ => ev_op (ev_var rfl) ev_c rv_I0))) (ea_cons ev_c ea_nil)) (fun hb => ?_) (fun hb H11 x11 => ?_)
    · rw [Bool.and_eq_false_iff, Bool.and_eq_false_iff, decide_eq_false_iff_not, decide_eq_false_iff_not, decide_eq_false_iff_not] at hb
      rw [if_pos (by omega)] at hE1
      exact ((kf 3 hE1).on b010).flt
    rw [Bool.and_eq_true, Bool.and_eq_true, decide_eq_true_eq, decide_eq_true_eq, decide_eq_true_eq] at hb
    refine q_need (f := 3) (ea_cons (ev_andV (ev_op (ev_var rfl) ev_c rv_I0) (fun _ => ev_andV (ev_op (ev_var rfl) (ev_var rfl) rv_I0) (fun _ => ev_op (ev_var rfl) (ev_var rfl) rv_I0))) (ea_cons ev_c ea_nil)) (fun hb2 => ?_) (fun hb2 H12 x12 => ?_)
    · rw [Bool.and_eq_false_iff, Bool.and_eq_false_iff, decide_eq_false_iff_not, decide_eq_false_iff_not, decide_eq_false_iff_not] at hb2
      rw [if_pos (by omega)] at hE1
      exact ((kf 3 hE1).on (b010.ex x11)).flt
    rw [Bool.and_eq_true, Bool.and_eq_true, decide_eq_true_eq, decide_eq_true_eq, decide_eq_true_eq] at hb2
    rw [if_neg (by omega)] at hE1
    -- Frame(time, kind, queue, length, reader.some(many))
    have x1012 := x11.trans x12
    have R12 := R10.ex x1012
    obtain ⟨dx12, d12, ha12, hd12⟩ := id R12
    have b012 := b010.ex x1012
    refine ⟨_, rfl, _, rfl, _, rfl, _, rfl, _, rfl, r, dx12, _, rfl, ha12, ns d12 i10, _, rfl, r, data, i10, c, rfl, R12, hi10, fun hlt => ?_, fun hge p H13 hp b13 R13 h13 => ?_⟩
    · rw [if_pos hlt] at hE1
      exact (kf 4 hE1).on b012
    rw [if_neg hge] at hE1
    refine mk_frameD (e := ⟨t + dt, kd, qu, le, (data.drop i10).take c⟩) fun x dy H14 nx x14 hF => ?_
    have b013 := b012.trans b13
    obtain ⟨dx13, d13, ha13, _⟩ := id R13
    refine k _ _ hE1 x H14 (i10 + c) (b013.ex x14) ⟨dy, p, b013.fresh nx ha13, b012.fresh hp ha12, hF, x14 _ _ h13⟩ (R13.ex x14) ?_ ?_
    · have hdl : (data.drop i10).length = data.length - i10 := List.length_drop
      omega
    · rw [List.drop_drop]
abbrev s_entries_read : Stmt := (top 55)
theorem sc_entries_read : FnScope ["data", "size", "snap", "body", "reader", "many", "found", "time", "turn", "entry"] ["data", "size", "snap"] (defScope s_entries_read) := ⟨rfl, rfl, rfl, by decide +kernel, rfl, by decide +kernel, by decide +kernel⟩
def sp_entries_read (A : Ad) : Sp := fun vs H Q E => ∃ (d : Addr) (l : List Nat) (size snap : Nat), vs = [.ref d, .int size, .int snap] ∧ H d = some (.lst (ivs l)) ∧ l.length ≤ 10000 ∧ (∀ b ∈ l, b < 256) ∧ A.cR ≠ A.cF ∧ (∀ f, readN size snap l = .inl f → Flt A f H E) ∧
  ∀ es, readN size snap l = .inr es → ∀ p H', H p = none → Ex H H' → EntriesAt A H' p es → Q (.ref p) H'
theorem ei_readerP {σ : L2.St} {H : Hp} {ta : TA} {E : XK} {data : List Nat} {P : Hp → List V → Prop} (h : EvP ta σ H P) (hP : ∀ H1 vs, P H1 vs → ∃ d, vs = [.ref d] ∧ H1 d = some (.lst (ivs data))) :
    EvI (tMake A.cR (sp_Reader_init A) [] E ta) σ H (fun H' x => ReaderAt A H' x data 0) := fun H1 x1 Q q =>
  h H1 x1 _ fun vs H2 e2 hp => by
    obtain ⟨d, rfl, hd⟩ := hP H2 vs hp
    intro x dx nx nd ne
    refine ⟨x, dx, d, rfl, upd_same, rfl, ?_⟩
    refine q x _ (fresh_back e2 nx) (fun b o hb => ?_) ⟨dx, d, upd_same, ?_⟩
    · have z := e2 _ _ hb
      rw [upd_upd, upd_ne (ne_of_none z nx), upd_ne (ne_of_none z nd)]
      exact z
    · rw [upd_upd, upd_ne (ne_of_none hd nx), upd_ne (ne_of_none hd nd)]
      exact hd
theorem ok_entries_read {f : Addr} {fd : FuncData} (F : Fun K "entries_read" "entries_read" s_entries_read f fd) (T : Txt K mg A) (h_Reader : HasC P w K mg base CX0 1 A.cR "Reader" ["self", "data"] (sp_Reader_init A))
    (h_Reader_number : HasM P w K mg base (L2.CX P w) 4 A.cR "number" ["self"] (sp_Reader_number A)) (h_Reader_is_over : HasM P w K mg base CX0 1 A.cR "is_over" ["self"] (sp_Reader_is_over A))
    (h_need : Has P w K mg base (L2.CX P w) 3 "need" ["is_right", "fault"] (sp_need A)) (h_entry_read : Has P w K mg base (L2.CX P w) 5 "entry_read" ["reader", "ahead", "snap"] (sp_entry_read A)) (h_rest_bytes : Has P w K mg base CX0 3 "rest_bytes" ["data"] (sp_rest_bytes K))
    (h_room_of_all : Has P w K mg base CX0 2 "room_of_all" ["entries"] (sp_room_of_all A)) : FnOk P w K mg base (L2.CX P w) 6 f fd ["data", "size", "snap"] (sp_entries_read A) := by
  refine F.okX sc_entries_read (fun vs H Q E h => ?_) (fun cdv Ar outer s H vs Q E hr h => ?_)
  · obtain ⟨d, l, size, snap, rfl, _⟩ := h
    rfl
  · obtain ⟨d, l, size, snap, rfl, hd, hz, h256, hne, kf, k⟩ := h
    have nn : ∀ d j, (rF d j).lookup ("number" : Str) = none := fun d j => rF_no d j (by decide +kernel) (by decide +kernel)
    have no : ∀ d j, (rF d j).lookup ("is_over" : Str) = none := fun d j => rF_no d j (by decide +kernel) (by decide +kernel)
    refine ⟨_, (pss_cons (ps_set (i := 3) sc_entries_read.nd rfl (Or.inl rfl) (pe_slice sl_list (pv 0) po_none (po_some (pe_op op_sub (pe_callB call_len_seq (by rfl) T.b_len PySem.boot_len (pa_cons (pv 0) pa_nil)) (pe_gi T.c_REST_BYTES rfl)))))
      (pss_cons (ps_expr (pe_fn h_need (hr.mono (by decide)) (by rfl) (passes_call (takes_of rfl rfl rfl rfl) fun _ _ _ _ h => h) (pa_cons (pe_and (pe_cmpR op_ge (pe_callB call_len_seq (by rfl) T.b_len PySem.boot_len (pa_cons (pv 0) pa_nil)) (pe_gi T.c_LEAST_BYTES rfl) (nomark _)) (pe_and (pe_cmpR op_eq (pe_ix ix_list (pv 0) pe_int (fun _ _ => rfl)) (pe_gi T.c_MARK rfl) (nomark _)) (pe_one (pe_cmpR (op_eqD hr.units) (pe_fn h_rest_bytes (hr.mono (by decide)) (by rfl) pass0 (pa_cons (pv 3) pa_nil)) (pe_slice sl_list (pv 0) (po_some (pe_callB call_len_seq (by rfl) T.b_len PySem.boot_len (pa_cons (pv 3) pa_nil))) po_none) (nomark _))))) (pa_cons (pe_gi T.c_NO_MARK rfl) pa_nil))))
      (pss_cons (ps_set (i := 4) sc_entries_read.nd rfl (Or.inl rfl) (pe_mk h_Reader (hr.mono (by decide)) (by rfl) pass0 (pa_cons (pe_slice sl_list (pv 3) (po_some pe_int) po_none) pa_nil)))
      (pss_cons (ps_set (i := 5) sc_entries_read.nd rfl (Or.inl rfl) (pe_mt0 h_Reader_number (hr.mono (by decide)) (passes_call (takes_of rfl rfl rfl rfl) fun _ _ _ _ h => h) (pv 4)))
      (pss_cons (ps_expr (pe_fn h_need (hr.mono (by decide)) (by rfl) (passes_call (takes_of rfl rfl rfl rfl) fun _ _ _ _ h => h) (pa_cons (pe_cmpR op_le (pv 5) (pe_gi T.c_MOST_ENTRIES rfl) (nomark _)) (pa_cons (pe_gi T.c_BEYOND rfl) pa_nil))))
      (pss_cons (ps_set (i := 6) sc_entries_read.nd rfl (Or.inl rfl) (pe_lst pa_nil))
      (pss_cons (ps_set (i := 7) sc_entries_read.nd rfl (Or.inl rfl) pe_int)
      (pss_cons (ps_for (passes_of rfl) rfl (pi_range1 (by rfl) T.b_range (pa_cons (pv 5) pa_nil)) (pg_name (i := 8) sc_entries_read.nd rfl (Or.inl rfl)) (pss_cons (ps_set (i := 9) sc_entries_read.nd rfl (Or.inl rfl) (pe_fn h_entry_read (hr.mono (by decide)) (by rfl) (passes_call (takes_of rfl rfl rfl rfl) fun _ _ _ _ h => h) (pa_cons (pv 4) (pa_cons (pv 7) (pa_cons (pv 2) pa_nil)))))
      (pss_cons (ps_set (i := 7) sc_entries_read.nd rfl (Or.inl rfl) (pe_fld (pv 9) rfl))
      (pss_one (ps_expr (pe_bm PySem.F.plainAttrs_list PySem.F.slot_list_append PySem.F.type_list_append mt_append (pv 6) (pa_cons (pv 9) pa_nil)))))))
      (pss_cons (ps_expr (pe_fn h_need (hr.mono (by decide)) (by rfl) (passes_call (takes_of rfl rfl rfl rfl) fun _ _ _ _ h => h) (pa_cons (pe_mt0 h_Reader_is_over (hr.mono (by decide)) pass0 (pv 4)) (pa_cons (pe_gi T.c_BEHIND rfl) pa_nil))))
      (pss_cons (ps_expr (pe_fn h_need (hr.mono (by decide)) (by rfl) (passes_call (takes_of rfl rfl rfl rfl) fun _ _ _ _ h => h) (pa_cons (pe_cmpR op_le (pe_fn h_room_of_all (hr.mono (by decide)) (by rfl) pass0 (pa_cons (pv 6) pa_nil)) (pv 1) (nomark _)) (pa_cons (pe_gi T.c_NO_ROOM rfl) pa_nil))))
      (pss_one (ps_ret (pv 6))))))))))))), ?_⟩
    -- body
    refine q_asgL (el_sl (ev_var rfl) eo_none (eo_some (ev_op (ev_len (ev_var rfl) (sq_of hd)) ev_c rv_I0)) (sq_of hd)) fun bp H1 hbp x1 h1 => ?_
    rw [ivs_len] at h1
    have h1' : 4 ≤ l.length → H1 bp = some (.lst (ivs (l.take (l.length - 4)))) := fun h4 => by
      have e : (l.length : Int) - 4 = ((l.length - 4 : Nat) : Int) := by omega
      rw [e, cutV_to, ivs_take] at h1
      exact h1
    -- the first need
    refine q_need (b := decide (headOk l)) (f := 1) (ea_cons (ev_is (ev_andV (a := decide (6 ≤ l.length)) (b := decide (l[0]? = some 87) && decide (Sj55.low 4 (Sj55.rest (l.take (l.length - 4))) = l.drop (l.length - 4))) (ev_is (ev_op (ev_len (ev_var rfl) (sq_of (x1 _ _ hd))) ev_c rv_I0) ?_) (fun h6 => ev_andV (a := decide (l[0]? = some 87)) ?_ (fun _ => ?_))) ?_) (ea_cons ev_c ea_nil)) (fun hb => ?_) (fun hb H2 x2 => ?_)
    · rw [ivs_len]
      exact congrArg V.bl (decide_eq_decide.mpr (by omega))
    · have h6' := of_decide_eq_true h6
      have h0 : l[0]? = some l[0] := List.getElem?_eq_getElem (by omega)
      generalize l[0] = z at h0
      refine ev_is (ev_eqInt (ev_op (ev_var rfl) ev_c (rv_ixL (sq_of (x1 _ _ hd)) (atI_nat (j := 0) (v := V.int (z : Nat)) (by rw [ivs_at, h0]; rfl)))) ev_c) ?_
      rw [h0]
      refine congrArg V.bl (decide_eq_decide.mpr ⟨fun h => ?_, fun h => ?_⟩)
      · rw [show z = 87 by omega]
      · have := Option.some.inj h
        omega
    · have h6' := of_decide_eq_true h6
      have hb1 := h1' (by omega)
      refine ev_eqLL (el_call (ea_cons (ev_var rfl) ea_nil) (sp_rest_bytes_v (sq_of hb1))) (el_is (el_sl (ev_var rfl) (eo_some (ev_len (ev_var rfl) (sq_of hb1))) eo_none (sq_of (x1 _ _ hd))) ?_)
      have e : ((ivs (l.take (l.length - 4))).length : Int) = ((l.length - 4 : Nat) : Int) := by
        rw [ivs_len, List.length_take]
        omega
      rw [e, cutV_from, ivs_drop]
    · rw [← Bool.decide_and, ← Bool.decide_and]
      rfl
    · have hno := of_decide_eq_false hb
      exact (kf 1 (readN_bad hno)).on x1
    have hok := of_decide_eq_true hb
    have hrd := readN_good (size := size) (snap := snap) hok
    have h6 := hok.1
    have hb2 := x2 _ _ (h1' (by omega))
    have x12 := x1.trans x2
    -- reader
    generalize hrdd : (l.take (l.length - 4)).drop 1 = rd at hrd
    have hrl : rd.length ≤ 10000 := by
      rw [← hrdd, List.length_drop, List.length_take]
      omega
    have hr256 : ∀ b ∈ rd, b < 256 := fun b hb => by
      rw [← hrdd] at hb
      exact h256 b (List.mem_of_mem_take (List.mem_of_mem_drop hb))
    refine q_asgI (ei_readerP (data := rd) (ep_lastL (el_is (el_sl (ev_var rfl) (eo_some ev_c) eo_none (sq_of hb2)) (show cutV (ivs (l.take (l.length - 4))) (some ((1 : Nat) : Int)) none = ivs rd by rw [cutV_from, ivs_drop, hrdd]))) (fun H1 vs ⟨p, h1, h2⟩ => ⟨p, h1, h2⟩)) fun r H3 hr3 x3 R3 => ?_
    have x13 := x12.trans x3
    have hrH : H r = none := fresh_back x12 hr3
    -- many = reader.number()
    obtain ⟨dx3, d3, ha3, hd3⟩ := id R3
    have hB : readN size snap l = match Sj55.num? rd with
      | none => .inl 2
      | some (n, l) => if 1024 < n then .inl 3 else readC size (Sj55.entriesIn snap n 0 l) := hrd
    refine q_asgM (ev_var rfl) ha3 (nn d3 0) ea_nil fun H4 x4 => ⟨r, rd, 0, rfl, R3.ex x4, Nat.zero_le _, hrl, hr256, fun hno => ?_, fun n l5 hn H5 i5 b5 R5 hi5 hl5 => ?_⟩
    · rw [List.drop_zero] at hno
      rw [hno] at hB
      exact (kf 2 hB).fresh (x13.trans x4) hrH
    rw [List.drop_zero] at hn
    rw [hn] at hB
    dsimp only at hB
    have x05 : Ex H H5 := fun b o hb => b5 b o ((x13.trans x4) b o hb) (ne_of_none hb hrH)
    subst hl5
    -- need many <= 1024
    refine q_need (b := decide (n ≤ 1024)) (f := 3) (ea_cons (ev_is (ev_op (ev_var rfl) ev_c rv_I0) (congrArg V.bl (decide_eq_decide.mpr (by omega)))) (ea_cons ev_c ea_nil)) (fun hb => ?_) (fun hb H6 x6 => ?_)
    · have := of_decide_eq_false hb
      rw [if_pos (by omega)] at hB
      exact (kf 3 hB).on x05
    have hn1024 := of_decide_eq_true hb
    rw [if_neg (by omega)] at hB
    have x06 := x05.trans x6
    refine q_asgL (el_lst ea_nil (Nat.zero_le _)) fun fl H7 hfl x7 h7 => ?_
    have x07 := x06.trans x7
    have hflH : H fl = none := fresh_back x06 hfl
    have R7 := (R5.ex x6).ex x7
    refine q_asg ev_c fun H8 x8 => ?_
    have R8 := R7.ex x8
    -- the loop
    refine q_forR1 (ea_cons (ev_var rfl) ea_nil) ⟨by omega, by omega⟩ (fun i σ' H' => ∃ (v8 v9 : Option V) (acc : List Sj55.Entry) (as : List Addr) (i' t : Nat), σ' = [some (.ref d), some (.int size), some (.int snap), some (.ref bp), some (.ref r), some (.int (n : Nat)), some (.ref fl), some (.int (t : Nat)), v8, v9] ∧ Ex H H' ∧
        H' fl = some (.lst (as.map V.ref)) ∧ FramesAt A (del H' fl) as acc ∧ as.length = i ∧ ReaderAt A H' r rd i' ∧ i' ≤ rd.length ∧ i ≤ n ∧ joinIn acc (Sj55.entriesIn snap (n - i) t (rd.drop i')) = Sj55.entriesIn snap n 0 (rd.drop i5))
      (fun H9 x9 => ⟨none, none, [], [], i5, 0, rfl, (x07.trans x8).trans x9, (x8.trans x9) _ _ h7, .nil, rfl, R8.ex x9, hi5, Nat.zero_le _, joinIn_nil _⟩) ?_ ?_
    · rintro i σ' H9 hi ⟨v8, v9, acc, as, i', t, rfl, x9, hL, hFs, hlen, R9, hi', _, hj⟩
      have hin : i < n := by omega
      have en : n - i = (n - (i + 1)) + 1 := by omega
      rw [en] at hj
      refine q_asgF (ea_cons (ev_var rfl) (ea_cons (ev_var rfl) (ea_cons (ev_var rfl) ea_nil))) fun H10 x10 => ⟨r, rd, i', t, snap, rfl, R9.ex x10, hi', hrl, hr256, fun f hf => ?_, fun e l' he x H11 i'' b11 hN R11 hi'' hl' => ?_⟩
      · rw [joinIn_fault hf] at hj
        rw [← hj] at hB
        exact (kf f hB).fresh (x9.trans x10) hrH
      rw [joinIn_more he] at hj
      have x011 : Ex H H11 := fun b o hb => b11 b o ((x9.trans x10) b o hb) (ne_of_none hb hrH)
      have hL10 := x10 _ _ hL
      obtain ⟨dxr, dr, har, _⟩ := id R9
      have nfl : fl ≠ r := ne_of hL har (by intro z; cases z)
      have hL11 : H11 fl = some (.lst (as.map V.ref)) := b11 _ _ hL10 nfl
      obtain ⟨dy, dd, nx, nd, hx, hdd⟩ := hN
      refine q_asg (ev_fld (ev_var rfl) hx T.clF T.nF_time (fF_time e dd)) fun H12 x12 => ?_
      refine s_app (x12 _ _ hL11) (ev_var rfl) (ev_var rfl) (by rw [List.length_map]; omega) fun H13 x13 => ?_
      have nxl : x ≠ fl := fun z => by
        rw [z, hL10] at nx
        cases nx
      have ndl : dd ≠ fl := fun z => by
        rw [z, hL10] at nd
        cases nd
      have x1113 := x12.trans x13
      refine ⟨some (.int i), some (.ref x), acc ++ [e], as ++ [x], i'', e.time, rfl, (x011.trans x1113).mut hflH, ?_, ?_, by simp [hlen], ?_, hi'', by omega, ?_⟩
      · rw [upd_same, List.map_append]
        rfl
      · rw [del_upd]
        have hrd : del H10 fl r = some (.ins A.cR dxr (rF dr i')) := by
          rw [del_ne nfl.symm]
          exact x10 _ _ har
        have b1013 : ExB r (del H10 fl) (del H13 fl) := (b11.ex x1113).del
        refine Paired.app (Paired.imp2 (fun a e0 hF => b1013.frame hrd hne (hF.ex (Ex.del x10))) hFs) (.cons ⟨dy, dd, ?_, ?_⟩ .nil)
        · rw [del_ne nxl]
          exact x1113 _ _ hx
        · rw [del_ne ndl]
          exact x1113 _ _ hdd
      · obtain ⟨dxr', dr', har', hdr'⟩ := R11
        have n1 : r ≠ fl := nfl.symm
        have n2 : dr' ≠ fl := ne_of hdr' hL11 (by
          intro z
          injection z with z
          cases rd with
          | nil => cases hn
          | cons b0 rd =>
            cases as with
            | nil => cases z
            | cons a0 as =>
              injection z with z1 _
              cases z1)
        refine ⟨dxr', dr', ?_, ?_⟩
        · rw [upd_ne n1]
          exact x1113 _ _ har'
        · rw [upd_ne n2]
          exact x1113 _ _ hdr'
      · rw [hl']
        exact hj
    · rintro σ' H9 ⟨v8, v9, acc, as, i', t, rfl, x9, hL, hFs, hlen, R9, hi', _, hj⟩
      rw [Int.toNat_natCast] at hlen hj
      rw [Nat.sub_self, joinIn_end] at hj
      rw [← hj] at hB
      have hC : readN size snap l = if rd.drop i' ≠ [] then .inl 5 else if size < Sj55.total acc then .inl 6 else .inr acc := hB
      obtain ⟨dxr, dr, har, _⟩ := id R9
      have hE9 : EntriesAt A H9 fl acc := ⟨as, hL, FramesAt.ex Ex.del_of hFs⟩
      have hal : acc.length ≤ 1024 := by
        have : as.length = acc.length := Paired.length hFs
        omega
      refine q_need (b := decide (i' = rd.length)) (f := 5) (ea_cons (ev_meth (ev_var rfl) har (no dr i') ea_nil (sp_Reader_is_over_v R9)) (ea_cons ev_c ea_nil)) (fun hb => ?_) (fun hb H10 x10 => ?_)
      · have hne5 := of_decide_eq_false hb
        rw [if_pos (fun z => hne5 (by have := List.drop_eq_nil_iff.mp z; omega))] at hC
        exact (kf 5 hC).on x9
      have hi5 := of_decide_eq_true hb
      rw [if_neg (fun z => z (List.drop_eq_nil_iff.mpr (by omega)))] at hC
      refine q_need (b := decide (Sj55.total acc ≤ size)) (f := 6) (ea_cons (ev_is (ev_op (ev_call (ea_cons (ev_var rfl) ea_nil) (sp_room_of_all_v (hE9.ex x10) (by omega))) (ev_var rfl) rv_I0) (congrArg V.bl (decide_eq_decide.mpr (by omega)))) (ea_cons ev_c ea_nil)) (fun hb => ?_) (fun hb H11 x11 => ?_)
      · have := of_decide_eq_false hb
        rw [if_pos (by omega)] at hC
        exact (kf 6 hC).on (x9.trans x10)
      have := of_decide_eq_true hb
      rw [if_neg (by omega)] at hC
      refine s_ret (ev_var rfl) fun H12 x12 => ?_
      exact k acc hC fl H12 hflH ((x9.trans (x10.trans x11)).trans x12) (hE9.ex ((x10.trans x11).trans x12))
end
end G
namespace G
open PySem PySem.Spec PyProof.Rows L2 Evl
open Sj55 (Ins isIn isFrame)

section
variable {X : Cx} {CX : CXT} {k : Nat} {ps : List Str} {sp : Sp} {E : L2.St → XK} {x : Str} {p pos : Pos} {e : Expr} {es : List Expr} {t : TA}
theorem pe_fnS (h : Has X.prog X.w X.K X.mg X.base CX k x ps sp) (hr : Room k X.A) (hg : Gl X x) (hx : ∀ σ, PassesAt CX X σ (E σ)) (ha : PA X (e :: es) t)
    (hdb : (x == ("__debug__" : Str)) = false := by decide) (he : starEach (e :: es) X.env = (false, eval e X.env) :: starEach es X.env := by rfl) (hpl : (backTo pos (starEach es X.env)).any (·.1) = false := by rfl) :
    PE X (.Call (.Name x p) (e :: es) [] pos) (tCallS sp E t) := by
  obtain ⟨f, fd, hm, hk, hb, F⟩ := h.ex
  exact pe_callS F hr hg hm hk hb hx ha hdb he hpl
end
section
variable {K : PySem.W.Frag} {σ : L2.St} {H H' : Hp} {ta tb te : TE} {tA : TA} {t : TT} {D : Ends} {tz tu : TS} {x z : V}
theorem el_if {b : Bool} {xs : List V} (h : EvT t σ H b) (h1 : b = true → EvL ta σ H xs) (h2 : b = false → EvL tb σ H xs) : EvL (tIf t ta tb) σ H xs := fun H1 e Q q => h H1 e _ fun H2 e2 => by
  cases b with
  | true =>
    show ta σ H2 Q
    exact h1 rfl H2 (e.trans e2) Q fun p H3 hp e3 h3 => q p H3 (fresh_back e2 hp) (e2.trans e3) h3
  | false =>
    show tb σ H2 Q
    exact h2 rfl H2 (e.trans e2) Q fun p H3 hp e3 h3 => q p H3 (fresh_back e2 hp) (e2.trans e3) h3
theorem ev_callI2 {sp : Sp} {E : XK} {P : Hp → Addr → Prop} (h1 : Ev ta σ H x) (h2 : EvI tb σ H P) (hs : ∀ y H1, Ex H H1 → P H1 y → SpV sp [x, .ref y] H1 z) : Ev (tCall sp [] E (tCons ta (tCons tb tNil))) σ H z := fun H1 e Q q =>
  h1 H1 e _ fun H2 e2 => h2 H2 (e.trans e2) _ fun y H3 _ e3 hP => hs y H3 ((e.trans e2).trans e3) hP H3 (Ex.refl H3) Q (fun H4 e4 => q H4 ((e2.trans e3).trans e4)) E
theorem q_unpL4 {l : Addr} {a b c d : V} {i j k m : Nat} (h : Ev te σ H (.ref l)) (ht : SqL K H l [a, b, c, d]) (kk : ∀ H1, Ex H H1 → tz D ((((σ.set i (some a)).set j (some b)).set k (some c)).set m (some d)) H1) :
    tSeq (tAsg te (gLst K 4 (gCons (gName i) (gCons (gName j) (gCons (gName k) (gCons (gName m) gNil)))))) tz D σ H :=
  h H (Ex.refl H) _ fun H1 e => ⟨l, _, rfl, ex_l e ht, rfl, _, _, rfl, _, _, rfl, _, _, rfl, _, _, rfl, rfl, kk H1 e⟩
theorem s_retC {sp : Sp} {E : XK} {vs : List V} (hA : EvA tA σ H vs) (hs : ∀ H1, Ex H H1 → sp (vs ++ []) H1 D.rt E) : tRet (tCall sp [] E tA) D σ H := hA H (Ex.refl H) _ hs
theorem s_retIf {b : Bool} (h : EvT t σ H b) (h1 : b = true → ∀ H1, Ex H H1 → tRet ta D σ H1) (h2 : b = false → ∀ H1, Ex H H1 → tRet tb D σ H1) : tRet (tIf t ta tb) D σ H := h H (Ex.refl H) _ fun H2 e2 => by
  cases b with
  | true =>
    show ta σ H2 D.rt
    exact h1 rfl H2 e2
  | false =>
    show tb σ H2 D.rt
    exact h2 rfl H2 e2
theorem ev_xf {a C dd : Addr} {f : Str} {fs : List (Str × V)} {v : V} (h : Ev te σ H (.ref a)) (hd : H dd = some (.xd fs)) (hl : fs.lookup f = some v) : Ev (tXf a (.ref C) (some dd) C f te) σ H v := fun H1 e Q q =>
  h H1 e _ fun H2 e2 => ⟨rfl, rfl, dd, fs, v, rfl, e2 _ _ (e _ _ hd), hl, q H2 e2⟩
theorem ev_at {l : Addr} {xs : List V} {v : V} (i : Nat) (h : Ev ta σ H (.ref l)) (hl : H l = some (.lst xs)) (hv : xs[i]? = some v) : Ev (tOp (rIxL K) ta (tC (.int (i : Nat)))) σ H v := ev_op h ev_c (rv_ixL (sq_of hl) (atI_nat hv))
end
/-- a call's end: a new list is handed back, the record is another -/
def Done (K : PySem.W.Frag) (A : Ad) (a : Addr) (r : Kst × List Int) (H : Hp) (Q : VK) : Prop := ∀ p H', H p = none → ExB a H H' → KeptAt K A H' a r.1 → H' p = some (.lst (r.2.map V.int)) → Q (.ref p) H'
theorem Done.ret {K : PySem.W.Frag} {A : Ad} {a : Addr} {s : Kst} {ans : List Int} {H H1 : Hp} {Q : VK} (k : Done K A a (s, ans) H Q) (hK : KeptAt K A H a s) (x1 : Ex H H1) : ∀ p H2, H1 p = none → Ex H1 H2 → H2 p = some (.lst (ans.map V.int)) → Q (.ref p) H2 :=
  fun p H2 hp x2 h2 => k p H2 (fresh_back x1 hp) (ExB.of (x1.trans x2)) (hK.ex (x1.trans x2)) h2
theorem ints_V (l : List Nat) : (Sj55.ints l).map V.int = ivs l := by
  unfold Sj55.ints ivs
  rw [List.map_map]
  rfl
theorem nats_V {l : List Int} (h : ∀ z ∈ l, 0 ≤ z) : l.map V.int = ivs (Sj55.nats l) := by
  unfold Sj55.nats ivs
  rw [List.map_map]
  apply List.map_congr_left
  intro z hz
  show V.int z = V.int ((z.toNat : Nat) : Int)
  rw [Int.toNat_of_nonneg (h z hz)]
section
variable {P : Program} {w : World} {K : PySem.W.Frag} {mg : Str → Option Value} {base : Heap} {A : Ad}
abbrev s_are_frame : Stmt := (top 80)
theorem sc_are_frame : FnScope ["numbers", "time", "kind", "queue", "many"] ["numbers"] (defScope s_are_frame) := ⟨rfl, rfl, rfl, by decide +kernel, rfl, by decide +kernel, by decide +kernel⟩
def sp_are_frame (K : PySem.W.Frag) : Sp := fun vs H Q _ => ∃ (l : Addr) (t k q n : Int), vs = [.ref l] ∧ H l = some (.lst [.int t, .int k, .int q, .int n]) ∧ RetV (.bl (isFrame t k q n)) H Q
theorem ok_are_frame {f : Addr} {fd : FuncData} (F : Fun K "are_frame" "are_frame" s_are_frame f fd) (T : Txt K mg A) : FnOk P w K mg base CX0 1 f fd ["numbers"] (sp_are_frame K) := by
  refine F.ok sc_are_frame (fun vs H Q E h => ?_) (fun cdv Ar outer s H vs Q E hr h => ?_)
  · obtain ⟨l, t, k, q, n, rfl, _⟩ := h
    rfl
  · obtain ⟨l, t, k, q, n, rfl, hl, kk⟩ := h
    refine ⟨_, (pss_cons (ps_asg (pv 0) (pg_lst rfl (pgs_cons (pg_name (i := 1) sc_are_frame.nd rfl (Or.inl rfl)) (pgs_cons (pg_name (i := 2) sc_are_frame.nd rfl (Or.inl rfl)) (pgs_cons (pg_name (i := 3) sc_are_frame.nd rfl (Or.inl rfl)) (pgs_cons (pg_name (i := 4) sc_are_frame.nd rfl (Or.inl rfl)) pgs_nil))))))
      (pss_cons (ps_if (PW.pt (pw_or (pt_not (pt_chain op_le op_le pe_int (pv 1) (pe_gi T.c_MOST_TIME rfl))) (pw_or1 (pt_not (pt_chain op_le op_le pe_int (pv 2) (pe_gi T.c_MOST_KIND rfl)))))) (pss_one (ps_ret pe_bl)) pss_nil)
      (pss_one (ps_ret (pe_and (pe_chain op_le op_le pe_int (pv 3) (pe_gi T.c_MOST_QUEUE rfl)) (pe_one (pe_chain op_le op_le pe_int (pv 4) (pe_gi T.c_MOST_LENGTH rfl)))))))), ?_⟩
    refine q_unpL4 (ev_var rfl) (sq_of hl) fun H1 x1 => ?_
    refine q_when (et_or (et_not (et_test (ev_chain ev_c (ev_var rfl) rv_I0 (fun _ => ev_c) (fun _ => rv_I0)))) (fun _ => et_not (et_test (ev_chain ev_c (ev_var rfl) rv_I0 (fun _ => ev_c) (fun _ => rv_I0))))) (fun hb H2 x2 => ?_) (fun hb H2 x2 => ?_)
    · refine s_ret ev_c (RetV.at kk (x1.trans x2) ?_)
      have hb' : (!isIn 0 2147483647 t || !isIn 0 15 k) = true := hb
      have e : isFrame t k q n = false := by
        cases h : isFrame t k q n with
        | false => rfl
        | true =>
          obtain ⟨h1, h2, _⟩ := isFrame_iff.mp h
          rw [isIn_iff.mpr h1, isIn_iff.mpr h2] at hb'
          cases hb'
      rw [e]
    · refine s_ret (ev_andV (ev_chain ev_c (ev_var rfl) rv_I0 (fun _ => ev_c) (fun _ => rv_I0)) (fun _ => ev_chain ev_c (ev_var rfl) rv_I0 (fun _ => ev_c) (fun _ => rv_I0))) (RetV.at kk (x1.trans x2) ?_)
      have hb' : (!isIn 0 2147483647 t || !isIn 0 15 k) = false := hb
      rw [Bool.or_eq_false_iff, Bool.not_eq_false', Bool.not_eq_false'] at hb'
      show V.bl (isIn 0 7 q && isIn 0 1024 n) = V.bl (isFrame t k q n)
      unfold Sj55.isFrame
      have e : (2 : Int) ^ 31 - 1 = 2147483647 := by decide
      rw [e, hb'.1, hb'.2]
      rfl
theorem sp_are_frame_v {H : Hp} {l : Addr} {t k q n : Int} (h : H l = some (.lst [.int t, .int k, .int q, .int n])) : SpV (sp_are_frame K) [.ref l] H (.bl (isFrame t k q n)) := fun H1 x Q q' E => ⟨l, t, k, q, n, rfl, x _ _ h, q'⟩
abbrev s_frame_of : Stmt := (top 81)
theorem sc_frame_of : FnScope ["numbers", "row"] ["numbers", "row"] (defScope s_frame_of) := ⟨rfl, rfl, rfl, by decide +kernel, rfl, by decide +kernel, by decide +kernel⟩
def sp_frame_of (A : Ad) : Sp := fun vs H Q _ => ∃ (l d : Addr) (t k q n : Nat) (f : List Nat), vs = [.ref l, .ref d] ∧ H l = some (.lst [.int t, .int k, .int q, .int n]) ∧ H d = some (.lst (ivs f)) ∧ ∀ x H', H x = none → Ex H H' → FrameAt A H' x ⟨t, k, q, n, f⟩ → Q (.ref x) H'
theorem ok_frame_of {f : Addr} {fd : FuncData} (F : Fun K "frame_of" "frame_of" s_frame_of f fd) (T : Txt K mg A) (h_Frame : HasC P w K mg base CX0 1 A.cF "Frame" ["self", "time", "kind", "queue", "length", "data"] (sp_Frame_init A)) : FnOk P w K mg base CX0 3 f fd ["numbers", "row"] (sp_frame_of A) := by
  refine F.ok sc_frame_of (fun vs H Q E h => ?_) (fun cdv Ar outer s H vs Q E hr h => ?_)
  · obtain ⟨l, d, t, k, q, n, f, rfl, _⟩ := h
    rfl
  · obtain ⟨l, d, t, k, q, n, f, rfl, hl, hd, kk⟩ := h
    refine ⟨_, (pss_one (ps_ret (pe_mk h_Frame (hr.mono (by decide)) (by rfl) pass0 (pa_cons (pe_ix ix_list (pv 0) pe_int (fun _ _ => rfl)) (pa_cons (pe_ix ix_list (pv 0) pe_int (fun _ _ => rfl)) (pa_cons (pe_ix ix_list (pv 0) pe_int (fun _ _ => rfl)) (pa_cons (pe_ix ix_list (pv 0) pe_int (fun _ _ => rfl)) (pa_cons (pv 1) pa_nil)))))))), ?_⟩
    exact s_retI (ei_frame (e := ⟨t, k, q, n, f⟩) (ea_cons (ev_at 0 (ev_var rfl) hl rfl) (ea_cons (ev_at 1 (ev_var rfl) hl rfl) (ea_cons (ev_at 2 (ev_var rfl) hl rfl) (ea_cons (ev_at 3 (ev_var rfl) hl rfl) (ea_cons (ev_var rfl) ea_nil))))) hd) kk
theorem sp_frame_of_i {H : Hp} {l d : Addr} {t k q n : Int} {ns : List Int} (hl : H l = some (.lst [.int t, .int k, .int q, .int n])) (hd : H d = some (.lst (ns.map V.int))) (hf : isFrame t k q n = true) (h0 : ∀ z ∈ ns, 0 ≤ z) :
    SpI (sp_frame_of A) [.ref l, .ref d] H (fun H' x => FrameAt A H' x (frameE t k q n ns)) := fun H1 x Q q' E => by
  obtain ⟨h1, h2, h3, h4⟩ := isFrame_iff.mp hf
  refine ⟨l, d, t.toNat, k.toNat, q.toNat, n.toNat, Sj55.nats ns, rfl, ?_, ?_, q'⟩
  · rw [x _ _ hl, Int.toNat_of_nonneg h1.1, Int.toNat_of_nonneg h2.1, Int.toNat_of_nonneg h3.1, Int.toNat_of_nonneg h4.1]
  · rw [x _ _ hd, nats_V h0]
abbrev s_programmed : Stmt := (top 82)
theorem sc_programmed : FnScope ["kept", "numbers", "row", "program", "wrong"] ["kept", "numbers", "row"] (defScope s_programmed) := ⟨rfl, rfl, rfl, by decide +kernel, rfl, by decide +kernel, by decide +kernel⟩
def sp_programmed (K : PySem.W.Frag) (A : Ad) : Sp := fun vs H Q _ => ∃ (a nl rl : Addr) (s : Kst) (n : Int) (ns : List Int), vs = [.ref a, .ref nl, .ref rl] ∧ KeptAt K A H a s ∧ H nl = some (.lst [.int n]) ∧ H rl = some (.lst (ns.map V.int)) ∧ callGood (.program n ns) ∧ A.cK ≠ A.cF ∧ Done K A a (s.on (.program n ns)) H Q
theorem ok_programmed {f : Addr} {fd : FuncData} (F : Fun K "programmed" "programmed" s_programmed f fd) (T : Txt K mg A) (h_instructions_of : Has P w K mg base CX0 1 "instructions_of" ["numbers"] (sp_instructions_of K)) (h_first_wrong : Has P w K mg base CX0 3 "first_wrong" ["program"] (sp_first_wrong K)) :
    FnOk P w K mg base CX0 4 f fd ["kept", "numbers", "row"] (sp_programmed K A) := by
  refine F.ok sc_programmed (fun vs H Q E h => ?_) (fun cdv Ar outer s H vs Q E hr h => ?_)
  · obtain ⟨a, nl, rl, s, n, ns, rfl, _⟩ := h
    rfl
  · obtain ⟨a, nl, rl, s, n, ns, rfl, hK, hn, hrl, hc, hne, k⟩ := h
    obtain ⟨hcl, hc0⟩ := hc
    refine ⟨_, (pss_cons (ps_if (pt_not (pt_chain op_le op_le pe_int (pe_ix ix_list (pv 1) pe_int (fun _ _ => rfl)) (pe_gi T.c_MOST_INSTRUCTIONS rfl))) (pss_one (ps_ret (pe_lst (pa_cons (pe_gi T.c_NO_SUCH_NUMBER rfl) pa_nil)))) pss_nil)
      (pss_cons (ps_set (i := 3) sc_programmed.nd rfl (Or.inl rfl) (pe_fn h_instructions_of (hr.mono (by decide)) (by rfl) pass0 (pa_cons (pv 2) pa_nil)))
      (pss_cons (ps_set (i := 4) sc_programmed.nd rfl (Or.inl rfl) (pe_fn h_first_wrong (hr.mono (by decide)) (by rfl) pass0 (pa_cons (pv 3) pa_nil)))
      (pss_cons (ps_if (pt_cmpR op_notN (pv 4) pe_non (nomark _)) (pss_one (ps_ret (pe_lst (pa_cons (pe_op op_sub (pe_gi T.c_WRONG rfl) (pv 4)) pa_nil)))) pss_nil)
      (pss_cons (ps_fld (pv 0) (pv 3) rfl)
      (pss_one (ps_ret (pe_lst (pa_cons (pe_ix ix_list (pv 1) pe_int (fun _ _ => rfl)) pa_nil))))))))), ?_⟩
    refine q_when (et_not (et_test (ev_chain ev_c (ev_at 0 (ev_var rfl) hn rfl) rv_I0 (fun _ => ev_c) (fun _ => rv_I0)))) (fun hb H1 x1 => ?_) (fun hb H1 x1 => ?_)
    · have hb' : isIn 1 64 n = false := by simpa using (show (!isIn 1 64 n) = true from hb)
      have e : s.on (.program n ns) = (s, [-2]) := by
        show (if isIn 1 64 n = false then _ else _) = _
        rw [if_pos hb']
      rw [e] at k
      exact s_retL (el_lst (ea_cons ev_c ea_nil) (by show 1 ≤ 100000; decide)) (Done.ret k hK x1)
    · have hb' : isIn 1 64 n = true := by simpa using (show (!isIn 1 64 n) = false from hb)
      have hin := isIn_iff.mp hb'
      rw [many_in hb'] at hcl
      refine q_asgI (ei_call (ea_cons (ev_var rfl) ea_nil) (fun H2 x2 Q2 q2 E2 => ⟨rl, ns, n.toNat, rfl, sq_of (x2 _ _ (x1 _ _ hrl)), hcl, by omega, hc0, q2⟩)) fun q H2 hq x2 hP => ?_
      have hlen := insOf_len n.toNat ns hcl
      refine q_asg (ev_call (ea_cons (ev_var rfl) ea_nil) (sp_first_wrong_v hP (by omega))) fun H3 x3 => ?_
      have x13 := (x1.trans x2).trans x3
      refine q_when (b := (Sj55.wrong (Sj55.insOf n.toNat ns)).isSome) (et_is (et_test (ev_op (ev_var rfl) ev_c (fun H4 _ Q4 q4 => ⟨rfl, q4 H4 (Ex.refl H4)⟩))) ?_) (fun hw H4 x4 => ?_) (fun hw H4 x4 => ?_)
      · cases Sj55.wrong (Sj55.insOf n.toNat ns) <;> rfl
      · obtain ⟨j, hj⟩ := Option.isSome_iff_exists.mp hw
        have e : s.on (.program n ns) = (s, [-100 - Sj55.nat j]) := by
          show (if isIn 1 64 n = false then _ else _) = _
          rw [if_neg (by rw [hb']; decide), hj]
        rw [e] at k
        rw [hj]
        exact s_retL (el_lst (ea_cons (ev_op ev_c (ev_var rfl) rv_I0) ea_nil) (by show 1 ≤ 100000; decide)) (Done.ret k hK (x13.trans x4))
      · have hj : Sj55.wrong (Sj55.insOf n.toNat ns) = none := by simpa using hw
        have e : s.on (.program n ns) = ({ s with prog := Sj55.insOf n.toNat ns }, [n]) := by
          show (if isIn 1 64 n = false then _ else _) = _
          rw [if_neg (by rw [hb']; decide), hj]
        rw [e] at k
        have x14 := x13.trans x4
        obtain ⟨dx, pa, la, ha, hp, hE⟩ := id hK
        refine q_fld (ev_var rfl) (ev_var rfl) (x14 _ _ ha) T.clK T.nK_program (kF_few s pa la) fun H5 x5 => ?_
        rw [kF_put_program s pa la q (Sj55.insOf n.toNat ns)]
        have x15 := x14.trans x5
        have xb : ExB a H (upd H5 a (.ins A.cK dx (kF { s with prog := Sj55.insOf n.toNat ns } q la))) := (ExB.of x15).upd
        have nnl : nl ≠ a := ne_of hn ha (by intro z; cases z)
        refine s_retL (el_lst (ea_cons (ev_at 0 (ev_var rfl) (xb _ _ hn nnl) rfl) ea_nil) (by show 1 ≤ 100000; decide)) fun p H6 hp6 x6 h6 => ?_
        refine k p H6 ?_ (xb.ex x6) (KeptAt.ex x6 ⟨dx, q, la, upd_same, ?_, xb.entries ha hne hE⟩) h6
        · exact ExB.fresh xb hp6 upd_same
        · exact ExB.prog ((ExB.of (x3.trans (x4.trans x5))).upd) ((x1.trans x2) _ _ ha) hP
end
end G
namespace G
open PySem PySem.Spec PyProof.Rows L2 Evl
open Sj55 (Ins isIn isFrame)
theorem s_asgS {σ : L2.St} {H : Hp} {tA : TA} {D : Ends} {sp : Sp} {E : L2.St → XK} {vs : List V} {i : Nat} (hA : EvA tA σ H vs) (hs : ∀ H1, Ex H H1 → sp vs H1 (fun v H2 => D.nx (σ.set i (some v)) H2) (E σ)) : tAsg (tCallS sp E tA) (gName i) D σ H := hA H (Ex.refl H) _ hs
section
variable {P : Program} {w : World} {K : PySem.W.Frag} {mg : Str → Option Value} {base : Heap} {A : Ad}
theorem sp_Kept_last_time_v {H : Hp} {a : Addr} {s : Kst} (h : KeptAt K A H a s) : SpV (sp_Kept_last_time K A) [.ref a] H (.int (lastT s.entries : Nat)) := fun H1 x Q q E => ⟨a, s, rfl, h.ex x, q⟩
abbrev s_put_by : Stmt := (top 83)
theorem sc_put_by : FnScope ["kept", "numbers", "row"] ["kept", "numbers", "row"] (defScope s_put_by) := ⟨rfl, rfl, rfl, by decide +kernel, rfl, by decide +kernel, by decide +kernel⟩
def sp_put_by (K : PySem.W.Frag) (A : Ad) : Sp := fun vs H Q _ => ∃ (a nl rl : Addr) (s : Kst) (t kd q n : Int) (ns : List Int), vs = [.ref a, .ref nl, .ref rl] ∧ KeptAt K A H a s ∧ s.Ok ∧ H nl = some (.lst [.int t, .int kd, .int q, .int n]) ∧ H rl = some (.lst (ns.map V.int)) ∧ callGood (.put t kd q n ns) ∧ A.cK ≠ A.cF ∧ Done K A a (s.on (.put t kd q n ns)) H Q
theorem ok_put_by {f : Addr} {fd : FuncData} (F : Fun K "put_by" "put_by" s_put_by f fd) (T : Txt K mg A) (h_are_frame : Has P w K mg base CX0 1 "are_frame" ["numbers"] (sp_are_frame K)) (h_frame_of : Has P w K mg base CX0 3 "frame_of" ["numbers", "row"] (sp_frame_of A))
    (h_Kept_last_time : HasM P w K mg base CX0 1 A.cK "last_time" ["self"] (sp_Kept_last_time K A)) (h_Kept_go_by : HasM P w K mg base CX0 4 A.cK "go_by" ["self", "frame"] (sp_Kept_go_by K A)) : FnOk P w K mg base CX0 5 f fd ["kept", "numbers", "row"] (sp_put_by K A) := by
  refine F.ok sc_put_by (fun vs H Q E h => ?_) (fun cdv Ar outer s H vs Q E hr h => ?_)
  · obtain ⟨a, nl, rl, s, t, kd, q, n, ns, rfl, _⟩ := h
    rfl
  · obtain ⟨a, nl, rl, s, t, kd, q, n, ns, rfl, hK, hOk, hn, hrl, hc, hne, k⟩ := h
    obtain ⟨hcl, hc0⟩ := hc
    have nlt : ∀ s pa la, (kF s pa la).lookup ("last_time" : Str) = none := fun s pa la => kF_no s pa la (by decide +kernel) (by decide +kernel) (by decide +kernel) (by decide +kernel) (by decide +kernel) (by decide +kernel) (by decide +kernel)
    have ngb : ∀ s pa la, (kF s pa la).lookup ("go_by" : Str) = none := fun s pa la => kF_no s pa la (by decide +kernel) (by decide +kernel) (by decide +kernel) (by decide +kernel) (by decide +kernel) (by decide +kernel) (by decide +kernel)
    obtain ⟨dx, pa, la, ha, hp, hE⟩ := id hK
    refine ⟨_, (pss_cons (ps_if (pt_not (pt_val (pe_fn h_are_frame (hr.mono (by decide)) (by rfl) pass0 (pa_cons (pv 1) pa_nil)))) (pss_one (ps_ret (pe_lst (pa_cons (pe_gi T.c_NO_SUCH_NUMBER rfl) pa_nil)))) pss_nil)
      (pss_cons (ps_if (pt_cmpR op_lt (pe_ix ix_list (pv 1) pe_int (fun _ _ => rfl)) (pe_mt0 h_Kept_last_time (hr.mono (by decide)) pass0 (pv 0)) (nomark _)) (pss_one (ps_ret (pe_lst (pa_cons (pe_gi T.c_TOO_EARLY rfl) pa_nil)))) pss_nil)
      (pss_one (ps_ret (pe_callTy (T := "list") call_list_of (by rfl) T.b_list (by decide +kernel) (pa_cons (pe_mt h_Kept_go_by (hr.mono (by decide)) pass0 (pv 0) (pa_cons (pe_fn h_frame_of (hr.mono (by decide)) (by rfl) pass0 (pa_cons (pv 1) (pa_cons (pv 2) pa_nil))) pa_nil)) pa_nil)))))), ?_⟩
    refine q_when (et_not (et_B (ev_call (ea_cons (ev_var rfl) ea_nil) (sp_are_frame_v hn)))) (fun hb H1 x1 => ?_) (fun hb H1 x1 => ?_)
    · have hb' : isFrame t kd q n = false := by simpa using hb
      have e : s.on (.put t kd q n ns) = (s, [-2]) := by
        show (if isFrame t kd q n = false then _ else _) = _
        rw [if_pos hb']
      rw [e] at k
      exact s_retL (el_lst (ea_cons ev_c ea_nil) (by show 1 ≤ 100000; decide)) (Done.ret k hK x1)
    have hb' : isFrame t kd q n = true := by simpa using hb
    refine q_when (et_test (ev_op (ev_at 0 (ev_var rfl) (x1 _ _ hn) rfl) (ev_meth (ev_var rfl) (x1 _ _ ha) (nlt s pa la) ea_nil (sp_Kept_last_time_v (hK.ex x1))) rv_I0)) (fun hb2 H2 x2 => ?_) (fun hb2 H2 x2 => ?_)
    · have hlt : t < (lastT s.entries : Int) := of_decide_eq_true hb2
      have e : s.on (.put t kd q n ns) = (s, [-3]) := by
        show (if isFrame t kd q n = false then _ else _) = _
        rw [if_neg (by rw [hb']; decide), if_pos hlt]
      rw [e] at k
      exact s_retL (el_lst (ea_cons ev_c ea_nil) (by show 1 ≤ 100000; decide)) (Done.ret k hK (x1.trans x2))
    have hlt : ¬ t < (lastT s.entries : Int) := of_decide_eq_false hb2
    have e : s.on (.put t kd q n ns) = (s.goBy (frameE t kd q n ns), [Sj55.nat (s.byA (frameE t kd q n ns)).1, Sj55.nat (s.byA (frameE t kd q n ns)).2]) := by
      show (if isFrame t kd q n = false then _ else _) = _
      rw [if_neg (by rw [hb']; decide), if_neg hlt]
    rw [e] at k
    have x12 := x1.trans x2
    -- list(kept.go_by(frame_of(numbers, row)))
    refine ⟨_, rfl, a, dx, _, rfl, x12 _ _ ha, ngb s pa la, ?_⟩
    refine (ei_call (E := E0) (ea_cons (ev_var rfl) (ea_cons (ev_var rfl) ea_nil)) (sp_frame_of_i (x12 _ _ hn) (x12 _ _ hrl) hb' (fun z hz => (hc0 z hz).1))) H2 (Ex.refl H2) _ fun x H3 hx x3 hF => ?_
    have x13 := x12.trans x3
    refine ⟨a, x, s, frameE t kd q n ns, rfl, hK.ex x13, hF, hOk.few, hOk.good, hne, fun H4 p b4 hK4 h4 => ?_⟩
    refine ⟨p, _, rfl, .inr (st_of h4), fun l hl => ?_⟩
    have b04 : ExB a H H4 := (ExB.of x13).trans b4
    obtain ⟨dx4, pa4, la4, ha4, _⟩ := id hK4
    exact k l _ (ExB.fresh b04 hl ha4) (b04.ex (Ex.new hl)) (hK4.ex (Ex.new hl)) upd_same
abbrev s_got : Stmt := (top 84)
theorem sc_got : FnScope ["kept", "number", "entry"] ["kept", "number"] (defScope s_got) := ⟨rfl, rfl, rfl, by decide +kernel, rfl, by decide +kernel, by decide +kernel⟩
def sp_got (K : PySem.W.Frag) (A : Ad) : Sp := fun vs H Q _ => ∃ (a : Addr) (s : Kst) (i : Int), vs = [.ref a, .int i] ∧ KeptAt K A H a s ∧ s.Ok ∧ Done K A a (s.on (.get i)) H Q
theorem ok_got {f : Addr} {fd : FuncData} (F : Fun K "got" "got" s_got f fd) (T : Txt K mg A) : FnOk P w K mg base CX0 1 f fd ["kept", "number"] (sp_got K A) := by
  refine F.ok sc_got (fun vs H Q E h => ?_) (fun cdv Ar outer s H vs Q E hr h => ?_)
  · obtain ⟨a, s, i, rfl, _⟩ := h
    rfl
  · obtain ⟨a, s, i, rfl, hK, hOk, k⟩ := h
    obtain ⟨dx, pa, la, ha, hp, as, hl, hf⟩ := id hK
    have hlen : as.length = s.entries.length := Paired.length hf
    refine ⟨_, (pss_cons (ps_if (pt_not (pt_chain op_le op_le pe_int (pv 1) (pe_gi T.c_MOST_PLACE rfl))) (pss_one (ps_ret (pe_lst (pa_cons (pe_gi T.c_NO_SUCH_NUMBER rfl) pa_nil)))) pss_nil)
      (pss_cons (ps_if (pt_cmpR op_ge (pv 1) (pe_callB call_len_seq (by rfl) T.b_len PySem.boot_len (pa_cons (pe_fld (pv 0) rfl) pa_nil)) (nomark _)) (pss_one (ps_ret (pe_lst (pa_cons (pe_gi T.c_NO_ENTRY rfl) pa_nil)))) pss_nil)
      (pss_cons (ps_set (i := 2) sc_got.nd rfl (Or.inl rfl) (pe_ix ix_list (pe_fld (pv 0) rfl) (pv 1) (fun _ _ => rfl)))
      (pss_one (ps_ret (pe_op op_cat (pe_lst (pa_cons (pe_callB call_len_seq (by rfl) T.b_len PySem.boot_len (pa_cons (pe_fld (pv 2) rfl) pa_nil)) (pa_cons (pe_fld (pv 2) rfl) (pa_cons (pe_fld (pv 2) rfl) (pa_cons (pe_fld (pv 2) rfl) (pa_cons (pe_fld (pv 2) rfl) pa_nil)))))) (pe_callTy (T := "list") call_list_of (by rfl) T.b_list (by decide +kernel) (pa_cons (pe_fld (pv 2) rfl) pa_nil)))))))), ?_⟩
    refine q_when (et_not (et_test (ev_chain ev_c (ev_var rfl) rv_I0 (fun _ => ev_c) (fun _ => rv_I0)))) (fun hb H1 x1 => ?_) (fun hb H1 x1 => ?_)
    · have hb' : isIn 0 1023 i = false := by simpa using (show (!isIn 0 1023 i) = true from hb)
      have e : s.on (.get i) = (s, [-2]) := by
        show (if isIn 0 1023 i = false then _ else _) = _
        rw [if_pos hb']
      rw [e] at k
      exact s_retL (el_lst (ea_cons ev_c ea_nil) (by show 1 ≤ 100000; decide)) (Done.ret k hK x1)
    have hb' : isIn 0 1023 i = true := by simpa using (show (!isIn 0 1023 i) = false from hb)
    have hin := isIn_iff.mp hb'
    have e : s.on (.get i) = match s.entries[i.toNat]? with
      | none => (s, [-6])
      | some e => (s, [Sj55.nat e.kept.length, Sj55.nat e.time, Sj55.nat e.kind, Sj55.nat e.queue, Sj55.nat e.len] ++ Sj55.ints e.kept) := by
      show (if isIn 0 1023 i = false then _ else _) = _
      rw [if_neg (by rw [hb']; decide)]
      try rfl
    rw [e] at k
    refine q_when (et_test (ev_op (ev_var rfl) (ev_len (ev_fld (ev_var rfl) (x1 _ _ ha) T.clK T.nK_entries (kF_entries s pa la)) (sq_of (x1 _ _ hl))) rv_I0)) (fun hb2 H2 x2 => ?_) (fun hb2 H2 x2 => ?_)
    · have hge : s.entries.length ≤ i.toNat := by have := of_decide_eq_true hb2; rw [List.length_map, hlen] at this; omega
      rw [List.getElem?_eq_none hge] at k
      exact s_retL (el_lst (ea_cons ev_c ea_nil) (by show 1 ≤ 100000; decide)) (Done.ret k hK (x1.trans x2))
    have hlt : i.toNat < as.length := by have := of_decide_eq_false hb2; rw [List.length_map] at this; omega
    obtain ⟨e1, he, hF⟩ := Paired.get2 hf (List.getElem?_eq_getElem hlt)
    rw [he] at k
    obtain ⟨dy, d, hA, hd⟩ := hF
    have x12 := x1.trans x2
    have hmem := List.mem_of_getElem? he
    have hkl := (hOk.eok e1 hmem).kept
    refine q_asg (v := .ref as[i.toNat]) (ev_op (ev_fld (ev_var rfl) (x12 _ _ ha) T.clK T.nK_entries (kF_entries s pa la)) (ev_is (ev_var rfl) (show V.int i = .int (i.toNat : Nat) by rw [Int.toNat_of_nonneg hin.1])) (rv_ixL (sq_of (x12 _ _ hl)) (atI_nat (by rw [List.getElem?_map, List.getElem?_eq_getElem hlt]; rfl)))) fun H3 x3 => ?_
    have x13 := x12.trans x3
    refine s_retL (el_is (el_cat (el_lst (ea_cons (ev_len (ev_fld (ev_var rfl) (x13 _ _ hA) T.clF T.nF_data (fF_data e1 d)) (sq_of (x13 _ _ hd))) (ea_cons (ev_fld (ev_var rfl) (x13 _ _ hA) T.clF T.nF_time (fF_time e1 d)) (ea_cons (ev_fld (ev_var rfl) (x13 _ _ hA) T.clF T.nF_kind (fF_kind e1 d)) (ea_cons (ev_fld (ev_var rfl) (x13 _ _ hA) T.clF T.nF_queue (fF_queue e1 d)) (ea_cons (ev_fld (ev_var rfl) (x13 _ _ hA) T.clF T.nF_length (fF_length e1 d)) ea_nil))))) (by show 5 ≤ 100000; decide))
      (el_list (ev_fld (ev_var rfl) (x13 _ _ hA) T.clF T.nF_data (fF_data e1 d)) (sq_of (x13 _ _ hd))) ?_) ?_) (Done.ret k hK x13)
    · rw [ivs_len]
      show 5 + _ ≤ sizeLine
      have : (1000 : Nat) ≤ sizeLine := by decide
      omega
    · rw [List.map_append, ints_V, ivs_len]
      rfl
abbrev s_found_by : Stmt := (top 85)
theorem sc_found_by : FnScope ["kept", "time"] ["kept", "time"] (defScope s_found_by) := ⟨rfl, rfl, rfl, by decide +kernel, rfl, by decide +kernel, by decide +kernel⟩
def sp_found_by (K : PySem.W.Frag) (A : Ad) : Sp := fun vs H Q _ => ∃ (a : Addr) (s : Kst) (t : Int), vs = [.ref a, .int t] ∧ KeptAt K A H a s ∧ s.Ok ∧ Done K A a (s.on (.find t)) H Q
theorem ok_found_by {f : Addr} {fd : FuncData} (F : Fun K "found_by" "found_by" s_found_by f fd) (T : Txt K mg A) (h_Kept_earlier : HasM P w K mg base CX0 1 A.cK "earlier" ["self", "time"] (sp_Kept_earlier K A)) : FnOk P w K mg base CX0 2 f fd ["kept", "time"] (sp_found_by K A) := by
  refine F.ok sc_found_by (fun vs H Q E h => ?_) (fun cdv Ar outer s H vs Q E hr h => ?_)
  · obtain ⟨a, s, t, rfl, _⟩ := h
    rfl
  · obtain ⟨a, s, t, rfl, hK, hOk, k⟩ := h
    obtain ⟨dx, pa, la, ha, hp, hE⟩ := id hK
    have ne : ∀ s pa la, (kF s pa la).lookup ("earlier" : Str) = none := fun s pa la => kF_no s pa la (by decide +kernel) (by decide +kernel) (by decide +kernel) (by decide +kernel) (by decide +kernel) (by decide +kernel) (by decide +kernel)
    refine ⟨_, (pss_one (ps_ret (pe_ifExp (pt_chain op_le op_le pe_int (pv 1) (pe_gi T.c_MOST_TIME rfl)) (pe_lst (pa_cons (pe_mt h_Kept_earlier (hr.mono (by decide)) pass0 (pv 0) (pa_cons (pv 1) pa_nil)) pa_nil)) (pe_lst (pa_cons (pe_gi T.c_NO_SUCH_NUMBER rfl) pa_nil))))), ?_⟩
    have e31 : (2 : Int) ^ 31 - 1 = 2147483647 := by decide
    have e : s.on (.find t) = (s, if isIn 0 2147483647 t = false then [-2] else [Sj55.nat (s.entries.filter fun e => decide (Sj55.nat e.time < t)).length]) := by
      show (if isIn 0 (2 ^ 31 - 1) t = false then _ else _) = _
      rw [e31]
      split <;> rfl
    rw [e] at k
    refine s_retL (el_if (et_test (ev_chain ev_c (ev_var rfl) rv_I0 (fun _ => ev_c) (fun _ => rv_I0))) (fun hb => ?_) (fun hb => ?_)) (Done.ret k hK (Ex.refl H))
    · have hb' : isIn 0 2147483647 t = true := hb
      rw [if_neg (by rw [hb']; decide)]
      exact el_lst (ea_cons (ev_meth (ev_var rfl) ha (ne s pa la) (ea_cons (ev_var rfl) ea_nil) (sp_Kept_earlier_v hK hOk.few t)) ea_nil) (by show 1 ≤ 100000; decide)
    · have hb' : isIn 0 2147483647 t = false := hb
      rw [if_pos hb']
      exact el_lst (ea_cons ev_c ea_nil) (by show 1 ≤ 100000; decide)
abbrev s_tested : Stmt := (top 86)
theorem sc_tested : FnScope ["kept", "numbers", "row"] ["kept", "numbers", "row"] (defScope s_tested) := ⟨rfl, rfl, rfl, by decide +kernel, rfl, by decide +kernel, by decide +kernel⟩
def sp_tested (K : PySem.W.Frag) (A : Ad) : Sp := fun vs H Q _ => ∃ (a nl rl : Addr) (s : Kst) (t kd q n : Int) (ns : List Int), vs = [.ref a, .ref nl, .ref rl] ∧ KeptAt K A H a s ∧ s.Ok ∧ H nl = some (.lst [.int t, .int kd, .int q, .int n]) ∧ H rl = some (.lst (ns.map V.int)) ∧ callGood (.test t kd q n ns) ∧ Done K A a (s.on (.test t kd q n ns)) H Q
theorem ok_tested {f : Addr} {fd : FuncData} (F : Fun K "tested" "tested" s_tested f fd) (T : Txt K mg A) (h_are_frame : Has P w K mg base CX0 1 "are_frame" ["numbers"] (sp_are_frame K)) (h_frame_of : Has P w K mg base CX0 3 "frame_of" ["numbers", "row"] (sp_frame_of A)) (h_run_on : Has P w K mg base CX0 3 "run_on" ["program", "frame"] (sp_run_on K A)) :
    FnOk P w K mg base CX0 4 f fd ["kept", "numbers", "row"] (sp_tested K A) := by
  refine F.ok sc_tested (fun vs H Q E h => ?_) (fun cdv Ar outer s H vs Q E hr h => ?_)
  · obtain ⟨a, nl, rl, s, t, kd, q, n, ns, rfl, _⟩ := h
    rfl
  · obtain ⟨a, nl, rl, s, t, kd, q, n, ns, rfl, hK, hOk, hn, hrl, hc, k⟩ := h
    obtain ⟨hcl, hc0⟩ := hc
    obtain ⟨dx, pa, la, ha, hp, hE⟩ := id hK
    refine ⟨_, (pss_cons (ps_if (pt_not (pt_val (pe_fn h_are_frame (hr.mono (by decide)) (by rfl) pass0 (pa_cons (pv 1) pa_nil)))) (pss_one (ps_ret (pe_lst (pa_cons (pe_gi T.c_NO_SUCH_NUMBER rfl) pa_nil)))) pss_nil)
      (pss_one (ps_ret (pe_lst (pa_cons pe_int (pa_cons (pe_fn h_run_on (hr.mono (by decide)) (by rfl) pass0 (pa_cons (pe_fld (pv 0) rfl) (pa_cons (pe_fn h_frame_of (hr.mono (by decide)) (by rfl) pass0 (pa_cons (pv 1) (pa_cons (pv 2) pa_nil))) pa_nil))) pa_nil)))))), ?_⟩
    refine q_when (et_not (et_B (ev_call (ea_cons (ev_var rfl) ea_nil) (sp_are_frame_v hn)))) (fun hb H1 x1 => ?_) (fun hb H1 x1 => ?_)
    · have hb' : isFrame t kd q n = false := by simpa using hb
      have e : s.on (.test t kd q n ns) = (s, [-2]) := by
        show (if isFrame t kd q n = false then _ else _) = _
        rw [if_pos hb']
      rw [e] at k
      exact s_retL (el_lst (ea_cons ev_c ea_nil) (by show 1 ≤ 100000; decide)) (Done.ret k hK x1)
    have hb' : isFrame t kd q n = true := by simpa using hb
    have e : s.on (.test t kd q n ns) = (s, [0, Sj55.nat (tellsN s.prog (frameE t kd q n ns))]) := by
      show (if isFrame t kd q n = false then _ else _) = _
      rw [if_neg (by rw [hb']; decide)]
    rw [e] at k
    refine s_retL (el_lst (ea_cons ev_c (ea_cons (ev_callI2 (ev_fld (ev_var rfl) (x1 _ _ ha) T.clK T.nK_program (kF_program s pa la)) (ei_call (ea_cons (ev_var rfl) (ea_cons (ev_var rfl) ea_nil)) (sp_frame_of_i (x1 _ _ hn) (x1 _ _ hrl) hb' (fun z hz => (hc0 z hz).1))) (fun y H2 x2 hF => sp_run_on_v (hp.ex (x1.trans x2)) hOk.good hF)) ea_nil)) (by show 2 ≤ 100000; decide)) (Done.ret k hK x1)
abbrev s_told_out : Stmt := (top 87)
theorem sc_told_out : FnScope ["kept", "found"] ["kept"] (defScope s_told_out) := ⟨rfl, rfl, rfl, by decide +kernel, rfl, by decide +kernel, by decide +kernel⟩
def sp_told_out (K : PySem.W.Frag) (A : Ad) : Sp := fun vs H Q _ => ∃ (a : Addr) (s : Kst), vs = [.ref a] ∧ KeptAt K A H a s ∧ s.Ok ∧ Done K A a (s.on .out) H Q
theorem outB_len {es : List Sj55.Entry} (h : ∀ e ∈ es, EOk e) (hz : es.length ≤ 1000) : (outB es).length ≤ 400000 := by
  have h1 := entriesOut_len es 0 h
  have h2 := seven_len 6 es.length
  unfold outB headB Sj55.num
  simp only [List.length_append, List.length_cons, List.length_nil, Sj55.low]
  omega
theorem ok_told_out {f : Addr} {fd : FuncData} (F : Fun K "told_out" "told_out" s_told_out f fd) (T : Txt K mg A) (h_written : Has P w K mg base CX0 4 "written" ["entries"] (sp_written A)) : FnOk P w K mg base CX0 5 f fd ["kept"] (sp_told_out K A) := by
  refine F.ok sc_told_out (fun vs H Q E h => ?_) (fun cdv Ar outer s H vs Q E hr h => ?_)
  · obtain ⟨a, s, rfl, _⟩ := h
    rfl
  · obtain ⟨a, s, rfl, hK, hOk, k⟩ := h
    obtain ⟨dx, pa, la, ha, hp, hE⟩ := id hK
    have hol := outB_len hOk.eok hOk.few
    refine ⟨_, (pss_cons (ps_set (i := 1) sc_told_out.nd rfl (Or.inl rfl) (pe_fn h_written (hr.mono (by decide)) (by rfl) pass0 (pa_cons (pe_fld (pv 0) rfl) pa_nil)))
      (pss_one (ps_ret (pe_op op_cat (pe_lst (pa_cons (pe_callB call_len_seq (by rfl) T.b_len PySem.boot_len (pa_cons (pv 1) pa_nil)) pa_nil)) (pv 1))))), ?_⟩
    refine q_asgL (el_call (ea_cons (ev_fld (ev_var rfl) ha T.clK T.nK_entries (kF_entries s pa la)) ea_nil) (sp_written_v hE hOk.few hOk.eok hOk.sorted)) fun q H1 hq x1 h1 => ?_
    refine s_retL (el_is (el_cat2 (el_lst (ea_cons (ev_len (ev_var rfl) (sq_of h1)) ea_nil) (by show 1 ≤ 100000; decide)) (ev_var rfl) h1 ?_) ?_) (Done.ret (show Done K A a (s, _) H Q from k) hK x1)
    · rw [ivs_len]
      show 1 + _ ≤ sizeLine
      have : (1000000 : Nat) ≤ sizeLine := by decide
      omega
    · show _ = (Sj55.nat (outB s.entries).length :: Sj55.ints (outB s.entries)).map V.int
      rw [List.map_cons, ints_V, ivs_len]
      rfl
abbrev s_read_again : Stmt := (top 88)
theorem sc_read_again : FnScope ["kept", "numbers", "row", "found", "e"] ["kept", "numbers", "row"] (defScope s_read_again) := ⟨rfl, rfl, rfl, by decide +kernel, rfl, by decide +kernel, by decide +kernel⟩
def sp_read_again (K : PySem.W.Frag) (A : Ad) : Sp := fun vs H Q _ => ∃ (a nl rl : Addr) (s : Kst) (n : Int) (ns : List Int), vs = [.ref a, .ref nl, .ref rl] ∧ KeptAt K A H a s ∧ s.Ok ∧ H nl = some (.lst [.int n]) ∧ H rl = some (.lst (ns.map V.int)) ∧ callGood (.read n ns) ∧ A.cK ≠ A.cF ∧ A.cR ≠ A.cF ∧ Done K A a (s.on (.read n ns)) H Q
theorem ok_read_again {f : Addr} {fd : FuncData} (F : Fun K "read_again" "read_again" s_read_again f fd) (T : Txt K mg A) (h_entries_read : Has P w K mg base (L2.CX P w) 6 "entries_read" ["data", "size", "snap"] (sp_entries_read A)) : FnOk P w K mg base CX0 7 f fd ["kept", "numbers", "row"] (sp_read_again K A) := by
  refine F.ok sc_read_again (fun vs H Q E h => ?_) (fun cdv Ar outer s H vs Q E hr h => ?_)
  · obtain ⟨a, nl, rl, s, n, ns, rfl, _⟩ := h
    rfl
  · obtain ⟨a, nl, rl, s, n, ns, rfl, hK, hOk, hn, hrl, hc, hne, hneR, k⟩ := h
    obtain ⟨hcl, hc0⟩ := hc
    obtain ⟨dx, pa, la, ha, hp, hE⟩ := id hK
    refine ⟨_, (pss_cons (ps_if (pt_not (pt_chain op_le op_le pe_int (pe_ix ix_list (pv 1) pe_int (fun _ _ => rfl)) (pe_gi T.c_MOST_BYTES rfl))) (pss_one (ps_ret (pe_lst (pa_cons (pe_gi T.c_NO_SUCH_NUMBER rfl) pa_nil)))) pss_nil)
      (pss_cons (ps_try_as (i := 4) (tb := fun W => tAsg (tCallS (sp_entries_read A) (WE W) (tCons (tVar 2) (tCons (tFld K (tVar 0) "size") (tCons (tFld K (tVar 0) "snap") tNil)))) (gName 3)) (ts := fun a cls d => tRet (tLst (tCons (tOp (rI0 fun i j => .int (i - j)) (tC (.int (-10))) (tXf a cls d A.cX "fault" (tVar 4))) tNil))) (Wout := fun _ _ _ _ => False) rfl rfl sc_read_again.nd rfl rfl ⟨rfl, by decide, Or.inl T.gX⟩ takes0 (fun W pn xe tk _ => pss_one (ps_set (i := 3) sc_read_again.nd rfl (Or.inl rfl) (by exact (pe_fnS h_entries_read (hr.mono (by decide)) rfl (fun σ => passAt tk σ) (by exact (pa_cons (pv 2) (pa_cons (pe_fld (pv 0) rfl) (pa_cons (pe_fld (pv 0) rfl) pa_nil)))))))) (fun a oe cls d pn hz hf => pss_one (ps_ret (pe_lst (pa_cons (pe_op op_sub (pe_gi T.c_FAULT rfl) (pe_xf T.xf T.nX_fault hz hf (pv 4))) pa_nil)))))
      (pss_cons (ps_fld (pv 0) (pv 3) rfl)
      (pss_one (ps_ret (pe_lst (pa_cons (pe_callB call_len_seq (by rfl) T.b_len PySem.boot_len (pa_cons (pv 3) pa_nil)) pa_nil))))))), ?_⟩
    refine q_when (et_not (et_test (ev_chain ev_c (ev_at 0 (ev_var rfl) hn rfl) rv_I0 (fun _ => ev_c) (fun _ => rv_I0)))) (fun hb H1 x1 => ?_) (fun hb H1 x1 => ?_)
    · have hb' : isIn 0 8192 n = false := by simpa using (show (!isIn 0 8192 n) = true from hb)
      have e : s.on (.read n ns) = (s, [-2]) := by
        show (if isIn 0 8192 n = false then _ else _) = _
        rw [if_pos hb']
      rw [e] at k
      exact s_retL (el_lst (ea_cons ev_c ea_nil) (by show 1 ≤ 100000; decide)) (Done.ret k hK x1)
    have hb' : isIn 0 8192 n = true := by simpa using (show (!isIn 0 8192 n) = false from hb)
    have hin := isIn_iff.mp hb'
    rw [many_in hb'] at hcl
    have hnl := nats_len ns
    have e : s.on (.read n ns) = match readN s.size s.snap (Sj55.nats ns) with
      | .inl f => (s, [-10 - Sj55.nat f])
      | .inr es => ({ s with entries := es }, [Sj55.nat es.length]) := by
      show (if isIn 0 8192 n = false then _ else _) = _
      rw [if_neg (by rw [hb']; decide)]
      try rfl
    rw [e] at k
    have h256 : ∀ b ∈ Sj55.nats ns, b < 256 := fun b hb => by
      obtain ⟨z, hz, rfl⟩ := List.mem_map.mp hb
      have := hc0 z hz
      omega
    show tAsg (tCallS (sp_entries_read A) _ _) (gName 3) _ _ _
    refine s_asgS (ea_cons (ev_var rfl) (ea_cons (ev_fld (ev_var rfl) (x1 _ _ ha) T.clK T.nK_size (kF_size s pa la)) (ea_cons (ev_fld (ev_var rfl) (x1 _ _ ha) T.clK T.nK_snap (kF_snap s pa la)) ea_nil))) fun H2 x2 => ?_
    have x12 := x1.trans x2
    refine ⟨rl, Sj55.nats ns, s.size, s.snap, rfl, ?_, by omega, h256, hneR, fun fl hfl H3 dd x3 hdd => ?_, fun es hes p H3 hp3 x3 hE3 => ?_⟩
    · rw [x12 _ _ hrl, nats_V fun z hz => (hc0 z hz).1]
    · rw [hfl] at k
      refine ⟨true, T.te, fun _ a0 ha0 => ?_, fun q => Bool.noConfusion q⟩
      exact s_retL (el_lst (ea_cons (ev_op ev_c (ev_xf (v := .int (fl : Nat)) (ev_var rfl) hdd lk_here) rv_I0) ea_nil) (by show 1 ≤ 100000; decide)) (Done.ret k hK (x12.trans x3))
    · rw [hes] at k
      have x13 := x12.trans x3
      show tSeq _ _ _ _ _
      refine q_fld (ev_var rfl) (ev_var rfl) (x13 _ _ ha) T.clK T.nK_entries (kF_few s pa la) fun H4 x4 => ?_
      rw [kF_put_entries s pa la p es]
      have x14 := x13.trans x4
      have xb3 : ExB a H3 (upd H4 a (.ins A.cK dx (kF { s with entries := es } pa p))) := (ExB.of x4).upd
      have xb : ExB a H (upd H4 a (.ins A.cK dx (kF { s with entries := es } pa p))) := (ExB.of x14).upd
      have hE4 : EntriesAt A (upd H4 a (.ins A.cK dx (kF { s with entries := es } pa p))) p es := xb3.entries (x13 _ _ ha) hne hE3
      obtain ⟨as, hl, hf⟩ := id hE4
      refine s_retL (el_lst (ea_cons (ev_is (ev_len (ev_var rfl) (sq_of hl)) (show V.int ((as.map V.ref).length : Int) = .int (Sj55.nat es.length) by rw [List.length_map, Paired.length hf]; rfl)) ea_nil) (by show 1 ≤ 100000; decide)) fun q H5 hq x5 h5 => ?_
      exact k q H5 (ExB.fresh xb hq upd_same) (xb.ex x5) (KeptAt.ex x5 ⟨dx, pa, p, upd_same, xb.prog ha hp, hE4⟩) h5
end
end G
namespace G
open PySem PySem.Spec PyProof.Rows L2 Evl
open Sj55 (Ins isIn isFrame)
section
variable {K : PySem.W.Frag} {σ : L2.St} {H H' : Hp} {ta tb te : TE} {tA : TA} {t : TT} {D : Ends} {tz tu tw : TS} {x z : V}
theorem q_yes (h : EvT t σ H true) (h1 : ∀ H1, Ex H H1 → tu { D with nx := tz D } σ H1) : tSeq (tIfS t tu tw) tz D σ H := q_if h (fun _ => h1) (fun z => by cases z)
theorem q_no (h : EvT t σ H false) (h1 : ∀ H1, Ex H H1 → tz D σ H1) : tSeq (tIfS t tu tNext) tz D σ H := q_when h (fun z => by cases z) (fun _ => h1)
theorem rv_isN {x : V} : RV (fun x y H Q => y = .non ∧ Q (.bl (decide (x = .non))) H) x .non H (.bl (decide (x = .non))) := fun H1 _ Q q => ⟨rfl, q H1 (Ex.refl H1)⟩
end
/-- the record's name holds this -/
def StAt (K : PySem.W.Frag) (A : Ad) (H : Hp) (v : V) : Option Kst → Prop
  | none => v = .non
  | some s => ∃ a, v = .ref a ∧ KeptAt K A H a s
def DoneO (K : PySem.W.Frag) (A : Ad) (v : V) (r : Option Kst × List Int) (H : Hp) (Q : VK) : Prop := ∀ p H', H p = none → (∀ b o, H b = some o → v ≠ .ref b → H' b = some o) → StAt K A H' v r.1 → H' p = some (.lst (r.2.map V.int)) → Q (.ref p) H'
section
variable {P : Program} {w : World} {K : PySem.W.Frag} {mg : Str → Option Value} {base : Heap} {A : Ad}
theorem DoneO.some {a : Addr} {s : Kst} {c : Sj55.Call} {H H1 : Hp} {Q : VK} (h : DoneO K A (.ref a) (stepK (some s) c) H Q) (ho : isOpen c = false) (x1 : Ex H H1) : Done K A a (s.on c) H1 Q := fun p H2 hp b hK h2 => by
  rw [stepK_some ho] at h
  exact h p H2 (fresh_back x1 hp) (fun b' o hb hn => b b' o (x1 _ _ hb) fun z => hn (by rw [z])) ⟨a, rfl, hK⟩ h2
theorem Done.on {a : Addr} {r : Kst × List Int} {H H1 : Hp} {Q : VK} (h : Done K A a r H Q) (x1 : Ex H H1) : Done K A a r H1 Q := fun p H2 hp b hK h2 => h p H2 (fresh_back x1 hp) ((ExB.of x1).trans b) hK h2
abbrev s_answer_with_row : Stmt := (top 89)
theorem sc_answer_with_row : FnScope ["kept", "word", "numbers", "row"] ["kept", "word", "numbers", "row"] (defScope s_answer_with_row) := ⟨rfl, rfl, rfl, by decide +kernel, rfl, by decide +kernel, by decide +kernel⟩
def sp_answer_with_row (K : PySem.W.Frag) (A : Ad) : Sp := fun vs H Q _ => ∃ (a nl rl : Addr) (s : Kst) (c : Sj55.Call), vs = [.ref a, .int (wordOf c), .ref nl, .ref rl] ∧ KeptAt K A H a s ∧ s.Ok ∧ H nl = some (.lst ((numsOf c).map V.int)) ∧ H rl = some (.lst ((rowOf c).map V.int)) ∧ callGood c ∧ hasRow c = true ∧ A.cK ≠ A.cF ∧ A.cR ≠ A.cF ∧ Done K A a (s.on c) H Q
theorem ok_answer_with_row {f : Addr} {fd : FuncData} (F : Fun K "answer_with_row" "answer_with_row" s_answer_with_row f fd) (T : Txt K mg A) (h_programmed : Has P w K mg base CX0 4 "programmed" ["kept", "numbers", "row"] (sp_programmed K A)) (h_put_by : Has P w K mg base CX0 5 "put_by" ["kept", "numbers", "row"] (sp_put_by K A))
    (h_tested : Has P w K mg base CX0 4 "tested" ["kept", "numbers", "row"] (sp_tested K A)) (h_read_again : Has P w K mg base CX0 7 "read_again" ["kept", "numbers", "row"] (sp_read_again K A)) : FnOk P w K mg base CX0 8 f fd ["kept", "word", "numbers", "row"] (sp_answer_with_row K A) := by
  refine F.ok sc_answer_with_row (fun vs H Q E h => ?_) (fun cdv Ar outer s H vs Q E hr h => ?_)
  · obtain ⟨a, nl, rl, s, c, rfl, _⟩ := h
    rfl
  · obtain ⟨a, nl, rl, s, c, rfl, hK, hOk, hn, hrl, hc, hrow, hne, hneR, k⟩ := h
    refine ⟨_, (pss_cons (ps_if (pt_cmpR op_eq (pv 1) (pe_gi T.c_PROGRAM rfl) (nomark _)) (pss_one (ps_ret (pe_fn h_programmed (hr.mono (by decide)) (by rfl) pass0 (pa_cons (pv 0) (pa_cons (pv 2) (pa_cons (pv 3) pa_nil)))))) pss_nil)
      (pss_cons (ps_if (pt_cmpR op_eq (pv 1) (pe_gi T.c_PUT rfl) (nomark _)) (pss_one (ps_ret (pe_fn h_put_by (hr.mono (by decide)) (by rfl) pass0 (pa_cons (pv 0) (pa_cons (pv 2) (pa_cons (pv 3) pa_nil)))))) pss_nil)
      (pss_one (ps_ret (pe_ifExp (pt_cmpR op_eq (pv 1) (pe_gi T.c_TEST rfl) (nomark _)) (pe_fn h_tested (hr.mono (by decide)) (by rfl) pass0 (pa_cons (pv 0) (pa_cons (pv 2) (pa_cons (pv 3) pa_nil)))) (pe_fn h_read_again (hr.mono (by decide)) (by rfl) pass0 (pa_cons (pv 0) (pa_cons (pv 2) (pa_cons (pv 3) pa_nil))))))))), ?_⟩
    cases c with
    | program n l =>
      refine q_yes (et_is (et_test (ev_op (ev_var rfl) ev_c (rv_eq rfl))) (by rfl)) fun H1 x1 => ?_
      exact s_retC (ea_cons (ev_var rfl) (ea_cons (ev_var rfl) (ea_cons (ev_var rfl) ea_nil))) fun H2 x2 => ⟨a, nl, rl, s, n, l, rfl, hK.ex (x1.trans x2), (x1.trans x2) _ _ hn, (x1.trans x2) _ _ hrl, hc, hne, k.on (x1.trans x2)⟩
    | put t kd q n l =>
      refine q_no (et_is (et_test (ev_op (ev_var rfl) ev_c (rv_eq rfl))) (by rfl)) fun H0 x0 => ?_
      refine q_yes (et_is (et_test (ev_op (ev_var rfl) ev_c (rv_eq rfl))) (by rfl)) fun H1 x1 => ?_
      have x01 := x0.trans x1
      exact s_retC (ea_cons (ev_var rfl) (ea_cons (ev_var rfl) (ea_cons (ev_var rfl) ea_nil))) fun H2 x2 => ⟨a, nl, rl, s, t, kd, q, n, l, rfl, hK.ex (x01.trans x2), hOk, (x01.trans x2) _ _ hn, (x01.trans x2) _ _ hrl, hc, hne, k.on (x01.trans x2)⟩
    | test t kd q n l =>
      refine q_no (et_is (et_test (ev_op (ev_var rfl) ev_c (rv_eq rfl))) (by rfl)) fun H0 x0 => ?_
      refine q_no (et_is (et_test (ev_op (ev_var rfl) ev_c (rv_eq rfl))) (by rfl)) fun H1 x1 => ?_
      have x01 := x0.trans x1
      refine s_retIf (b := true) (et_is (et_test (ev_op (ev_var rfl) ev_c (rv_eq rfl))) (by rfl)) (fun _ H2 x2 => ?_) (fun z => by cases z)
      have x02 := x01.trans x2
      exact s_retC (ea_cons (ev_var rfl) (ea_cons (ev_var rfl) (ea_cons (ev_var rfl) ea_nil))) fun H3 x3 => ⟨a, nl, rl, s, t, kd, q, n, l, rfl, hK.ex (x02.trans x3), hOk, (x02.trans x3) _ _ hn, (x02.trans x3) _ _ hrl, hc, k.on (x02.trans x3)⟩
    | read n l =>
      refine q_no (et_is (et_test (ev_op (ev_var rfl) ev_c (rv_eq rfl))) (by rfl)) fun H0 x0 => ?_
      refine q_no (et_is (et_test (ev_op (ev_var rfl) ev_c (rv_eq rfl))) (by rfl)) fun H1 x1 => ?_
      have x01 := x0.trans x1
      refine s_retIf (b := false) (et_is (et_test (ev_op (ev_var rfl) ev_c (rv_eq rfl))) (by rfl)) (fun z => by cases z) (fun _ H2 x2 => ?_)
      have x02 := x01.trans x2
      exact s_retC (ea_cons (ev_var rfl) (ea_cons (ev_var rfl) (ea_cons (ev_var rfl) ea_nil))) fun H3 x3 => ⟨a, nl, rl, s, n, l, rfl, hK.ex (x02.trans x3), hOk, (x02.trans x3) _ _ hn, (x02.trans x3) _ _ hrl, hc, hne, hneR, k.on (x02.trans x3)⟩
    | _ => cases hrow
abbrev s_answer_of : Stmt := (top 90)
theorem sc_answer_of : FnScope ["kept", "word", "numbers", "row"] ["kept", "word", "numbers", "row"] (defScope s_answer_of) := ⟨rfl, rfl, rfl, by decide +kernel, rfl, by decide +kernel, by decide +kernel⟩
def sp_answer_of (K : PySem.W.Frag) (A : Ad) : Sp := fun vs H Q _ => ∃ (kv : V) (nl rl : Addr) (st : Option Kst) (c : Sj55.Call), vs = [kv, .int (wordOf c), .ref nl, .ref rl] ∧ StAt K A H kv st ∧ (∀ s, st = some s → s.Ok) ∧ H nl = some (.lst ((numsOf c).map V.int)) ∧ H rl = some (.lst ((rowOf c).map V.int)) ∧ callGood c ∧ isOpen c = false ∧ A.cK ≠ A.cF ∧ A.cR ≠ A.cF ∧ DoneO K A kv (stepK st c) H Q
theorem ok_answer_of {f : Addr} {fd : FuncData} (F : Fun K "answer_of" "answer_of" s_answer_of f fd) (T : Txt K mg A) (h_answer_with_row : Has P w K mg base CX0 8 "answer_with_row" ["kept", "word", "numbers", "row"] (sp_answer_with_row K A)) (h_got : Has P w K mg base CX0 1 "got" ["kept", "number"] (sp_got K A)) (h_found_by : Has P w K mg base CX0 2 "found_by" ["kept", "time"] (sp_found_by K A))
    (h_told_out : Has P w K mg base CX0 5 "told_out" ["kept"] (sp_told_out K A)) (h_Kept_run_again : HasM P w K mg base CX0 4 A.cK "run_again" ["self"] (sp_Kept_run_again K A)) (h_Kept_sums : HasM P w K mg base CX0 1 A.cK "sums" ["self"] (sp_Kept_sums K A))
    (h_Kept_counts : HasM P w K mg base CX0 3 A.cK "counts" ["self"] (sp_Kept_counts K A)) : FnOk P w K mg base CX0 9 f fd ["kept", "word", "numbers", "row"] (sp_answer_of K A) := by
  refine F.ok sc_answer_of (fun vs H Q E h => ?_) (fun cdv Ar outer s H vs Q E hr h => ?_)
  · obtain ⟨kv, nl, rl, st, c, rfl, _⟩ := h
    rfl
  · obtain ⟨kv, nl, rl, st, c, rfl, hSt, hOk, hn, hrl, hc, ho, hne, hneR, k⟩ := h
    refine ⟨_, (pss_cons (ps_if (pt_cmpR op_isN (pv 0) pe_non (nomark _)) (pss_one (ps_ret (pe_lst (pa_cons (pe_gi T.c_NO_RECORD rfl) pa_nil)))) pss_nil)
      (pss_cons (ps_if (pt_cmpR op_in_seq (pv 1) (pe_gref T.g_WITH_ROW rfl) (by rfl)) (pss_one (ps_ret (pe_fn h_answer_with_row (hr.mono (by decide)) (by rfl) pass0 (pa_cons (pv 0) (pa_cons (pv 1) (pa_cons (pv 2) (pa_cons (pv 3) pa_nil))))))) pss_nil)
      (pss_cons (ps_if (pt_cmpR op_eq (pv 1) (pe_gi T.c_GET rfl) (nomark _)) (pss_one (ps_ret (pe_fn h_got (hr.mono (by decide)) (by rfl) pass0 (pa_cons (pv 0) (pa_cons (pe_ix ix_list (pv 2) pe_int (fun _ _ => rfl)) pa_nil))))) pss_nil)
      (pss_cons (ps_if (pt_cmpR op_eq (pv 1) (pe_gi T.c_FIND rfl) (nomark _)) (pss_one (ps_ret (pe_fn h_found_by (hr.mono (by decide)) (by rfl) pass0 (pa_cons (pv 0) (pa_cons (pe_ix ix_list (pv 2) pe_int (fun _ _ => rfl)) pa_nil))))) pss_nil)
      (pss_cons (ps_if (pt_cmpR op_eq (pv 1) (pe_gi T.c_AGAIN rfl) (nomark _)) (pss_one (ps_ret (pe_lst (pa_cons (pe_mt0 h_Kept_run_again (hr.mono (by decide)) pass0 (pv 0)) pa_nil)))) pss_nil)
      (pss_cons (ps_if (pt_cmpR op_eq (pv 1) (pe_gi T.c_OUT rfl) (nomark _)) (pss_one (ps_ret (pe_fn h_told_out (hr.mono (by decide)) (by rfl) pass0 (pa_cons (pv 0) pa_nil)))) pss_nil)
      (pss_one (ps_ret (pe_op op_cat (pe_lst (pa_cons pe_int pa_nil)) (pe_ifExp (pt_cmpR op_eq (pv 1) (pe_gi T.c_SUMS rfl) (nomark _)) (pe_mt0 h_Kept_sums (hr.mono (by decide)) pass0 (pv 0)) (pe_mt0 h_Kept_counts (hr.mono (by decide)) pass0 (pv 0)))))))))))), ?_⟩
    cases st with
    | none =>
      have e : kv = .non := hSt
      subst e
      refine q_yes (et_is (et_test (ev_op (ev_var rfl) ev_c rv_isN)) (by decide)) fun H1 x1 => ?_
      rw [stepK_none ho] at k
      exact s_retL (el_lst (ea_cons ev_c ea_nil) (by show 1 ≤ 100000; decide)) fun p H2 hp x2 h2 => k p H2 (fresh_back x1 hp) (fun b o hb _ => (x1.trans x2) _ _ hb) rfl h2
    | some s =>
      obtain ⟨a, rfl, hK⟩ := hSt
      have hOk := hOk s rfl
      refine q_no (et_is (et_test (ev_op (ev_var rfl) ev_c rv_isN)) (decide_eq_false (fun z => by cases z))) fun H0 x0 => ?_
      have k0 := k.some ho x0
      have hK0 := hK.ex x0
      have hn0 := x0 _ _ hn
      have hrl0 := x0 _ _ hrl
      obtain ⟨dx, pa, la, ha, hp, hE⟩ := id hK0
      have isT : ∀ (σ : L2.St) (H : Hp) (v : Int), σ[1]? = some (some (V.int v)) → Ev (tOp (rIn K false) (tVar 1) (tC (.ref A.aW))) σ H (.bl (inV (.int v) [.int 2, .int 3, .int 6, .int 9])) := fun σ H v hs => ev_op (ev_var hs) ev_c (rv_isT (T.wrow H) rfl rfl)
      have kn : ∀ {m : Str} (h1 : (m == ("size" : Str)) = false) (h2 : (m == ("snap" : Str)) = false) (h3 : (m == ("program" : Str)) = false) (h4 : (m == ("entries" : Str)) = false) (h5 : (m == ("kept_frames" : Str)) = false) (h6 : (m == ("left_frames" : Str)) = false) (h7 : (m == ("gone_entries" : Str)) = false), (kF s pa la).lookup m = none := fun h1 h2 h3 h4 h5 h6 h7 => kF_no s pa la h1 h2 h3 h4 h5 h6 h7
      cases c with
      | open_ n m => cases ho
      | program n l =>
        refine q_yes (et_is (et_test (isT _ _ _ rfl)) (by rfl)) fun H1 x1 => ?_
        exact s_retC (ea_cons (ev_var rfl) (ea_cons (ev_var rfl) (ea_cons (ev_var rfl) (ea_cons (ev_var rfl) ea_nil)))) fun H2 x2 => ⟨a, nl, rl, s, _, rfl, hK0.ex (x1.trans x2), hOk, (x1.trans x2) _ _ hn0, (x1.trans x2) _ _ hrl0, hc, rfl, hne, hneR, k0.on (x1.trans x2)⟩
      | put t kd q n l =>
        refine q_yes (et_is (et_test (isT _ _ _ rfl)) (by rfl)) fun H1 x1 => ?_
        exact s_retC (ea_cons (ev_var rfl) (ea_cons (ev_var rfl) (ea_cons (ev_var rfl) (ea_cons (ev_var rfl) ea_nil)))) fun H2 x2 => ⟨a, nl, rl, s, _, rfl, hK0.ex (x1.trans x2), hOk, (x1.trans x2) _ _ hn0, (x1.trans x2) _ _ hrl0, hc, rfl, hne, hneR, k0.on (x1.trans x2)⟩
      | test t kd q n l =>
        refine q_yes (et_is (et_test (isT _ _ _ rfl)) (by rfl)) fun H1 x1 => ?_
        exact s_retC (ea_cons (ev_var rfl) (ea_cons (ev_var rfl) (ea_cons (ev_var rfl) (ea_cons (ev_var rfl) ea_nil)))) fun H2 x2 => ⟨a, nl, rl, s, _, rfl, hK0.ex (x1.trans x2), hOk, (x1.trans x2) _ _ hn0, (x1.trans x2) _ _ hrl0, hc, rfl, hne, hneR, k0.on (x1.trans x2)⟩
      | read n l =>
        refine q_yes (et_is (et_test (isT _ _ _ rfl)) (by rfl)) fun H1 x1 => ?_
        exact s_retC (ea_cons (ev_var rfl) (ea_cons (ev_var rfl) (ea_cons (ev_var rfl) (ea_cons (ev_var rfl) ea_nil)))) fun H2 x2 => ⟨a, nl, rl, s, _, rfl, hK0.ex (x1.trans x2), hOk, (x1.trans x2) _ _ hn0, (x1.trans x2) _ _ hrl0, hc, rfl, hne, hneR, k0.on (x1.trans x2)⟩
      | get i =>
        refine q_no (et_is (et_test (isT _ _ _ rfl)) (by rfl)) fun H1 x1 => ?_
        refine q_yes (et_is (et_test (ev_op (ev_var rfl) ev_c (rv_eq rfl))) (by rfl)) fun H2 x2 => ?_
        have x12 := x1.trans x2
        exact s_retC (ea_cons (ev_var rfl) (ea_cons (ev_at 0 (ev_var rfl) (x12 _ _ hn0) rfl) ea_nil)) fun H3 x3 => ⟨a, s, i, rfl, hK0.ex (x12.trans x3), hOk, k0.on (x12.trans x3)⟩
      | find t =>
        refine q_no (et_is (et_test (isT _ _ _ rfl)) (by rfl)) fun H1 x1 => ?_
        refine q_no (et_is (et_test (ev_op (ev_var rfl) ev_c (rv_eq rfl))) (by rfl)) fun H2 x2 => ?_
        refine q_yes (et_is (et_test (ev_op (ev_var rfl) ev_c (rv_eq rfl))) (by rfl)) fun H3 x3 => ?_
        have x13 := (x1.trans x2).trans x3
        exact s_retC (ea_cons (ev_var rfl) (ea_cons (ev_at 0 (ev_var rfl) (x13 _ _ hn0) rfl) ea_nil)) fun H4 x4 => ⟨a, s, t, rfl, hK0.ex (x13.trans x4), hOk, k0.on (x13.trans x4)⟩
      | again =>
        refine q_no (et_is (et_test (isT _ _ _ rfl)) (by rfl)) fun H1 x1 => ?_
        refine q_no (et_is (et_test (ev_op (ev_var rfl) ev_c (rv_eq rfl))) (by rfl)) fun H2 x2 => ?_
        refine q_no (et_is (et_test (ev_op (ev_var rfl) ev_c (rv_eq rfl))) (by rfl)) fun H3 x3 => ?_
        refine q_yes (et_is (et_test (ev_op (ev_var rfl) ev_c (rv_eq rfl))) (by rfl)) fun H4 x4 => ?_
        have x14 := ((x1.trans x2).trans x3).trans x4
        refine ⟨_, rfl, a, dx, _, rfl, x14 _ _ ha, kn (by decide +kernel) (by decide +kernel) (by decide +kernel) (by decide +kernel) (by decide +kernel) (by decide +kernel) (by decide +kernel), a, s, rfl, hK0.ex x14, hOk.few, hOk.good, hne, fun H5 b5 hK5 => ?_⟩
        refine ⟨by show 1 ≤ sizeLine; decide, fun p hp5 => ?_⟩
        obtain ⟨dx5, pa5, la5, ha5, _⟩ := id hK5
        have b05 := (ExB.of x14).trans b5
        exact k0 p _ (ExB.fresh b05 hp5 ha5) (b05.ex (Ex.new hp5)) (hK5.ex (Ex.new hp5)) upd_same
      | out =>
        refine q_no (et_is (et_test (isT _ _ _ rfl)) (by rfl)) fun H1 x1 => ?_
        refine q_no (et_is (et_test (ev_op (ev_var rfl) ev_c (rv_eq rfl))) (by rfl)) fun H2 x2 => ?_
        refine q_no (et_is (et_test (ev_op (ev_var rfl) ev_c (rv_eq rfl))) (by rfl)) fun H3 x3 => ?_
        refine q_no (et_is (et_test (ev_op (ev_var rfl) ev_c (rv_eq rfl))) (by rfl)) fun H4 x4 => ?_
        refine q_yes (et_is (et_test (ev_op (ev_var rfl) ev_c (rv_eq rfl))) (by rfl)) fun H5 x5 => ?_
        have x15 := (((x1.trans x2).trans x3).trans x4).trans x5
        exact s_retC (ea_cons (ev_var rfl) ea_nil) fun H6 x6 => ⟨a, s, rfl, hK0.ex (x15.trans x6), hOk, k0.on (x15.trans x6)⟩
      | sums =>
        refine q_no (et_is (et_test (isT _ _ _ rfl)) (by rfl)) fun H1 x1 => ?_
        refine q_no (et_is (et_test (ev_op (ev_var rfl) ev_c (rv_eq rfl))) (by rfl)) fun H2 x2 => ?_
        refine q_no (et_is (et_test (ev_op (ev_var rfl) ev_c (rv_eq rfl))) (by rfl)) fun H3 x3 => ?_
        refine q_no (et_is (et_test (ev_op (ev_var rfl) ev_c (rv_eq rfl))) (by rfl)) fun H4 x4 => ?_
        refine q_no (et_is (et_test (ev_op (ev_var rfl) ev_c (rv_eq rfl))) (by rfl)) fun H5 x5 => ?_
        have x15 := (((x1.trans x2).trans x3).trans x4).trans x5
        refine s_retL (el_cat (el_lst (ea_cons ev_c ea_nil) (by show 1 ≤ 100000; decide)) (el_if (xs := (Sj55.sumsOf s.entries).map V.int) (b := true) (et_is (et_test (ev_op (ev_var rfl) ev_c (rv_eq rfl))) (by rfl)) (fun _ => el_meth (ev_var rfl) (x15 _ _ ha) (kn (by decide +kernel) (by decide +kernel) (by decide +kernel) (by decide +kernel) (by decide +kernel) (by decide +kernel) (by decide +kernel)) ea_nil (fun H6 x6 Q6 q6 E6 => ⟨a, s, rfl, hK0.ex (x15.trans x6), hOk.few, q6⟩)) (fun z => by cases z)) ?_) (Done.ret (show Done K A a (s, 0 :: Sj55.sumsOf s.entries) H0 Q from k0) hK0 x15)
        rw [List.length_map]
        have : (Sj55.sumsOf s.entries).length = 32 := by
          rw [sumsOf_eq]
          rfl
        rw [this]
        show 1 + 32 ≤ sizeLine
        decide
      | counts =>
        refine q_no (et_is (et_test (isT _ _ _ rfl)) (by rfl)) fun H1 x1 => ?_
        refine q_no (et_is (et_test (ev_op (ev_var rfl) ev_c (rv_eq rfl))) (by rfl)) fun H2 x2 => ?_
        refine q_no (et_is (et_test (ev_op (ev_var rfl) ev_c (rv_eq rfl))) (by rfl)) fun H3 x3 => ?_
        refine q_no (et_is (et_test (ev_op (ev_var rfl) ev_c (rv_eq rfl))) (by rfl)) fun H4 x4 => ?_
        refine q_no (et_is (et_test (ev_op (ev_var rfl) ev_c (rv_eq rfl))) (by rfl)) fun H5 x5 => ?_
        have x15 := (((x1.trans x2).trans x3).trans x4).trans x5
        refine s_retL (el_cat (el_lst (ea_cons ev_c ea_nil) (by show 1 ≤ 100000; decide)) (el_if (xs := (countsN s).map V.int) (b := false) (et_is (et_test (ev_op (ev_var rfl) ev_c (rv_eq rfl))) (by rfl)) (fun z => by cases z) (fun _ => el_meth (ev_var rfl) (x15 _ _ ha) (kn (by decide +kernel) (by decide +kernel) (by decide +kernel) (by decide +kernel) (by decide +kernel) (by decide +kernel) (by decide +kernel)) ea_nil (fun H6 x6 Q6 q6 E6 => ⟨a, s, rfl, hK0.ex (x15.trans x6), hOk.few, q6⟩))) ?_) (Done.ret (show Done K A a (s, 0 :: countsN s) H0 Q from k0) hK0 x15)
        show 1 + 5 ≤ sizeLine
        decide
end
end G
namespace G
open PySem PySem.Spec PyProof.Rows L2 Evl
open Sj55 (Ins isIn isFrame)

/-! ### a list that an expression leaves as it is -/
def tFrm (t : TE) : TE := fun σ H Q => ∃ fl xs, H fl = some (.lst xs) ∧ t σ (del H fl) (fun v H' => H' fl = none → Q v (upd H' fl (.lst xs)))
theorem pe_frame {X : Cx} {e : Expr} {t : TE} (h : PE X e t) : PE X e (tFrm t) := by
  refine ⟨fun pins s σ H Q I hw => ?_⟩
  obtain ⟨fl, xs, hfl, hw⟩ := hw
  obtain ⟨hz, its, n, rv, eo⟩ := I.hok fl _ hfl
  have nloc : fl ≠ X.env.locals := fun z => by
    rw [z, I.free] at hfl
    cases hfl
  have nfs : fl ∉ X.fs := fun hm => by
    obtain ⟨_, o, ho, _⟩ := I.ok.funs.mem hm
    have z := I.base.free fl o ho (I.ok.frf fl hm) (fun hx => I.ok.exfs fl hx hm)
    rw [z] at hfl
    cases hfl
  have nno : ∀ {b : Addr}, H b = none → b ≠ fl := fun {b} hb z => by
    rw [z, hfl] at hb
    cases hb
  have I2 : Inv X (pins ++ [(fl, { cls := .type "list", data := .seq its.toArray n })]) σ (del H fl) s := by
    refine ⟨I.ok, I.os, I.bare, ⟨I.base.keep, I.base.slot, fun b o e n hx => ?_, I.base.there, fun b ys e => ?_, fun b o u e => ?_, fun b ps e => ?_⟩, I.loc, I.cell, ?_, fun x c e => ?_, fun p hp => ?_, fun b o e => ?_, I.len⟩
    · rw [del_ne (nno (I.base.free b o e n hx))]
      exact I.base.free b o e n hx
    · have z := I.base.tups b ys e
      rw [del_ne (ne_of z hfl (by intro q; cases q))]
      exact z
    · have z := I.base.frzs b o u e
      rw [del_ne (ne_of z hfl (by intro q; cases q))]
      exact z
    · obtain ⟨more, z⟩ := I.base.tbls b ps e
      exact ⟨more, by rw [del_ne (ne_of z hfl (by intro q; cases q))]; exact z⟩
    · rw [del_ne (nno I.free)]
      exact I.free
    · rw [del_ne (nno (I.freeC x c e))]
      exact I.freeC x c e
    · rw [← List.append_assoc, List.mem_append] at hp
      rcases hp with hp | hp
      · obtain ⟨p1, p2, p3, p4, p5⟩ := I.pin p hp
        exact ⟨p1, by rw [del_ne (nno p2)]; exact p2, p3, p4, p5⟩
      · rw [List.mem_singleton.mp hp]
        exact ⟨eo, del_same, nloc, nfs, fun v z => by cases z⟩
    · have hb : b ≠ fl := fun z => by
        rw [z, del_same] at e
        cases e
      rw [del_ne hb] at e
      exact (I.hok b o e).stay (fun _ _ _ q => q) (fun c q => by rw [del_ne (ne_of q hfl (by intro z; cases z))]; exact q) (fun c ys q => by rw [del_ne (ne_of q hfl (by intro z; cases z))]; exact q)
  refine wpAny_mono (h.run _ s σ (del H fl) _ I2 hw) (fun u s' hq => ?_) (fun _ _ x => x)
  obtain ⟨v, H', I', r, q⟩ := hq
  obtain ⟨p1, p2, p3, p4, p5⟩ := I'.pin (fl, { cls := .type "list", data := .seq its.toArray n }) (by simp)
  have nno' : ∀ {b : Addr} {o : HO}, H' b = some o → b ≠ fl := fun {b o} hb z => by
    rw [z] at hb
    rw [show H' fl = none from p2] at hb
    cases hb
  refine ⟨v, upd H' fl (.lst xs), ?_, r, q p2⟩
  refine ⟨I'.ok, I'.os, I'.bare, ⟨I'.base.keep, I'.base.slot, fun b o e n hx => ?_, I'.base.there, fun b ys e => ?_, fun b o u e => ?_, fun b ps e => ?_⟩, I'.loc, I'.cell, ?_, fun x c e => ?_, fun p hp => ?_, fun b o e => ?_, I'.len⟩
  · rw [upd_ne (nno (I.base.free b o e n hx))]
    exact I'.base.free b o e n hx
  · have z := I'.base.tups b ys e
    rw [upd_ne (nno' z)]
    exact z
  · have z := I'.base.frzs b o u e
    rw [upd_ne (nno' z)]
    exact z
  · obtain ⟨more, z⟩ := I'.base.tbls b ps e
    exact ⟨more, by rw [upd_ne (nno' z)]; exact z⟩
  · rw [upd_ne nloc.symm]
    exact I'.free
  · rw [upd_ne (nno (I.freeC x c e))]
    exact I'.freeC x c e
  · obtain ⟨_, q2, _⟩ := I.pin p hp
    obtain ⟨w1, w2, w3, w4, w5⟩ := I'.pin p (by rw [← List.append_assoc]; exact List.mem_append_left _ hp)
    exact ⟨w1, by rw [upd_ne (nno q2)]; exact w2, w3, w4, w5⟩
  · by_cases hb : b = fl
    · subst hb
      rw [upd_same] at e
      cases e
      exact ⟨hz, its, n, rv, p1⟩
    · rw [upd_ne hb] at e
      exact (I'.hok b o e).stay (fun _ _ _ q => q) (fun c q => by rw [upd_ne (nno' q)]; exact q) (fun c ys q => by rw [upd_ne (nno' q)]; exact q)
end G
namespace G
open PySem PySem.Spec PyProof.Rows L2 Evl
open Sj55 (Ins isIn isFrame)
section
variable {K : PySem.W.Frag} {σ : L2.St} {H H' : Hp} {ta tb te : TE} {tA : TA} {t : TT} {D : Ends} {tz tu tw : TS} {x z : V}
def SpU (sp : Sp) (vs : List V) (H : Hp) (xs : List V) : Prop := ∀ H1, Ex H H1 → ∀ Q : VK, (∀ p H2, H1 p = none → Ex H1 H2 → H2 p = some (.tup xs) → Q (.ref p) H2) → ∀ E : XK, sp vs H1 Q E
theorem eu_call {sp : Sp} {vs xs : List V} {E : XK} (h : EvA tA σ H vs) (hs : SpU sp (vs ++ []) H xs) : EvU (tCall sp [] E tA) σ H xs := fun H1 e Q q =>
  h H1 e _ fun H2 e2 => hs H2 (e.trans e2) Q (fun p H3 hp e3 h3 => q p H3 (fresh_back e2 hp) (e2.trans e3) h3) E
theorem q_unp2 {a b : V} {i j : Nat} (h : EvU te σ H [a, b]) (kk : ∀ H1, Ex H H1 → tz D ((σ.set i (some a)).set j (some b)) H1) : tSeq (tAsg te (gTup K 2 (gCons (gName i) (gCons (gName j) gNil)))) tz D σ H :=
  h H (Ex.refl H) _ fun p H1 _ e hp => ⟨p, _, rfl, st_of hp, rfl, _, _, rfl, _, _, rfl, rfl, kk H1 e⟩
theorem q_parL {xs ys : List V} {i j : Nat} (ha : EvL ta σ H xs) (hb : EvL tb σ H ys) (kk : ∀ p q H1, H p = none → H q = none → Ex H H1 → H1 p = some (.lst xs) → H1 q = some (.lst ys) → tz D ((σ.set i (some (.ref p))).set j (some (.ref q))) H1) :
    tSeq (tPar i j (tCons ta (tCons tb tNil))) tz D σ H :=
  ha H (Ex.refl H) _ fun p H1 hp e1 h1 => hb H1 e1 _ fun q H2 hq e2 h2 => ⟨_, _, rfl, kk p q H2 hp (fresh_back e1 hq) (e1.trans e2) (e2 _ _ h1) h2⟩
theorem rv_plain {a : Addr} {f : Int → Option Int} {i j : Int} (h : f i = some j) : RV (rPlain a f) (.ref a) (.int i) H (.int j) := fun H1 _ Q q => ⟨i, j, rfl, rfl, h, q H1 (Ex.refl H1)⟩
/-- x = f(..), a list held apart -/
theorem s_asgFrm {fl : Addr} {xs : List V} {i : Nat} {t : TE} (hl : H fl = some (.lst xs)) (h : t σ (del H fl) (fun v H' => H' fl = none → D.nx (σ.set i (some v)) (upd H' fl (.lst xs)))) : tAsg (tFrm t) (gName i) D σ H := ⟨fl, xs, hl, h⟩
theorem q_asgFrm {fl : Addr} {xs : List V} {i : Nat} {t : TE} (hl : H fl = some (.lst xs)) (h : t σ (del H fl) (fun v H' => H' fl = none → tz D (σ.set i (some v)) (upd H' fl (.lst xs)))) : tSeq (tAsg (tFrm t) (gName i)) tz D σ H := ⟨fl, xs, hl, h⟩
end
theorem del_none {H : Hp} {a : Addr} (h : H a = none) : L2.del H a = H := by
  funext b
  by_cases hb : b = a
  · rw [hb, del_same, h]
  · rw [del_ne hb]
theorem StAt.ex {K : PySem.W.Frag} {A : Ad} {H H' : Hp} {v : V} : ∀ {st : Option Kst}, Ex H H' → StAt K A H v st → StAt K A H' v st
  | none, _, h => h
  | some s, x, ⟨a, e, h⟩ => ⟨a, e, h.ex x⟩
section
variable {P : Program} {w : World} {K : PySem.W.Frag} {mg : Str → Option Value} {base : Heap} {A : Ad}
abbrev s_are_bounds : Stmt := (top 91)
theorem sc_are_bounds : FnScope ["numbers"] ["numbers"] (defScope s_are_bounds) := ⟨rfl, rfl, rfl, by decide +kernel, rfl, by decide +kernel, by decide +kernel⟩
def sp_are_bounds (K : PySem.W.Frag) : Sp := fun vs H Q _ => ∃ (l : Addr) (n m : Int), vs = [.ref l] ∧ H l = some (.lst [.int n, .int m]) ∧ RetV (.bl (isIn 512 4096 n && isIn 0 256 m)) H Q
theorem ok_are_bounds {f : Addr} {fd : FuncData} (F : Fun K "are_bounds" "are_bounds" s_are_bounds f fd) (T : Txt K mg A) : FnOk P w K mg base CX0 1 f fd ["numbers"] (sp_are_bounds K) := by
  refine F.ok sc_are_bounds (fun vs H Q E h => ?_) (fun cdv Ar outer s H vs Q E hr h => ?_)
  · obtain ⟨l, n, m, rfl, _⟩ := h
    rfl
  · obtain ⟨l, n, m, rfl, hl, k⟩ := h
    refine ⟨_, (pss_one (ps_ret (pe_and (pe_chain op_le op_le (pe_gi T.c_LEAST_SIZE rfl) (pe_ix ix_list (pv 0) pe_int (fun _ _ => rfl)) (pe_gi T.c_MOST_SIZE rfl)) (pe_one (pe_chain op_le op_le pe_int (pe_ix ix_list (pv 0) pe_int (fun _ _ => rfl)) (pe_gi T.c_MOST_SNAP rfl)))))), ?_⟩
    exact s_ret (ev_andV (ev_chain ev_c (ev_at 0 (ev_var rfl) hl rfl) rv_I0 (fun _ => ev_c) (fun _ => rv_I0)) (fun _ => ev_chain ev_c (ev_at 1 (ev_var rfl) hl rfl) rv_I0 (fun _ => ev_c) (fun _ => rv_I0))) k
theorem sp_are_bounds_v {H : Hp} {l : Addr} {n m : Int} (h : H l = some (.lst [.int n, .int m])) : SpV (sp_are_bounds K) [.ref l] H (.bl (isIn 512 4096 n && isIn 0 256 m)) := fun H1 x Q q' E => ⟨l, n, m, rfl, x _ _ h, q'⟩
abbrev s_call_end : Stmt := (top 92)
theorem sc_call_end : FnScope ["calls", "at", "word", "end"] ["calls", "at"] (defScope s_call_end) := ⟨rfl, rfl, rfl, by decide +kernel, rfl, by decide +kernel, by decide +kernel⟩
def isRow (w : Int) : Bool := inV (.int w) [.int 2, .int 3, .int 6, .int 9]
def sp_call_end (K : PySem.W.Frag) : Sp := fun vs H Q _ => ∃ (cl : Addr) (ns : List Int) (i k : Nat) (w : Int), vs = [.ref cl, .int i] ∧ SqL K H cl (ns.map V.int) ∧ ns[i]? = some w ∧ plainF w = some (k : Nat) ∧
  ((isRow w = false ∧ ∀ p H', H p = none → Ex H H' → H' p = some (.tup [.int (i + 1 + k : Nat), .int (i + 1 + k : Nat)]) → Q (.ref p) H') ∨
   (isRow w = true ∧ ∃ m : Nat, ns[i + 1 + k]? = some (m : Int) ∧ ∀ p H', H p = none → Ex H H' → H' p = some (.tup [.int (i + 1 + k + 1 + m : Nat), .int (i + 1 + k + 1 : Nat)]) → Q (.ref p) H'))
theorem ok_call_end {f : Addr} {fd : FuncData} (F : Fun K "call_end" "call_end" s_call_end f fd) (T : Txt K mg A) : FnOk P w K mg base CX0 1 f fd ["calls", "at"] (sp_call_end K) := by
  refine F.ok sc_call_end (fun vs H Q E h => ?_) (fun cdv Ar outer s H vs Q E hr h => ?_)
  · obtain ⟨cl, ns, i, k, w, rfl, _⟩ := h
    rfl
  · obtain ⟨cl, ns, i, k, w, rfl, hcl, hw, hk, kk⟩ := h
    refine ⟨_, (pss_cons (ps_set (i := 2) sc_call_end.nd rfl (Or.inl rfl) (pe_ix ix_list (pv 0) (pv 1) (fun _ _ => rfl)))
      (pss_cons (ps_set (i := 3) sc_call_end.nd rfl (Or.inl rfl) (pe_op op_add (pe_op op_add (pv 1) pe_int) (pe_ix (ix_plain T.plain) (pe_gref T.g_PLAIN rfl) (pv 2) (fun _ _ => rfl))))
      (pss_cons (ps_if (pt_cmpR op_notIn_seq (pv 2) (pe_gref T.g_WITH_ROW rfl) (by rfl)) (pss_one (ps_ret (pe_tup (pa_cons (pv 3) (pa_cons (pv 3) pa_nil))))) pss_nil)
      (pss_one (ps_ret (pe_tup (pa_cons (pe_op op_add (pe_op op_add (pv 3) pe_int) (pe_ix ix_list (pv 0) (pv 3) (fun _ _ => rfl))) (pa_cons (pe_op op_add (pv 3) pe_int) pa_nil)))))))), ?_⟩
    have at_ : ∀ (j : Nat) (z : Int), ns[j]? = some z → atI (ns.map V.int) (j : Nat) = some (.int z) := fun j z hz => atI_nat (by rw [List.getElem?_map, hz]; rfl)
    refine q_asg (ev_op (ev_var rfl) (ev_var rfl) (rv_ixL hcl (at_ i w hw))) fun H1 x1 => ?_
    refine q_asg (v := .int (i + 1 + k : Nat)) (ev_op (ev_op (ev_var rfl) ev_c rv_I0) (ev_op ev_c (ev_var rfl) (rv_plain hk)) rv_I0) fun H2 x2 => ?_
    have x12 := x1.trans x2
    have isN : ∀ (σ : L2.St) (H : Hp), σ[2]? = some (some (V.int w)) → Ev (tOp (rIn K true) (tVar 2) (tC (.ref A.aW))) σ H (.bl (!isRow w)) := fun σ H hs => ev_op (ev_var hs) ev_c (rv_niT (T.wrow H) rfl rfl)
    rcases kk with ⟨hr, kk⟩ | ⟨hr, m, hm, kk⟩
    · refine q_yes (et_is (et_test (isN _ _ rfl)) (by rw [hr]; rfl)) fun H3 x3 => ?_
      exact s_retU (eu_tup (ea_cons (ev_var rfl) (ea_cons (ev_var rfl) ea_nil)) (by show 2 ≤ 100000; decide)) fun p H4 hp x4 h4 => kk p H4 (fresh_back (x12.trans x3) hp) ((x12.trans x3).trans x4) h4
    · refine q_no (et_is (et_test (isN _ _ rfl)) (by rw [hr]; rfl)) fun H3 x3 => ?_
      refine s_retU (xs := [.int (i + 1 + k + 1 + m : Nat), .int (i + 1 + k + 1 : Nat)]) (eu_tup (ea_cons (ev_op (ev_op (ev_var rfl) ev_c rv_I0) (ev_op (ev_var rfl) (ev_var rfl) (rv_ixL (ex_l (x12.trans x3) hcl) (at_ (i + 1 + k) m hm))) rv_I0) (ea_cons (ev_op (ev_var rfl) ev_c rv_I0) ea_nil)) (by show 2 ≤ 100000; decide)) fun p H4 hp x4 h4 => kk p H4 (fresh_back (x12.trans x3) hp) ((x12.trans x3).trans x4) h4
end
end G
namespace G
open PySem PySem.Spec PyProof.Rows L2 Evl
open Sj55 (Ins isIn isFrame)
theorem plain_shape {p : Int} {n k : Nat} (h : PySj55.shape p = some (n, k)) : plainF p = some (n : Nat) ∧ isRow p = decide (k = 1) ∧ k ≤ 1 := by
  rcases shape_iff h with ⟨rfl, rfl, rfl⟩ | ⟨rfl, rfl, rfl⟩ | ⟨rfl, rfl, rfl⟩ | ⟨rfl, rfl, rfl⟩ | ⟨rfl, rfl, rfl⟩ | ⟨rfl, rfl, rfl⟩ | ⟨rfl, rfl, rfl⟩ | ⟨rfl, rfl, rfl⟩ | ⟨rfl, rfl, rfl⟩ | ⟨rfl, rfl, rfl⟩ | ⟨rfl, rfl, rfl⟩ <;> exact ⟨rfl, rfl, by decide⟩
section
variable {P : Program} {w : World} {K : PySem.W.Frag} {mg : Str → Option Value} {base : Heap} {A : Ad}
abbrev s_answers : Stmt := (top 93)
theorem sc_answers : FnScope ["calls", "found", "kept", "at", "word", "end", "begin", "numbers", "row", "answer"] ["calls"] (defScope s_answers) := ⟨rfl, rfl, rfl, by decide +kernel, rfl, by decide +kernel, by decide +kernel⟩
def sp_answers (K : PySem.W.Frag) : Sp := fun vs H Q _ => ∃ (cl : Addr) (ns : List Int), vs = [.ref cl] ∧ SqL K H cl (ns.map V.int) ∧ PySj55.answers_asked ns = true ∧ ∀ (H' : Hp) (p : Addr), H' p = some (.lst ((PySj55.answers ns).map V.int)) → Q (.ref p) H'
/-- between two turns -/
def LoopAt (K : PySem.W.Frag) (A : Ad) (H : Hp) (ns : List Int) (cl fl : Addr) (m : Nat) (σ : L2.St) (H' : Hp) : Prop :=
  ∃ (i f : Nat) (raw : List (List (List Int))) (st : Option Kst) (kv : V) (done : List Int) (v4 v5 v6 v7 v8 v9 : Option V), m = raw.length ∧ σ = [some (.ref cl), some (.ref fl), some kv, some (.int (i : Nat)), v4, v5, v6, v7, v8, v9] ∧ Ex H H' ∧ H' fl = some (.lst (done.map V.int)) ∧
    StAt K A (del H' fl) kv st ∧ (∀ a, kv = .ref a → H a = none) ∧ few st raw.length ∧ raw.length ≤ 40 ∧ i ≤ ns.length ∧ PyFlat.calls PySj55.shape f (ns.drop i) = some raw ∧ (∀ c ∈ raw, ∃ q, Sj55Neutral.callOf ((PySj55.whole c).headD []) = some q) ∧ done ++ restA st raw = PySj55.answers ns
theorem ok_answers {f : Addr} {fd : FuncData} (F : Fun K "answers" "answers" s_answers f fd) (T : Txt K mg A) (hne : A.cK ≠ A.cF) (hneR : A.cR ≠ A.cF) (h_call_end : Has P w K mg base CX0 1 "call_end" ["calls", "at"] (sp_call_end K)) (h_answer_of : Has P w K mg base CX0 9 "answer_of" ["kept", "word", "numbers", "row"] (sp_answer_of K A))
    (h_are_bounds : Has P w K mg base CX0 1 "are_bounds" ["numbers"] (sp_are_bounds K)) (h_Kept : HasC P w K mg base CX0 1 A.cK "Kept" ["self", "size", "snap"] (sp_Kept_init K A)) : FnOk P w K mg base CX0 10 f fd ["calls"] (sp_answers K) := by
  refine F.ok sc_answers (fun vs H Q E h => ?_) (fun cdv Ar outer s H vs Q E hr h => ?_)
  · obtain ⟨cl, ns, rfl, _⟩ := h
    rfl
  · obtain ⟨cl, ns, rfl, hcl, hask, kend⟩ := h
    obtain ⟨raw0, hA⟩ := asked_of hask
    refine ⟨_, (pss_cons (ps_set (i := 1) sc_answers.nd rfl (Or.inl rfl) (pe_lst pa_nil))
      (pss_cons (ps_set (i := 2) sc_answers.nd rfl (Or.inl rfl) pe_non)
      (pss_cons (ps_set (i := 3) sc_answers.nd rfl (Or.inl rfl) pe_int)
      (pss_cons (ps_while PassesOwn.never (pt_cmpR op_lt (pv 3) (pe_callB call_len_seq (by rfl) T.b_len PySem.boot_len (pa_cons (pv 0) pa_nil)) (nomark _)) (pss_cons (ps_set (i := 4) sc_answers.nd rfl (Or.inl rfl) (pe_ix ix_list (pv 0) (pv 3) (fun _ _ => rfl)))
      (pss_cons (ps_asg (pe_fn h_call_end (hr.mono (by decide)) (by rfl) pass0 (pa_cons (pv 0) (pa_cons (pv 3) pa_nil))) (pg_tup rfl (pgs_cons (pg_name (i := 5) sc_answers.nd rfl (Or.inl rfl)) (pgs_cons (pg_name (i := 6) sc_answers.nd rfl (Or.inl rfl)) pgs_nil))))
      (pss_cons (ps_par (i := 7) (j := 8) rfl sc_answers.nd rfl rfl (by decide) rfl rfl (pa_cons (pe_slice sl_list (pv 0) (po_some (pe_op op_add (pv 3) pe_int)) (po_some (pe_op op_add (pe_op op_add (pv 3) pe_int) (pe_ix (ix_plain T.plain) (pe_gref T.g_PLAIN rfl) (pv 4) (fun _ _ => rfl))))) (pa_cons (pe_slice sl_list (pv 0) (po_some (pv 6)) (po_some (pv 5))) pa_nil)) (by rfl))
      (Evl.pss_cut (ps_if (pt_cmpR op_ne (pv 4) (pe_gi T.c_OPEN rfl) (nomark _)) (pss_one (ps_set (i := 9) sc_answers.nd rfl (Or.inl rfl) (pe_frame (pe_fn h_answer_of (hr.mono (by decide)) (by rfl) pass0 (pa_cons (pv 2) (pa_cons (pv 4) (pa_cons (pv 7) (pa_cons (pv 8) pa_nil)))))))) (pss_one (ps_if (pt_val (pe_fn h_are_bounds (hr.mono (by decide)) (by rfl) pass0 (pa_cons (pv 7) pa_nil))) (pss_cons (ps_set (i := 2) sc_answers.nd rfl (Or.inl rfl) (pe_frame (pe_mk h_Kept (hr.mono (by decide)) (by rfl) pass0 (pa_cons (pe_ix ix_list (pv 7) pe_int (fun _ _ => rfl)) (pa_cons (pe_ix ix_list (pv 7) pe_int (fun _ _ => rfl)) pa_nil)))))
      (pss_one (ps_set (i := 9) sc_answers.nd rfl (Or.inl rfl) (pe_lst (pa_cons pe_int pa_nil))))) (pss_one (ps_set (i := 9) sc_answers.nd rfl (Or.inl rfl) (pe_lst (pa_cons (pe_gi T.c_NO_SUCH_NUMBER rfl) pa_nil)))))))
      (pss_cons (ps_expr (pe_bm PySem.F.plainAttrs_list PySem.F.slot_list_extend PySem.F.type_list_extend mt_extend (pv 1) (pa_cons (pe_op op_cat (pe_lst (pa_cons (pe_callB call_len_seq (by rfl) T.b_len PySem.boot_len (pa_cons (pv 9) pa_nil)) pa_nil)) (pv 9)) pa_nil)))
      (pss_one (ps_set (i := 3) sc_answers.nd rfl (Or.inl rfl) (pv 5)))))))))
      (pss_one (ps_ret (pv 1))))))), ?_⟩
    refine q_asgL (el_lst ea_nil (Nat.zero_le _)) fun fl H1 hfl x1 h1 => ?_
    refine q_asg ev_c fun H2 x2 => q_asg ev_c fun H3 x3 => ?_
    have x13 := (x1.trans x2).trans x3
    have at_ : ∀ (j : Nat) (z : Int), ns[j]? = some z → atI (ns.map V.int) (j : Nat) = some (.int z) := fun j z hz => atI_nat (by rw [List.getElem?_map, hz]; rfl)
    refine q_while (LoopAt K A H ns cl fl) raw0.length ⟨0, ns.length, raw0, none, .non, [], none, none, none, none, none, none, rfl, rfl, x13, (x2.trans x3) _ _ h1, rfl, (fun a z => by cases z), (fun s z => by cases z), hA.few, Nat.zero_le _, hA.calls, hA.each, hA.ans.symm⟩ ?_
    rintro m σ' H4 ⟨i, fu, raw, st, kv, done, v4, v5, v6, v7, v8, v9, rfl, rfl, x4, hfl4, hSt, hkv, hfew, h40, hi, hcalls, heach, hans⟩
    have hcl4 := ex_l x4 hcl
    refine ⟨_, et_test (ev_op (ev_var rfl) (ev_len (ev_var rfl) hcl4) rv_I0), fun hb H5 x5 => ?_, fun hb H5 x5 => ?_⟩
    · have hlt : i < ns.length := by have := of_decide_eq_true hb; rw [List.length_map] at this; omega
      obtain ⟨p, r, n, k, xs, t, cs, fu', hl, hs, hn, hrows, hraw, hcs⟩ := calls_cons hcalls (fun z => by have := List.drop_eq_nil_iff.mp z; omega)
      subst hraw
      obtain ⟨q, hq⟩ := heach _ (List.mem_cons_self ..)
      have hpi : ns[i]? = some p := by
        have := congrArg (fun l => l[0]?) hl
        simpa using this
      have hr1 : r = ns.drop (i + 1) := by
        have := congrArg (List.drop 1) hl
        rw [List.drop_drop] at this
        simpa using this.symm
      obtain ⟨hplain, hisrow, hk1⟩ := plain_shape hs
      have hxl : xs.length = k := by
        rcases Nat.le_one_iff_eq_zero_or_eq_one.mp hk1 with rfl | rfl
        · rw [(rows_zero hrows).1]
          rfl
        · obtain ⟨x, e, _⟩ := rows_one hrows
          rw [e]
          rfl
      obtain ⟨hw, hnum, hrow, hhr, hgood⟩ := call_is hs (by rw [List.length_take]; omega) hxl hq
      -- where the call ends
      obtain ⟨e, b, hce, hcut, hte, hele⟩ : ∃ e b : Nat, (∀ H', Ex H H' → SpU (sp_call_end K) [.ref cl, .int (i : Nat)] H' [.int (e : Nat), .int (b : Nat)]) ∧ (ns.drop b).take (e - b) = rowOf q ∧ ns.drop e = t ∧ e ≤ ns.length := by
        have hrl : r.length = ns.length - (i + 1) := by rw [hr1, List.length_drop]
        rcases Nat.le_one_iff_eq_zero_or_eq_one.mp hk1 with rfl | rfl
        · obtain ⟨e1, e2⟩ := rows_zero hrows
          refine ⟨i + 1 + n, i + 1 + n, fun H' x' H6 x6 Q6 q6 E6 => ⟨cl, ns, i, n, p, rfl, ex_l (x'.trans x6) hcl, hpi, hplain, .inl ⟨hisrow, q6⟩⟩, ?_, ?_, by omega⟩
          · rw [hrow, e1, Nat.sub_self]
            rfl
          · rw [e2, hr1, List.drop_drop]
        · obtain ⟨x, e1, e2⟩ := rows_one hrows
          obtain ⟨mz, r', e3, hm0, hml, hx, ht⟩ := row_some e2
          have hmi : ns[i + 1 + n]? = some mz := by
            rw [hr1, List.drop_drop] at e3
            have := congrArg (fun l => l[0]?) e3
            simpa using this
          have hr' : r' = ns.drop (i + 1 + n + 1) := by
            rw [hr1, List.drop_drop] at e3
            have := congrArg (List.drop 1) e3
            rw [List.drop_drop] at this
            simpa using this.symm
          have hmz : mz = ((mz.toNat : Nat) : Int) := (Int.toNat_of_nonneg hm0).symm
          have hi1 : i + 1 + n < ns.length := (List.getElem?_eq_some_iff.mp hmi).1
          have hrl' : r'.length = ns.length - (i + 1 + n + 1) := by rw [hr', List.length_drop]
          refine ⟨i + 1 + n + 1 + mz.toNat, i + 1 + n + 1, fun H' x' H6 x6 Q6 q6 E6 => ⟨cl, ns, i, n, p, rfl, ex_l (x'.trans x6) hcl, hpi, hplain, .inr ⟨hisrow, mz.toNat, by rw [hmi]; exact congrArg some hmz, q6⟩⟩, ?_, ?_, by omega⟩
          · rw [hrow, e1, ← hr']
            show r'.take (i + 1 + n + 1 + mz.toNat - (i + 1 + n + 1)) = x
            rw [Nat.add_sub_cancel_left, hx]
          · rw [ht, hr', List.drop_drop]
      subst hw
      have hcl5 := ex_l x5 hcl4
      have x45 := x4.trans x5
      refine ⟨fun σ2 H2 => ∃ m', m' < (((wordOf q :: r.take n) :: xs) :: cs).length ∧ LoopAt K A H ns cl fl m' σ2 H2, fun _ _ h => h, ?_⟩
      -- word = calls[at]
      refine q_asg (ev_op (ev_var rfl) (ev_var rfl) (rv_ixL hcl5 (at_ i _ hpi))) fun H6 x6 => ?_
      have x46 := x45.trans x6
      refine q_unp2 (eu_call (ea_cons (ev_var rfl) (ea_cons (ev_var rfl) ea_nil)) (hce H6 x46)) fun H7 x7 => ?_
      have x47 := x46.trans x7
      have hcl7 := ex_l x47 hcl
      refine q_parL (xs := (numsOf q).map V.int) (ys := (rowOf q).map V.int) (el_is (el_sl (ev_var rfl) (eo_some (ev_op (ev_var rfl) ev_c rv_I0)) (eo_some (ev_op (ev_op (ev_var rfl) ev_c rv_I0) (ev_op ev_c (ev_var rfl) (rv_plain hplain)) rv_I0)) hcl7) (show cutV (ns.map V.int) (some ((i + 1 : Nat) : Int)) (some ((i + 1 + n : Nat) : Int)) = (numsOf q).map V.int by
          rw [cutV_mid, ← List.map_drop, ← List.map_take, hnum, ← hr1, Nat.add_sub_cancel_left]))
        (el_is (el_sl (ev_var rfl) (eo_some (ev_var rfl)) (eo_some (ev_var rfl)) hcl7) (show cutV (ns.map V.int) (some (b : Int)) (some (e : Int)) = (rowOf q).map V.int by rw [cutV_mid, ← List.map_drop, ← List.map_take, hcut])) fun nl rl H8 hnl hrl x8 hn8 hr8 => ?_
      have x48 := x47.trans x8
      have x58 : Ex H4 H8 := ((x5.trans x6).trans x7).trans x8
      have hfl8 := x58 _ _ hfl4
      have hfl7 : H7 fl = some (.lst (done.map V.int)) := ((x5.trans x6).trans x7) _ _ hfl4
      have nnl : nl ≠ fl := fun z => by
        rw [z, hfl7] at hnl
        cases hnl
      have nrl : rl ≠ fl := fun z => by
        rw [z, hfl7] at hrl
        cases hrl
      have hSt8 : StAt K A (del H8 fl) kv st := hSt.ex (Ex.del x58)
      have hOks : ∀ s, st = some s → s.Ok := fun s hs => (hfew s hs).1
      have nH : ∀ {c : Addr} {o : HO}, H c = some o → c ≠ fl := fun {c o} hc => ne_of_none hc hfl
      -- the answer
      refine q_cut (M := fun σ9 H9 => ∃ (kv' : V) (st' : Option Kst) (ans : List Int) (pa : Addr), σ9 = [some (.ref cl), some (.ref fl), some kv', some (.int (i : Nat)), some (.int (wordOf q)), some (.int (e : Nat)), some (.int (b : Nat)), some (.ref nl), some (.ref rl), some (.ref pa)] ∧ Ex H H9 ∧ H9 fl = some (.lst (done.map V.int)) ∧
          StAt K A (del H9 fl) kv' st' ∧ (∀ a, kv' = .ref a → H a = none) ∧ H9 pa = some (.lst (ans.map V.int)) ∧ stepK st q = (st', ans)) ?_ ?_
      · cases ho : isOpen q with
        | false =>
          refine s_if (b := true) (et_is (et_test (ev_op (ev_var rfl) ev_c (rv_ne rfl))) (by cases q <;> first | rfl | cases ho)) (fun _ H9 x9 => ?_) (fun z => by cases z)
          have x89 := x48.trans x9
          refine s_asgFrm (x9 _ _ hfl8) ?_
          refine ⟨_, rfl, _, rfl, _, rfl, _, rfl, kv, nl, rl, st, q, rfl, hSt8.ex (Ex.del x9), hOks, ?_, ?_, hgood, ho, hne, hneR, fun pa H10 hpa hb10 hSt10 h10 hnone => ?_⟩
          · rw [del_ne nnl]
            exact x9 _ _ hn8
          · rw [del_ne nrl]
            exact x9 _ _ hr8
          · have npa : pa ≠ fl := fun z => by
              rw [z, hnone] at h10
              cases h10
            refine ⟨kv, (stepK st q).1, (stepK st q).2, pa, rfl, fun c o hc => ?_, upd_same, ?_, hkv, ?_, rfl⟩
            · rw [upd_ne (nH hc)]
              refine hb10 c o ?_ fun z => ?_
              · rw [del_ne (nH hc)]
                exact x89 _ _ hc
              · rw [hkv c z] at hc
                cases hc
            · rw [del_upd, del_none hnone]
              exact hSt10
            · rw [upd_ne npa]
              exact h10
        | true =>
          refine s_if (b := false) (et_is (et_test (ev_op (ev_var rfl) ev_c (rv_ne rfl))) (by cases q <;> first | rfl | cases ho)) (fun z => by cases z) (fun _ H9 x9 => ?_)
          have x89 := x48.trans x9
          cases q with
          | open_ na mb =>
            have hn9 : H9 nl = some (.lst [.int na, .int mb]) := x9 _ _ hn8
            refine s_if (et_B (ev_call (ea_cons (ev_var rfl) ea_nil) (sp_are_bounds_v hn9))) (fun hbd H10 x10 => ?_) (fun hbd H10 x10 => ?_)
            · have hbd' := hbd
              rw [Bool.and_eq_true] at hbd'
              have hb1 := isIn_iff.mp hbd'.1
              have hb2 := isIn_iff.mp hbd'.2
              have x810 := x89.trans x10
              have hn10 : del H10 fl nl = some (.lst [.int na, .int mb]) := by
                rw [del_ne nnl]
                exact x10 _ _ hn9
              refine q_asgFrm (x10 _ _ (x9 _ _ hfl8)) ?_
              refine (ea_cons (ev_is (ev_at (K := K) 0 (ev_var (i := 7) rfl) hn10 rfl) (show V.int na = .int (na.toNat : Nat) by rw [Int.toNat_of_nonneg (by omega)])) (ea_cons (ev_is (ev_at (K := K) 1 (ev_var (i := 7) rfl) hn10 rfl) (show V.int mb = .int (mb.toNat : Nat) by rw [Int.toNat_of_nonneg (by omega)])) ea_nil)) (del H10 fl) (Ex.refl _) _ fun H11 x11 x dx nx nd nxd => ⟨x, dx, na.toNat, mb.toNat, rfl, upd_same, fun H12 hK12 b12 => ⟨rfl, fun hnone => ?_⟩⟩
              obtain ⟨dk, pk, lk, hk12, _⟩ := id hK12
              have hx11 : ∀ {c : Addr} {o : HO}, H c = some o → H11 c = some o := fun {c o} hc => x11 _ _ (by rw [del_ne (nH hc)]; exact x810 _ _ hc)
              refine s_asgL (el_lst (ea_cons ev_c ea_nil) (by show 1 ≤ 100000; decide)) fun pa H13 hpa x13 h13 => ?_
              refine ⟨.ref x, some (freshK na.toNat mb.toNat), [0], pa, rfl, fun c o hc => ?_, x13 _ _ upd_same, ?_, fun a z => ?_, h13, ?_⟩
              · have h11 := hx11 hc
                refine x13 _ _ ?_
                rw [upd_ne (nH hc)]
                refine b12 c o ?_ (ne_of_none h11 nx)
                rw [upd_ne (ne_of_none h11 nx), upd_ne (ne_of_none h11 nd)]
                exact h11
              · refine StAt.ex (Ex.del x13) ?_
                rw [del_upd, del_none hnone]
                exact ⟨x, rfl, hK12⟩
              · cases z
                cases hc : H x with
                | none => rfl
                | some o =>
                  rw [hx11 hc] at nx
                  cases nx
              · show (if _ then _ else _) = _
                rw [if_pos hbd]
            · refine s_asgL (el_lst (ea_cons ev_c ea_nil) (by show 1 ≤ 100000; decide)) fun pa H11 hpa x11 h11 => ?_
              refine ⟨kv, st, [-2], pa, rfl, (x89.trans x10).trans x11, (x10.trans x11) _ _ (x9 _ _ hfl8), hSt8.ex (Ex.del ((x9.trans x10).trans x11)), hkv, h11, ?_⟩
              show (if _ then _ else _) = _
              rw [if_neg (by rw [hbd]; decide)]
          | _ => cases ho
      · rintro σ9 H9 ⟨kv', st', ans, pa, rfl, x9, hfl9, hSt9, hkv9, hpa9, hstep⟩
        have hra := restA_cons (cs := cs) hfew hq hgood
        rw [hstep] at hra
        have hans' : (done ++ ((ans.length : Int) :: ans)) ++ restA st' cs = PySj55.answers ns := by
          rw [List.append_assoc, ← hra]
          exact hans
        have hlen := hA.short
        rw [← hans', List.length_append, List.length_append, List.length_cons] at hlen
        have hsz : (10000000 : Nat) + 10 ≤ sizeLine := by decide
        refine q_ext (ys := ((ans.length : Int) :: ans).map V.int) hfl9 (ev_var rfl) (el_is (el_cat2 (el_lst (ea_cons (ev_len (ev_var rfl) (sq_of hpa9)) ea_nil) (by show 1 ≤ 100000; decide)) (ev_var rfl) hpa9 ?_) ?_) ?_ fun H10 x10 => ?_
        · rw [List.length_map]
          show 1 + _ ≤ sizeLine
          omega
        · rw [List.length_map]
          rfl
        · rw [List.length_map, List.length_map, List.length_cons]
          omega
        · refine s_asg (ev_var rfl) fun H11 x11 => ?_
          refine ⟨cs.length, by rw [List.length_cons]; omega, e, fu', cs, st', kv', done ++ ((ans.length : Int) :: ans), _, _, _, _, _, _, rfl, rfl, Ex.trans ((x9.trans x10).mut hfl) x11, ?_, ?_, hkv9, ?_, ?_, hele, ?_, fun c hc => heach c (List.mem_cons_of_mem _ hc), hans'⟩
          · rw [x11 _ _ upd_same, List.map_append]
          · refine StAt.ex (Ex.del x11) ?_
            rw [del_upd]
            exact hSt9.ex (Ex.del x10)
          · have z := step_few (n := cs.length) (by rw [List.length_cons] at hfew; exact hfew) (by rw [List.length_cons] at h40; omega) hgood
            rw [hstep] at z
            exact z
          · rw [List.length_cons] at h40
            omega
          · rw [hte]
            exact hcs
    · have hge : ns.drop i = [] := List.drop_eq_nil_iff.mpr (by have := of_decide_eq_false hb; rw [List.length_map] at this; omega)
      rw [hge] at hcalls
      have hraw : raw = [] := by
        cases fu <;> (rw [PyFlat.calls] at hcalls; exact (Option.some.inj hcalls).symm)
      subst hraw
      rw [restA_nil, List.append_nil] at hans
      refine s_ret (ev_var rfl) fun H6 x6 => ?_
      exact kend H6 fl (by rw [← hans]; exact (x5.trans x6) _ _ hfl4)
end
end G
namespace G
open PySem PySem.Spec PyProof.Rows L2 Evl
/-! ### the end: what the top has written -/
def FunAt (K : PySem.W.Frag) (x qual : Str) (st : Stmt) : Prop := ∃ (f : Addr) (fd : FuncData), PySem.W.nsIn K mainGlobals x = some (some (.ref f)) ∧ Fun K x qual st f fd
def MethAt (K : PySem.W.Frag) (C : Addr) (m qual : Str) (st : Stmt) : Prop := ∃ (f : Addr) (fd : FuncData), Meth K C m f ∧ Fun K m qual st f fd
def InitAt (K : PySem.W.Frag) (C : Addr) (qual : Str) (st : Stmt) : Prop := ∃ (f : Addr) (fd : FuncData), Mk K C f ∧ Fun K "__init__" qual st f fd
def XInitAt (K : PySem.W.Frag) (C : Addr) (qual : Str) (st : Stmt) : Prop := ∃ (f : Addr) (fd : FuncData), PySem.W.findIn K (.ref C) "__init__" = some (some (.ref f)) ∧ PySem.W.typeIn K (.ref f) = some (.type "function") ∧ Fun K "__init__" qual st f fd
section
variable {K : PySem.W.Frag} {x qual m : Str} {st : Stmt} {f C : Addr} {oc : Value} {od an : Option Addr} {osl : Array (Option Value)} {kV doc pm cdv ct : Value}
theorem ct_mk {i : Int} {t : Tok} (h : PySem.W.nsIn K mainGlobals x = some (some (.int i t))) : ∃ t, PySem.W.nsIn K mainGlobals x = some (some (.int i t)) := ⟨t, h⟩
theorem fn_mk (a : PySem.W.nsIn K mainGlobals x = some (some (.ref f))) (l : K.lookup f = some ⟨oc, od, .func (PySem.W.fnOf x qual (defArgs st) (defBody st) (defScope st) .none kV doc pm an cdv ct), osl⟩) (c : PySem.W.codeIn K cdv qual = true) (k : PySem.W.keepIn K (.ref f) = true) : FunAt K x qual st := ⟨f, _, a, fun_mk l c k⟩
theorem mt_mk (a : PySem.W.findIn K (.ref C) m = some (some (.ref f))) (i : PySem.W.isFn K (.ref f) = true) (l : K.lookup f = some ⟨oc, od, .func (PySem.W.fnOf m qual (defArgs st) (defBody st) (defScope st) .none kV doc pm an cdv ct), osl⟩) (c : PySem.W.codeIn K cdv qual = true) (k : PySem.W.keepIn K (.ref f) = true) : MethAt K C m qual st := ⟨f, _, ⟨a, i, k⟩, fun_mk l c k⟩
theorem in_mk (mk : PySem.W.makesIn K C = true) (a : PySem.W.findIn K (.ref C) "__init__" = some (some (.ref f))) (i : PySem.W.isFn K (.ref f) = true) (kc : PySem.W.keepIn K (.ref C) = true) (l : K.lookup f = some ⟨oc, od, .func (PySem.W.fnOf "__init__" qual (defArgs st) (defBody st) (defScope st) .none kV doc pm an cdv ct), osl⟩) (c : PySem.W.codeIn K cdv qual = true) (k : PySem.W.keepIn K (.ref f) = true) : InitAt K C qual st := ⟨f, _, ⟨mk, a, i, kc⟩, fun_mk l c k⟩
theorem xi_mk (a : PySem.W.findIn K (.ref C) "__init__" = some (some (.ref f))) (t : PySem.W.typeIn K (.ref f) = some (.type "function")) (l : K.lookup f = some ⟨oc, od, .func (PySem.W.fnOf "__init__" qual (defArgs st) (defBody st) (defScope st) .none kV doc pm an cdv ct), osl⟩) (c : PySem.W.codeIn K cdv qual = true) (k : PySem.W.keepIn K (.ref f) = true) : XInitAt K C qual st := ⟨f, _, a, t, fun_mk l c k⟩
end
section
variable {P : Program} {w : World} {K : PySem.W.Frag} {mg : Str → Option Value} {base h : Heap} {CX : CXT} {k : Nat} {C : Addr} {x m qual : Str} {st : Stmt} {ps : List Str} {sp : Sp}
theorem has_of (X : K.In h) (G : h.Ns mainGlobals mg) (FA : FunAt K x qual st) (hb : ∀ (kV doc pm : Value) (an : Option Addr) (cdv ct : Value) (us : List Value), us.length = ps.length → bindArgs (PySem.W.fnOf x qual (defArgs st) (defBody st) (defScope st) .none kV doc pm an cdv ct) ⟨us, []⟩ = pure (ps.zip us))
    (ok : ∀ f fd, Fun K x qual st f fd → FnOk P w K mg base CX k f fd ps sp) : Has P w K mg base CX k x ps sp := by
  obtain ⟨f, fd, a, F⟩ := FA
  exact ⟨f, fd, PySem.W.mg_of X G a, F.kp, F.binds hb, ok f fd F⟩
theorem hasM_of (cl : Cls K C) (FA : MethAt K C m qual st) (hb : ∀ (kV doc pm : Value) (an : Option Addr) (cdv ct : Value) (us : List Value), us.length = ps.length → bindArgs (PySem.W.fnOf m qual (defArgs st) (defBody st) (defScope st) .none kV doc pm an cdv ct) ⟨us, []⟩ = pure (ps.zip us))
    (ok : ∀ f fd, Fun K m qual st f fd → FnOk P w K mg base CX k f fd ps sp) : HasM P w K mg base CX k C m ps sp := by
  obtain ⟨f, fd, a, F⟩ := FA
  exact ⟨cl, f, fd, a, F.binds hb, ok f fd F⟩
theorem hasC_of (g : mg x = some (.ref C)) (FA : InitAt K C qual st) (hb : ∀ (kV doc pm : Value) (an : Option Addr) (cdv ct : Value) (us : List Value), us.length = ps.length → bindArgs (PySem.W.fnOf "__init__" qual (defArgs st) (defBody st) (defScope st) .none kV doc pm an cdv ct) ⟨us, []⟩ = pure (ps.zip us))
    (ok : ∀ f fd, Fun K "__init__" qual st f fd → FnOk P w K mg base CX k f fd ps sp) : HasC P w K mg base CX k C x ps sp := by
  obtain ⟨f, fd, a, F⟩ := FA
  exact ⟨f, fd, g, a, F.binds hb, ok f fd F⟩
theorem hasX_of (T : OexC K C) (g : mg x = some (.ref C)) (FA : XInitAt K C qual st) (hb : ∀ (kV doc pm : Value) (an : Option Addr) (cdv ct : Value) (us : List Value), us.length = ps.length → bindArgs (PySem.W.fnOf "__init__" qual (defArgs st) (defBody st) (defScope st) .none kV doc pm an cdv ct) ⟨us, []⟩ = pure (ps.zip us))
    (ok : ∀ f fd, Fun K "__init__" qual st f fd → FnOk P w K mg base CX0 k f fd ps sp) : HasX P w K mg base k C x ps sp := by
  obtain ⟨f, fd, a, t, F⟩ := FA
  exact ⟨T, f, fd, a, t, g, F.binds hb, ok f fd F⟩
end
theorem gi_of {K : PySem.W.Frag} {h : Heap} {mg : Str → Option Value} {x : Str} {i : Int} (X : K.In h) (G : h.Ns mainGlobals mg) (e : ∃ t, PySem.W.nsIn K mainGlobals x = some (some (.int i t))) : GI mg x i := by
  obtain ⟨t, e⟩ := e
  exact ⟨t, PySem.W.mg_of X G e⟩
/-- an error of the class at S is what its clause names -/
theorem exm_self {K : PySem.W.Frag} {S : Addr} (h1 : PySem.W.subIn K (.ref S) (.type "BaseException") = some true) (h2 : PySem.W.isClsIn K S = true) (h3 : PySem.W.typeIn K (.ref S) = some (.type "type")) (h4 : PySem.W.subIn K (.ref S) (.ref S) = some true) :
    PySem.W.exmOne K (.ref S) (.ref S) = some true := by
  have e1 : (PySem.W.subIn K (.ref S) (.type "BaseException") == some true) = true := by rw [h1] <;> rfl
  have e2 : ((PySem.W.clsIn K S).isSome && PySem.W.typeIn K (.ref S) == some (.type "type")) = true := by
    have h2' : (PySem.W.clsIn K S).isSome = true := h2
    rw [h2', h3] <;> rfl
  show (if (PySem.W.subIn K (.ref S) (.type "BaseException") == some true) = true then (if ((PySem.W.clsIn K S).isSome && PySem.W.typeIn K (.ref S) == some (.type "type")) = true then PySem.W.subIn K (.ref S) (.ref S) else none) else none) = some true
  rw [if_pos e1, if_pos e2]
  exact h4
theorem plain_of {es : Array DictEntry} (d_1 : ∃ t, findBy Value.isInt es 1 = some (.int 2 t)) (d_2 : ∃ t, findBy Value.isInt es 2 = some (.int 1 t)) (d_3 : ∃ t, findBy Value.isInt es 3 = some (.int 4 t)) (d_4 : ∃ t, findBy Value.isInt es 4 = some (.int 1 t)) (d_5 : ∃ t, findBy Value.isInt es 5 = some (.int 1 t)) (d_6 : ∃ t, findBy Value.isInt es 6 = some (.int 4 t)) (d_7 : ∃ t, findBy Value.isInt es 7 = some (.int 0 t)) (d_8 : ∃ t, findBy Value.isInt es 8 = some (.int 0 t)) (d_9 : ∃ t, findBy Value.isInt es 9 = some (.int 1 t)) (d_10 : ∃ t, findBy Value.isInt es 10 = some (.int 0 t)) (d_11 : ∃ t, findBy Value.isInt es 11 = some (.int 0 t)) {i j : Int} (h : plainF i = some j) : ∃ t, findBy Value.isInt es i = some (.int j t) := by
  unfold plainF at h
  by_cases e1 : i = 1
  · rw [if_pos e1] at h
    cases h
    subst e1
    exact d_1
  rw [if_neg e1] at h
  by_cases e2 : i = 2
  · rw [if_pos e2] at h
    cases h
    subst e2
    exact d_2
  rw [if_neg e2] at h
  by_cases e3 : i = 3
  · rw [if_pos e3] at h
    cases h
    subst e3
    exact d_3
  rw [if_neg e3] at h
  by_cases e4 : i = 4
  · rw [if_pos e4] at h
    cases h
    subst e4
    exact d_4
  rw [if_neg e4] at h
  by_cases e5 : i = 5
  · rw [if_pos e5] at h
    cases h
    subst e5
    exact d_5
  rw [if_neg e5] at h
  by_cases e6 : i = 6
  · rw [if_pos e6] at h
    cases h
    subst e6
    exact d_6
  rw [if_neg e6] at h
  by_cases e7 : i = 7
  · rw [if_pos e7] at h
    cases h
    subst e7
    exact d_7
  rw [if_neg e7] at h
  by_cases e8 : i = 8
  · rw [if_pos e8] at h
    cases h
    subst e8
    exact d_8
  rw [if_neg e8] at h
  by_cases e9 : i = 9
  · rw [if_pos e9] at h
    cases h
    subst e9
    exact d_9
  rw [if_neg e9] at h
  by_cases e10 : i = 10
  · rw [if_pos e10] at h
    cases h
    subst e10
    exact d_10
  rw [if_neg e10] at h
  by_cases e11 : i = 11
  · rw [if_pos e11] at h
    cases h
    subst e11
    exact d_11
  rw [if_neg e11] at h
  cases h

theorem all_mk {P : Program} {w : World} {K : PySem.W.Frag} {h : Heap} {mg : Str → Option Value} {fa cF cK cR cX aP aW aF aI : Addr} {nm qx : Str} {NX : Addr} {bs : List Value} {sn : List Str} {sub : List Value} {ab : Bool} {col : Option Bool} {dd : Option Addr} {m0 m1 m2 m3 m5 : Option Value} {es : Array DictEntry} {nP nW nF nI : Nat} {odW odF odI : Option Addr} {slW slF slI : Array (Option Value)} {w1 w2 w3 w4 i1 i2 i3 i4 : Tok} (X : K.In h) (G : h.Ns mainGlobals mg) (hfa : mg "answers" = some (.ref fa))
    (g_Frame : PySem.W.nsIn K mainGlobals "Frame" = some (some (.ref cF)))
    (g_Kept : PySem.W.nsIn K mainGlobals "Kept" = some (some (.ref cK)))
    (g_Reader : PySem.W.nsIn K mainGlobals "Reader" = some (some (.ref cR)))
    (g_Faulty : PySem.W.nsIn K mainGlobals "Faulty" = some (some (.ref cX)))
    (pg_Frame : PySem.W.plainGet K cF Str.empty = true)
    (hd_Frame : PySem.W.hasDictIn K cF = true)
    (po_Frame : PySem.W.plainOver K cF = true)
    (sa_Frame : PySem.W.findIn K (.ref cF) "__setattr__" = some (some (.builtin "object.__setattr__")))
    (nF_time : PySem.W.findIn K (.ref cF) "time" = some none)
    (nF_kind : PySem.W.findIn K (.ref cF) "kind" = some none)
    (nF_queue : PySem.W.findIn K (.ref cF) "queue" = some none)
    (nF_length : PySem.W.findIn K (.ref cF) "length" = some none)
    (nF_data : PySem.W.findIn K (.ref cF) "data" = some none)
    (pg_Kept : PySem.W.plainGet K cK Str.empty = true)
    (hd_Kept : PySem.W.hasDictIn K cK = true)
    (po_Kept : PySem.W.plainOver K cK = true)
    (sa_Kept : PySem.W.findIn K (.ref cK) "__setattr__" = some (some (.builtin "object.__setattr__")))
    (nK_size : PySem.W.findIn K (.ref cK) "size" = some none)
    (nK_snap : PySem.W.findIn K (.ref cK) "snap" = some none)
    (nK_program : PySem.W.findIn K (.ref cK) "program" = some none)
    (nK_entries : PySem.W.findIn K (.ref cK) "entries" = some none)
    (nK_kept_frames : PySem.W.findIn K (.ref cK) "kept_frames" = some none)
    (nK_left_frames : PySem.W.findIn K (.ref cK) "left_frames" = some none)
    (nK_gone_entries : PySem.W.findIn K (.ref cK) "gone_entries" = some none)
    (pg_Reader : PySem.W.plainGet K cR Str.empty = true)
    (hd_Reader : PySem.W.hasDictIn K cR = true)
    (po_Reader : PySem.W.plainOver K cR = true)
    (sa_Reader : PySem.W.findIn K (.ref cR) "__setattr__" = some (some (.builtin "object.__setattr__")))
    (nR_data : PySem.W.findIn K (.ref cR) "data" = some none)
    (nR_at : PySem.W.findIn K (.ref cR) "at" = some none)
    (xL : K.lookup cX = some (excClassObj nm qx cX NX bs [.type "ValueError", .type "Exception", .type "BaseException", .type "object"] true sn sub ab col dd m0 m1 m2 m3 m5 "ValueError.__new__"))
    (sa_X : PySem.W.findIn K (.ref cX) "__setattr__" = some (some (.builtin "object.__setattr__")))
    (ga_X : PySem.W.findIn K (.ref cX) "__getattribute__" = some (some (.builtin "BaseException.__getattribute__")))
    (gg_X : PySem.W.findIn K (.ref cX) "__getattr__" = some none)
    (nX_fault : PySem.W.findIn K (.ref cX) "fault" = some none)
    (kX : PySem.W.keepIn K (.ref cX) = true)
    (eX : PySem.W.subIn K (.ref cX) (.type "BaseException") = some true)
    (tX : PySem.W.typeIn K (.ref cX) = some (.type "type"))
    (hX : PySem.W.hasDictIn K cX = true)
    (iX : PySem.W.isClsIn K cX = true)
    (sX : PySem.W.subIn K (.ref cX) (.ref cX) = some true)
    (veI : PySem.W.findCls K (.type "ValueError") (.type "type") "__init__" = some (.val (.builtin "ValueError.__init__")))
    (c_ENTRY_BYTES : ∃ t, PySem.W.nsIn K mainGlobals "ENTRY_BYTES" = some (some (.int 12 t)))
    (c_STEP : ∃ t, PySem.W.nsIn K mainGlobals "STEP" = some (some (.int 4 t)))
    (c_PARTS : ∃ t, PySem.W.nsIn K mainGlobals "PARTS" = some (some (.int 4 t)))
    (c_LAST_OP : ∃ t, PySem.W.nsIn K mainGlobals "LAST_OP" = some (some (.int 11 t)))
    (c_TELLS : ∃ t, PySem.W.nsIn K mainGlobals "TELLS" = some (some (.int 11 t)))
    (c_FIRST_TEST : ∃ t, PySem.W.nsIn K mainGlobals "FIRST_TEST" = some (some (.int 8 t)))
    (c_LAST_TEST : ∃ t, PySem.W.nsIn K mainGlobals "LAST_TEST" = some (some (.int 10 t)))
    (c_SHIFTS : ∃ t, PySem.W.nsIn K mainGlobals "SHIFTS" = some (some (.int 32 t)))
    (c_WRAP : ∃ t, PySem.W.nsIn K mainGlobals "WRAP" = some (some (.int 4294967296 t)))
    (c_MANY_KINDS : ∃ t, PySem.W.nsIn K mainGlobals "MANY_KINDS" = some (some (.int 16 t)))
    (c_MARK : ∃ t, PySem.W.nsIn K mainGlobals "MARK" = some (some (.int 87 t)))
    (c_ALL_ONES : ∃ t, PySem.W.nsIn K mainGlobals "ALL_ONES" = some (some (.int 4294967295 t)))
    (c_DIVISOR : ∃ t, PySem.W.nsIn K mainGlobals "DIVISOR" = some (some (.int 2197175160 t)))
    (c_MORE : ∃ t, PySem.W.nsIn K mainGlobals "MORE" = some (some (.int 128 t)))
    (c_REST_BYTES : ∃ t, PySem.W.nsIn K mainGlobals "REST_BYTES" = some (some (.int 4 t)))
    (c_LEAST_BYTES : ∃ t, PySem.W.nsIn K mainGlobals "LEAST_BYTES" = some (some (.int 6 t)))
    (c_MOST_NUMBER_BYTES : ∃ t, PySem.W.nsIn K mainGlobals "MOST_NUMBER_BYTES" = some (some (.int 5 t)))
    (c_MOST_ENTRIES : ∃ t, PySem.W.nsIn K mainGlobals "MOST_ENTRIES" = some (some (.int 1024 t)))
    (c_MOST_TIME : ∃ t, PySem.W.nsIn K mainGlobals "MOST_TIME" = some (some (.int 2147483647 t)))
    (c_MOST_KIND : ∃ t, PySem.W.nsIn K mainGlobals "MOST_KIND" = some (some (.int 15 t)))
    (c_MOST_QUEUE : ∃ t, PySem.W.nsIn K mainGlobals "MOST_QUEUE" = some (some (.int 7 t)))
    (c_MOST_LENGTH : ∃ t, PySem.W.nsIn K mainGlobals "MOST_LENGTH" = some (some (.int 1024 t)))
    (c_NO_MARK : ∃ t, PySem.W.nsIn K mainGlobals "NO_MARK" = some (some (.int 1 t)))
    (c_NO_NUMBER : ∃ t, PySem.W.nsIn K mainGlobals "NO_NUMBER" = some (some (.int 2 t)))
    (c_BEYOND : ∃ t, PySem.W.nsIn K mainGlobals "BEYOND" = some (some (.int 3 t)))
    (c_TOO_SOON : ∃ t, PySem.W.nsIn K mainGlobals "TOO_SOON" = some (some (.int 4 t)))
    (c_BEHIND : ∃ t, PySem.W.nsIn K mainGlobals "BEHIND" = some (some (.int 5 t)))
    (c_NO_ROOM : ∃ t, PySem.W.nsIn K mainGlobals "NO_ROOM" = some (some (.int 6 t)))
    (c_OPEN : ∃ t, PySem.W.nsIn K mainGlobals "OPEN" = some (some (.int 1 t)))
    (c_PROGRAM : ∃ t, PySem.W.nsIn K mainGlobals "PROGRAM" = some (some (.int 2 t)))
    (c_PUT : ∃ t, PySem.W.nsIn K mainGlobals "PUT" = some (some (.int 3 t)))
    (c_GET : ∃ t, PySem.W.nsIn K mainGlobals "GET" = some (some (.int 4 t)))
    (c_FIND : ∃ t, PySem.W.nsIn K mainGlobals "FIND" = some (some (.int 5 t)))
    (c_TEST : ∃ t, PySem.W.nsIn K mainGlobals "TEST" = some (some (.int 6 t)))
    (c_AGAIN : ∃ t, PySem.W.nsIn K mainGlobals "AGAIN" = some (some (.int 7 t)))
    (c_OUT : ∃ t, PySem.W.nsIn K mainGlobals "OUT" = some (some (.int 8 t)))
    (c_SUMS : ∃ t, PySem.W.nsIn K mainGlobals "SUMS" = some (some (.int 10 t)))
    (c_NO_RECORD : ∃ t, PySem.W.nsIn K mainGlobals "NO_RECORD" = some (some (.int (-7) t)))
    (c_NO_SUCH_NUMBER : ∃ t, PySem.W.nsIn K mainGlobals "NO_SUCH_NUMBER" = some (some (.int (-2) t)))
    (c_TOO_EARLY : ∃ t, PySem.W.nsIn K mainGlobals "TOO_EARLY" = some (some (.int (-3) t)))
    (c_NO_ENTRY : ∃ t, PySem.W.nsIn K mainGlobals "NO_ENTRY" = some (some (.int (-6) t)))
    (c_WRONG : ∃ t, PySem.W.nsIn K mainGlobals "WRONG" = some (some (.int (-100) t)))
    (c_FAULT : ∃ t, PySem.W.nsIn K mainGlobals "FAULT" = some (some (.int (-10) t)))
    (c_LEAST_SIZE : ∃ t, PySem.W.nsIn K mainGlobals "LEAST_SIZE" = some (some (.int 512 t)))
    (c_MOST_SIZE : ∃ t, PySem.W.nsIn K mainGlobals "MOST_SIZE" = some (some (.int 4096 t)))
    (c_MOST_SNAP : ∃ t, PySem.W.nsIn K mainGlobals "MOST_SNAP" = some (some (.int 256 t)))
    (c_MOST_INSTRUCTIONS : ∃ t, PySem.W.nsIn K mainGlobals "MOST_INSTRUCTIONS" = some (some (.int 64 t)))
    (c_MOST_PLACE : ∃ t, PySem.W.nsIn K mainGlobals "MOST_PLACE" = some (some (.int 1023 t)))
    (c_MOST_BYTES : ∃ t, PySem.W.nsIn K mainGlobals "MOST_BYTES" = some (some (.int 8192 t)))
    (b_len : PySem.W.nsIn K mainGlobals "len" = some none)
    (b_sum : PySem.W.nsIn K mainGlobals "sum" = some none)
    (b_list : PySem.W.nsIn K mainGlobals "list" = some none)
    (b_tuple : PySem.W.nsIn K mainGlobals "tuple" = some none)
    (b_max : PySem.W.nsIn K mainGlobals "max" = some none)
    (b_min : PySem.W.nsIn K mainGlobals "min" = some none)
    (b_range : PySem.W.nsIn K mainGlobals "range" = some none)
    (b_ValueError : PySem.W.nsIn K mainGlobals "ValueError" = some none)
    (g_PLAIN : PySem.W.nsIn K mainGlobals "PLAIN" = some (some (.ref aP)))
    (g_WITH_ROW : PySem.W.nsIn K mainGlobals "WITH_ROW" = some (some (.ref aW)))
    (g_FIRST_PROGRAM : PySem.W.nsIn K mainGlobals "FIRST_PROGRAM" = some (some (.ref aF)))
    (l_PLAIN : K.lookup aP = some ⟨.type "dict", none, .dict es nP, #[]⟩)
    (k_PLAIN : keysI es.toList = true)
    (l_WITH_ROW : K.lookup aW = some ⟨.type "tuple", odW, .seq #[.int 2 w1, .int 3 w2, .int 6 w3, .int 9 w4] nW, slW⟩)
    (l_FIRST_PROGRAM : K.lookup aF = some ⟨.type "tuple", odF, .seq #[.ref aI] nF, slF⟩)
    (l_INS : K.lookup aI = some ⟨.type "tuple", odI, .seq #[.int 11 i1, .int 65535 i2, .int 0 i3, .int 0 i4] nI, slI⟩)
    (d_1 : ∃ t, findBy Value.isInt es 1 = some (.int 2 t))
    (d_2 : ∃ t, findBy Value.isInt es 2 = some (.int 1 t))
    (d_3 : ∃ t, findBy Value.isInt es 3 = some (.int 4 t))
    (d_4 : ∃ t, findBy Value.isInt es 4 = some (.int 1 t))
    (d_5 : ∃ t, findBy Value.isInt es 5 = some (.int 1 t))
    (d_6 : ∃ t, findBy Value.isInt es 6 = some (.int 4 t))
    (d_7 : ∃ t, findBy Value.isInt es 7 = some (.int 0 t))
    (d_8 : ∃ t, findBy Value.isInt es 8 = some (.int 0 t))
    (d_9 : ∃ t, findBy Value.isInt es 9 = some (.int 1 t))
    (d_10 : ∃ t, findBy Value.isInt es 10 = some (.int 0 t))
    (d_11 : ∃ t, findBy Value.isInt es 11 = some (.int 0 t))
    (neKF : cK ≠ cF)
    (neRF : cR ≠ cF)
    (f_Frame_init : InitAt K cF "Frame.__init__" s_Frame___init__)
    (f_Frame_byte : MethAt K cF "byte" "Frame.byte" s_Frame_byte)
    (f_Frame_kept_by : MethAt K cF "kept_by" "Frame.kept_by" s_Frame_kept_by)
    (f_room_of : FunAt K "room_of" "room_of" s_room_of)
    (f_room_of_all : FunAt K "room_of_all" "room_of_all" s_room_of_all)
    (f_instructions_of : FunAt K "instructions_of" "instructions_of" s_instructions_of)
    (f_is_test : FunAt K "is_test" "is_test" s_is_test)
    (f_is_wrong : FunAt K "is_wrong" "is_wrong" s_is_wrong)
    (f_first_wrong : FunAt K "first_wrong" "first_wrong" s_first_wrong)
    (f_loaded : FunAt K "loaded" "loaded" s_loaded)
    (f_passes : FunAt K "passes" "passes" s_passes)
    (f_run_on : FunAt K "run_on" "run_on" s_run_on)
    (f_Kept_init : InitAt K cK "Kept.__init__" s_Kept___init__)
    (f_Kept_last_time : MethAt K cK "last_time" "Kept.last_time" s_Kept_last_time)
    (f_Kept_going_for : MethAt K cK "going_for" "Kept.going_for" s_Kept_going_for)
    (f_Kept_go_by : MethAt K cK "go_by" "Kept.go_by" s_Kept_go_by)
    (f_Kept_run_again : MethAt K cK "run_again" "Kept.run_again" s_Kept_run_again)
    (f_Kept_earlier : MethAt K cK "earlier" "Kept.earlier" s_Kept_earlier)
    (f_Kept_sums : MethAt K cK "sums" "Kept.sums" s_Kept_sums)
    (f_Kept_counts : MethAt K cK "counts" "Kept.counts" s_Kept_counts)
    (f_rest_behind : FunAt K "rest_behind" "rest_behind" s_rest_behind)
    (f_rest_of : FunAt K "rest_of" "rest_of" s_rest_of)
    (f_number_bytes : FunAt K "number_bytes" "number_bytes" s_number_bytes)
    (f_rest_bytes : FunAt K "rest_bytes" "rest_bytes" s_rest_bytes)
    (f_entry_bytes : FunAt K "entry_bytes" "entry_bytes" s_entry_bytes)
    (f_written : FunAt K "written" "written" s_written)
    (f_Faulty_init : XInitAt K cX "Faulty.__init__" s_Faulty___init__)
    (f_Reader_init : InitAt K cR "Reader.__init__" s_Reader___init__)
    (f_Reader_byte : MethAt K cR "byte" "Reader.byte" s_Reader_byte)
    (f_Reader_number_end : MethAt K cR "number_end" "Reader.number_end" s_Reader_number_end)
    (f_Reader_number : MethAt K cR "number" "Reader.number" s_Reader_number)
    (f_Reader_some : MethAt K cR "some" "Reader.some" s_Reader_some)
    (f_Reader_is_over : MethAt K cR "is_over" "Reader.is_over" s_Reader_is_over)
    (f_need : FunAt K "need" "need" s_need)
    (f_entry_read : FunAt K "entry_read" "entry_read" s_entry_read)
    (f_entries_read : FunAt K "entries_read" "entries_read" s_entries_read)
    (f_are_frame : FunAt K "are_frame" "are_frame" s_are_frame)
    (f_frame_of : FunAt K "frame_of" "frame_of" s_frame_of)
    (f_programmed : FunAt K "programmed" "programmed" s_programmed)
    (f_put_by : FunAt K "put_by" "put_by" s_put_by)
    (f_got : FunAt K "got" "got" s_got)
    (f_found_by : FunAt K "found_by" "found_by" s_found_by)
    (f_tested : FunAt K "tested" "tested" s_tested)
    (f_told_out : FunAt K "told_out" "told_out" s_told_out)
    (f_read_again : FunAt K "read_again" "read_again" s_read_again)
    (f_answer_with_row : FunAt K "answer_with_row" "answer_with_row" s_answer_with_row)
    (f_answer_of : FunAt K "answer_of" "answer_of" s_answer_of)
    (f_are_bounds : FunAt K "are_bounds" "are_bounds" s_are_bounds)
    (f_call_end : FunAt K "call_end" "call_end" s_call_end)
    (f_answers : FunAt K "answers" "answers" s_answers) :
    ∃ fd : FuncData, (∀ (s : Shared) (us : List Value), us.length = (["calls"] : List Str).length → BindsTo s fd ⟨us, []⟩ ((["calls"] : List Str).zip us)) ∧ ∀ base : Heap, K.In base → base.Ns mainGlobals mg → FnOk P w K mg base CX0 10 fa fd ["calls"] (sp_answers K) := by
  have T : Txt K mg ⟨cF, cK, cR, cX, aP, aW, aF, aI⟩ := {
    c_ENTRY_BYTES := gi_of X G c_ENTRY_BYTES
    c_STEP := gi_of X G c_STEP
    c_PARTS := gi_of X G c_PARTS
    c_LAST_OP := gi_of X G c_LAST_OP
    c_TELLS := gi_of X G c_TELLS
    c_FIRST_TEST := gi_of X G c_FIRST_TEST
    c_LAST_TEST := gi_of X G c_LAST_TEST
    c_SHIFTS := gi_of X G c_SHIFTS
    c_WRAP := gi_of X G c_WRAP
    c_MANY_KINDS := gi_of X G c_MANY_KINDS
    c_MARK := gi_of X G c_MARK
    c_ALL_ONES := gi_of X G c_ALL_ONES
    c_DIVISOR := gi_of X G c_DIVISOR
    c_MORE := gi_of X G c_MORE
    c_REST_BYTES := gi_of X G c_REST_BYTES
    c_LEAST_BYTES := gi_of X G c_LEAST_BYTES
    c_MOST_NUMBER_BYTES := gi_of X G c_MOST_NUMBER_BYTES
    c_MOST_ENTRIES := gi_of X G c_MOST_ENTRIES
    c_MOST_TIME := gi_of X G c_MOST_TIME
    c_MOST_KIND := gi_of X G c_MOST_KIND
    c_MOST_QUEUE := gi_of X G c_MOST_QUEUE
    c_MOST_LENGTH := gi_of X G c_MOST_LENGTH
    c_NO_MARK := gi_of X G c_NO_MARK
    c_NO_NUMBER := gi_of X G c_NO_NUMBER
    c_BEYOND := gi_of X G c_BEYOND
    c_TOO_SOON := gi_of X G c_TOO_SOON
    c_BEHIND := gi_of X G c_BEHIND
    c_NO_ROOM := gi_of X G c_NO_ROOM
    c_OPEN := gi_of X G c_OPEN
    c_PROGRAM := gi_of X G c_PROGRAM
    c_PUT := gi_of X G c_PUT
    c_GET := gi_of X G c_GET
    c_FIND := gi_of X G c_FIND
    c_TEST := gi_of X G c_TEST
    c_AGAIN := gi_of X G c_AGAIN
    c_OUT := gi_of X G c_OUT
    c_SUMS := gi_of X G c_SUMS
    c_NO_RECORD := gi_of X G c_NO_RECORD
    c_NO_SUCH_NUMBER := gi_of X G c_NO_SUCH_NUMBER
    c_TOO_EARLY := gi_of X G c_TOO_EARLY
    c_NO_ENTRY := gi_of X G c_NO_ENTRY
    c_WRONG := gi_of X G c_WRONG
    c_FAULT := gi_of X G c_FAULT
    c_LEAST_SIZE := gi_of X G c_LEAST_SIZE
    c_MOST_SIZE := gi_of X G c_MOST_SIZE
    c_MOST_SNAP := gi_of X G c_MOST_SNAP
    c_MOST_INSTRUCTIONS := gi_of X G c_MOST_INSTRUCTIONS
    c_MOST_PLACE := gi_of X G c_MOST_PLACE
    c_MOST_BYTES := gi_of X G c_MOST_BYTES
    b_len := PySem.W.mg_none_of X G b_len
    b_sum := PySem.W.mg_none_of X G b_sum
    b_list := PySem.W.mg_none_of X G b_list
    b_tuple := PySem.W.mg_none_of X G b_tuple
    b_max := PySem.W.mg_none_of X G b_max
    b_min := PySem.W.mg_none_of X G b_min
    b_range := PySem.W.mg_none_of X G b_range
    b_ValueError := PySem.W.mg_none_of X G b_ValueError
    g_PLAIN := PySem.W.mg_of X G g_PLAIN
    g_WITH_ROW := PySem.W.mg_of X G g_WITH_ROW
    g_FIRST_PROGRAM := PySem.W.mg_of X G g_FIRST_PROGRAM
    plain := ⟨es, nP, l_PLAIN, k_PLAIN, fun i j e => plain_of d_1 d_2 d_3 d_4 d_5 d_6 d_7 d_8 d_9 d_10 d_11 e⟩
    wrow := fun H => .inr ⟨_, _, _, l_WITH_ROW, rfl, rfl, (by show 4 ≤ sizeLine; decide), .cons ⟨_, rfl⟩ (.cons ⟨_, rfl⟩ (.cons ⟨_, rfl⟩ (.cons ⟨_, rfl⟩ .nil)))⟩
    fprog := fun H => ⟨[aI], .inr ⟨_, _, _, l_FIRST_PROGRAM, rfl, rfl, (by show 1 ≤ sizeLine; decide), .cons rfl .nil⟩, .cons (.inr ⟨_, _, _, l_INS, rfl, rfl, (by show 4 ≤ sizeLine; decide), .cons ⟨_, rfl⟩ (.cons ⟨_, rfl⟩ (.cons ⟨_, rfl⟩ (.cons ⟨_, rfl⟩ .nil)))⟩) .nil⟩
    clF := ⟨pg_Frame, hd_Frame, po_Frame, sa_Frame⟩
    clK := ⟨pg_Kept, hd_Kept, po_Kept, sa_Kept⟩
    clR := ⟨pg_Reader, hd_Reader, po_Reader, sa_Reader⟩
    nF_time := nF_time
    nF_kind := nF_kind
    nF_queue := nF_queue
    nF_length := nF_length
    nF_data := nF_data
    nK_size := nK_size
    nK_snap := nK_snap
    nK_program := nK_program
    nK_entries := nK_entries
    nK_kept_frames := nK_kept_frames
    nK_left_frames := nK_left_frames
    nK_gone_entries := nK_gone_entries
    nR_data := nR_data
    nR_at := nR_at
    oex := ⟨⟨nm, qx, NX, bs, _, sn, sub, ab, col, dd, m0, m1, m2, m3, m5, xL, by decide +kernel⟩, sa_X, eX, tX, kX⟩
    gX := PySem.W.mg_of X G g_Faulty
    xf := ⟨ga_X, gg_X, eX, hX⟩
    nX_fault := nX_fault
    veI := veI
    te := exm_self eX iX tX sX }
  obtain ⟨f, fd, a, F⟩ := f_answers
  have e := hfa.symm.trans (PySem.W.mg_of X G a)
  cases e
  refine ⟨fd, ?_, fun base _ _ => ?_⟩
  · obtain ⟨oc, od, kV, doc, pm, an, cdv, ct, osl, rfl, lk, hcd⟩ := F.ex
    exact fun s us hu => match us, hu with | [_], _ => .of_eq rfl
  have h_Frame : HasC P w K mg base CX0 1 cF "Frame" ["self", "time", "kind", "queue", "length", "data"] (sp_Frame_init ⟨cF, cK, cR, cX, aP, aW, aF, aI⟩) := hasC_of (PySem.W.mg_of X G g_Frame) f_Frame_init (fun _ _ _ _ _ _ us hl => match us, hl with | [_, _, _, _, _, _], _ => rfl) fun f fd F => ok_Frame_init F T
  have h_Frame_byte : HasM P w K mg base CX0 1 cF "byte" ["self", "at"] (sp_Frame_byte ⟨cF, cK, cR, cX, aP, aW, aF, aI⟩) := hasM_of T.clF f_Frame_byte (fun _ _ _ _ _ _ us hl => match us, hl with | [_, _], _ => rfl) fun f fd F => ok_Frame_byte F T
  have h_Frame_kept_by : HasM P w K mg base CX0 3 cF "kept_by" ["self", "many"] (sp_Frame_kept_by ⟨cF, cK, cR, cX, aP, aW, aF, aI⟩) := hasM_of T.clF f_Frame_kept_by (fun _ _ _ _ _ _ us hl => match us, hl with | [_, _], _ => rfl) fun f fd F => ok_Frame_kept_by F T h_Frame
  have h_room_of : Has P w K mg base CX0 1 "room_of" ["entry"] (sp_room_of ⟨cF, cK, cR, cX, aP, aW, aF, aI⟩) := has_of X G f_room_of (fun _ _ _ _ _ _ us hl => match us, hl with | [_], _ => rfl) fun f fd F => ok_room_of F T
  have h_room_of_all : Has P w K mg base CX0 2 "room_of_all" ["entries"] (sp_room_of_all ⟨cF, cK, cR, cX, aP, aW, aF, aI⟩) := has_of X G f_room_of_all (fun _ _ _ _ _ _ us hl => match us, hl with | [_], _ => rfl) fun f fd F => ok_room_of_all F T h_room_of
  have h_instructions_of : Has P w K mg base CX0 1 "instructions_of" ["numbers"] (sp_instructions_of K) := has_of X G f_instructions_of (fun _ _ _ _ _ _ us hl => match us, hl with | [_], _ => rfl) fun f fd F => ok_instructions_of F T
  have h_is_test : Has P w K mg base CX0 1 "is_test" ["op"] sp_is_test := has_of X G f_is_test (fun _ _ _ _ _ _ us hl => match us, hl with | [_], _ => rfl) fun f fd F => ok_is_test F T
  have h_is_wrong : Has P w K mg base CX0 2 "is_wrong" ["program", "at"] (sp_is_wrong K) := has_of X G f_is_wrong (fun _ _ _ _ _ _ us hl => match us, hl with | [_, _], _ => rfl) fun f fd F => ok_is_wrong F T h_is_test
  have h_first_wrong : Has P w K mg base CX0 3 "first_wrong" ["program"] (sp_first_wrong K) := has_of X G f_first_wrong (fun _ _ _ _ _ _ us hl => match us, hl with | [_], _ => rfl) fun f fd F => ok_first_wrong F T h_is_wrong
  have h_loaded : Has P w K mg base CX0 2 "loaded" ["frame", "op", "number"] (sp_loaded ⟨cF, cK, cR, cX, aP, aW, aF, aI⟩) := has_of X G f_loaded (fun _ _ _ _ _ _ us hl => match us, hl with | [_, _, _], _ => rfl) fun f fd F => ok_loaded F T h_Frame_byte
  have h_passes : Has P w K mg base CX0 1 "passes" ["op", "value", "number"] sp_passes := has_of X G f_passes (fun _ _ _ _ _ _ us hl => match us, hl with | [_, _, _], _ => rfl) fun f fd F => ok_passes F 
  have h_run_on : Has P w K mg base CX0 3 "run_on" ["program", "frame"] (sp_run_on K ⟨cF, cK, cR, cX, aP, aW, aF, aI⟩) := has_of X G f_run_on (fun _ _ _ _ _ _ us hl => match us, hl with | [_, _], _ => rfl) fun f fd F => ok_run_on F T h_is_test h_passes h_loaded
  have h_Kept : HasC P w K mg base CX0 1 cK "Kept" ["self", "size", "snap"] (sp_Kept_init K ⟨cF, cK, cR, cX, aP, aW, aF, aI⟩) := hasC_of (PySem.W.mg_of X G g_Kept) f_Kept_init (fun _ _ _ _ _ _ us hl => match us, hl with | [_, _, _], _ => rfl) fun f fd F => ok_Kept_init F T
  have h_Kept_last_time : HasM P w K mg base CX0 1 cK "last_time" ["self"] (sp_Kept_last_time K ⟨cF, cK, cR, cX, aP, aW, aF, aI⟩) := hasM_of T.clK f_Kept_last_time (fun _ _ _ _ _ _ us hl => match us, hl with | [_], _ => rfl) fun f fd F => ok_Kept_last_time F T
  have h_Kept_going_for : HasM P w K mg base CX0 3 cK "going_for" ["self", "entry"] (sp_Kept_going_for K ⟨cF, cK, cR, cX, aP, aW, aF, aI⟩) := hasM_of T.clK f_Kept_going_for (fun _ _ _ _ _ _ us hl => match us, hl with | [_, _], _ => rfl) fun f fd F => ok_Kept_going_for F T h_room_of h_room_of_all
  have h_Kept_go_by : HasM P w K mg base CX0 4 cK "go_by" ["self", "frame"] (sp_Kept_go_by K ⟨cF, cK, cR, cX, aP, aW, aF, aI⟩) := hasM_of T.clK f_Kept_go_by (fun _ _ _ _ _ _ us hl => match us, hl with | [_, _], _ => rfl) fun f fd F => ok_Kept_go_by F T h_run_on h_Frame_kept_by h_Kept_going_for
  have h_Kept_run_again : HasM P w K mg base CX0 4 cK "run_again" ["self"] (sp_Kept_run_again K ⟨cF, cK, cR, cX, aP, aW, aF, aI⟩) := hasM_of T.clK f_Kept_run_again (fun _ _ _ _ _ _ us hl => match us, hl with | [_], _ => rfl) fun f fd F => ok_Kept_run_again F T h_run_on
  have h_Kept_earlier : HasM P w K mg base CX0 1 cK "earlier" ["self", "time"] (sp_Kept_earlier K ⟨cF, cK, cR, cX, aP, aW, aF, aI⟩) := hasM_of T.clK f_Kept_earlier (fun _ _ _ _ _ _ us hl => match us, hl with | [_, _], _ => rfl) fun f fd F => ok_Kept_earlier F T
  have h_Kept_sums : HasM P w K mg base CX0 1 cK "sums" ["self"] (sp_Kept_sums K ⟨cF, cK, cR, cX, aP, aW, aF, aI⟩) := hasM_of T.clK f_Kept_sums (fun _ _ _ _ _ _ us hl => match us, hl with | [_], _ => rfl) fun f fd F => ok_Kept_sums F T
  have h_Kept_counts : HasM P w K mg base CX0 3 cK "counts" ["self"] (sp_Kept_counts K ⟨cF, cK, cR, cX, aP, aW, aF, aI⟩) := hasM_of T.clK f_Kept_counts (fun _ _ _ _ _ _ us hl => match us, hl with | [_], _ => rfl) fun f fd F => ok_Kept_counts F T h_room_of_all
  have h_rest_behind : Has P w K mg base CX0 1 "rest_behind" ["rest", "byte"] sp_rest_behind := has_of X G f_rest_behind (fun _ _ _ _ _ _ us hl => match us, hl with | [_, _], _ => rfl) fun f fd F => ok_rest_behind F T
  have h_rest_of : Has P w K mg base CX0 2 "rest_of" ["data"] (sp_rest_of K) := has_of X G f_rest_of (fun _ _ _ _ _ _ us hl => match us, hl with | [_], _ => rfl) fun f fd F => ok_rest_of F T h_rest_behind
  have h_number_bytes : Has P w K mg base CX0 1 "number_bytes" ["number"] sp_number_bytes := has_of X G f_number_bytes (fun _ _ _ _ _ _ us hl => match us, hl with | [_], _ => rfl) fun f fd F => ok_number_bytes F T
  have h_rest_bytes : Has P w K mg base CX0 3 "rest_bytes" ["data"] (sp_rest_bytes K) := has_of X G f_rest_bytes (fun _ _ _ _ _ _ us hl => match us, hl with | [_], _ => rfl) fun f fd F => ok_rest_bytes F T h_rest_of
  have h_entry_bytes : Has P w K mg base CX0 2 "entry_bytes" ["entry", "time"] (sp_entry_bytes ⟨cF, cK, cR, cX, aP, aW, aF, aI⟩) := has_of X G f_entry_bytes (fun _ _ _ _ _ _ us hl => match us, hl with | [_, _], _ => rfl) fun f fd F => ok_entry_bytes F T h_number_bytes
  have h_written : Has P w K mg base CX0 4 "written" ["entries"] (sp_written ⟨cF, cK, cR, cX, aP, aW, aF, aI⟩) := has_of X G f_written (fun _ _ _ _ _ _ us hl => match us, hl with | [_], _ => rfl) fun f fd F => ok_written F T h_number_bytes h_rest_bytes h_entry_bytes
  have h_Faulty : HasX P w K mg base 1 cX "Faulty" ["self", "fault"] (sp_Faulty_init ⟨cF, cK, cR, cX, aP, aW, aF, aI⟩) := hasX_of T.oex T.gX f_Faulty_init (fun _ _ _ _ _ _ us hl => match us, hl with | [_, _], _ => rfl) fun f fd F => ok_Faulty_init F T
  have h_Reader : HasC P w K mg base CX0 1 cR "Reader" ["self", "data"] (sp_Reader_init ⟨cF, cK, cR, cX, aP, aW, aF, aI⟩) := hasC_of (PySem.W.mg_of X G g_Reader) f_Reader_init (fun _ _ _ _ _ _ us hl => match us, hl with | [_, _], _ => rfl) fun f fd F => ok_Reader_init F T
  have h_Reader_byte : HasM P w K mg base (L2.CX P w) 3 cR "byte" ["self"] (sp_Reader_byte ⟨cF, cK, cR, cX, aP, aW, aF, aI⟩) := hasM_of T.clR f_Reader_byte (fun _ _ _ _ _ _ us hl => match us, hl with | [_], _ => rfl) fun f fd F => ok_Reader_byte F T h_Faulty
  have h_Reader_number_end : HasM P w K mg base (L2.CX P w) 3 cR "number_end" ["self"] (sp_Reader_number_end ⟨cF, cK, cR, cX, aP, aW, aF, aI⟩) := hasM_of T.clR f_Reader_number_end (fun _ _ _ _ _ _ us hl => match us, hl with | [_], _ => rfl) fun f fd F => ok_Reader_number_end F T h_Faulty
  have h_Reader_number : HasM P w K mg base (L2.CX P w) 4 cR "number" ["self"] (sp_Reader_number ⟨cF, cK, cR, cX, aP, aW, aF, aI⟩) := hasM_of T.clR f_Reader_number (fun _ _ _ _ _ _ us hl => match us, hl with | [_], _ => rfl) fun f fd F => ok_Reader_number F T h_Faulty h_Reader_number_end
  have h_Reader_some : HasM P w K mg base (L2.CX P w) 3 cR "some" ["self", "many"] (sp_Reader_some ⟨cF, cK, cR, cX, aP, aW, aF, aI⟩) := hasM_of T.clR f_Reader_some (fun _ _ _ _ _ _ us hl => match us, hl with | [_, _], _ => rfl) fun f fd F => ok_Reader_some F T h_Faulty
  have h_Reader_is_over : HasM P w K mg base CX0 1 cR "is_over" ["self"] (sp_Reader_is_over ⟨cF, cK, cR, cX, aP, aW, aF, aI⟩) := hasM_of T.clR f_Reader_is_over (fun _ _ _ _ _ _ us hl => match us, hl with | [_], _ => rfl) fun f fd F => ok_Reader_is_over F T
  have h_need : Has P w K mg base (L2.CX P w) 3 "need" ["is_right", "fault"] (sp_need ⟨cF, cK, cR, cX, aP, aW, aF, aI⟩) := has_of X G f_need (fun _ _ _ _ _ _ us hl => match us, hl with | [_, _], _ => rfl) fun f fd F => ok_need F T h_Faulty
  have h_entry_read : Has P w K mg base (L2.CX P w) 5 "entry_read" ["reader", "ahead", "snap"] (sp_entry_read ⟨cF, cK, cR, cX, aP, aW, aF, aI⟩) := has_of X G f_entry_read (fun _ _ _ _ _ _ us hl => match us, hl with | [_, _, _], _ => rfl) fun f fd F => ok_entry_read F T h_Frame h_Reader_byte h_Reader_number h_Reader_some h_need
  have h_entries_read : Has P w K mg base (L2.CX P w) 6 "entries_read" ["data", "size", "snap"] (sp_entries_read ⟨cF, cK, cR, cX, aP, aW, aF, aI⟩) := has_of X G f_entries_read (fun _ _ _ _ _ _ us hl => match us, hl with | [_, _, _], _ => rfl) fun f fd F => ok_entries_read F T h_Reader h_Reader_number h_Reader_is_over h_need h_entry_read h_rest_bytes h_room_of_all
  have h_are_frame : Has P w K mg base CX0 1 "are_frame" ["numbers"] (sp_are_frame K) := has_of X G f_are_frame (fun _ _ _ _ _ _ us hl => match us, hl with | [_], _ => rfl) fun f fd F => ok_are_frame F T
  have h_frame_of : Has P w K mg base CX0 3 "frame_of" ["numbers", "row"] (sp_frame_of ⟨cF, cK, cR, cX, aP, aW, aF, aI⟩) := has_of X G f_frame_of (fun _ _ _ _ _ _ us hl => match us, hl with | [_, _], _ => rfl) fun f fd F => ok_frame_of F T h_Frame
  have h_programmed : Has P w K mg base CX0 4 "programmed" ["kept", "numbers", "row"] (sp_programmed K ⟨cF, cK, cR, cX, aP, aW, aF, aI⟩) := has_of X G f_programmed (fun _ _ _ _ _ _ us hl => match us, hl with | [_, _, _], _ => rfl) fun f fd F => ok_programmed F T h_instructions_of h_first_wrong
  have h_put_by : Has P w K mg base CX0 5 "put_by" ["kept", "numbers", "row"] (sp_put_by K ⟨cF, cK, cR, cX, aP, aW, aF, aI⟩) := has_of X G f_put_by (fun _ _ _ _ _ _ us hl => match us, hl with | [_, _, _], _ => rfl) fun f fd F => ok_put_by F T h_are_frame h_frame_of h_Kept_last_time h_Kept_go_by
  have h_got : Has P w K mg base CX0 1 "got" ["kept", "number"] (sp_got K ⟨cF, cK, cR, cX, aP, aW, aF, aI⟩) := has_of X G f_got (fun _ _ _ _ _ _ us hl => match us, hl with | [_, _], _ => rfl) fun f fd F => ok_got F T
  have h_found_by : Has P w K mg base CX0 2 "found_by" ["kept", "time"] (sp_found_by K ⟨cF, cK, cR, cX, aP, aW, aF, aI⟩) := has_of X G f_found_by (fun _ _ _ _ _ _ us hl => match us, hl with | [_, _], _ => rfl) fun f fd F => ok_found_by F T h_Kept_earlier
  have h_tested : Has P w K mg base CX0 4 "tested" ["kept", "numbers", "row"] (sp_tested K ⟨cF, cK, cR, cX, aP, aW, aF, aI⟩) := has_of X G f_tested (fun _ _ _ _ _ _ us hl => match us, hl with | [_, _, _], _ => rfl) fun f fd F => ok_tested F T h_are_frame h_frame_of h_run_on
  have h_told_out : Has P w K mg base CX0 5 "told_out" ["kept"] (sp_told_out K ⟨cF, cK, cR, cX, aP, aW, aF, aI⟩) := has_of X G f_told_out (fun _ _ _ _ _ _ us hl => match us, hl with | [_], _ => rfl) fun f fd F => ok_told_out F T h_written
  have h_read_again : Has P w K mg base CX0 7 "read_again" ["kept", "numbers", "row"] (sp_read_again K ⟨cF, cK, cR, cX, aP, aW, aF, aI⟩) := has_of X G f_read_again (fun _ _ _ _ _ _ us hl => match us, hl with | [_, _, _], _ => rfl) fun f fd F => ok_read_again F T h_entries_read
  have h_answer_with_row : Has P w K mg base CX0 8 "answer_with_row" ["kept", "word", "numbers", "row"] (sp_answer_with_row K ⟨cF, cK, cR, cX, aP, aW, aF, aI⟩) := has_of X G f_answer_with_row (fun _ _ _ _ _ _ us hl => match us, hl with | [_, _, _, _], _ => rfl) fun f fd F => ok_answer_with_row F T h_programmed h_put_by h_tested h_read_again
  have h_answer_of : Has P w K mg base CX0 9 "answer_of" ["kept", "word", "numbers", "row"] (sp_answer_of K ⟨cF, cK, cR, cX, aP, aW, aF, aI⟩) := has_of X G f_answer_of (fun _ _ _ _ _ _ us hl => match us, hl with | [_, _, _, _], _ => rfl) fun f fd F => ok_answer_of F T h_answer_with_row h_got h_found_by h_told_out h_Kept_run_again h_Kept_sums h_Kept_counts
  have h_are_bounds : Has P w K mg base CX0 1 "are_bounds" ["numbers"] (sp_are_bounds K) := has_of X G f_are_bounds (fun _ _ _ _ _ _ us hl => match us, hl with | [_], _ => rfl) fun f fd F => ok_are_bounds F T
  have h_call_end : Has P w K mg base CX0 1 "call_end" ["calls", "at"] (sp_call_end K) := has_of X G f_call_end (fun _ _ _ _ _ _ us hl => match us, hl with | [_, _], _ => rfl) fun f fd F => ok_call_end F T
  exact ok_answers F T neKF neRF h_call_end h_answer_of h_are_bounds h_Kept
end G
open PySem PySem.W PyProof.Rows
set_option maxRecDepth 100000 in
set_option maxHeartbeats 0 in
theorem PySem.Challenge.cw_goneby_s01_answers_holds : PySem.Challenge.rw_goneby_s01_answers.Holds := by
  w_on; k_headS; (case hw => exact ⟨[.list [.int 7]], by decide +kernel, by decide +kernel⟩)
  k_fillS
  refine L2.walk_specK (r := PySem.Challenge.rw_goneby_s01_answers) (k := 10) (CX := L2.CX0) (ps := ["calls"]) (sp := G.sp_answers) (by decide +kernel) rfl rfl ⟨rfl, by decide, by decide⟩ (fun w h Y => PySem.W.kIn_of Y) ?F ?S (fun _ _ _ _ z => z)
  case F =>
    intro w mg fa h Y KX GG hmg
    refine' G.all_mk KX GG hmg ?h_g_Frame ?h_g_Kept ?h_g_Reader ?h_g_Faulty ?h_pg_Frame ?h_hd_Frame ?h_po_Frame ?h_sa_Frame ?h_nF_time ?h_nF_kind ?h_nF_queue ?h_nF_length ?h_nF_data ?h_pg_Kept ?h_hd_Kept ?h_po_Kept ?h_sa_Kept ?h_nK_size ?h_nK_snap ?h_nK_program ?h_nK_entries ?h_nK_kept_frames ?h_nK_left_frames ?h_nK_gone_entries ?h_pg_Reader ?h_hd_Reader ?h_po_Reader ?h_sa_Reader ?h_nR_data ?h_nR_at ?h_xL ?h_sa_X ?h_ga_X ?h_gg_X ?h_nX_fault ?h_kX ?h_eX ?h_tX ?h_hX ?h_iX ?h_sX ?h_veI ?h_c_ENTRY_BYTES ?h_c_STEP ?h_c_PARTS ?h_c_LAST_OP ?h_c_TELLS ?h_c_FIRST_TEST ?h_c_LAST_TEST ?h_c_SHIFTS ?h_c_WRAP ?h_c_MANY_KINDS ?h_c_MARK ?h_c_ALL_ONES ?h_c_DIVISOR ?h_c_MORE ?h_c_REST_BYTES ?h_c_LEAST_BYTES ?h_c_MOST_NUMBER_BYTES ?h_c_MOST_ENTRIES ?h_c_MOST_TIME ?h_c_MOST_KIND ?h_c_MOST_QUEUE ?h_c_MOST_LENGTH ?h_c_NO_MARK ?h_c_NO_NUMBER ?h_c_BEYOND ?h_c_TOO_SOON ?h_c_BEHIND ?h_c_NO_ROOM ?h_c_OPEN ?h_c_PROGRAM ?h_c_PUT ?h_c_GET ?h_c_FIND ?h_c_TEST ?h_c_AGAIN ?h_c_OUT ?h_c_SUMS ?h_c_NO_RECORD ?h_c_NO_SUCH_NUMBER ?h_c_TOO_EARLY ?h_c_NO_ENTRY ?h_c_WRONG ?h_c_FAULT ?h_c_LEAST_SIZE ?h_c_MOST_SIZE ?h_c_MOST_SNAP ?h_c_MOST_INSTRUCTIONS ?h_c_MOST_PLACE ?h_c_MOST_BYTES ?h_b_len ?h_b_sum ?h_b_list ?h_b_tuple ?h_b_max ?h_b_min ?h_b_range ?h_b_ValueError ?h_g_PLAIN ?h_g_WITH_ROW ?h_g_FIRST_PROGRAM ?h_l_PLAIN ?h_k_PLAIN ?h_l_WITH_ROW ?h_l_FIRST_PROGRAM ?h_l_INS ?h_d_1 ?h_d_2 ?h_d_3 ?h_d_4 ?h_d_5 ?h_d_6 ?h_d_7 ?h_d_8 ?h_d_9 ?h_d_10 ?h_d_11 ?h_neKF ?h_neRF ?h_f_Frame_init ?h_f_Frame_byte ?h_f_Frame_kept_by ?h_f_room_of ?h_f_room_of_all ?h_f_instructions_of ?h_f_is_test ?h_f_is_wrong ?h_f_first_wrong ?h_f_loaded ?h_f_passes ?h_f_run_on ?h_f_Kept_init ?h_f_Kept_last_time ?h_f_Kept_going_for ?h_f_Kept_go_by ?h_f_Kept_run_again ?h_f_Kept_earlier ?h_f_Kept_sums ?h_f_Kept_counts ?h_f_rest_behind ?h_f_rest_of ?h_f_number_bytes ?h_f_rest_bytes ?h_f_entry_bytes ?h_f_written ?h_f_Faulty_init ?h_f_Reader_init ?h_f_Reader_byte ?h_f_Reader_number_end ?h_f_Reader_number ?h_f_Reader_some ?h_f_Reader_is_over ?h_f_need ?h_f_entry_read ?h_f_entries_read ?h_f_are_frame ?h_f_frame_of ?h_f_programmed ?h_f_put_by ?h_f_got ?h_f_found_by ?h_f_tested ?h_f_told_out ?h_f_read_again ?h_f_answer_with_row ?h_f_answer_of ?h_f_are_bounds ?h_f_call_end ?h_f_answers
    (case h_g_Frame => k_is)
    (case h_g_Kept => k_is)
    (case h_g_Reader => k_is)
    (case h_g_Faulty => k_is)
    (case h_pg_Frame => k_is)
    (case h_hd_Frame => k_is)
    (case h_po_Frame => k_is)
    (case h_sa_Frame => k_is)
    (case h_nF_time => k_is)
    (case h_nF_kind => k_is)
    (case h_nF_queue => k_is)
    (case h_nF_length => k_is)
    (case h_nF_data => k_is)
    (case h_pg_Kept => k_is)
    (case h_hd_Kept => k_is)
    (case h_po_Kept => k_is)
    (case h_sa_Kept => k_is)
    (case h_nK_size => k_is)
    (case h_nK_snap => k_is)
    (case h_nK_program => k_is)
    (case h_nK_entries => k_is)
    (case h_nK_kept_frames => k_is)
    (case h_nK_left_frames => k_is)
    (case h_nK_gone_entries => k_is)
    (case h_pg_Reader => k_is)
    (case h_hd_Reader => k_is)
    (case h_po_Reader => k_is)
    (case h_sa_Reader => k_is)
    (case h_nR_data => k_is)
    (case h_nR_at => k_is)
    (case h_xL => k_is)
    (case h_sa_X => k_is)
    (case h_ga_X => k_is)
    (case h_gg_X => k_is)
    (case h_nX_fault => k_is)
    (case h_kX => k_is)
    (case h_eX => k_is)
    (case h_tX => k_is)
    (case h_hX => k_is)
    (case h_iX => k_is)
    (case h_sX => first | rfl | k_is)
    (case h_veI => first | rfl | k_is | decide +kernel)
    (case h_c_ENTRY_BYTES => refine' G.ct_mk ?z_c_ENTRY_BYTES_q; (case z_c_ENTRY_BYTES_q => k_is))
    (case h_c_STEP => refine' G.ct_mk ?z_c_STEP_q; (case z_c_STEP_q => k_is))
    (case h_c_PARTS => refine' G.ct_mk ?z_c_PARTS_q; (case z_c_PARTS_q => k_is))
    (case h_c_LAST_OP => refine' G.ct_mk ?z_c_LAST_OP_q; (case z_c_LAST_OP_q => k_is))
    (case h_c_TELLS => refine' G.ct_mk ?z_c_TELLS_q; (case z_c_TELLS_q => k_is))
    (case h_c_FIRST_TEST => refine' G.ct_mk ?z_c_FIRST_TEST_q; (case z_c_FIRST_TEST_q => k_is))
    (case h_c_LAST_TEST => refine' G.ct_mk ?z_c_LAST_TEST_q; (case z_c_LAST_TEST_q => k_is))
    (case h_c_SHIFTS => refine' G.ct_mk ?z_c_SHIFTS_q; (case z_c_SHIFTS_q => k_is))
    (case h_c_WRAP => refine' G.ct_mk ?z_c_WRAP_q; (case z_c_WRAP_q => k_is))
    (case h_c_MANY_KINDS => refine' G.ct_mk ?z_c_MANY_KINDS_q; (case z_c_MANY_KINDS_q => k_is))
    (case h_c_MARK => refine' G.ct_mk ?z_c_MARK_q; (case z_c_MARK_q => k_is))
    (case h_c_ALL_ONES => refine' G.ct_mk ?z_c_ALL_ONES_q; (case z_c_ALL_ONES_q => k_is))
    (case h_c_DIVISOR => refine' G.ct_mk ?z_c_DIVISOR_q; (case z_c_DIVISOR_q => k_is))
    (case h_c_MORE => refine' G.ct_mk ?z_c_MORE_q; (case z_c_MORE_q => k_is))
    (case h_c_REST_BYTES => refine' G.ct_mk ?z_c_REST_BYTES_q; (case z_c_REST_BYTES_q => k_is))
    (case h_c_LEAST_BYTES => refine' G.ct_mk ?z_c_LEAST_BYTES_q; (case z_c_LEAST_BYTES_q => k_is))
    (case h_c_MOST_NUMBER_BYTES => refine' G.ct_mk ?z_c_MOST_NUMBER_BYTES_q; (case z_c_MOST_NUMBER_BYTES_q => k_is))
    (case h_c_MOST_ENTRIES => refine' G.ct_mk ?z_c_MOST_ENTRIES_q; (case z_c_MOST_ENTRIES_q => k_is))
    (case h_c_MOST_TIME => refine' G.ct_mk ?z_c_MOST_TIME_q; (case z_c_MOST_TIME_q => k_is))
    (case h_c_MOST_KIND => refine' G.ct_mk ?z_c_MOST_KIND_q; (case z_c_MOST_KIND_q => k_is))
    (case h_c_MOST_QUEUE => refine' G.ct_mk ?z_c_MOST_QUEUE_q; (case z_c_MOST_QUEUE_q => k_is))
    (case h_c_MOST_LENGTH => refine' G.ct_mk ?z_c_MOST_LENGTH_q; (case z_c_MOST_LENGTH_q => k_is))
    (case h_c_NO_MARK => refine' G.ct_mk ?z_c_NO_MARK_q; (case z_c_NO_MARK_q => k_is))
    (case h_c_NO_NUMBER => refine' G.ct_mk ?z_c_NO_NUMBER_q; (case z_c_NO_NUMBER_q => k_is))
    (case h_c_BEYOND => refine' G.ct_mk ?z_c_BEYOND_q; (case z_c_BEYOND_q => k_is))
    (case h_c_TOO_SOON => refine' G.ct_mk ?z_c_TOO_SOON_q; (case z_c_TOO_SOON_q => k_is))
    (case h_c_BEHIND => refine' G.ct_mk ?z_c_BEHIND_q; (case z_c_BEHIND_q => k_is))
    (case h_c_NO_ROOM => refine' G.ct_mk ?z_c_NO_ROOM_q; (case z_c_NO_ROOM_q => k_is))
    (case h_c_OPEN => refine' G.ct_mk ?z_c_OPEN_q; (case z_c_OPEN_q => k_is))
    (case h_c_PROGRAM => refine' G.ct_mk ?z_c_PROGRAM_q; (case z_c_PROGRAM_q => k_is))
    (case h_c_PUT => refine' G.ct_mk ?z_c_PUT_q; (case z_c_PUT_q => k_is))
    (case h_c_GET => refine' G.ct_mk ?z_c_GET_q; (case z_c_GET_q => k_is))
    (case h_c_FIND => refine' G.ct_mk ?z_c_FIND_q; (case z_c_FIND_q => k_is))
    (case h_c_TEST => refine' G.ct_mk ?z_c_TEST_q; (case z_c_TEST_q => k_is))
    (case h_c_AGAIN => refine' G.ct_mk ?z_c_AGAIN_q; (case z_c_AGAIN_q => k_is))
    (case h_c_OUT => refine' G.ct_mk ?z_c_OUT_q; (case z_c_OUT_q => k_is))
    (case h_c_SUMS => refine' G.ct_mk ?z_c_SUMS_q; (case z_c_SUMS_q => k_is))
    (case h_c_NO_RECORD => refine' G.ct_mk ?z_c_NO_RECORD_q; (case z_c_NO_RECORD_q => k_is))
    (case h_c_NO_SUCH_NUMBER => refine' G.ct_mk ?z_c_NO_SUCH_NUMBER_q; (case z_c_NO_SUCH_NUMBER_q => k_is))
    (case h_c_TOO_EARLY => refine' G.ct_mk ?z_c_TOO_EARLY_q; (case z_c_TOO_EARLY_q => k_is))
    (case h_c_NO_ENTRY => refine' G.ct_mk ?z_c_NO_ENTRY_q; (case z_c_NO_ENTRY_q => k_is))
    (case h_c_WRONG => refine' G.ct_mk ?z_c_WRONG_q; (case z_c_WRONG_q => k_is))
    (case h_c_FAULT => refine' G.ct_mk ?z_c_FAULT_q; (case z_c_FAULT_q => k_is))
    (case h_c_LEAST_SIZE => refine' G.ct_mk ?z_c_LEAST_SIZE_q; (case z_c_LEAST_SIZE_q => k_is))
    (case h_c_MOST_SIZE => refine' G.ct_mk ?z_c_MOST_SIZE_q; (case z_c_MOST_SIZE_q => k_is))
    (case h_c_MOST_SNAP => refine' G.ct_mk ?z_c_MOST_SNAP_q; (case z_c_MOST_SNAP_q => k_is))
    (case h_c_MOST_INSTRUCTIONS => refine' G.ct_mk ?z_c_MOST_INSTRUCTIONS_q; (case z_c_MOST_INSTRUCTIONS_q => k_is))
    (case h_c_MOST_PLACE => refine' G.ct_mk ?z_c_MOST_PLACE_q; (case z_c_MOST_PLACE_q => k_is))
    (case h_c_MOST_BYTES => refine' G.ct_mk ?z_c_MOST_BYTES_q; (case z_c_MOST_BYTES_q => k_is))
    (case h_b_len => k_is)
    (case h_b_sum => k_is)
    (case h_b_list => k_is)
    (case h_b_tuple => k_is)
    (case h_b_max => k_is)
    (case h_b_min => k_is)
    (case h_b_range => k_is)
    (case h_b_ValueError => k_is)
    (case h_g_PLAIN => k_is)
    (case h_g_WITH_ROW => k_is)
    (case h_g_FIRST_PROGRAM => k_is)
    (case h_l_PLAIN => k_is)
    (case h_k_PLAIN => decide +kernel)
    (case h_l_WITH_ROW => k_is)
    (case h_l_FIRST_PROGRAM => k_is)
    (case h_l_INS => k_is)
    (case h_d_1 => exact ⟨_, rfl⟩)
    (case h_d_2 => exact ⟨_, rfl⟩)
    (case h_d_3 => exact ⟨_, rfl⟩)
    (case h_d_4 => exact ⟨_, rfl⟩)
    (case h_d_5 => exact ⟨_, rfl⟩)
    (case h_d_6 => exact ⟨_, rfl⟩)
    (case h_d_7 => exact ⟨_, rfl⟩)
    (case h_d_8 => exact ⟨_, rfl⟩)
    (case h_d_9 => exact ⟨_, rfl⟩)
    (case h_d_10 => exact ⟨_, rfl⟩)
    (case h_d_11 => exact ⟨_, rfl⟩)
    (case h_neKF => decide)
    (case h_neRF => decide)
    (case h_f_Frame_init => refine' G.in_mk ?z_f_Frame_init_m ?z_f_Frame_init_a ?z_f_Frame_init_i ?z_f_Frame_init_kc ?z_f_Frame_init_l ?z_f_Frame_init_c ?z_f_Frame_init_k; (case z_f_Frame_init_m => k_is); (case z_f_Frame_init_a => k_is); (case z_f_Frame_init_i => k_is); (case z_f_Frame_init_kc => k_is); (case z_f_Frame_init_l => k_is); (case z_f_Frame_init_c => k_is); (case z_f_Frame_init_k => k_is))
    (case h_f_Frame_byte => refine' G.mt_mk ?z_f_Frame_byte_a ?z_f_Frame_byte_i ?z_f_Frame_byte_l ?z_f_Frame_byte_c ?z_f_Frame_byte_k; (case z_f_Frame_byte_a => k_is); (case z_f_Frame_byte_i => k_is); (case z_f_Frame_byte_l => k_is); (case z_f_Frame_byte_c => k_is); (case z_f_Frame_byte_k => k_is))
    (case h_f_Frame_kept_by => refine' G.mt_mk ?z_f_Frame_kept_by_a ?z_f_Frame_kept_by_i ?z_f_Frame_kept_by_l ?z_f_Frame_kept_by_c ?z_f_Frame_kept_by_k; (case z_f_Frame_kept_by_a => k_is); (case z_f_Frame_kept_by_i => k_is); (case z_f_Frame_kept_by_l => k_is); (case z_f_Frame_kept_by_c => k_is); (case z_f_Frame_kept_by_k => k_is))
    (case h_f_room_of => refine' G.fn_mk ?z_f_room_of_a ?z_f_room_of_l ?z_f_room_of_c ?z_f_room_of_k; (case z_f_room_of_a => k_is); (case z_f_room_of_l => k_is); (case z_f_room_of_c => k_is); (case z_f_room_of_k => k_is))
    (case h_f_room_of_all => refine' G.fn_mk ?z_f_room_of_all_a ?z_f_room_of_all_l ?z_f_room_of_all_c ?z_f_room_of_all_k; (case z_f_room_of_all_a => k_is); (case z_f_room_of_all_l => k_is); (case z_f_room_of_all_c => k_is); (case z_f_room_of_all_k => k_is))
    (case h_f_instructions_of => refine' G.fn_mk ?z_f_instructions_of_a ?z_f_instructions_of_l ?z_f_instructions_of_c ?z_f_instructions_of_k; (case z_f_instructions_of_a => k_is); (case z_f_instructions_of_l => k_is); (case z_f_instructions_of_c => k_is); (case z_f_instructions_of_k => k_is))
    (case h_f_is_test => refine' G.fn_mk ?z_f_is_test_a ?z_f_is_test_l ?z_f_is_test_c ?z_f_is_test_k; (case z_f_is_test_a => k_is); (case z_f_is_test_l => k_is); (case z_f_is_test_c => k_is); (case z_f_is_test_k => k_is))
    (case h_f_is_wrong => refine' G.fn_mk ?z_f_is_wrong_a ?z_f_is_wrong_l ?z_f_is_wrong_c ?z_f_is_wrong_k; (case z_f_is_wrong_a => k_is); (case z_f_is_wrong_l => k_is); (case z_f_is_wrong_c => k_is); (case z_f_is_wrong_k => k_is))
    (case h_f_first_wrong => refine' G.fn_mk ?z_f_first_wrong_a ?z_f_first_wrong_l ?z_f_first_wrong_c ?z_f_first_wrong_k; (case z_f_first_wrong_a => k_is); (case z_f_first_wrong_l => k_is); (case z_f_first_wrong_c => k_is); (case z_f_first_wrong_k => k_is))
    (case h_f_loaded => refine' G.fn_mk ?z_f_loaded_a ?z_f_loaded_l ?z_f_loaded_c ?z_f_loaded_k; (case z_f_loaded_a => k_is); (case z_f_loaded_l => k_is); (case z_f_loaded_c => k_is); (case z_f_loaded_k => k_is))
    (case h_f_passes => refine' G.fn_mk ?z_f_passes_a ?z_f_passes_l ?z_f_passes_c ?z_f_passes_k; (case z_f_passes_a => k_is); (case z_f_passes_l => k_is); (case z_f_passes_c => k_is); (case z_f_passes_k => k_is))
    (case h_f_run_on => refine' G.fn_mk ?z_f_run_on_a ?z_f_run_on_l ?z_f_run_on_c ?z_f_run_on_k; (case z_f_run_on_a => k_is); (case z_f_run_on_l => k_is); (case z_f_run_on_c => k_is); (case z_f_run_on_k => k_is))
    (case h_f_Kept_init => refine' G.in_mk ?z_f_Kept_init_m ?z_f_Kept_init_a ?z_f_Kept_init_i ?z_f_Kept_init_kc ?z_f_Kept_init_l ?z_f_Kept_init_c ?z_f_Kept_init_k; (case z_f_Kept_init_m => k_is); (case z_f_Kept_init_a => k_is); (case z_f_Kept_init_i => k_is); (case z_f_Kept_init_kc => k_is); (case z_f_Kept_init_l => k_is); (case z_f_Kept_init_c => k_is); (case z_f_Kept_init_k => k_is))
    (case h_f_Kept_last_time => refine' G.mt_mk ?z_f_Kept_last_time_a ?z_f_Kept_last_time_i ?z_f_Kept_last_time_l ?z_f_Kept_last_time_c ?z_f_Kept_last_time_k; (case z_f_Kept_last_time_a => k_is); (case z_f_Kept_last_time_i => k_is); (case z_f_Kept_last_time_l => k_is); (case z_f_Kept_last_time_c => k_is); (case z_f_Kept_last_time_k => k_is))
    (case h_f_Kept_going_for => refine' G.mt_mk ?z_f_Kept_going_for_a ?z_f_Kept_going_for_i ?z_f_Kept_going_for_l ?z_f_Kept_going_for_c ?z_f_Kept_going_for_k; (case z_f_Kept_going_for_a => k_is); (case z_f_Kept_going_for_i => k_is); (case z_f_Kept_going_for_l => k_is); (case z_f_Kept_going_for_c => k_is); (case z_f_Kept_going_for_k => k_is))
    (case h_f_Kept_go_by => refine' G.mt_mk ?z_f_Kept_go_by_a ?z_f_Kept_go_by_i ?z_f_Kept_go_by_l ?z_f_Kept_go_by_c ?z_f_Kept_go_by_k; (case z_f_Kept_go_by_a => k_is); (case z_f_Kept_go_by_i => k_is); (case z_f_Kept_go_by_l => k_is); (case z_f_Kept_go_by_c => k_is); (case z_f_Kept_go_by_k => k_is))
    (case h_f_Kept_run_again => refine' G.mt_mk ?z_f_Kept_run_again_a ?z_f_Kept_run_again_i ?z_f_Kept_run_again_l ?z_f_Kept_run_again_c ?z_f_Kept_run_again_k; (case z_f_Kept_run_again_a => k_is); (case z_f_Kept_run_again_i => k_is); (case z_f_Kept_run_again_l => k_is); (case z_f_Kept_run_again_c => k_is); (case z_f_Kept_run_again_k => k_is))
    (case h_f_Kept_earlier => refine' G.mt_mk ?z_f_Kept_earlier_a ?z_f_Kept_earlier_i ?z_f_Kept_earlier_l ?z_f_Kept_earlier_c ?z_f_Kept_earlier_k; (case z_f_Kept_earlier_a => k_is); (case z_f_Kept_earlier_i => k_is); (case z_f_Kept_earlier_l => k_is); (case z_f_Kept_earlier_c => k_is); (case z_f_Kept_earlier_k => k_is))
    (case h_f_Kept_sums => refine' G.mt_mk ?z_f_Kept_sums_a ?z_f_Kept_sums_i ?z_f_Kept_sums_l ?z_f_Kept_sums_c ?z_f_Kept_sums_k; (case z_f_Kept_sums_a => k_is); (case z_f_Kept_sums_i => k_is); (case z_f_Kept_sums_l => k_is); (case z_f_Kept_sums_c => k_is); (case z_f_Kept_sums_k => k_is))
    (case h_f_Kept_counts => refine' G.mt_mk ?z_f_Kept_counts_a ?z_f_Kept_counts_i ?z_f_Kept_counts_l ?z_f_Kept_counts_c ?z_f_Kept_counts_k; (case z_f_Kept_counts_a => k_is); (case z_f_Kept_counts_i => k_is); (case z_f_Kept_counts_l => k_is); (case z_f_Kept_counts_c => k_is); (case z_f_Kept_counts_k => k_is))
    (case h_f_rest_behind => refine' G.fn_mk ?z_f_rest_behind_a ?z_f_rest_behind_l ?z_f_rest_behind_c ?z_f_rest_behind_k; (case z_f_rest_behind_a => k_is); (case z_f_rest_behind_l => k_is); (case z_f_rest_behind_c => k_is); (case z_f_rest_behind_k => k_is))
    (case h_f_rest_of => refine' G.fn_mk ?z_f_rest_of_a ?z_f_rest_of_l ?z_f_rest_of_c ?z_f_rest_of_k; (case z_f_rest_of_a => k_is); (case z_f_rest_of_l => k_is); (case z_f_rest_of_c => k_is); (case z_f_rest_of_k => k_is))
    (case h_f_number_bytes => refine' G.fn_mk ?z_f_number_bytes_a ?z_f_number_bytes_l ?z_f_number_bytes_c ?z_f_number_bytes_k; (case z_f_number_bytes_a => k_is); (case z_f_number_bytes_l => k_is); (case z_f_number_bytes_c => k_is); (case z_f_number_bytes_k => k_is))
    (case h_f_rest_bytes => refine' G.fn_mk ?z_f_rest_bytes_a ?z_f_rest_bytes_l ?z_f_rest_bytes_c ?z_f_rest_bytes_k; (case z_f_rest_bytes_a => k_is); (case z_f_rest_bytes_l => k_is); (case z_f_rest_bytes_c => k_is); (case z_f_rest_bytes_k => k_is))
    (case h_f_entry_bytes => refine' G.fn_mk ?z_f_entry_bytes_a ?z_f_entry_bytes_l ?z_f_entry_bytes_c ?z_f_entry_bytes_k; (case z_f_entry_bytes_a => k_is); (case z_f_entry_bytes_l => k_is); (case z_f_entry_bytes_c => k_is); (case z_f_entry_bytes_k => k_is))
    (case h_f_written => refine' G.fn_mk ?z_f_written_a ?z_f_written_l ?z_f_written_c ?z_f_written_k; (case z_f_written_a => k_is); (case z_f_written_l => k_is); (case z_f_written_c => k_is); (case z_f_written_k => k_is))
    (case h_f_Faulty_init => refine' G.xi_mk ?z_f_Faulty_init_a ?z_f_Faulty_init_t ?z_f_Faulty_init_l ?z_f_Faulty_init_c ?z_f_Faulty_init_k; (case z_f_Faulty_init_a => k_is); (case z_f_Faulty_init_t => k_is); (case z_f_Faulty_init_l => k_is); (case z_f_Faulty_init_c => k_is); (case z_f_Faulty_init_k => k_is))
    (case h_f_Reader_init => refine' G.in_mk ?z_f_Reader_init_m ?z_f_Reader_init_a ?z_f_Reader_init_i ?z_f_Reader_init_kc ?z_f_Reader_init_l ?z_f_Reader_init_c ?z_f_Reader_init_k; (case z_f_Reader_init_m => k_is); (case z_f_Reader_init_a => k_is); (case z_f_Reader_init_i => k_is); (case z_f_Reader_init_kc => k_is); (case z_f_Reader_init_l => k_is); (case z_f_Reader_init_c => k_is); (case z_f_Reader_init_k => k_is))
    (case h_f_Reader_byte => refine' G.mt_mk ?z_f_Reader_byte_a ?z_f_Reader_byte_i ?z_f_Reader_byte_l ?z_f_Reader_byte_c ?z_f_Reader_byte_k; (case z_f_Reader_byte_a => k_is); (case z_f_Reader_byte_i => k_is); (case z_f_Reader_byte_l => k_is); (case z_f_Reader_byte_c => k_is); (case z_f_Reader_byte_k => k_is))
    (case h_f_Reader_number_end => refine' G.mt_mk ?z_f_Reader_number_end_a ?z_f_Reader_number_end_i ?z_f_Reader_number_end_l ?z_f_Reader_number_end_c ?z_f_Reader_number_end_k; (case z_f_Reader_number_end_a => k_is); (case z_f_Reader_number_end_i => k_is); (case z_f_Reader_number_end_l => k_is); (case z_f_Reader_number_end_c => k_is); (case z_f_Reader_number_end_k => k_is))
    (case h_f_Reader_number => refine' G.mt_mk ?z_f_Reader_number_a ?z_f_Reader_number_i ?z_f_Reader_number_l ?z_f_Reader_number_c ?z_f_Reader_number_k; (case z_f_Reader_number_a => k_is); (case z_f_Reader_number_i => k_is); (case z_f_Reader_number_l => k_is); (case z_f_Reader_number_c => k_is); (case z_f_Reader_number_k => k_is))
    (case h_f_Reader_some => refine' G.mt_mk ?z_f_Reader_some_a ?z_f_Reader_some_i ?z_f_Reader_some_l ?z_f_Reader_some_c ?z_f_Reader_some_k; (case z_f_Reader_some_a => k_is); (case z_f_Reader_some_i => k_is); (case z_f_Reader_some_l => k_is); (case z_f_Reader_some_c => k_is); (case z_f_Reader_some_k => k_is))
    (case h_f_Reader_is_over => refine' G.mt_mk ?z_f_Reader_is_over_a ?z_f_Reader_is_over_i ?z_f_Reader_is_over_l ?z_f_Reader_is_over_c ?z_f_Reader_is_over_k; (case z_f_Reader_is_over_a => k_is); (case z_f_Reader_is_over_i => k_is); (case z_f_Reader_is_over_l => k_is); (case z_f_Reader_is_over_c => k_is); (case z_f_Reader_is_over_k => k_is))
    (case h_f_need => refine' G.fn_mk ?z_f_need_a ?z_f_need_l ?z_f_need_c ?z_f_need_k; (case z_f_need_a => k_is); (case z_f_need_l => k_is); (case z_f_need_c => k_is); (case z_f_need_k => k_is))
    (case h_f_entry_read => refine' G.fn_mk ?z_f_entry_read_a ?z_f_entry_read_l ?z_f_entry_read_c ?z_f_entry_read_k; (case z_f_entry_read_a => k_is); (case z_f_entry_read_l => k_is); (case z_f_entry_read_c => k_is); (case z_f_entry_read_k => k_is))
    (case h_f_entries_read => refine' G.fn_mk ?z_f_entries_read_a ?z_f_entries_read_l ?z_f_entries_read_c ?z_f_entries_read_k; (case z_f_entries_read_a => k_is); (case z_f_entries_read_l => k_is); (case z_f_entries_read_c => k_is); (case z_f_entries_read_k => k_is))
    (case h_f_are_frame => refine' G.fn_mk ?z_f_are_frame_a ?z_f_are_frame_l ?z_f_are_frame_c ?z_f_are_frame_k; (case z_f_are_frame_a => k_is); (case z_f_are_frame_l => k_is); (case z_f_are_frame_c => k_is); (case z_f_are_frame_k => k_is))
    (case h_f_frame_of => refine' G.fn_mk ?z_f_frame_of_a ?z_f_frame_of_l ?z_f_frame_of_c ?z_f_frame_of_k; (case z_f_frame_of_a => k_is); (case z_f_frame_of_l => k_is); (case z_f_frame_of_c => k_is); (case z_f_frame_of_k => k_is))
    (case h_f_programmed => refine' G.fn_mk ?z_f_programmed_a ?z_f_programmed_l ?z_f_programmed_c ?z_f_programmed_k; (case z_f_programmed_a => k_is); (case z_f_programmed_l => k_is); (case z_f_programmed_c => k_is); (case z_f_programmed_k => k_is))
    (case h_f_put_by => refine' G.fn_mk ?z_f_put_by_a ?z_f_put_by_l ?z_f_put_by_c ?z_f_put_by_k; (case z_f_put_by_a => k_is); (case z_f_put_by_l => k_is); (case z_f_put_by_c => k_is); (case z_f_put_by_k => k_is))
    (case h_f_got => refine' G.fn_mk ?z_f_got_a ?z_f_got_l ?z_f_got_c ?z_f_got_k; (case z_f_got_a => k_is); (case z_f_got_l => k_is); (case z_f_got_c => k_is); (case z_f_got_k => k_is))
    (case h_f_found_by => refine' G.fn_mk ?z_f_found_by_a ?z_f_found_by_l ?z_f_found_by_c ?z_f_found_by_k; (case z_f_found_by_a => k_is); (case z_f_found_by_l => k_is); (case z_f_found_by_c => k_is); (case z_f_found_by_k => k_is))
    (case h_f_tested => refine' G.fn_mk ?z_f_tested_a ?z_f_tested_l ?z_f_tested_c ?z_f_tested_k; (case z_f_tested_a => k_is); (case z_f_tested_l => k_is); (case z_f_tested_c => k_is); (case z_f_tested_k => k_is))
    (case h_f_told_out => refine' G.fn_mk ?z_f_told_out_a ?z_f_told_out_l ?z_f_told_out_c ?z_f_told_out_k; (case z_f_told_out_a => k_is); (case z_f_told_out_l => k_is); (case z_f_told_out_c => k_is); (case z_f_told_out_k => k_is))
    (case h_f_read_again => refine' G.fn_mk ?z_f_read_again_a ?z_f_read_again_l ?z_f_read_again_c ?z_f_read_again_k; (case z_f_read_again_a => k_is); (case z_f_read_again_l => k_is); (case z_f_read_again_c => k_is); (case z_f_read_again_k => k_is))
    (case h_f_answer_with_row => refine' G.fn_mk ?z_f_answer_with_row_a ?z_f_answer_with_row_l ?z_f_answer_with_row_c ?z_f_answer_with_row_k; (case z_f_answer_with_row_a => k_is); (case z_f_answer_with_row_l => k_is); (case z_f_answer_with_row_c => k_is); (case z_f_answer_with_row_k => k_is))
    (case h_f_answer_of => refine' G.fn_mk ?z_f_answer_of_a ?z_f_answer_of_l ?z_f_answer_of_c ?z_f_answer_of_k; (case z_f_answer_of_a => k_is); (case z_f_answer_of_l => k_is); (case z_f_answer_of_c => k_is); (case z_f_answer_of_k => k_is))
    (case h_f_are_bounds => refine' G.fn_mk ?z_f_are_bounds_a ?z_f_are_bounds_l ?z_f_are_bounds_c ?z_f_are_bounds_k; (case z_f_are_bounds_a => k_is); (case z_f_are_bounds_l => k_is); (case z_f_are_bounds_c => k_is); (case z_f_are_bounds_k => k_is))
    (case h_f_call_end => refine' G.fn_mk ?z_f_call_end_a ?z_f_call_end_l ?z_f_call_end_c ?z_f_call_end_k; (case z_f_call_end_a => k_is); (case z_f_call_end_l => k_is); (case z_f_call_end_c => k_is); (case z_f_call_end_k => k_is))
    (case h_f_answers => refine' G.fn_mk ?z_f_answers_a ?z_f_answers_l ?z_f_answers_c ?z_f_answers_k; (case z_f_answers_a => k_is); (case z_f_answers_l => k_is); (case z_f_answers_c => k_is); (case z_f_answers_k => k_is))
  case S =>
    intro K H xs a hO hwi hask hx
    cases hx with
    | cons h1 h2 =>
      cases h2
      cases h1 with
      | lst hs ha =>
        have e := L2.ints_dw a.1 _ ha
        subst e
        exact ⟨_, a.1, rfl, hs, hask, fun H' p hp => .lst (L2.SqL.of hp) (L2.dw_ints _)⟩
