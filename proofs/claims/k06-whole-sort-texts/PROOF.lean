import PyProof.Rows.All
import Wide.All
import OpenK.AllK
import Wide.FinOn
import HandS.ForMost
import HandS.Codes
import KE.KDictPairs
import PyProof.Rows.CountFlat
import PyProof.ListStr
import HandS.ForExc
import HandS.IsInst
import HandS.ExcIs
import HandS.TupAny
import HandS.Deep
import HandS.Dict
import HandS.ExcBuiltin
import PySem.Challenge.RW_traitsure_k06_whole_sort_texts
set_option Elab.async false
set_option linter.all false
set_option maxRecDepth 100000
set_option maxHeartbeats 4000000
/-! Sorts with names as plain trees, their text, the reading back: no program here. -/
namespace Ts
open PySem

abbrev Tx := List Nat

inductive T where
  | nm (s : Tx)
  | nd (r : Tx) (ps : List T)

mutual
/-- the text of a sort -/
def text : T → Tx
  | .nm s => s
  | .nd r ps => r ++ wrap (texts ps)
def texts : List T → List Tx
  | [] => []
  | p :: ps => text p :: texts ps
/-- the parts' texts in brackets, nothing if there are none -/
def wrap : List Tx → Tx
  | [] => []
  | x :: xs => 40 :: (TL.joinL [44] (x :: xs) ++ [41])
end
mutual
def size : T → Nat
  | .nm _ => 1
  | .nd _ ps => 1 + sizes ps
def sizes : List T → Nat
  | [] => 0
  | p :: ps => size p + sizes ps
end
abbrev Cons := List (Tx × Nat)
def arity : Cons → Tx → Option Nat
  | [], _ => none
  | (r, k) :: c, x => if r = x then some k else arity c x
def isName (s : Tx) : Bool :=
  match s with
  | [x] => decide (97 ≤ x ∧ x ≤ 104)
  | _ => false
mutual
def isS (c : Cons) : T → Bool
  | .nm s => isName s
  | .nd r ps => decide (arity c r = some ps.length) && areS c ps
def areS (c : Cons) : List T → Bool
  | [] => true
  | p :: ps => isS c p && areS c ps
end
/-- of a depth of at most n -/
def Fit : Nat → T → Prop
  | 0, _ => False
  | _ + 1, .nm _ => True
  | n + 1, .nd _ ps => ∀ p ∈ ps, Fit n p

theorem texts_map : ∀ ps : List T, texts ps = ps.map text
  | [] => by rw [texts]; rfl
  | p :: ps => by rw [texts, texts_map ps]; rfl
theorem sizes_sum : ∀ ps : List T, sizes ps = (ps.map size).sum
  | [] => by rw [sizes]; rfl
  | p :: ps => by rw [sizes, sizes_sum ps]; rfl
theorem areS_all (c : Cons) : ∀ ps : List T, areS c ps = ps.all (isS c)
  | [] => by rw [areS]; rfl
  | p :: ps => by rw [areS, areS_all c ps]; rfl
theorem Fit.up : ∀ {n : Nat} {t : T}, Fit n t → Fit (n + 1) t
  | 0, _, h => h.elim
  | _ + 1, .nm _, _ => trivial
  | _ + 1, .nd _ _, h => fun p hp => Fit.up (h p hp)
theorem Fit.mono {n m : Nat} {t : T} (h : Fit n t) (hm : n ≤ m) : Fit m t := by
  induction hm with
  | refl => exact h
  | step _ ih => exact ih.up

/-! ### pieces -/
structure Pst where
  done : List Tx
  cur : Tx
  deep : Int
def pstep (s : Pst) (c : Nat) : Pst :=
  let d := s.deep + (if c = 40 then 1 else 0) - (if c = 41 then 1 else 0)
  if c = 44 ∧ d = 0 then ⟨s.done ++ [s.cur], [], d⟩ else ⟨s.done, s.cur ++ [c], d⟩
def prun (x : Tx) : Pst := x.foldl pstep ⟨[], [], 0⟩
def pieces (x : Tx) : List Tx := (prun x).done ++ [(prun x).cur]

def leaf (s : Tx) : T := if isName s = true then .nm s else .nd s []
def root (s : Tx) : Tx := s.takeWhile fun c => decide (c ≠ 40)
def inner (s : Tx) : Tx := (s.drop ((root s).length + 1)).dropLast
def read : Nat → Tx → T
  | 0, s => leaf s
  | n + 1, s => if root s = s then leaf s else .nd (root s) ((pieces (inner s)).map (read n))

theorem fit_leaf (s : Tx) (n : Nat) : Fit (n + 1) (leaf s) := by
  unfold leaf
  split
  · trivial
  · intro p hp
    cases hp
theorem read_fit : ∀ (n : Nat) (s : Tx), Fit (n + 1) (read n s)
  | 0, s => fit_leaf s 0
  | n + 1, s => by
    unfold read
    split
    · exact fit_leaf s (n + 1)
    · intro p hp
      obtain ⟨x, _, rfl⟩ := List.mem_map.mp hp
      exact read_fit n x

/-! ### reading back -/
/-- signs of a name of a constructor or of a name -/
def Plain (s : Tx) : Prop := ∀ c ∈ s, c ≠ 40 ∧ c ≠ 41 ∧ c ≠ 44
/-- what the constructors bear: names of one to six plain signs that are no names of sorts -/
structure Cok (c : Cons) : Prop where
  plain : ∀ q ∈ c, Plain q.1
  noName : ∀ q ∈ c, isName q.1 = false
  short : ∀ q ∈ c, 1 ≤ q.1.length ∧ q.1.length ≤ 6
theorem arity_mem : ∀ {c : Cons} {r : Tx} {k : Nat}, arity c r = some k → (r, k) ∈ c
  | [], _, _, h => by cases h
  | (q, j) :: c, r, k, h => by
    unfold arity at h
    split at h
    · rename_i e
      cases h
      subst e
      exact List.mem_cons_self
    · exact List.mem_cons_of_mem _ (arity_mem h)
theorem isName_one {s : Tx} (h : isName s = true) : ∃ x, s = [x] ∧ 97 ≤ x ∧ x ≤ 104 := by
  unfold isName at h
  split at h
  · exact ⟨_, rfl, of_decide_eq_true h⟩
  · cases h
theorem isName_plain {s : Tx} (h : isName s = true) : Plain s := by
  obtain ⟨x, rfl, h1, h2⟩ := isName_one h
  intro c hc
  have e := List.mem_singleton.mp hc
  subst e
  omega
/-- such a text leaves the depth as it was and is one piece -/
def Bal (x : Tx) : Prop := ∀ s : Pst, 0 ≤ s.deep → x.foldl pstep s = ⟨s.done, s.cur ++ x, s.deep⟩
theorem pstep_plain {c : Nat} (h : c ≠ 40 ∧ c ≠ 41 ∧ c ≠ 44) (s : Pst) : pstep s c = ⟨s.done, s.cur ++ [c], s.deep⟩ := by
  unfold pstep
  simp only [h.1, h.2.1, h.2.2, if_false, false_and]
  congr 1
  omega
theorem bal_plain : ∀ {x : Tx}, Plain x → Bal x
  | [], _, s, _ => by simp
  | c :: r, h, s, hs => by
    rw [List.foldl_cons, pstep_plain (h c List.mem_cons_self), bal_plain (x := r) (fun d hd => h d (List.mem_cons_of_mem _ hd)) _ (by exact hs)]
    simp
/-- several in brackets already -/
theorem bal_join : ∀ {xs : List Tx}, (∀ x ∈ xs, Bal x) → ∀ s : Pst, 1 ≤ s.deep → (TL.joinL [44] xs).foldl pstep s = ⟨s.done, s.cur ++ TL.joinL [44] xs, s.deep⟩
  | [], _, s, _ => by simp [TL.joinL]
  | [x], h, s, hs => by
    show x.foldl pstep s = ⟨s.done, s.cur ++ x, s.deep⟩
    exact h x List.mem_cons_self s (by omega)
  | x :: y :: r, h, s, hs => by
    show (x ++ ([44] ++ TL.joinL [44] (y :: r))).foldl pstep s = ⟨s.done, s.cur ++ (x ++ ([44] ++ TL.joinL [44] (y :: r))), s.deep⟩
    rw [List.foldl_append, h x List.mem_cons_self s (by omega)]
    rw [List.foldl_append]
    have e : [44].foldl pstep ⟨s.done, s.cur ++ x, s.deep⟩ = ⟨s.done, s.cur ++ x ++ [44], s.deep⟩ := by
      show pstep _ 44 = _
      unfold pstep
      rw [if_neg (by simp; omega)]
      congr 1
      simp
    rw [e, bal_join (fun z hz => h z (List.mem_cons_of_mem _ hz)) _ (by exact hs)]
    simp
theorem bal_wrap {xs : List Tx} (h : ∀ x ∈ xs, Bal x) : Bal (wrap xs) := by
  cases xs with
  | nil => intro s _; rw [wrap]; simp
  | cons x r =>
    intro s hs
    rw [wrap]
    rw [List.foldl_cons, List.foldl_append]
    have e : pstep s 40 = ⟨s.done, s.cur ++ [40], s.deep + 1⟩ := by
      unfold pstep
      simp
    rw [e, bal_join h _ (by show 1 ≤ s.deep + 1; omega)]
    show pstep _ 41 = _
    unfold pstep
    simp
theorem bal_app {x y : Tx} (hx : Bal x) (hy : Bal y) : Bal (x ++ y) := by
  intro s hs
  rw [List.foldl_append, hx s hs, hy _ (by exact hs)]
  simp
theorem bal_text {c : Cons} (C : Cok c) : ∀ (n : Nat) (t : T), Fit n t → isS c t = true → Bal (text t)
  | 0, _, h, _ => h.elim
  | n + 1, .nm s, _, h => by
    rw [isS] at h
    rw [text]
    exact bal_plain (isName_plain h)
  | n + 1, .nd r ps, h, hs => by
    rw [isS, Bool.and_eq_true, decide_eq_true_eq, areS_all] at hs
    rw [text]
    refine bal_app (bal_plain (C.plain _ (arity_mem hs.1))) (bal_wrap fun x hx => ?_)
    rw [texts_map] at hx
    obtain ⟨p, hp, rfl⟩ := List.mem_map.mp hx
    exact bal_text C n p (h p hp) (List.all_eq_true.mp hs.2 p hp)
theorem pieces_join : ∀ {xs : List Tx}, xs ≠ [] → (∀ x ∈ xs, Bal x) → ∀ (d : List Tx) (cur : Tx),
    (fun s : Pst => s.done ++ [s.cur]) ((TL.joinL [44] xs).foldl pstep ⟨d, cur, 0⟩) = d ++ ((cur ++ xs.headD []) :: xs.tail)
  | [], h, _, _, _ => absurd rfl h
  | [x], _, h, d, cur => by
    show (fun s : Pst => s.done ++ [s.cur]) (x.foldl pstep ⟨d, cur, 0⟩) = _
    rw [h x List.mem_cons_self _ (Int.le_refl _)]
    rfl
  | x :: y :: r, _, h, d, cur => by
    show (fun s : Pst => s.done ++ [s.cur]) ((x ++ ([44] ++ TL.joinL [44] (y :: r))).foldl pstep ⟨d, cur, 0⟩) = _
    rw [List.foldl_append, h x List.mem_cons_self _ (Int.le_refl _), List.foldl_append]
    have e : [44].foldl pstep ⟨d, cur ++ x, 0⟩ = ⟨d ++ [cur ++ x], [], 0⟩ := by
      rw [List.foldl_cons, List.foldl_nil]
      unfold pstep
      simp
    rw [e, pieces_join (by simp) (fun z hz => h z (List.mem_cons_of_mem _ hz))]
    simp
theorem pieces_of_join {xs : List Tx} (hne : xs ≠ []) (h : ∀ x ∈ xs, Bal x) : pieces (TL.joinL [44] xs) = xs := by
  have e := pieces_join hne h [] []
  unfold pieces prun
  rw [show (fun s : Pst => s.done ++ [s.cur]) ((TL.joinL [44] xs).foldl pstep ⟨[], [], 0⟩) = ((TL.joinL [44] xs).foldl pstep ⟨[], [], 0⟩).done ++ [((TL.joinL [44] xs).foldl pstep ⟨[], [], 0⟩).cur] from rfl] at e
  rw [e]
  cases xs with
  | nil => exact absurd rfl hne
  | cons x r => simp
theorem root_plain {r rest : Tx} (h : Plain r) : root (r ++ 40 :: rest) = r := by
  unfold root
  rw [List.takeWhile_append_of_pos (fun c hc => decide_eq_true (h c hc).1)]
  simp
theorem root_all {r : Tx} (h : Plain r) : root r = r := by
  unfold root
  have e := List.takeWhile_append_of_pos (p := fun c => decide (c ≠ 40)) (l₁ := r) (l₂ := []) (fun c hc => decide_eq_true (h c hc).1)
  simpa using e
theorem leaf_cons {c : Cons} (C : Cok c) {q : Tx × Nat} (h : q ∈ c) : leaf q.1 = .nd q.1 [] := by
  unfold leaf
  rw [C.noName q h]
  rfl
theorem root_self {s : Tx} (h : root s = s) : ∀ c ∈ s, c ≠ 40 := by
  intro c hc
  rw [← h] at hc
  unfold root at hc
  have e := List.all_eq_true.mp (List.all_takeWhile (l := s) (p := fun c => decide (c ≠ 40))) c hc
  exact of_decide_eq_true e
/-- THE READING BACK -/
theorem read_text {c : Cons} (C : Cok c) : ∀ (n : Nat) (t : T), Fit (n + 1) t → isS c t = true → ∀ m, n ≤ m → read m (text t) = t
  | n, .nm s, _, h, m, _ => by
    rw [isS] at h
    rw [text]
    have e : leaf s = .nm s := by
      unfold leaf
      rw [if_pos h]
    cases m with
    | zero => exact e
    | succ m =>
      unfold read
      rw [if_pos (root_all (isName_plain h))]
      exact e
  | n, .nd r [], _, hs, m, _ => by
    rw [isS, Bool.and_eq_true, decide_eq_true_eq] at hs
    have hm := arity_mem hs.1
    rw [text, texts, wrap, List.append_nil]
    have e : leaf r = .nd r [] := leaf_cons C hm
    cases m with
    | zero => exact e
    | succ m =>
      unfold read
      rw [if_pos (root_all (C.plain _ hm))]
      exact e
  | 0, .nd r (p :: ps), h, _, _, _ => (h p List.mem_cons_self).elim
  | n + 1, .nd r (p :: ps), h, hs, m, hm => by
    rw [isS, Bool.and_eq_true, decide_eq_true_eq, areS_all] at hs
    have hr := arity_mem hs.1
    have hpl := C.plain _ hr
    obtain ⟨k, rfl⟩ : ∃ k, m = k + 1 := ⟨m - 1, by omega⟩
    have et : text (.nd r (p :: ps)) = r ++ 40 :: (TL.joinL [44] ((p :: ps).map text) ++ [41]) := by
      rw [text, texts_map, List.map_cons, wrap]
    rw [et]
    have er : root (r ++ 40 :: (TL.joinL [44] ((p :: ps).map text) ++ [41])) = r := root_plain hpl
    have ei : inner (r ++ 40 :: (TL.joinL [44] ((p :: ps).map text) ++ [41])) = TL.joinL [44] ((p :: ps).map text) := by
      unfold inner
      rw [er]
      have e2 : (r ++ 40 :: (TL.joinL [44] ((p :: ps).map text) ++ [41])).drop (r.length + 1) = TL.joinL [44] ((p :: ps).map text) ++ [41] := by
        rw [List.drop_append]
        simp
      rw [e2, List.dropLast_concat]
    unfold read
    rw [er, ei]
    rw [if_neg (by
      intro e
      have := congrArg List.length e
      simp at this)]
    rw [pieces_of_join (by simp) (fun x hx => by
      obtain ⟨q, hq, rfl⟩ := List.mem_map.mp hx
      exact bal_text C (n + 1) q (h q hq) (List.all_eq_true.mp hs.2 q hq))]
    rw [List.map_map]
    congr 1
    refine (List.map_congr_left (g := id) fun q hq => ?_).trans (List.map_id _)
    exact read_text C n q (h q hq) (List.all_eq_true.mp hs.2 q hq) k (by omega)

/-! ### how long a text is -/
theorem joinL_len : ∀ xs : List Tx, (TL.joinL [44] xs).length ≤ (xs.map fun x => x.length + 1).sum
  | [] => by simp [TL.joinL]
  | [x] => by
    show x.length ≤ _
    simp
  | x :: y :: r => by
    show (x ++ ([44] ++ TL.joinL [44] (y :: r))).length ≤ _
    have ih := joinL_len (y :: r)
    rw [List.length_append, List.length_append, List.length_singleton, List.map_cons, List.sum_cons]
    omega
theorem sum_le {α : Type} {f g : α → Nat} : ∀ {l : List α}, (∀ x ∈ l, f x ≤ g x) → (l.map f).sum ≤ (l.map g).sum
  | [], _ => Nat.le_refl _
  | x :: l, h => by
    have h1 := h x List.mem_cons_self
    have h2 := sum_le fun y hy => h y (List.mem_cons_of_mem _ hy)
    rw [List.map_cons, List.map_cons, List.sum_cons, List.sum_cons]
    omega
theorem sum_mul (k : Nat) {α : Type} {f : α → Nat} : ∀ l : List α, (l.map fun x => k * f x).sum = k * (l.map f).sum
  | [] => rfl
  | x :: l => by
    rw [List.map_cons, List.map_cons, List.sum_cons, List.sum_cons, sum_mul k l, Nat.mul_add]
theorem text_len {c : Cons} (C : Cok c) : ∀ (n : Nat) (t : T), Fit n t → isS c t = true → (text t).length + 1 ≤ 9 * size t
  | 0, _, h, _ => h.elim
  | n + 1, .nm s, _, h => by
    rw [isS] at h
    obtain ⟨x, rfl, _⟩ := isName_one h
    rw [text, size]
    simp
  | n + 1, .nd r ps, h, hs => by
    rw [isS, Bool.and_eq_true, decide_eq_true_eq, areS_all] at hs
    have hr := (C.short _ (arity_mem hs.1)).2
    rw [text, texts_map, size, sizes_sum]
    have h1 : ((ps.map text).map fun x => x.length + 1).sum ≤ 9 * (ps.map size).sum := by
      rw [List.map_map, ← sum_mul]
      exact sum_le fun p hp => text_len C n p (h p hp) (List.all_eq_true.mp hs.2 p hp)
    have h2 : (wrap (ps.map text)).length ≤ 2 + 9 * (ps.map size).sum := by
      cases e : ps.map text with
      | nil => rw [wrap]; simp
      | cons x xs =>
        have h3 := joinL_len (x :: xs)
        rw [e] at h1
        rw [wrap]
        simp only [List.length_cons, List.length_append, List.length_nil]
        omega
    have hr' : r.length ≤ 6 := hr
    rw [List.length_append]
    omega

/-! ### what a text is read as -/
def parse (c : Cons) (s : Tx) : Option T :=
  if 200 < s.length then none
  else if isS c (read 12 s) = true ∧ size (read 12 s) ≤ 12 ∧ text (read 12 s) = s then some (read 12 s) else none
theorem parse_text {c : Cons} (C : Cok c) {t : T} (h : Fit 13 t) (hs : isS c t = true) (hz : size t ≤ 12) : parse c (text t) = some t := by
  have e := read_text C 12 t h hs 12 (Nat.le_refl _)
  have hl := text_len C 13 t h hs
  unfold parse
  rw [e, if_neg (by omega), if_pos ⟨hs, hz, rfl⟩]
theorem parse_some {c : Cons} {s : Tx} {t : T} (h : parse c s = some t) : Fit 13 t ∧ isS c t = true ∧ size t ≤ 12 ∧ text t = s := by
  unfold parse at h
  split at h
  · cases h
  · split at h
    · rename_i h1
      cases h
      exact ⟨read_fit 12 s, h1⟩
    · cases h
end Ts

/-! Rules of our own: isinstance of an error that is kept, dict of a tuple of pairs, list of a text, count of truth values, tuples that are known whole. -/
namespace Ts
open PySem PySem.Spec PyProof.Rows L2

/-! ### an error that was caught and is kept as a value -/
/-- at a stands an error of the class D -/
def Held (D a : Addr) : HO := .ext fun h => ∃ oe : Obj, h.get? a = some oe ∧ Zc (.ref D) none oe ∧ ∃ vs, oe.data = .fields vs
theorem held_ok {P : Program} {w : World} {H : Hp} {h : Heap} {D a : Addr} {oe : Obj} (e : h.get? a = some oe) (z : Zc (.ref D) none oe) (f : ∃ vs, oe.data = .fields vs) : ObjOk P w H h a (Held D a) := by
  refine ⟨⟨oe, e, z, f⟩, ⟨oe, e⟩, ?_⟩
  rintro h1 h2 ⟨o, e1, z1, f1⟩ k
  exact ⟨o, k o e1, z1, f1⟩
/-- isinstance(e, C), e kept -/
def rIsH (K : PySem.W.Frag) : List V → Hp → VK → Prop := fun xs H Q => ∃ (a D : Addr) (c : V) (cv : Value) (b : Bool),
  xs = [.ref a, c] ∧ H a = some (Held D a) ∧ ExcC K D ∧ ClsV c cv ∧ PySem.W.kitOne K (.ref D) cv = some b ∧ Q (.bl b) H
theorem call_isH {X : Cx} : CallR X (.builtin "isinstance") (rIsH X.K) := by
  intro pins s σ H xs us Q I r h
  obtain ⟨a, D, c, cv, b, rfl, ha, C, hc, e, q⟩ := h
  obtain ⟨u1, u2, rfl, r1, r2⟩ := vals2 r
  cases r1
  have e2 := hc.eq r2
  subst e2
  obtain ⟨⟨oe, g, z, vs, f⟩, _, _⟩ := I.hok a _ ha
  have at_ : PySem.W.InstAt s.heap a oe D none := by
    obtain ⟨oc, od, dt, sl⟩ := oe
    obtain ⟨z1, z2⟩ := z
    dsimp only at z1 z2 f
    subst z1
    subst z2
    subst f
    exact ⟨g, rfl, rfl, trivial⟩
  exact PySem.W.kia_one (PySem.W.handS_kitx_exc C.hg C.hk C.hs C.hd C.ha C.hn C.ht C.hm) I.kIn at_ e (fun z => nomatch z) fun tk => ⟨.bl b, H, I.tok tk, rfl, q⟩

/-! ### a tuple display that is known whole: it has no attributes of its own -/
def tTupF (t : TA) : TE := fun σ H Q => t σ H fun xs H1 => xs.length ≤ sizeLine ∧ ∀ (p : Addr) (o : Obj), H1 p = none → o.dict = none → Q (.ref p) (upd H1 p (.frz o (.tup xs)))
theorem pe_tupF {X : Cx} {es : List Expr} {t : TA} {k} {pos : Pos} (h : PA X es t) : PE X (.Tuple es k pos) (tTupF t) := by
  constructor
  intro pins s σ H Q I hq
  refine wpAny_Tuple_spliced (thn (h.run pos pins s σ H _ I hq) ?_)
  rintro us s1 ⟨xs, H1, J, r, z, q⟩
  refine ⟨by rw [← r.length]; exact z, ?_⟩
  have new : H1 s1.heap.objs.size = none := J.hok.fresh (Nat.le_refl _)
  have there : (s1.heap.push { cls := .type "tuple", data := .seq us.toArray }).get? s1.heap.objs.size = some { cls := .type "tuple", data := .seq us.toArray } := Heap.get?_push_size _ rfl
  have ok : ObjOk X.prog X.w (upd H1 s1.heap.objs.size (.frz { cls := .type "tuple", data := .seq us.toArray } (.tup xs))) (s1.heap.push { cls := .type "tuple", data := .seq us.toArray }) s1.heap.objs.size (.frz { cls := .type "tuple", data := .seq us.toArray } (.tup xs)) :=
    ⟨there, z, us, r, _, there, rfl, _, rfl⟩
  exact ⟨.ref s1.heap.objs.size, _, J.laid (t' := s1.toks) (fun b u e => Heap.get?_push_of_some _ e) (Nat.le_refl _) ok, rfl, q _ _ new rfl⟩

/-! ### dict(t), t such a tuple of pairs -/
def rDictT (K : PySem.W.Frag) : List V → Hp → VK → Prop := fun xs H Q => ∃ (a : Addr) (o : Obj) (ps : List Addr) (kvs : List (Key × V)), xs = [.ref a] ∧ H a = some (.frz o (.tup (ps.map V.ref))) ∧ o.dict = none ∧
  Paired (fun p kv => SqT K H p [kV kv.1, kv.2]) ps kvs ∧ ∀ p, H p = none → Q (.ref p) (upd H p (.dK (mergeK [] kvs)))
theorem call_dictT {X : Cx} (hcalm : X.calm = true) : CallR X (.type "dict") (rDictT X.K) := by
  intro pins s σ H xs us Q I r h
  obtain ⟨a, o, ps, kvs, rfl, ha, hd, hp, q⟩ := h
  obtain ⟨u, rfl, rx⟩ := vals1 r
  cases rx
  obtain ⟨g, z, its, rv, o2, g2, hc, n, dat⟩ := I.hok a _ ha
  rw [g] at g2
  cases g2
  have ei := refs_at rv
  subst ei
  rw [List.length_map] at z
  obtain ⟨prs, rel, hl, hpr⟩ := pairs_of I hp
  have sz : ps.length = prs.length := hl.symm
  -- the pairs as the library wants them: the keys' own values
  have keyed : ∃ qs : List (Value × Value), qs.length = ps.length ∧ (∀ (j : Nat) (p : Value × Value), qs[j]? = some p → ∃ b, ps[j]? = some b ∧ IsTup s.heap b #[p.1, p.2]) ∧
      ∀ (j : Nat) (p : Value × Value), qs[j]? = some p → ∃ k, prs[j]? = some (k, p.2) ∧ keyIs k p.1 = true := by
    have one : ∀ j, j < ps.length → ∃ p : Value × Value, (∃ b, ps[j]? = some b ∧ IsTup s.heap b #[p.1, p.2]) ∧ ∃ k, prs[j]? = some (k, p.2) ∧ keyIs k p.1 = true := by
      intro j hj
      have hj' : j < prs.length := by omega
      obtain ⟨b, u, e1, e2, e3⟩ := hpr j prs[j] (List.getElem?_eq_getElem hj')
      exact ⟨(u, prs[j].2), ⟨b, e1, e2⟩, prs[j].1, List.getElem?_eq_getElem hj', e3⟩
    have build : ∀ m, m ≤ ps.length → ∃ qs : List (Value × Value), qs.length = m ∧ (∀ (j : Nat) (p : Value × Value), qs[j]? = some p → ∃ b, ps[j]? = some b ∧ IsTup s.heap b #[p.1, p.2]) ∧
        ∀ (j : Nat) (p : Value × Value), qs[j]? = some p → ∃ k, prs[j]? = some (k, p.2) ∧ keyIs k p.1 = true := by
      intro m
      induction m with
      | zero => exact fun _ => ⟨[], rfl, fun j p e => by simp at e, fun j p e => by simp at e⟩
      | succ m ih =>
        intro hm
        obtain ⟨qs, e0, e1, e2⟩ := ih (by omega)
        obtain ⟨p, p1, p2⟩ := one m (by omega)
        have key : ∀ (j : Nat) (x : Value × Value), (qs ++ [p])[j]? = some x → qs[j]? = some x ∨ (j = m ∧ x = p) := by
          intro j x e
          by_cases hj : j < m
          · left
            rw [List.getElem?_append_left (by omega)] at e
            exact e
          · right
            rw [List.getElem?_append_right (by omega)] at e
            have h1 : j - qs.length < 1 := by
              have := (List.getElem?_eq_some_iff.mp e).1
              simpa using this
            have h2 : j = m := by omega
            subst h2
            rw [e0, Nat.sub_self] at e
            exact ⟨rfl, (Option.some.inj e).symm⟩
        refine ⟨qs ++ [p], by simp [e0], ?_, ?_⟩
        · intro j x e
          rcases key j x e with e | ⟨rfl, rfl⟩
          · exact e1 j x e
          · exact p1
        · intro j x e
          rcases key j x e with e | ⟨rfl, rfl⟩
          · exact e2 j x e
          · exact p2
    exact build _ (Nat.le_refl _)
  obtain ⟨qs, q0, q1, q2⟩ := keyed
  have arg := PairArg.tuple (prog := X.prog) (w := X.w) a (ps.map Value.ref).toArray (fun j => ps.getD j 0) qs
  have plain : PlainSeq "tuple" s.heap a (ps.map Value.ref).toArray := ⟨o, n, g, hc, hd, dat⟩
  have items : PairItems s.heap (ps.map Value.ref).toArray (fun j => ps.getD j 0) qs := by
    refine ⟨by simp [q0], fun j k v e => ?_⟩
    obtain ⟨b, e1, e2⟩ := q1 j (k, v) e
    have eb : ps.getD j 0 = b := by rw [List.getD_eq_getElem?_getD, e1]; rfl
    refine ⟨by simp [e1], ?_⟩
    show PairAt s.heap (ps.getD j 0) k v
    rw [eb]
    exact .inl e2
  have have_ : PairsHave (mixKind X.prog X.w) qs.length (PairRel qs) prs := ⟨by omega, fun i k v e => q2 i (k, v) e⟩
  refine PySem.call_dict_pairs (knd := mixKind X.prog X.w) (kvs := prs) arg (I.ok.hd hcalm) ⟨plain, items⟩ have_ (by omega) fun h' tk hd' k => ?_
  have hm : (s.heap.objs.size == sysModules) = false := beq_eq_false_iff_ne.mpr (Nat.ne_of_gt I.big)
  have hlen : (mergeK [] kvs).length ≤ sizeLine := by
    have h1 := length_mergeK kvs []
    have h2 := rel.length
    rw [List.length_nil] at h1
    omega
  exact ⟨.ref s.heap.objs.size, upd H s.heap.objs.size (.dK (mergeK [] kvs)), I.laid (t' := tk) (fun b ob e => k b ob (fun z => nomatch z) e) (Nat.le_refl _) ⟨hlen, hm, merged [] prs, KV.merge rel .nil, hd'⟩, rfl, q _ (I.hok.fresh (Nat.le_refl _))⟩

/-! ### list(s), s a text -/
def rListS : List V → Hp → VK → Prop := fun xs H Q => ∃ t : List Nat, xs = [.str (SX.S t)] ∧ t.length ≤ sizeLine ∧ ∀ p, H p = none → Q (.ref p) (upd H p (.lst (t.map fun c => V.str (SX.S [c]))))
theorem call_listS {X : Cx} (hcalm : X.calm = true) : CallR X (.type "list") rListS := by
  intro pins s σ H xs us Q I r h
  obtain ⟨t, rfl, hz, q⟩ := h
  obtain ⟨u, rfl, tk0, rfl⟩ := vals1 r
  refine call_list_str (I.ok.hd hcalm) (SX.S t) tk0 (fun h' tk acc c' hk hS hacc => ?_) (by simpa using hz)
  have hv : Vals (t.map fun c => V.str (SX.S [c])) acc.toList := by
    have len : acc.toList.length = t.length := by simpa using hacc.1
    have gen : ∀ (t : List Nat) (l : List Value), l.length = t.length → (∀ (j : Nat) (v : Value), l[j]? = some v → ∃ (c : Nat) (u : Tok), t[j]? = some c ∧ v = .str ⟨#[c]⟩ u) → Vals (t.map fun c => V.str (SX.S [c])) l := by
      intro t
      induction t with
      | nil =>
        intro l e _
        have : l = [] := List.eq_nil_of_length_eq_zero e
        subst this
        exact .nil
      | cons c t ih =>
        intro l e g
        cases l with
        | nil => simp at e
        | cons v l =>
          obtain ⟨d, u, e1, e2⟩ := g 0 v rfl
          have : c = d := Option.some.inj e1
          subst this
          subst e2
          exact .cons ⟨u, rfl⟩ (ih l (by simpa using e) fun j x ex => g (j + 1) x (by simpa using ex))
    refine gen t acc.toList len fun j v e => ?_
    obtain ⟨c, u, e1, e2⟩ := hacc.2 j v (by simpa using e)
    exact ⟨c, u, by simpa using e1, e2⟩
  exact ⟨.ref s.heap.objs.size, _, I.laid (t' := tk) hk (Nat.le_refl _) (show ObjOk X.prog X.w _ h' _ (.lst (t.map fun c => V.str (SX.S [c]))) from ⟨by simpa using hz, acc.toList, c', hv, by simpa using hS⟩), rfl, q _ (I.hok.fresh (Nat.le_refl _))⟩

/-! ### bs.count(True), bs a list of truth values -/
def bD (bs : List Bool) : List PyData := bs.map PyData.bool
def rCountB (K : PySem.W.Frag) : V → List V → Hp → VK → Prop := fun x xs H Q => ∃ (p : Addr) (bs : List Bool) (k : Bool), x = .ref p ∧ xs = [.bl k] ∧ SqL K H p (bs.map V.bl) ∧ Q (.int (countIn (.bool k) (bD bs))) H
theorem dp_bools {K : PySem.W.Frag} {H : Hp} : ∀ bs : List Bool, DpAll K H (bs.map V.bl) (bD bs)
  | [] => .nil
  | b :: bs => .cons (.bl b) (dp_bools bs)
theorem mt_countB {X : Cx} : MtR X "list.count" (rCountB X.K) := by
  intro pins s σ H x xs v us Q I rx rxs h
  obtain ⟨p, bs, k, rfl, rfl, hs, q⟩ := h
  cases rx
  obtain ⟨u, rfl, ru⟩ := rxs.one
  cases ru
  obtain ⟨its, rv, pl, hlen⟩ := I.list hs
  obtain ⟨as, ra⟩ := Dp.readsAll I (bD bs) (bs.map V.bl) its (dp_bools bs) rv
  exact count_list_bools pl.isList ra (by simp [bD, Shape.has]) ⟨.int (countIn (.bool k) (bD bs)), H, I.tok _, ⟨_, rfl⟩, q⟩
end Ts

/-! What stands in the heap: sorts, worlds, the town; readings that leave what is known; comprehensions. -/
namespace Ts
open PySem PySem.Spec PyProof.Rows L2

/-! ### all tuples stay -/
structure Tk (H H' : Hp) : Prop where
  tup : ∀ a xs, H a = some (.tup xs) → H' a = some (.tup xs)
  frz : ∀ a o u, H a = some (.frz o u) → H' a = some (.frz o u)
theorem Tk.refl (H : Hp) : Tk H H := ⟨fun _ _ h => h, fun _ _ _ h => h⟩
theorem Tk.trans {H H1 H2 : Hp} (a : Tk H H1) (b : Tk H1 H2) : Tk H H2 := ⟨fun x y h => b.tup x y (a.tup x y h), fun x y z h => b.frz x y z (a.frz x y z h)⟩
theorem Tk.of {H H' : Hp} (s : Same H H') : Tk H H' := ⟨fun a xs h => s a _ h, fun a o u h => s a _ h⟩
/-- all but what stands at t -/
def But (t : Addr) (H H' : Hp) : Prop := ∀ b o, b ≠ t → H b = some o → H' b = some o
theorem But.refl (t : Addr) (H : Hp) : But t H H := fun _ _ _ h => h
theorem But.trans {t : Addr} {H H1 H2 : Hp} (a : But t H H1) (b : But t H1 H2) : But t H H2 := fun x o n h => b x o n (a x o n h)
theorem But.of {t : Addr} {H H' : Hp} (s : Same H H') : But t H H' := fun b o _ h => s b o h
theorem But.tk {t : Addr} {H H' : Hp} {xs : List V} (s : But t H H') (h : H t = some (.lst xs)) : Tk H H' :=
  ⟨fun a ys e => s a _ (fun z => by subst z; rw [h] at e; cases e) e, fun a o u e => s a _ (fun z => by subst z; rw [h] at e; cases e) e⟩
theorem But.upd {t : Addr} {H : Hp} {o : HO} : But t H (L2.upd H t o) := fun b u n h => by rw [upd_ne n]; exact h
theorem Same.new {H : Hp} {p : Addr} {o : HO} (h : H p = none) : Same H (L2.upd H p o) := fun a u e => by rw [upd_ne (ne_of_none e h)]; exact e
/-- what H does not know may change -/
theorem Same.mut {H H' : Hp} {p : Addr} {o : HO} (s : Same H H') (h : H p = none) : Same H (L2.upd H' p o) := fun a u e => by rw [upd_ne (ne_of_none e h)]; exact s a u e
theorem Same.tk {H H' : Hp} (s : Same H H') : Tk H H' := Tk.of s
theorem Same.tup {K : PySem.W.Frag} {H H' : Hp} {a : Addr} {xs : List V} (e : Same H H') (h : SqT K H a xs) : SqT K H' a xs := by
  rcases h with (h | ⟨o, h⟩) | h
  · exact .inl (.inl (e _ _ h))
  · exact .inl (.inr ⟨o, e _ _ h⟩)
  · exact .inr h
theorem But.seq {K : PySem.W.Frag} {t : Addr} {H H' : Hp} {a : Addr} {xs : List V} (e : But t H H') (n : a ≠ t) (h : SqL K H a xs) : SqL K H' a xs := by
  rcases h with (h | ⟨o, h⟩) | h
  · exact .inl (.inl (e _ _ n h))
  · exact .inl (.inr ⟨o, e _ _ n h⟩)
  · exact .inr h

/-! ### sorts and worlds in the heap -/
abbrev S (l : List Nat) : Str := SX.S l
/-- v is the sort t, of a depth of at most n -/
def At : Nat → Hp → V → T → Prop
  | 0, _, _, _ => False
  | _ + 1, _, v, .nm s => v = .str (S s) ∧ s.length ≤ 1000
  | n + 1, H, v, .nd r ps => ∃ (a : Addr) (vs : List V), v = .ref a ∧ H a = some (.tup (.str (S r) :: vs)) ∧ ps.length ≤ 1000 ∧ Paired (At n H) vs ps
theorem paired_imp {α β : Type} {F G : α → β → Prop} : ∀ {l : List α} {m : List β}, Paired F l m → (∀ a b, F a b → G a b) → Paired G l m
  | _, _, .nil, _ => .nil
  | _, _, .cons r t, f => .cons (f _ _ r) (paired_imp t f)
theorem paired_len {α β : Type} {F : α → β → Prop} : ∀ {l : List α} {m : List β}, Paired F l m → l.length = m.length
  | _, _, .nil => rfl
  | _, _, .cons _ t => by rw [List.length_cons, List.length_cons, paired_len t]
theorem paired_at {α β : Type} {F : α → β → Prop} : ∀ {l : List α} {m : List β} {i : Nat} {a : α}, Paired F l m → l[i]? = some a → ∃ b, m[i]? = some b ∧ F a b
  | _, _, _, _, .nil, e => by simp at e
  | _, _, 0, _, .cons r _, e => by
    simp at e
    subst e
    exact ⟨_, rfl, r⟩
  | _, _, i + 1, _, .cons _ t, e => by
    obtain ⟨b, h1, h2⟩ := paired_at (i := i) t (by simpa using e)
    exact ⟨b, by simpa using h1, h2⟩
theorem paired_of {α β : Type} {F : α → β → Prop} : ∀ {l : List α} {m : List β}, l.length = m.length → (∀ (i : Nat) a b, l[i]? = some a → m[i]? = some b → F a b) → Paired F l m
  | [], [], _, _ => .nil
  | [], _ :: _, h, _ => by simp at h
  | _ :: _, [], h, _ => by simp at h
  | a :: l, b :: m, h, f => .cons (f 0 a b rfl rfl) (paired_of (by simpa using h) fun i x y e1 e2 => f (i + 1) x y (by simpa using e1) (by simpa using e2))
theorem paired_getD {α β : Type} {F : α → β → Prop} {d : α} {e : β} : ∀ {l : List α} {m : List β} {i : Nat}, Paired F l m → i < l.length → F (l.getD i d) (m.getD i e)
  | _, _, _, .nil, h => absurd h (Nat.not_lt_zero _)
  | _, _, 0, .cons r _, _ => r
  | _, _, i + 1, .cons _ t, h => paired_getD (i := i) t (by simpa using h)
theorem At.tk : ∀ {n : Nat} {H H' : Hp} {v : V} {t : T}, Tk H H' → At n H v t → At n H' v t
  | 0, _, _, _, _, _, h => h.elim
  | _ + 1, _, _, _, .nm _, _, h => h
  | n + 1, _, _, _, .nd _ _, k, ⟨a, vs, e, h, z, p⟩ => ⟨a, vs, e, k.tup a _ h, z, paired_imp p fun _ _ q => At.tk k q⟩
theorem At.same {n : Nat} {H H' : Hp} {v : V} {t : T} (s : Same H H') (h : At n H v t) : At n H' v t := h.tk (Tk.of s)
theorem At.fit : ∀ {n : Nat} {H : Hp} {v : V} {t : T}, At n H v t → Fit n t
  | 0, _, _, _, h => h.elim
  | _ + 1, _, _, .nm _, _ => trivial
  | n + 1, H, _, .nd _ ps, ⟨_, vs, _, _, _, p⟩ => fun q hq => by
    have go : ∀ {vs : List V} {ps : List T}, Paired (At n H) vs ps → ∀ q ∈ ps, Fit n q := by
      intro vs ps p
      induction p with
      | nil => intro q hq; cases hq
      | cons r _ ih =>
        intro q hq
        rcases List.mem_cons.mp hq with e | hq
        · rw [e]
          exact At.fit r
        · exact ih q hq
    exact go p q hq
theorem At.up : ∀ {n : Nat} {H : Hp} {v : V} {t : T}, At n H v t → At (n + 1) H v t
  | 0, _, _, _, h => h.elim
  | _ + 1, _, _, .nm _, h => h
  | n + 1, _, _, .nd _ _, ⟨a, vs, e, h, z, p⟩ => ⟨a, vs, e, h, z, paired_imp p fun _ _ q => At.up q⟩
theorem At.le {n m : Nat} {H : Hp} {v : V} {t : T} (h : At n H v t) (hm : n ≤ m) : At m H v t := by
  induction hm with
  | refl => exact h
  | step _ ih => exact ih.up

structure Wd where
  cons : Cons
  traits : List (Tx × Tx × List Tx)
/-- v is the world W -/
structure WAt (H : Hp) (v : V) (W : Wd) where
  a : Addr
  a0 : Addr
  a1 : Addr
  o : Obj
  ps : List Addr
  qs : List Addr
  ev : v = .ref a
  h : H a = some (.tup [.ref a0, .ref a1])
  h0 : H a0 = some (.frz o (.tup (ps.map .ref)))
  od : o.dict = none
  cs : Paired (fun p (q : Tx × Nat) => H p = some (.tup [.str (S q.1), .int (q.2 : Nat)])) ps W.cons
  h1 : H a1 = some (.tup (qs.map .ref))
  ts : Paired (fun p (q : Tx × Tx × List Tx) => ∃ b, H p = some (.tup [.str (S q.1), .str (S q.2.1), .ref b]) ∧ H b = some (.tup (q.2.2.map fun x => .str (S x)))) qs W.traits
def IsW (H : Hp) (v : V) (W : Wd) : Prop := Nonempty (WAt H v W)
theorem IsW.tk {H H' : Hp} {v : V} {W : Wd} (k : Tk H H') : IsW H v W → IsW H' v W := fun ⟨w⟩ =>
  ⟨⟨w.a, w.a0, w.a1, w.o, w.ps, w.qs, w.ev, k.tup _ _ w.h, k.frz _ _ _ w.h0, w.od, paired_imp w.cs fun _ _ q => k.tup _ _ q, k.tup _ _ w.h1, paired_imp w.ts fun _ _ ⟨b, q1, q2⟩ => ⟨b, k.tup _ _ q1, k.tup _ _ q2⟩⟩⟩
theorem IsW.same {H H' : Hp} {v : V} {W : Wd} (s : Same H H') (h : IsW H v W) : IsW H' v W := h.tk (Tk.of s)

/-! ### readings that leave what is known -/
/-- te gives a value of which P holds -/
def EvP (te : TE) (σ : L2.St) (H : Hp) (P : V → Hp → Prop) : Prop := ∀ H1, Same H H1 → ∀ Q : VK, (∀ v H2, Same H1 H2 → P v H2 → Q v H2) → te σ H1 Q
/-- tt gives b -/
def EvB (tt : TT) (σ : L2.St) (H : Hp) (b : Bool) : Prop := ∀ H1, Same H H1 → ∀ Q : Bool → Hp → Prop, (∀ H2, Same H1 H2 → Q b H2) → tt σ H1 Q
theorem EvP.use {te : TE} {σ : L2.St} {H : Hp} {P : V → Hp → Prop} {Q : VK} (h : EvP te σ H P) (k : ∀ v H2, Same H H2 → P v H2 → Q v H2) : te σ H Q := h H (Same.refl H) Q k
theorem EvB.use {tt : TT} {σ : L2.St} {H : Hp} {b : Bool} {Q : Bool → Hp → Prop} (h : EvB tt σ H b) (k : ∀ H2, Same H H2 → Q b H2) : tt σ H Q := h H (Same.refl H) Q k

/-! ### what a for of a comprehension walks: n turns, the things X -/
structure Turns (J : It) (n : Nat) (X : Nat → V) (C : Hp → Prop) : Prop where
  go : ∀ i H, C H → i < n → J.go i H
  stop : ∀ H, C H → J.stop n H
  yld : ∀ i H x H', C H → i < n → J.yld i H x H' → H' = H ∧ x = X i
theorem turns_tup {K : PySem.W.Frag} {a : Addr} (xs : List V) : Turns (Itt K a) xs.length (fun i => xs.getD i .non) (fun H => SqT K H a xs) where
  go := fun i H q hi => ⟨xs, xs[i], q, by simp [hi]⟩
  stop := fun H q => ⟨xs, q, Nat.le_refl _⟩
  yld := fun i H x H' q hi y => by
    obtain ⟨e, y⟩ := y
    refine ⟨e, ?_⟩
    have h := y xs q
    rw [List.getD_eq_getElem?_getD, h]
    rfl
theorem turns_lst {K : PySem.W.Frag} {a : Addr} (xs : List V) : Turns (Itl K a) xs.length (fun i => xs.getD i .non) (fun H => SqL K H a xs) where
  go := fun i H q hi => ⟨xs, xs[i], q, by simp [hi]⟩
  stop := fun H q => ⟨xs, q, Nat.le_refl _⟩
  yld := fun i H x H' q hi y => by
    obtain ⟨e, y⟩ := y
    refine ⟨e, ?_⟩
    have h := y xs q
    rw [List.getD_eq_getElem?_getD, h]
    rfl
theorem turns_rng (n : Nat) : Turns (Itr 0 n) n (fun i => .int (i : Nat)) (fun _ => True) where
  go := fun i H _ hi => hi
  stop := fun H _ => Nat.le_refl _
  yld := fun i H x H' _ hi y => by
    obtain ⟨e, y⟩ := y
    refine ⟨e, ?_⟩
    rw [y]
    simp
theorem turns_str (t : List Nat) : Turns (Its (S t)) t.length (fun i => .str (S [t.getD i 0])) (fun _ => True) where
  go := fun i H _ hi => by show i < (S t).cps.size; simpa using hi
  stop := fun H _ => by show (S t).cps.size ≤ t.length; simp
  yld := fun i H x H' _ hi y => by
    obtain ⟨e, c, hc, y⟩ := y
    refine ⟨e, ?_⟩
    rw [y]
    have h : t[i]? = some c := by simpa using hc
    rw [List.getD_eq_getElem?_getD, h]
    rfl
theorem Turns.cast {J : It} {n : Nat} {X : Nat → V} {C C' : Hp → Prop} (t : Turns J n X C) (h : ∀ H, C' H → C H) : Turns J n X C' :=
  ⟨fun i H c hi => t.go i H (h H c) hi, fun H c => t.stop H (h H c), fun i H x H' c hi y => t.yld i H x H' (h H c) hi y⟩

/-- the comprehension's own reading behind the iterable: an invariant over the turn and the heap -/
def LcR (J : It) (g : TG) (tt : TT) (te : TE) (vs : List Nat) (σ : L2.St) (H1 : Hp) (D : Addr) (Qd : Hp → Prop) : Prop :=
  ∃ W : Nat → Nat → Hp → Prop, (∃ m, W 0 m (upd H1 D (.lst []))) ∧ ∀ i m H, W i m H →
  (J.stop i H ∧ Qd H) ∨ (J.go i H ∧ ∃ Nx : Hp → Prop, (∀ H', Nx H' → ∃ m', m' < m ∧ W (i + 1) m' H') ∧ ∀ x H', J.yld i H x H' → g x (wipe σ vs) H' fun σ2 H2 => wipe σ2 vs = wipe σ vs ∧ tt σ2 H2 fun b H3 =>
    if b = true then te σ2 H3 fun y H4 => ∃ acc, H4 D = some (.lst acc) ∧ acc.length < sizeLine ∧ Nx (upd H4 D (.lst (acc ++ [y]))) else Nx H3)
theorem lc_turns {J : It} {n : Nat} {X : Nat → V} {C : Hp → Prop} (T : Turns J n X C) {g : TG} {tt : TT} {te : TE} {vs : List Nat} {σ : L2.St} {H1 : Hp} {D : Addr} {Qd : Hp → Prop} (Pv : Nat → Hp → Prop)
    (h0 : Pv 0 (upd H1 D (.lst []))) (hC : ∀ i H, i ≤ n → Pv i H → C H)
    (hs : ∀ i H, i < n → Pv i H → g (X i) (wipe σ vs) H fun σ2 H2 => wipe σ2 vs = wipe σ vs ∧ tt σ2 H2 fun b H3 =>
      if b = true then te σ2 H3 fun y H4 => ∃ acc, H4 D = some (.lst acc) ∧ acc.length < sizeLine ∧ Pv (i + 1) (upd H4 D (.lst (acc ++ [y]))) else Pv (i + 1) H3) (hd : ∀ H, Pv n H → Qd H) : LcR J g tt te vs σ H1 D Qd := by
  refine ⟨fun i m H => m = n - i ∧ i ≤ n ∧ Pv i H, ⟨n, by simp, Nat.zero_le _, h0⟩, ?_⟩
  rintro i m H ⟨rfl, hi, p⟩
  have c := hC i H hi p
  by_cases hlt : i < n
  · refine .inr ⟨T.go i H c hlt, Pv (i + 1), fun H' p' => ⟨n - (i + 1), by omega, rfl, hlt, p'⟩, fun x H' y => ?_⟩
    obtain ⟨e1, e2⟩ := T.yld i H x H' c hlt y
    subst e1
    subst e2
    exact hs i _ hlt p
  · have e : i = n := by omega
    subst e
    exact .inl ⟨T.stop H c, hd H p⟩
theorem Tk.mutl {H : Hp} {p : Addr} {xs : List V} {o : HO} (h : H p = some (.lst xs)) : Tk H (L2.upd H p o) := (But.upd (t := p)).tk h
/-- nothing but the new list changes, each turn gives a value of which P tells -/
theorem lc_all {J : It} {n : Nat} {X : Nat → V} {C : Hp → Prop} (T : Turns J n X C) {g : TG} {te : TE} {vs : List Nat} {σ : L2.St} {H1 : Hp} {D : Addr} {Qd : Hp → Prop} (P : Nat → V → Hp → Prop)
    (hD : H1 D = none) (hn : n ≤ 100000) (hC : ∀ H, Same H1 H → C H) (hP : ∀ i y H H', Tk H H' → P i y H → P i y H')
    (hs : ∀ i H, i < n → Same H1 H → g (X i) (wipe σ vs) H fun σ2 H2 => wipe σ2 vs = wipe σ vs ∧ Same H H2 ∧ EvP te σ2 H2 (P i))
    (hg : ∀ x σ H Q Q', (∀ a b, Q a b → Q' a b) → g x σ H Q → g x σ H Q')
    (hd : ∀ H ys, Same H1 H → H D = some (.lst ys) → ys.length = n → (∀ (i : Nat) y, ys[i]? = some y → P i y H) → Qd H) : LcR J g tYes te vs σ H1 D Qd := by
  refine lc_turns T (fun i H => Same H1 H ∧ ∃ ys : List V, H D = some (.lst ys) ∧ ys.length = i ∧ ∀ (j : Nat) y, ys[j]? = some y → P j y H) ⟨Same.new hD, [], upd_same, rfl, fun j y e => by simp at e⟩ (fun i H _ p => hC H p.1) ?_ (fun H p => ?_)
  · rintro i H hi ⟨s1, ys, h1, hl, hp⟩
    refine hg _ _ _ _ _ (fun σ2 H2 q => ?_) (hs i H hi s1)
    obtain ⟨w, s2, ev⟩ := q
    refine ⟨w, ?_⟩
    unfold tYes
    dsimp only
    rw [if_pos rfl]
    refine ev.use fun y H4 s4 py => ?_
    have s : Same H H4 := Same.trans s2 s4
    have h4 : H4 D = some (.lst ys) := s D _ h1
    refine ⟨ys, h4, Nat.lt_of_lt_of_le (by omega : ys.length < 100001) (by decide), Same.mut (Same.trans s1 s) hD, ys ++ [y], upd_same, by simp [hl], fun j z e => ?_⟩
    refine hP j z H4 _ (Tk.mutl h4) ?_
    by_cases hj : j < ys.length
    · rw [List.getElem?_append_left hj] at e
      exact hP j z H H4 (Tk.of s) (hp j z e)
    · rw [List.getElem?_append_right (by omega)] at e
      have hj2 : j = ys.length := by
        have := (List.getElem?_eq_some_iff.mp e).1
        simp at this
        omega
      rw [hj2, Nat.sub_self] at e
      have : y = z := Option.some.inj e
      subst this
      rw [hj2, hl]
      exact py
  · obtain ⟨s1, ys, h1, hl, hp⟩ := p
    exact hd H ys s1 h1 hl hp
theorem gName_mono {j : Nat} : ∀ (x : V) (σ : L2.St) (H : Hp) (Q Q' : L2.St → Hp → Prop), (∀ a b, Q a b → Q' a b) → gName j x σ H Q → gName j x σ H Q' := fun _ _ _ _ _ h q => h _ _ q
/-- the same, the target a name -/
theorem lc_name {J : It} {n : Nat} {X : Nat → V} {C : Hp → Prop} (T : Turns J n X C) {j : Nat} {te : TE} {vs : List Nat} {σ : L2.St} {H1 : Hp} {D : Addr} {Qd : Hp → Prop} (P : Nat → V → Hp → Prop)
    (hD : H1 D = none) (hn : n ≤ 100000) (hC : ∀ H, Same H1 H → C H) (hP : ∀ i y H H', Tk H H' → P i y H → P i y H') (hw : ∀ x, wipe ((wipe σ vs).set j (some x)) vs = wipe σ vs)
    (hs : ∀ i H, i < n → Same H1 H → EvP te ((wipe σ vs).set j (some (X i))) H (P i))
    (hd : ∀ H ys, Same H1 H → H D = some (.lst ys) → ys.length = n → (∀ (i : Nat) y, ys[i]? = some y → P i y H) → Qd H) : LcR J (gName j) tYes te vs σ H1 D Qd :=
  lc_all T P hD hn hC hP (fun i H hi s => ⟨hw _, Same.refl H, hs i H hi s⟩) gName_mono hd
/-- with a test, the items kept as they are -/
theorem lc_keep {J : It} {n : Nat} {X : Nat → V} {C : Hp → Prop} (T : Turns J n X C) {j : Nat} {tt : TT} {te : TE} {vs : List Nat} {σ : L2.St} {H1 : Hp} {D : Addr} {Qd : Hp → Prop} (f : Nat → Bool)
    (hD : H1 D = none) (hn : n ≤ 100000) (hC : ∀ H, Same H1 H → C H) (hw : ∀ x, wipe ((wipe σ vs).set j (some x)) vs = wipe σ vs)
    (ht : ∀ i H, i < n → Same H1 H → EvB tt ((wipe σ vs).set j (some (X i))) H (f i))
    (hs : ∀ i H, i < n → Same H1 H → f i = true → EvP te ((wipe σ vs).set j (some (X i))) H (fun y _ => y = X i))
    (hd : ∀ H, Same H1 H → H D = some (.lst (((List.range n).filter f).map X)) → Qd H) : LcR J (gName j) tt te vs σ H1 D Qd := by
  refine lc_turns T (fun i H => Same H1 H ∧ H D = some (.lst (((List.range i).filter f).map X))) ⟨Same.new hD, upd_same⟩ (fun i H _ p => hC H p.1) ?_ (fun H p => hd H p.1 p.2)
  rintro i H hi ⟨s1, h1⟩
  refine ⟨hw _, (ht i H hi s1).use fun H3 s3 => ?_⟩
  have s := Same.trans s1 s3
  cases e : f i with
  | true =>
    refine iteT ((hs i H3 hi s e).use fun y H4 s4 py => ?_)
    subst py
    have hz : (((List.range i).filter f).map X).length ≤ i := by
      rw [List.length_map]
      exact Nat.le_trans (List.length_filter_le _ _) (by simp)
    refine ⟨_, s4 D _ (s3 D _ h1), Nat.lt_of_lt_of_le (by omega : _ < 100001) (by decide), Same.mut (Same.trans s s4) hD, ?_⟩
    rw [List.range_succ, List.filter_append, List.map_append, List.filter_cons, if_pos e]
    exact upd_same
  | false =>
    refine iteF ⟨s, ?_⟩
    rw [List.range_succ, List.filter_append, List.map_append, List.filter_cons, if_neg (by rw [e]; exact Bool.false_ne_true)]
    simpa using s3 D _ h1
/-- all([..]) of the values -/
theorem bools_of {ys : List V} {f : Nat → Bool} {n : Nat} (hl : ys.length = n) (h : ∀ (i : Nat) y, ys[i]? = some y → y = .bl (f i)) : ys = ((List.range n).map f).map V.bl := by
  apply List.ext_getElem?
  intro i
  by_cases hi : i < n
  · have e : ys[i]? = some ys[i] := List.getElem?_eq_getElem (by omega)
    rw [e, h i _ e]
    simp [hi]
  · rw [List.getElem?_eq_none (by omega), List.getElem?_eq_none (by simp; omega)]
theorem ints_of {ys : List V} {f : Nat → Int} {n : Nat} (hl : ys.length = n) (h : ∀ (i : Nat) y, ys[i]? = some y → y = .int (f i)) : ys = ((List.range n).map f).map V.int := by
  apply List.ext_getElem?
  intro i
  by_cases hi : i < n
  · have e : ys[i]? = some ys[i] := List.getElem?_eq_getElem (by omega)
    rw [e, h i _ e]
    simp [hi]
  · rw [List.getElem?_eq_none (by omega), List.getElem?_eq_none (by simp; omega)]
theorem strs_of {ys : List V} {f : Nat → Tx} {n : Nat} (hl : ys.length = n) (h : ∀ (i : Nat) y, ys[i]? = some y → y = .str (S (f i))) : ys = (((List.range n).map f).map S).map V.str := by
  apply List.ext_getElem?
  intro i
  by_cases hi : i < n
  · have e : ys[i]? = some ys[i] := List.getElem?_eq_getElem (by omega)
    rw [e, h i _ e]
    simp [hi]
  · rw [List.getElem?_eq_none (by omega), List.getElem?_eq_none (by simp; omega)]
theorem range_map {α β : Type} (l : List α) (d : α) (g : α → β) : ((List.range l.length).map fun i => g (l.getD i d)) = l.map g := by
  apply List.ext_getElem?
  intro i
  by_cases hi : i < l.length
  · simp [hi]
  · rw [List.getElem?_eq_none (by simp; omega), List.getElem?_eq_none (by simp; omega)]
/-! ### sort[1:] -/
theorem cut1 (x : V) (vs : List V) : cutV (x :: vs) (some 1) none = vs := by
  have e : HT.sIx (x :: vs).length 0 (some 1) = 1 := by
    show HT.sIx (x :: vs).length 0 (some ((1 : Nat) : Int)) = 1
    rw [HT.sIx_nat, List.length_cons]
    omega
  unfold cutV
  rw [e, HT.sIx_none]
  simp
def rTail (K : PySem.W.Frag) : V → Option Int → Option Int → Hp → VK → Prop := fun x lo hi H Q => ∃ (a : Addr) (y : V) (vs : List V), x = .ref a ∧ lo = some 1 ∧ hi = none ∧ SqT K H a (y :: vs) ∧ ∀ p, H p = none → Q (.ref p) (L2.upd H p (.tup vs))
theorem sl_tail {X : Cx} : SlR X (rTail X.K) := by
  intro pins s σ H x v vl vu lo hi sl Q I rx hs pl pu h
  obtain ⟨a, y, vs, rfl, rfl, rfl, hx, k⟩ := h
  refine sl_tupA pins s σ H _ v vl vu _ _ sl Q I rx hs pl pu ⟨a, _, rfl, hx, fun z => ?_, fun _ p hp => ?_⟩
  · have e : HT.sIx (y :: vs).length 0 (some 1) = 1 := by
      show HT.sIx (y :: vs).length 0 (some ((1 : Nat) : Int)) = 1
      rw [HT.sIx_nat, List.length_cons]
      omega
    rw [e] at z
    exact absurd z.1 (by decide)
  · rw [cut1]
    exact k p hp
end Ts

/-! The text by places; how a def is called. -/
namespace Ts
open PySem PySem.Spec PyProof.Rows L2
def top (i : Nat) : Stmt := PySem.Challenge.pw_traitsure_k06_whole_sort_texts.main.body.getD i (.Pass ⟨0, 0, 0, 0⟩)
abbrev sIsBetween : Stmt := top 30
abbrev pIsBetween : List Str := ["value", "low", "high"]
abbrev nIsBetween : List Str := ["value", "low", "high"]
theorem scIsBetween : FnScope nIsBetween pIsBetween (defScope sIsBetween) := ⟨rfl, rfl, rfl, by decide +kernel, rfl, by decide +kernel, by decide +kernel⟩
theorem bIsBetween (kV doc pm : Value) (an : Option Addr) (cdv ct : Value) (us : List Value) (hl : us.length = pIsBetween.length) : bindArgs (PySem.W.fnOf "is_between" "is_between" (defArgs sIsBetween) (defBody sIsBetween) (defScope sIsBetween) .none kV doc pm an cdv ct) ⟨us, []⟩ = pure ((pIsBetween).zip us) := match us, hl with | [_, _, _], _ => rfl
abbrev sAreSmall : Stmt := top 31
abbrev pAreSmall : List Str := ["value", "low", "high"]
abbrev nAreSmall : List Str := ["value", "low", "high", "sign"]
theorem scAreSmall : FnScope nAreSmall pAreSmall (defScope sAreSmall) := ⟨rfl, rfl, rfl, by decide +kernel, rfl, by decide +kernel, by decide +kernel⟩
theorem bAreSmall (kV doc pm : Value) (an : Option Addr) (cdv ct : Value) (us : List Value) (hl : us.length = pAreSmall.length) : bindArgs (PySem.W.fnOf "are_small" "are_small" (defArgs sAreSmall) (defBody sAreSmall) (defScope sAreSmall) .none kV doc pm an cdv ct) ⟨us, []⟩ = pure ((pAreSmall).zip us) := match us, hl with | [_, _, _], _ => rfl
abbrev sIsConstructor : Stmt := top 32
abbrev pIsConstructor : List Str := ["value"]
abbrev nIsConstructor : List Str := ["value"]
theorem scIsConstructor : FnScope nIsConstructor pIsConstructor (defScope sIsConstructor) := ⟨rfl, rfl, rfl, by decide +kernel, rfl, by decide +kernel, by decide +kernel⟩
theorem bIsConstructor (kV doc pm : Value) (an : Option Addr) (cdv ct : Value) (us : List Value) (hl : us.length = pIsConstructor.length) : bindArgs (PySem.W.fnOf "is_constructor" "is_constructor" (defArgs sIsConstructor) (defBody sIsConstructor) (defScope sIsConstructor) .none kV doc pm an cdv ct) ⟨us, []⟩ = pure ((pIsConstructor).zip us) := match us, hl with | [_], _ => rfl
abbrev sAreTraits : Stmt := top 33
abbrev pAreTraits : List Str := ["value"]
abbrev nAreTraits : List Str := ["value", "earlier", "trait", "name", "form", "below", "one", "k"]
theorem scAreTraits : FnScope nAreTraits pAreTraits (defScope sAreTraits) := ⟨rfl, rfl, rfl, by decide +kernel, rfl, by decide +kernel, by decide +kernel⟩
theorem bAreTraits (kV doc pm : Value) (an : Option Addr) (cdv ct : Value) (us : List Value) (hl : us.length = pAreTraits.length) : bindArgs (PySem.W.fnOf "are_traits" "are_traits" (defArgs sAreTraits) (defBody sAreTraits) (defScope sAreTraits) .none kV doc pm an cdv ct) ⟨us, []⟩ = pure ((pAreTraits).zip us) := match us, hl with | [_], _ => rfl
abbrev sIsWorld : Stmt := top 34
abbrev pIsWorld : List Str := ["value"]
abbrev nIsWorld : List Str := ["value", "some", "one", "k", "name", "parts"]
theorem scIsWorld : FnScope nIsWorld pIsWorld (defScope sIsWorld) := ⟨rfl, rfl, rfl, by decide +kernel, rfl, by decide +kernel, by decide +kernel⟩
theorem bIsWorld (kV doc pm : Value) (an : Option Addr) (cdv ct : Value) (us : List Value) (hl : us.length = pIsWorld.length) : bindArgs (PySem.W.fnOf "is_world" "is_world" (defArgs sIsWorld) (defBody sIsWorld) (defScope sIsWorld) .none kV doc pm an cdv ct) ⟨us, []⟩ = pure ((pIsWorld).zip us) := match us, hl with | [_], _ => rfl
abbrev sCheckWorld : Stmt := top 35
abbrev pCheckWorld : List Str := ["value"]
abbrev nCheckWorld : List Str := ["value"]
theorem scCheckWorld : FnScope nCheckWorld pCheckWorld (defScope sCheckWorld) := ⟨rfl, rfl, rfl, by decide +kernel, rfl, by decide +kernel, by decide +kernel⟩
theorem bCheckWorld (kV doc pm : Value) (an : Option Addr) (cdv ct : Value) (us : List Value) (hl : us.length = pCheckWorld.length) : bindArgs (PySem.W.fnOf "check_world" "check_world" (defArgs sCheckWorld) (defBody sCheckWorld) (defScope sCheckWorld) .none kV doc pm an cdv ct) ⟨us, []⟩ = pure ((pCheckWorld).zip us) := match us, hl with | [_], _ => rfl
abbrev sIsSortWith : Stmt := top 36
abbrev pIsSortWith : List Str := ["world", "value", "names"]
abbrev nIsSortWith : List Str := ["world", "value", "names", "part"]
theorem scIsSortWith : FnScope nIsSortWith pIsSortWith (defScope sIsSortWith) := ⟨rfl, rfl, rfl, by decide +kernel, rfl, by decide +kernel, by decide +kernel⟩
theorem bIsSortWith (kV doc pm : Value) (an : Option Addr) (cdv ct : Value) (us : List Value) (hl : us.length = pIsSortWith.length) : bindArgs (PySem.W.fnOf "is_sort_with" "is_sort_with" (defArgs sIsSortWith) (defBody sIsSortWith) (defScope sIsSortWith) .none kV doc pm an cdv ct) ⟨us, []⟩ = pure ((pIsSortWith).zip us) := match us, hl with | [_, _, _], _ => rfl
abbrev sSizeIn : Stmt := top 37
abbrev pSizeIn : List Str := ["sort"]
abbrev nSizeIn : List Str := ["sort", "part"]
theorem scSizeIn : FnScope nSizeIn pSizeIn (defScope sSizeIn) := ⟨rfl, rfl, rfl, by decide +kernel, rfl, by decide +kernel, by decide +kernel⟩
theorem bSizeIn (kV doc pm : Value) (an : Option Addr) (cdv ct : Value) (us : List Value) (hl : us.length = pSizeIn.length) : bindArgs (PySem.W.fnOf "size_in" "size_in" (defArgs sSizeIn) (defBody sSizeIn) (defScope sSizeIn) .none kV doc pm an cdv ct) ⟨us, []⟩ = pure ((pSizeIn).zip us) := match us, hl with | [_], _ => rfl
abbrev sCheckSort : Stmt := top 38
abbrev pCheckSort : List Str := ["world", "sort", "names"]
abbrev nCheckSort : List Str := ["world", "sort", "names"]
theorem scCheckSort : FnScope nCheckSort pCheckSort (defScope sCheckSort) := ⟨rfl, rfl, rfl, by decide +kernel, rfl, by decide +kernel, by decide +kernel⟩
theorem bCheckSort (kV doc pm : Value) (an : Option Addr) (cdv ct : Value) (us : List Value) (hl : us.length = pCheckSort.length) : bindArgs (PySem.W.fnOf "check_sort" "check_sort" (defArgs sCheckSort) (defBody sCheckSort) (defScope sCheckSort) .none kV doc pm an cdv ct) ⟨us, []⟩ = pure ((pCheckSort).zip us) := match us, hl with | [_, _, _], _ => rfl
abbrev sSortText : Stmt := top 40
abbrev pSortText : List Str := ["sort"]
abbrev nSortText : List Str := ["sort", "part"]
theorem scSortText : FnScope nSortText pSortText (defScope sSortText) := ⟨rfl, rfl, rfl, by decide +kernel, rfl, by decide +kernel, by decide +kernel⟩
theorem bSortText (kV doc pm : Value) (an : Option Addr) (cdv ct : Value) (us : List Value) (hl : us.length = pSortText.length) : bindArgs (PySem.W.fnOf "sort_text" "sort_text" (defArgs sSortText) (defBody sSortText) (defScope sSortText) .none kV doc pm an cdv ct) ⟨us, []⟩ = pure ((pSortText).zip us) := match us, hl with | [_], _ => rfl
abbrev sFormatSort : Stmt := top 41
abbrev pFormatSort : List Str := ["world", "sort"]
abbrev nFormatSort : List Str := ["world", "sort"]
theorem scFormatSort : FnScope nFormatSort pFormatSort (defScope sFormatSort) := ⟨rfl, rfl, rfl, by decide +kernel, rfl, by decide +kernel, by decide +kernel⟩
theorem bFormatSort (kV doc pm : Value) (an : Option Addr) (cdv ct : Value) (us : List Value) (hl : us.length = pFormatSort.length) : bindArgs (PySem.W.fnOf "format_sort" "format_sort" (defArgs sFormatSort) (defBody sFormatSort) (defScope sFormatSort) .none kV doc pm an cdv ct) ⟨us, []⟩ = pure ((pFormatSort).zip us) := match us, hl with | [_, _], _ => rfl
abbrev sPiecesOf : Stmt := top 42
abbrev pPiecesOf : List Str := ["text"]
abbrev nPiecesOf : List Str := ["text", "found", "depth", "sign"]
theorem scPiecesOf : FnScope nPiecesOf pPiecesOf (defScope sPiecesOf) := ⟨rfl, rfl, rfl, by decide +kernel, rfl, by decide +kernel, by decide +kernel⟩
theorem bPiecesOf (kV doc pm : Value) (an : Option Addr) (cdv ct : Value) (us : List Value) (hl : us.length = pPiecesOf.length) : bindArgs (PySem.W.fnOf "pieces_of" "pieces_of" (defArgs sPiecesOf) (defBody sPiecesOf) (defScope sPiecesOf) .none kV doc pm an cdv ct) ⟨us, []⟩ = pure ((pPiecesOf).zip us) := match us, hl with | [_], _ => rfl
abbrev sReadSort : Stmt := top 43
abbrev pReadSort : List Str := ["text", "depth"]
abbrev nReadSort : List Str := ["text", "depth", "root", "piece"]
theorem scReadSort : FnScope nReadSort pReadSort (defScope sReadSort) := ⟨rfl, rfl, rfl, by decide +kernel, rfl, by decide +kernel, by decide +kernel⟩
theorem bReadSort (kV doc pm : Value) (an : Option Addr) (cdv ct : Value) (us : List Value) (hl : us.length = pReadSort.length) : bindArgs (PySem.W.fnOf "read_sort" "read_sort" (defArgs sReadSort) (defBody sReadSort) (defScope sReadSort) .none kV doc pm an cdv ct) ⟨us, []⟩ = pure ((pReadSort).zip us) := match us, hl with | [_, _], _ => rfl
abbrev sParseSort : Stmt := top 44
abbrev pParseSort : List Str := ["world", "text"]
abbrev nParseSort : List Str := ["world", "text", "found"]
theorem scParseSort : FnScope nParseSort pParseSort (defScope sParseSort) := ⟨rfl, rfl, rfl, by decide +kernel, rfl, by decide +kernel, by decide +kernel⟩
theorem bParseSort (kV doc pm : Value) (an : Option Addr) (cdv ct : Value) (us : List Value) (hl : us.length = pParseSort.length) : bindArgs (PySem.W.fnOf "parse_sort" "parse_sort" (defArgs sParseSort) (defBody sParseSort) (defScope sParseSort) .none kV doc pm an cdv ct) ⟨us, []⟩ = pure ((pParseSort).zip us) := match us, hl with | [_, _], _ => rfl
abbrev sLawTown : Stmt := top 46
abbrev pLawTown : List Str := ["_law_script"]
abbrev nLawTown : List Str := ["_law_script"]
theorem scLawTown : FnScope nLawTown pLawTown (defScope sLawTown) := ⟨rfl, rfl, rfl, by decide +kernel, rfl, by decide +kernel, by decide +kernel⟩
theorem bLawTown (kV doc pm : Value) (an : Option Addr) (cdv ct : Value) (us : List Value) (hl : us.length = pLawTown.length) : bindArgs (PySem.W.fnOf "_law_town" "_law_town" (defArgs sLawTown) (defBody sLawTown) (defScope sLawTown) .none kV doc pm an cdv ct) ⟨us, []⟩ = pure ((pLawTown).zip us) := match us, hl with | [_], _ => rfl
abbrev sLawDraw : Stmt := top 47
abbrev pLawDraw : List Str := ["_law_script", "_law_town_here", "_law_limit"]
abbrev nLawDraw : List Str := ["_law_script", "_law_town_here", "_law_limit", "_law_at", "_law_left", "_law_number"]
theorem scLawDraw : FnScope nLawDraw pLawDraw (defScope sLawDraw) := ⟨rfl, rfl, rfl, by decide +kernel, rfl, by decide +kernel, by decide +kernel⟩
theorem bLawDraw (kV doc pm : Value) (an : Option Addr) (cdv ct : Value) (us : List Value) (hl : us.length = pLawDraw.length) : bindArgs (PySem.W.fnOf "_law_draw" "_law_draw" (defArgs sLawDraw) (defBody sLawDraw) (defScope sLawDraw) .none kV doc pm an cdv ct) ⟨us, []⟩ = pure ((pLawDraw).zip us) := match us, hl with | [_, _, _], _ => rfl
abbrev sLawPick : Stmt := top 48
abbrev pLawPick : List Str := ["_law_script", "_law_town_here", "_law_choices"]
abbrev nLawPick : List Str := ["_law_script", "_law_town_here", "_law_choices"]
theorem scLawPick : FnScope nLawPick pLawPick (defScope sLawPick) := ⟨rfl, rfl, rfl, by decide +kernel, rfl, by decide +kernel, by decide +kernel⟩
theorem bLawPick (kV doc pm : Value) (an : Option Addr) (cdv ct : Value) (us : List Value) (hl : us.length = pLawPick.length) : bindArgs (PySem.W.fnOf "_law_pick" "_law_pick" (defArgs sLawPick) (defBody sLawPick) (defScope sLawPick) .none kV doc pm an cdv ct) ⟨us, []⟩ = pure ((pLawPick).zip us) := match us, hl with | [_, _, _], _ => rfl
abbrev sLawOutcome : Stmt := top 49
abbrev pLawOutcome : List Str := ["_law_way", "_law_arguments"]
abbrev nLawOutcome : List Str := ["_law_way", "_law_arguments", "_law_caught", "_law_result", "error"]
theorem scLawOutcome : FnScope nLawOutcome pLawOutcome (defScope sLawOutcome) := ⟨rfl, rfl, rfl, by decide +kernel, rfl, by decide +kernel, by decide +kernel⟩
theorem bLawOutcome (kV doc pm : Value) (an : Option Addr) (cdv ct : Value) (us : List Value) (hl : us.length = pLawOutcome.length) : bindArgs (PySem.W.fnOf "_law_outcome" "_law_outcome" (defArgs sLawOutcome) (defBody sLawOutcome) (defScope sLawOutcome) .none kV doc pm an cdv ct) ⟨us, []⟩ = pure ((pLawOutcome).zip us) := match us, hl with | [_, _], _ => rfl
abbrev sLawName : Stmt := top 50
abbrev pLawName : List Str := ["_law_caught"]
abbrev nLawName : List Str := ["_law_caught", "_law_found"]
theorem scLawName : FnScope nLawName pLawName (defScope sLawName) := ⟨rfl, rfl, rfl, by decide +kernel, rfl, by decide +kernel, by decide +kernel⟩
theorem bLawName (kV doc pm : Value) (an : Option Addr) (cdv ct : Value) (us : List Value) (hl : us.length = pLawName.length) : bindArgs (PySem.W.fnOf "_law_name" "_law_name" (defArgs sLawName) (defBody sLawName) (defScope sLawName) .none kV doc pm an cdv ct) ⟨us, []⟩ = pure ((pLawName).zip us) := match us, hl with | [_], _ => rfl
abbrev sLawRaises : Stmt := top 51
abbrev pLawRaises : List Str := ["_law_name_here"]
abbrev nLawRaises : List Str := ["_law_name_here", "_law_names"]
theorem scLawRaises : FnScope nLawRaises pLawRaises (defScope sLawRaises) := ⟨rfl, rfl, rfl, by decide +kernel, rfl, by decide +kernel, by decide +kernel⟩
theorem bLawRaises (kV doc pm : Value) (an : Option Addr) (cdv ct : Value) (us : List Value) (hl : us.length = pLawRaises.length) : bindArgs (PySem.W.fnOf "_law_raises" "_law_raises" (defArgs sLawRaises) (defBody sLawRaises) (defScope sLawRaises) .none kV doc pm an cdv ct) ⟨us, []⟩ = pure ((pLawRaises).zip us) := match us, hl with | [_], _ => rfl
abbrev sLawWorld : Stmt := top 52
abbrev pLawWorld : List Str := ["_law_script", "_law_town_here"]
abbrev nLawWorld : List Str := ["_law_script", "_law_town_here", "_law_rows", "_law_traits", "_law_earlier", "_law_name_here", "_law_below", "_law_form", "_law_one"]
theorem scLawWorld : FnScope nLawWorld pLawWorld (defScope sLawWorld) := ⟨rfl, rfl, rfl, by decide +kernel, rfl, by decide +kernel, by decide +kernel⟩
theorem bLawWorld (kV doc pm : Value) (an : Option Addr) (cdv ct : Value) (us : List Value) (hl : us.length = pLawWorld.length) : bindArgs (PySem.W.fnOf "_law_world" "_law_world" (defArgs sLawWorld) (defBody sLawWorld) (defScope sLawWorld) .none kV doc pm an cdv ct) ⟨us, []⟩ = pure ((pLawWorld).zip us) := match us, hl with | [_, _], _ => rfl
abbrev sLawCall : Stmt := top 53
abbrev pLawCall : List Str := ["_law_way", "_law_arguments"]
abbrev nLawCall : List Str := ["_law_way", "_law_arguments"]
theorem scLawCall : FnScope nLawCall pLawCall (defScope sLawCall) := ⟨rfl, rfl, rfl, by decide +kernel, rfl, by decide +kernel, by decide +kernel⟩
theorem bLawCall (kV doc pm : Value) (an : Option Addr) (cdv ct : Value) (us : List Value) (hl : us.length = pLawCall.length) : bindArgs (PySem.W.fnOf "_law_call" "_law_call" (defArgs sLawCall) (defBody sLawCall) (defScope sLawCall) .none kV doc pm an cdv ct) ⟨us, []⟩ = pure ((pLawCall).zip us) := match us, hl with | [_, _], _ => rfl
abbrev sLawNamed : Stmt := top 54
abbrev pLawNamed : List Str := ["_law_script", "_law_town_here", "_law_world_here", "_law_depth"]
abbrev nLawNamed : List Str := ["_law_script", "_law_town_here", "_law_world_here", "_law_depth", "_law_name_here", "_law_parts", "_law_row", "_law_k"]
theorem scLawNamed : FnScope nLawNamed pLawNamed (defScope sLawNamed) := ⟨rfl, rfl, rfl, by decide +kernel, rfl, by decide +kernel, by decide +kernel⟩
theorem bLawNamed (kV doc pm : Value) (an : Option Addr) (cdv ct : Value) (us : List Value) (hl : us.length = pLawNamed.length) : bindArgs (PySem.W.fnOf "_law_named" "_law_named" (defArgs sLawNamed) (defBody sLawNamed) (defScope sLawNamed) .none kV doc pm an cdv ct) ⟨us, []⟩ = pure ((pLawNamed).zip us) := match us, hl with | [_, _, _, _], _ => rfl
abbrev sLawLine : Stmt := top 55
abbrev pLawLine : List Str := ["_law_sort"]
abbrev nLawLine : List Str := ["_law_sort", "_law_part"]
theorem scLawLine : FnScope nLawLine pLawLine (defScope sLawLine) := ⟨rfl, rfl, rfl, by decide +kernel, rfl, by decide +kernel, by decide +kernel⟩
theorem bLawLine (kV doc pm : Value) (an : Option Addr) (cdv ct : Value) (us : List Value) (hl : us.length = pLawLine.length) : bindArgs (PySem.W.fnOf "_law_line" "_law_line" (defArgs sLawLine) (defBody sLawLine) (defScope sLawLine) .none kV doc pm an cdv ct) ⟨us, []⟩ = pure ((pLawLine).zip us) := match us, hl with | [_], _ => rfl
abbrev sLawIs : Stmt := top 56
abbrev pLawIs : List Str := ["_law_world_here", "_law_sort"]
abbrev nLawIs : List Str := ["_law_world_here", "_law_sort", "_law_part"]
theorem scLawIs : FnScope nLawIs pLawIs (defScope sLawIs) := ⟨rfl, rfl, rfl, by decide +kernel, rfl, by decide +kernel, by decide +kernel⟩
theorem bLawIs (kV doc pm : Value) (an : Option Addr) (cdv ct : Value) (us : List Value) (hl : us.length = pLawIs.length) : bindArgs (PySem.W.fnOf "_law_is" "_law_is" (defArgs sLawIs) (defBody sLawIs) (defScope sLawIs) .none kV doc pm an cdv ct) ⟨us, []⟩ = pure ((pLawIs).zip us) := match us, hl with | [_, _], _ => rfl
abbrev sLaw : Stmt := top 57
abbrev pLaw : List Str := ["_law_script"]
abbrev nLaw : List Str := ["_law_script", "_law_town_here", "_law_world_here", "_law_k", "_law_sort", "_law_line_here", "_law_j", "_law_at", "_law_sign", "_law_other", "_law_told", "_law_bads", "_law_bad"]
theorem scLaw : FnScope nLaw pLaw (defScope sLaw) := ⟨rfl, rfl, rfl, by decide +kernel, rfl, by decide +kernel, by decide +kernel⟩
theorem bLaw (kV doc pm : Value) (an : Option Addr) (cdv ct : Value) (us : List Value) (hl : us.length = pLaw.length) : bindArgs (PySem.W.fnOf "law" "law" (defArgs sLaw) (defBody sLaw) (defScope sLaw) .none kV doc pm an cdv ct) ⟨us, []⟩ = pure ((pLaw).zip us) := match us, hl with | [_], _ => rfl

/-! ### a def as it stands, a def as it is called -/
/-- the def x of the text stands as the module's x -/
structure Dn (K : PySem.W.Frag) (mg : Str → Option Value) (x : Str) (st : Stmt) : Prop where
  ex : ∃ f fd, Fun K x x st f fd ∧ mg x = some (.ref f)
/-- the module's x keeps the promise sp, by at most level k -/
structure Cal (P : Program) (w : World) (K : PySem.W.Frag) (mg : Str → Option Value) (base : Heap) (CX : CXT) (k : Nat) (x : Str) (ps : List Str) (sp : Sp) : Prop where
  ex : ∃ f fd, FnOk P w K mg base CX k f fd ps sp ∧ mg x = some (.ref f) ∧ PySem.W.keepIn K (.ref f) = true ∧ Binds K fd ps []
section
variable {P : Program} {w : World} {K : PySem.W.Frag} {mg : Str → Option Value} {base : Heap} {CX : CXT} {k : Nat} {x : Str} {ps : List Str} {sp : Sp}
theorem Cal.mono {j : Nat} (c : Cal P w K mg base CX j x ps sp) (h : j ≤ k) : Cal P w K mg base CX k x ps sp := by
  obtain ⟨f, fd, G, r⟩ := c.ex
  exact ⟨f, fd, G.mono h, r⟩
theorem Cal.imp {sp' : Sp} (c : Cal P w K mg base CX k x ps sp) (h : ∀ vs H Q E, sp' vs H Q E → sp vs H Q E) : Cal P w K mg base CX k x ps sp' := by
  obtain ⟨f, fd, G, r⟩ := c.ex
  exact ⟨f, fd, G.imp h, r⟩
/-- a def that raises nothing, by its body -/
theorem cal_of {st : Stmt} {N : List Str} (D : Dn K mg x st) (Sc : FnScope N ps (defScope st))
    (bd : ∀ (kV doc pm : Value) (an : Option Addr) (cdv ct : Value) (us : List Value), us.length = ps.length → bindArgs (PySem.W.fnOf x x (defArgs st) (defBody st) (defScope st) .none kV doc pm an cdv ct) ⟨us, []⟩ = pure (ps.zip us))
    (len : ∀ vs H Q E, sp vs H Q E → vs.length = ps.length)
    (body : ∀ (f : Addr) (cdv : Value) (A : Around) (outer : List Env) (s : Shared) (H : Hp) (vs : List V) (Q : VK) (E : XK), Room k (A.deeper (envOfC x (defScope st) s.heap.objs.size f cdv)) → sp vs H Q E →
      ∃ t, PSs (cxOf CX0 P w K mg base N x (defScope st) f cdv A outer s H E).nox (defBody st) t ∧ t { nx := fun _ H' => Q .non H', rt := Q } (start N vs) H) : Cal P w K mg base CX0 (k + 1) x ps sp := by
  obtain ⟨f, fd, F, hm⟩ := D.ex
  exact ⟨f, fd, F.ok Sc len (body f), hm, F.kp, F.binds bd⟩
/-- a def that may raise -/
theorem cal_ofX {st : Stmt} {N : List Str} (D : Dn K mg x st) (Sc : FnScope N ps (defScope st))
    (bd : ∀ (kV doc pm : Value) (an : Option Addr) (cdv ct : Value) (us : List Value), us.length = ps.length → bindArgs (PySem.W.fnOf x x (defArgs st) (defBody st) (defScope st) .none kV doc pm an cdv ct) ⟨us, []⟩ = pure (ps.zip us))
    (len : ∀ vs H Q E, sp vs H Q E → vs.length = ps.length)
    (body : ∀ (f : Addr) (cdv : Value) (A : Around) (outer : List Env) (s : Shared) (H : Hp) (vs : List V) (Q : VK) (E : XK), Room k (A.deeper (envOfC x (defScope st) s.heap.objs.size f cdv)) → sp vs H Q E →
      ∃ t, PSs (cxOf (L2.CX P w) P w K mg base N x (defScope st) f cdv A outer s H E) (defBody st) t ∧ t { nx := fun _ H' => Q .non H', rt := Q } (start N vs) H) : Cal P w K mg base (L2.CX P w) (k + 1) x ps sp := by
  obtain ⟨f, fd, F, hm⟩ := D.ex
  exact ⟨f, fd, F.okX Sc len (body f), hm, F.kp, F.binds bd⟩
end
section
variable {X : Cx} {k : Nat} {x : Str} {ps : List Str} {sp : Sp} {e : Expr} {es : List Expr} {p pos : Pos} {t : TA} {te : TE}
/-- a call of such a def -/
theorem pe_cal (c : Cal X.prog X.w X.K X.mg X.base CX0 k x ps sp) (hr : Room k X.A) (ha : PA X (e :: es) t) (hg : Gl X x := by rfl) (hdb : (x == ("__debug__" : Str)) = false := by decide)
    (he : starEach (e :: es) X.env = (false, eval e X.env) :: starEach es X.env := by rfl) (hpl : (backTo pos (starEach es X.env)).any (·.1) = false := by rfl) : PE X (.Call (.Name x p) (e :: es) [] pos) (tCall sp [] E0 t) := by
  obtain ⟨f, fd, G, hm, hk, hb⟩ := c.ex
  exact pe_call G hr hg hm hk hb .nil pass0 ha hdb he hpl
/-- a call of a def that may raise, where the wish is W -/
theorem pe_calX {W : WX} (tk : Takes X W) (c : Cal X.prog X.w X.K X.mg X.base (L2.CX X.prog X.w) k x ps sp) (hr : Room k X.A) (ha : PA X (e :: es) t) (hg : Gl X x := by rfl) (hdb : (x == ("__debug__" : Str)) = false := by decide)
    (he : starEach (e :: es) X.env = (false, eval e X.env) :: starEach es X.env := by rfl) (hpl : (backTo pos (starEach es X.env)).any (·.1) = false := by rfl) : PE X (.Call (.Name x p) (e :: es) [] pos) (tCallS sp (WE W) t) := by
  obtain ⟨f, fd, G, hm, hk, hb⟩ := c.ex
  exact pe_callS G hr hg hm hk hb (fun σ => passAt tk σ) ha hdb he hpl
/-- isinstance(x, T), T a built-in class -/
def rIsN (K : PySem.W.Frag) : List V → Hp → VK → Prop := fun xs H Q => ∃ (x : V) (n t : String) (b : Bool), xs = [x, .ty n] ∧ TyX K H x (.type t) ∧ kitB t n = some b ∧ Q (.bl b) H
theorem call_isN : CallR X (.builtin "isinstance") (rIsN X.K) := by
  intro pins s σ H xs us Q I r h
  obtain ⟨x, n, t, b, rfl, ty, k, q⟩ := h
  exact call_isi pins s σ H _ us Q I r ⟨x, .ty n, .type t, .type n, b, rfl, .ty n, ty, kit_ty k, q⟩
/-- isinstance(e, T), T a built-in class -/
theorem pe_isi {T : Str} {n : String} {p2 : Pos} (he : PE X e te) (h1 : X.mg "isinstance" = none) (h2 : X.mg T = none) (hv : bootBuiltins T = some (.type n)) (g1 : Gl X "isinstance" := by rfl) (g2 : Gl X T := by rfl)
    (hn : T ≠ "__name__" := by decide) (hd : (T == ("__debug__" : Str)) = false := by decide)
    (e1 : starEach (e :: [Expr.Name T p2]) X.env = (false, eval e X.env) :: starEach [Expr.Name T p2] X.env := by rfl) (e2 : starEach [Expr.Name T p2] X.env = (false, eval (Expr.Name T p2) X.env) :: starEach [] X.env := by rfl)
    (e3 : (backTo pos (starEach [Expr.Name T p2] X.env)).any (·.1) = false := by rfl) :
    PE X (.Call (.Name "isinstance" p) [e, .Name T p2] [] pos) (tCB (rIsN X.K) (tCons te (tCons (tC (.ty n)) tNil))) :=
  pe_callB call_isN g1 h1 boot_isinstance (pa_cons he (pa_cons (pe_bltn g2 h2 hv rfl hn hd) pa_nil e2) e1) (he := e1) (hpl := e3)
end
theorem rel_str (x : Str) (u : Tok) : RelV (.str x) (.str x u) := ⟨_, rfl⟩
theorem ty_str {K : PySem.W.Frag} {H : Hp} (x : Str) : TyX K H (.str x) (.type "str") := .base (.str x)
theorem ty_int {K : PySem.W.Frag} {H : Hp} (x : Int) : TyX K H (.int x) (.type "int") := .base (.int x)
theorem ty_tup {K : PySem.W.Frag} {H : Hp} {a : Addr} {xs : List V} (h : H a = some (.tup xs)) : TyX K H (.ref a) (.type "tuple") := .base (.tup h)
theorem ty_lst {K : PySem.W.Frag} {H : Hp} {a : Addr} {xs : List V} (h : H a = some (.lst xs)) : TyX K H (.ref a) (.type "list") := .base (.lst h)
theorem k_ss : kitB "str" "str" = some true := by decide +kernel
theorem k_st : kitB "str" "tuple" = some false := by decide +kernel
theorem k_ts : kitB "tuple" "str" = some false := by decide +kernel
theorem k_tt : kitB "tuple" "tuple" = some true := by decide +kernel
theorem k_ii : kitB "int" "int" = some true := by decide +kernel
theorem k_ib : kitB "int" "bool" = some false := by decide +kernel
theorem b_len : bootBuiltins "len" = some (.builtin "len") := by decide +kernel
theorem b_all : bootBuiltins "all" = some (.builtin "all") := by decide +kernel
theorem b_any : bootBuiltins "any" = some (.builtin "any") := by decide +kernel
theorem b_sum : bootBuiltins "sum" = some (.builtin "sum") := by decide +kernel
theorem b_max : bootBuiltins "max" = some (.builtin "max") := by decide +kernel
/-! ### tests whose answer is known or open -/
theorem iteD {c A B : Prop} [Decidable c] (h1 : c → A) (h2 : ¬ c → B) : if decide c = true then A else B := by
  by_cases h : c
  · rw [if_pos (decide_eq_true h)]
    exact h1 h
  · rw [if_neg (by rw [decide_eq_false h]; exact Bool.false_ne_true)]
    exact h2 h
theorem iteDT {c A B : Prop} [Decidable c] (h : c) (a : A) : if decide c = true then A else B := iteD (fun _ => a) fun n => absurd h n
theorem iteDF {c A B : Prop} [Decidable c] (h : ¬ c) (b : B) : if decide c = true then A else B := iteD (fun n => absurd n h) fun _ => b
theorem iteND {c A B : Prop} [Decidable c] (h1 : ¬ c → A) (h2 : c → B) : if (!decide c) = true then A else B := by
  by_cases h : c
  · rw [decide_eq_true h]
    exact iteF (h2 h)
  · rw [decide_eq_false h]
    exact iteT (h1 h)
theorem iteNT {c A B : Prop} [Decidable c] (h : ¬ c) (a : A) : if (!decide c) = true then A else B := iteND (fun _ => a) fun n => absurd n h
theorem iteNF {c A B : Prop} [Decidable c] (h : c) (b : B) : if (!decide c) = true then A else B := iteND (fun n => absurd h n) fun _ => b
theorem iteB {b : Bool} {A B : Prop} (h1 : b = true → A) (h2 : b = false → B) : if b = true then A else B := by
  cases b with
  | true => exact iteT (h1 rfl)
  | false => exact iteF (h2 rfl)
theorem iteE {b c : Bool} {A B : Prop} (e : b = c) (h : if c = true then A else B) : if b = true then A else B := by
  rw [e]
  exact h
theorem str_nil : ("" : Str) = SX.S [] := by decide +kernel
/-- how the module's names stand -/
structure Txt (mg : Str → Option Value) : Prop where
  isi : mg "isinstance" = none
  int : mg "int" = none
  bool : mg "bool" = none
  str : mg "str" = none
  tup : mg "tuple" = none
  lst : mg "list" = none
  dict : mg "dict" = none
  len : mg "len" = none
  all : mg "all" = none
  any : mg "any" = none
  sum : mg "sum" = none
  max : mg "max" = none
  sorted : mg "sorted" = none
  range : mg "range" = none
  val : mg "ValueError" = none
  small : ∃ t, mg "SMALL" = some (.str "abcdefghijklmnopqrstuvwxyz" t)
  great : ∃ t, mg "GREAT" = some (.str "ABCDEFGHIJKLMNOPQRSTUVWXYZ" t)
  names : ∃ t, mg "NAMES" = some (.str "abcdefgh" t)
end Ts

/-! is_between, are_small, is_constructor -/
namespace Ts
open PySem PySem.Spec PyProof.Rows L2
section
variable {P : Program} {w : PySem.World} {K : PySem.W.Frag} {mg : Str → Option Value} {base : Heap}
/-! ### is_between -/
def spBetween : Sp := fun vs H Q _ => ∃ k lo hi : Int, vs = [.int k, .int lo, .int hi] ∧ Q (.bl (decide (lo ≤ k) && decide (k ≤ hi))) H
theorem ok_is_between (T : Txt mg) (D : Dn K mg "is_between" sIsBetween) : Cal P w K mg base CX0 1 "is_between" pIsBetween spBetween := by
  refine cal_of D scIsBetween bIsBetween (fun vs H Q E h => ?_) fun f cdv A outer s H vs Q E hr h => ?_
  · obtain ⟨k, lo, hi, rfl, _⟩ := h
    rfl
  · obtain ⟨k, lo, hi, rfl, q⟩ := h
    refine ⟨_, pss_one (ps_ret (pe_and (pe_isi (pv 0) T.isi T.int boot_int) (pe_and (pe_not (pe_isi (pv 0) T.isi T.bool boot_bool)) (pe_one (pe_chain op_le op_le (pv 1) (pv 0) (pv 2)))))), ?_⟩
    refine ⟨_, rfl, _, _, _, _, rfl, ty_int _, k_ii, true, rfl, iteT ⟨_, rfl, _, _, _, _, rfl, ty_int _, k_ib, false, rfl, true, rfl, iteT ?_⟩⟩
    refine ⟨_, rfl, _, rfl, _, _, rfl, rfl, _, rfl, ?_⟩
    by_cases c : lo ≤ k
    · rw [decide_eq_true c] at q ⊢
      refine iteT ⟨_, rfl, _, _, rfl, rfl, ?_⟩
      rw [Bool.true_and] at q
      exact q
    · rw [decide_eq_false c] at q ⊢
      exact iteF q
/-! ### are_small -/
abbrev smallL : List Nat := [97, 98, 99, 100, 101, 102, 103, 104, 105, 106, 107, 108, 109, 110, 111, 112, 113, 114, 115, 116, 117, 118, 119, 120, 121, 122]
abbrev greatL : List Nat := [65, 66, 67, 68, 69, 70, 71, 72, 73, 74, 75, 76, 77, 78, 79, 80, 81, 82, 83, 84, 85, 86, 87, 88, 89, 90]
theorem small_is : ("abcdefghijklmnopqrstuvwxyz" : Str).cps.toList = smallL := by decide +kernel
theorem great_is : ("ABCDEFGHIJKLMNOPQRSTUVWXYZ" : Str).cps.toList = greatL := by decide +kernel
def smallB (t : Tx) (lo hi : Int) : Bool := decide (lo ≤ (t.length : Int)) && decide ((t.length : Int) ≤ hi) && t.all fun c => decide (c ∈ smallL)
def spSmall : Sp := fun vs H Q _ => ∃ (t : Tx) (lo hi : Int), vs = [.str (S t), .int lo, .int hi] ∧ t.length ≤ 1000 ∧ ∀ H', Same H H' → Q (.bl (smallB t lo hi)) H'
theorem ok_are_small (T : Txt mg) (D : Dn K mg "are_small" sAreSmall) : Cal P w K mg base CX0 1 "are_small" pAreSmall spSmall := by
  refine cal_of D scAreSmall bAreSmall (fun vs H Q E h => ?_) fun f cdv A outer s H vs Q E hr h => ?_
  · obtain ⟨t, lo, hi, rfl, _⟩ := h
    rfl
  · obtain ⟨t, lo, hi, rfl, hz, q⟩ := h
    obtain ⟨u, hu⟩ := T.small
    refine ⟨_, pss_one (ps_ret (pe_and (pe_isi (pv 0) T.isi T.str boot_str) (pe_and (pe_chain op_le op_le (pv 1) (pe_callB call_len_str (by rfl) T.len b_len (pa_cons (pv 0) pa_nil)) (pv 2))
      (pe_one (pe_callB (cr_all rfl) (by rfl) T.all b_all (pa_cons (pe_lc (own := [("sign", 3)]) (g := gName 3) (tt := tYes) rfl scAreSmall.nd (pi_str (pv 0)) (blkOk_by (N := nAreSmall) (sc := defScope sAreSmall) (by decide +kernel))
        (fun _ _ _ _ _ => pg_name (i := 3) scAreSmall.nd rfl (Or.inl rfl)) (fun _ _ _ _ _ => pts_nil) (fun _ _ _ _ _ => pe_cmpR op_in_sign (pv 3) (pe_glob rfl hu (rel_str _ _)) (by rfl))) pa_nil)))))), ?_⟩
    have hz' : (S t).length ≤ sizeLine := by
      rw [SX.S_len]
      exact Nat.le_trans hz (by decide)
    have hl : ((S t).length : Int) = (t.length : Int) := by rw [SX.S_len]
    unfold smallB at q
    refine ⟨_, rfl, _, _, _, _, rfl, ty_str _, k_ss, true, rfl, iteT ?_⟩
    refine ⟨_, rfl, _, rfl, S t, rfl, hz', _, _, rfl, rfl, _, rfl, ?_⟩
    rw [hl]
    refine iteD (fun c1 => ?_) fun c1 => ?_
    · rw [decide_eq_true c1, Bool.true_and] at q
      refine ⟨_, rfl, _, _, rfl, rfl, _, rfl, iteD (fun c2 => ?_) fun c2 => ?_⟩
      · rw [decide_eq_true c2, Bool.true_and] at q
        refine ⟨_, rfl, S t, rfl, fun D hD => lc_name (turns_str t) (fun i y _ => y = .bl (decide (t.getD i 0 ∈ smallL))) hD (by omega) (fun _ _ => trivial) (fun _ _ _ _ _ h => h) (fun _ => rfl) (fun i H' hi s1 H2 s2 Q2 k => ?_) (fun H' ys s1 h1 hl1 hp => ?_)⟩
        · refine ⟨_, rfl, _, _, rfl, rfl, ?_⟩
          rw [small_is]
          exact k _ _ (Same.refl _) rfl
        · have e := bools_of hl1 hp
          subst e
          refine ⟨D, _, rfl, SqL.of h1, ?_⟩
          rw [range_map t 0 (fun c => decide (c ∈ smallL)), List.all_map]
          exact q _ s1
      · rw [decide_eq_false c2, Bool.false_and] at q
        exact q _ (Same.refl _)
    · rw [decide_eq_false c1, Bool.false_and, Bool.false_and] at q
      exact ⟨false, rfl, iteF (q _ (Same.refl _))⟩
/-! ### is_constructor -/
def conOk (q : Tx × Nat) : Bool := match q.1 with
  | [] => false
  | c :: r => decide (c ∈ greatL) && smallB r 0 5 && decide (q.2 ≤ 2)
def spCon : Sp := fun vs H Q _ => ∃ (p : Addr) (q : Tx × Nat), vs = [.ref p] ∧ H p = some (.tup [.str (S q.1), .int (q.2 : Nat)]) ∧ conOk q = true ∧ ∀ H', Same H H' → Q (.bl true) H'
theorem ok_is_constructor (T : Txt mg) (D : Dn K mg "is_constructor" sIsConstructor) (C1 : Cal P w K mg base CX0 1 "are_small" pAreSmall spSmall) (C2 : Cal P w K mg base CX0 1 "is_between" pIsBetween spBetween) :
    Cal P w K mg base CX0 2 "is_constructor" pIsConstructor spCon := by
  refine cal_of D scIsConstructor bIsConstructor (fun vs H Q E h => ?_) fun f cdv A outer s H vs Q E hr h => ?_
  · obtain ⟨p, q, rfl, _⟩ := h
    rfl
  · obtain ⟨p, ⟨r, k⟩, rfl, hp, hc, q⟩ := h
    obtain ⟨u, hu⟩ := T.great
    obtain ⟨c, r, rfl⟩ : ∃ c r', r = c :: r' := by
      cases r with
      | nil => cases hc
      | cons c r => exact ⟨c, r, rfl⟩
    have hc : (decide (c ∈ greatL) && smallB r 0 5 && decide (k ≤ 2)) = true := hc
    rw [Bool.and_eq_true, Bool.and_eq_true] at hc
    obtain ⟨⟨g1, g2⟩, g3⟩ := hc
    have g3 : k ≤ 2 := of_decide_eq_true g3
    have hlen : r.length ≤ 5 := by
      unfold smallB at g2
      rw [Bool.and_eq_true, Bool.and_eq_true] at g2
      have := of_decide_eq_true g2.1.2
      omega
    refine ⟨_, pss_cons (ps_if (PW.pt (pw_or (pt_not (pt_val (pe_isi (pv 0) T.isi T.tup boot_tuple))) (pw_or (pt_cmpR op_ne (pe_callB call_len_seq (by rfl) T.len b_len (pa_cons (pv 0) pa_nil)) pe_int (nomark _))
        (pw_or (pt_not (pt_val (pe_isi (pe_ix ix_tup (pv 0) pe_int (fun _ _ => rfl)) T.isi T.str boot_str))) (pw_or1 (pt_cmpR op_eq (pe_ix ix_tup (pv 0) pe_int (fun _ _ => rfl)) pe_str (nomark _)))))))
        (pss_one (ps_ret pe_bl)) pss_nil)
      (pss_one (ps_ret (pe_and (pe_cmpR op_in_sign (pe_ix ix_str (pe_ix ix_tup (pv 0) pe_int (fun _ _ => rfl)) pe_int (fun _ _ => rfl)) (pe_glob rfl hu (rel_str _ _)) (by rfl))
        (pe_and (pe_cal C1 hr (pa_cons (pe_slice C8.sl_txt (pe_ix ix_tup (pv 0) pe_int (fun _ _ => rfl)) (po_some pe_int) po_none) (pa_cons pe_int (pa_cons pe_int pa_nil))))
          (pe_one (pe_cal C2 hr (pa_cons (pe_ix ix_tup (pv 0) pe_int (fun _ _ => rfl)) (pa_cons pe_int (pa_cons pe_int pa_nil)))))))))
      , ?_⟩
    have ht := SqT.of (K := K) hp
    have ne : ¬ V.str (S (c :: r)) = V.str "" := by
      intro z
      have z1 : (S (c :: r)) = ("" : Str) := V.str.inj z
      rw [str_nil] at z1
      have := SX.S_inj z1
      cases this
    have hz : (S (c :: r)).length ≤ sizeLine := by
      rw [SX.S_len, List.length_cons]
      exact Nat.le_trans (by omega : _ ≤ 6) (by decide)
    refine ⟨_, rfl, _, _, _, _, rfl, ty_tup hp, k_tt, true, rfl, iteF ?_⟩
    refine ⟨_, rfl, p, _, rfl, .inr ht, rfl, _, rfl, iteNF rfl ?_⟩
    refine ⟨_, rfl, p, _, _, _, rfl, rfl, ht, rfl, _, _, _, _, rfl, ty_str _, k_ss, true, rfl, iteF ?_⟩
    refine ⟨_, rfl, p, _, _, _, rfl, rfl, ht, rfl, rfl, _, rfl, iteDF ne ?_⟩
    -- value[0][0] in GREAT and are_small(value[0][1:], 0, 5) and is_between(value[1], 0, 2)
    refine ⟨_, rfl, p, _, _, _, rfl, rfl, ht, rfl, _, _, c, rfl, rfl, hz, atI_nat (j := 0) rfl, c, _, rfl, rfl, _, rfl, iteDT (by rw [great_is]; exact of_decide_eq_true g1) ?_⟩
    refine ⟨_, rfl, p, _, _, _, rfl, rfl, ht, rfl, _, rfl, S (c :: r), rfl, hz, r, 0, 5, ?_, by omega, fun H1 s1 => ?_⟩
    · rw [SX.slice_from (by decide)]
      rfl
    · refine ⟨_, rfl, ?_⟩
      rw [g2]
      refine iteT ⟨_, rfl, p, _, _, _, rfl, rfl, Same.tup s1 ht, rfl, _, _, _, rfl, ?_⟩
      have e : (decide ((0 : Int) ≤ ((k : Nat) : Int)) && decide (((k : Nat) : Int) ≤ 2)) = true := by
        rw [Bool.and_eq_true]
        exact ⟨decide_eq_true (by omega), decide_eq_true (by omega)⟩
      rw [e]
      exact q _ s1
end
end Ts

/-! size_in, sort_text, _law_line, is_sort_with, _law_is: the defs that go down a sort -/
namespace Ts
open PySem PySem.Spec PyProof.Rows L2
section
variable {P : Program} {w : PySem.World} {K : PySem.W.Frag} {mg : Str → Option Value} {base : Heap}
abbrev dT : T := .nm []
/-! ### size_in -/
def spSize (n : Nat) : Sp := fun vs H Q _ => ∃ (v : V) (t : T), vs = [v] ∧ At n H v t ∧ ∀ H', Same H H' → Q (.int (size t : Nat)) H'
theorem sum_cast : ∀ l : List Nat, ((l.map fun k : Nat => (k : Int)).sum) = ((l.sum : Nat) : Int)
  | [] => rfl
  | k :: l => by
    rw [List.map_cons, List.sum_cons, List.sum_cons, sum_cast l]
    omega
theorem ok_size_in (T : Txt mg) (D : Dn K mg "size_in" sSizeIn) : ∀ n, Cal P w K mg base CX0 (n + 1) "size_in" pSizeIn (spSize n)
  | 0 => by
    refine cal_of D scSizeIn bSizeIn (fun vs H Q E h => ?_) fun f cdv A outer s H vs Q E hr h => ?_
    · obtain ⟨v, t, rfl, _⟩ := h
      rfl
    · obtain ⟨v, t, rfl, z, _⟩ := h
      exact z.elim
  | n + 1 => by
    have C := ok_size_in T D n
    refine cal_of D scSizeIn bSizeIn (fun vs H Q E h => ?_) fun f cdv A outer s H vs Q E hr h => ?_
    · obtain ⟨v, t, rfl, _⟩ := h
      rfl
    · obtain ⟨v, t, rfl, z, q⟩ := h
      refine ⟨_, pss_one (ps_ret (pe_ifExp (pt_val (pe_isi (pv 0) T.isi T.str boot_str)) pe_int (pe_op op_add pe_int (pe_callB (cr_sum rfl) (by rfl) T.sum b_sum (pa_cons
        (pe_lc (own := [("part", 1)]) (g := gName 1) (tt := tYes) rfl scSizeIn.nd (pi_tup (pe_slice sl_tail (pv 0) (po_some pe_int) po_none)) (blkOk_by (N := nSizeIn) (sc := defScope sSizeIn) (by decide +kernel))
          (fun _ _ _ _ _ => pg_name (i := 1) scSizeIn.nd rfl (Or.inl rfl)) (fun _ _ _ _ _ => pts_nil) (fun _ _ _ _ _ => pe_cal C hr (pa_cons (pv 1) pa_nil))) pa_nil))))), ?_⟩
      cases t with
      | nm x =>
        obtain ⟨rfl, zl⟩ := z
        refine ⟨_, rfl, _, _, _, _, rfl, ty_str _, k_ss, true, rfl, iteT ?_⟩
        have e : size (.nm x) = 1 := by rw [size]
        rw [e] at q
        exact q _ (Same.refl _)
      | nd r ps =>
        obtain ⟨a, vs, rfl, ha, hz, hp⟩ := z
        have hl := paired_len hp
        refine ⟨_, rfl, _, _, _, _, rfl, ty_tup ha, k_ts, false, rfl, iteF ?_⟩
        refine ⟨_, rfl, 1, rfl, a, _, vs, rfl, rfl, rfl, SqT.of ha, fun p hpn => ?_⟩
        refine ⟨p, rfl, ⟨_, SqT.of upd_same⟩, fun L hL => lc_name (turns_tup (K := K) vs) (fun i y _ => y = .int ((size (ps.getD i dT) : Nat) : Int)) hL (by omega) (fun H' s1 => Same.tup s1 (SqT.of upd_same)) (fun _ _ _ _ _ h => h) (fun _ => rfl) (fun i H' hi s1 H2 s2 Q2 k => ?_) (fun H' ys s1 h1 hl1 hq => ?_)⟩
        · have at_ := (paired_getD (d := V.non) (e := dT) hp hi).same (Same.trans (Same.new (o := .tup vs) hpn) (Same.trans s1 s2))
          exact ⟨_, rfl, _, _, rfl, at_, fun H3 s3 => k _ _ s3 rfl⟩
        · have e := ints_of hl1 hq
          subst e
          refine ⟨L, _, rfl, SqL.of h1, _, _, rfl, rfl, ?_⟩
          have e1 : 1 + ((List.range vs.length).map fun i => ((size (ps.getD i dT) : Nat) : Int)).sum = ((size (.nd r ps) : Nat) : Int) := by
            rw [hl, range_map ps dT (fun t => ((size t : Nat) : Int)), size, sizes_sum]
            have e2 : (ps.map fun t => ((size t : Nat) : Int)) = (ps.map size).map fun k : Nat => (k : Int) := by rw [List.map_map]; rfl
            rw [e2, sum_cast]
            omega
          have g := q _ (Same.trans (Same.new hpn) s1)
          rw [← e1] at g
          exact g
/-! ### sort_text, _law_line -/
def spText (n : Nat) : Sp := fun vs H Q _ => ∃ (v : V) (t : T), vs = [v] ∧ At n H v t ∧ (text t).length ≤ 100000 ∧ ∀ H', Same H H' → Q (.str (S (text t))) H'
theorem join_part {x : Tx} : ∀ {xs : List Tx}, x ∈ xs → x.length ≤ (TL.joinL [44] xs).length
  | [], h => by cases h
  | [y], h => by
    have e := List.mem_singleton.mp h
    subst e
    exact Nat.le_refl _
  | y :: z :: r, h => by
    show x.length ≤ (y ++ ([44] ++ TL.joinL [44] (z :: r))).length
    rw [List.length_append, List.length_append]
    rcases List.mem_cons.mp h with e | h
    · subst e
      omega
    · have := join_part h
      omega
theorem wrap_len {xs : List Tx} (h : xs ≠ []) : (wrap xs).length = (TL.joinL [44] xs).length + 2 := by
  cases xs with
  | nil => exact absurd rfl h
  | cons x r =>
    rw [wrap]
    simp
theorem str_lp : ("(" : Str) = S [40] := by decide +kernel
theorem str_rp : (")" : Str) = S [41] := by decide +kernel
theorem str_cm : ("," : Str) = S [44] := by decide +kernel
theorem sum_lens : ∀ xs : List Tx, xs ≠ [] → (xs.map (·.length)).sum + (xs.length - 1) = (TL.joinL [44] xs).length
  | [], h => absurd rfl h
  | [x], _ => by simp [TL.joinL]
  | x :: y :: r, _ => by
    have ih := sum_lens (y :: r) (by simp)
    show _ = (x ++ ([44] ++ TL.joinL [44] (y :: r))).length
    rw [List.length_append, List.length_append, ← ih]
    simp
    omega
theorem sl_ok {n : Nat} (h : n ≤ 200000) : n ≤ sizeLine := Nat.le_trans h (by decide)
theorem ok_sort_text (T : Txt mg) (D : Dn K mg "sort_text" sSortText) : ∀ n, Cal P w K mg base CX0 (n + 1) "sort_text" pSortText (spText n)
  | 0 => by
    refine cal_of D scSortText bSortText (fun vs H Q E h => ?_) fun f cdv A outer s H vs Q E hr h => ?_
    · obtain ⟨v, t, rfl, _⟩ := h
      rfl
    · obtain ⟨v, t, rfl, z, _⟩ := h
      exact z.elim
  | n + 1 => by
    have C := ok_sort_text T D n
    refine cal_of D scSortText bSortText (fun vs H Q E h => ?_) fun f cdv A outer s H vs Q E hr h => ?_
    · obtain ⟨v, t, rfl, _⟩ := h
      rfl
    · obtain ⟨v, t, rfl, z, hlen, q⟩ := h
      refine ⟨_, pss_cons (ps_if (pt_val (pe_isi (pv 0) T.isi T.str boot_str)) (pss_one (ps_ret (pv 0))) pss_nil)
        (pss_one (ps_ret (pe_op op_add_str (pe_ix ix_tup (pv 0) pe_int (fun _ _ => rfl)) (pe_ifExp (pt_cmpR op_gt (pe_callB call_len_seq (by rfl) T.len b_len (pa_cons (pv 0) pa_nil)) pe_int (nomark _))
          (pe_op op_add_str (pe_op op_add_str pe_str (pe_join pe_str (pe_lc (own := [("part", 1)]) (g := gName 1) (tt := tYes) rfl scSortText.nd (pi_tup (pe_slice sl_tail (pv 0) (po_some pe_int) po_none))
            (blkOk_by (N := nSortText) (sc := defScope sSortText) (by decide +kernel)) (fun _ _ _ _ _ => pg_name (i := 1) scSortText.nd rfl (Or.inl rfl)) (fun _ _ _ _ _ => pts_nil) (fun _ _ _ _ _ => pe_cal C hr (pa_cons (pv 1) pa_nil))))) pe_str)
          pe_str)))), ?_⟩
      cases t with
      | nm x =>
        obtain ⟨rfl, zl⟩ := z
        refine ⟨_, rfl, _, _, _, _, rfl, ty_str _, k_ss, true, rfl, iteT ⟨_, rfl, ?_⟩⟩
        rw [text] at q
        exact q _ (Same.refl _)
      | nd r ps =>
        obtain ⟨a, vs, rfl, ha, hz, hp⟩ := z
        have hl := paired_len hp
        refine ⟨_, rfl, _, _, _, _, rfl, ty_tup ha, k_ts, false, rfl, iteF ?_⟩
        refine ⟨_, rfl, a, _, _, _, rfl, rfl, SqT.of ha, atI_nat (j := 0) rfl, ?_⟩
        refine ⟨_, rfl, a, _, rfl, .inr (SqT.of ha), _, _, rfl, rfl, _, rfl, iteD (fun c => ?_) fun c => ?_⟩
        · have ne : ps ≠ [] := by
            intro e
            subst e
            have := List.eq_nil_of_length_eq_zero hl
            subst this
            exact absurd (show (1 : Int) < ((1 : Nat) : Int) from c) (by decide)
          have ne' : ps.map text ≠ [] := by simpa using ne
          have et : text (.nd r ps) = r ++ wrap (ps.map text) := by rw [text, texts_map]
          rw [et, List.length_append, wrap_len ne'] at hlen
          refine ⟨⟨_, rfl⟩, _, rfl, 1, rfl, a, _, vs, rfl, rfl, rfl, SqT.of ha, fun p hpn => ?_⟩
          refine ⟨p, rfl, ⟨_, SqT.of upd_same⟩, fun L hL => lc_name (turns_tup (K := K) vs) (fun i y _ => y = .str (S (text (ps.getD i dT)))) hL (by omega) (fun H' s1 => Same.tup s1 (SqT.of upd_same)) (fun _ _ _ _ _ h => h) (fun _ => rfl) (fun i H' hi s1 H2 s2 Q2 k => ?_) (fun H' ys s1 h1 hl1 hq => ?_)⟩
          · have at_ := (paired_getD (d := V.non) (e := dT) hp hi).same (Same.trans (Same.new (o := .tup vs) hpn) (Same.trans s1 s2))
            refine ⟨_, rfl, _, _, rfl, at_, ?_, fun H3 s3 => k _ _ s3 rfl⟩
            have hi' : i < ps.length := by omega
            have m : text (ps.getD i dT) ∈ ps.map text := by
              rw [List.getD_eq_getElem?_getD, List.getElem?_eq_getElem hi']
              exact List.mem_map.mpr ⟨ps[i], List.getElem_mem hi', rfl⟩
            have := join_part m
            omega
          · have e := strs_of (f := fun i => text (ps.getD i dT)) hl1 hq
            subst e
            have er : ((List.range vs.length).map fun i => text (ps.getD i dT)) = ps.map text := by rw [hl, range_map ps dT text]
            rw [er] at h1
            have j1 := sum_lens (ps.map text) ne'
            have lens := SX.lens (ps.map text)
            have hj : Txt.join "," ((ps.map text).map S) = S (TL.joinL [44] (ps.map text)) := by rw [str_cm, SX.join_S]
            have n1 : (("(" : Str).length + (Txt.join "," ((ps.map text).map S)).length) ≤ sizeLine := by
              rw [str_lp, hj, SX.S_len, SX.S_len]
              exact sl_ok (by simp only [List.length_singleton]; omega)
            have n2 : ((("(" : Str) ++ Txt.join "," ((ps.map text).map S)).length + (")" : Str).length) ≤ sizeLine := by
              rw [str_lp, str_rp, hj, SX.S_cat, SX.S_len, SX.S_len]
              exact sl_ok (by simp only [List.length_append, List.length_singleton]; omega)
            have n3 : ((S r).length + ((("(" : Str) ++ Txt.join "," ((ps.map text).map S)) ++ (")" : Str)).length) ≤ sizeLine := by
              rw [str_lp, str_rp, hj, SX.S_cat, SX.S_cat, SX.S_len, SX.S_len]
              exact sl_ok (by simp only [List.length_append, List.length_singleton]; omega)
            refine ⟨_, L, (ps.map text).map S, rfl, rfl, .inl (SqL.of h1), ?_, _, _, rfl, rfl, n1, _, _, rfl, rfl, n2, _, _, rfl, rfl, n3, ?_⟩
            · rw [lens, str_cm, SX.S_len, List.length_map, List.length_singleton]
              have : (ps.map text).length = ps.length := by simp
              have hpos : 0 < ps.length := List.length_pos_iff.mpr ne
              have key : ((ps.map text).map (·.length)).sum + (ps.map text).length * 1 ≤ 16777216 := by omega
              exact key
            · have g := q _ (Same.trans (Same.new hpn) s1)
              have ee : S r ++ ((("(" : Str) ++ Txt.join "," ((ps.map text).map S)) ++ (")" : Str)) = S (text (.nd r ps)) := by
                rw [str_lp, str_rp, hj, SX.S_cat, SX.S_cat, SX.S_cat, et]
                congr 2
                cases e : ps.map text with
                | nil => exact absurd e ne'
                | cons x xs =>
                  rw [wrap]
                  rfl
              rw [← ee] at g
              exact g
        · have e0 : ps = [] := by
            have : vs.length = 0 := by
              have c' : ¬ (1 : Int) < ((vs.length + 1 : Nat) : Int) := c
              omega
            exact List.eq_nil_of_length_eq_zero (by omega)
          subst e0
          have et : text (.nd r []) = r := by rw [text, texts, wrap, List.append_nil]
          rw [et] at hlen q
          have n1 : (S r).length + ("" : Str).length ≤ sizeLine := by
            rw [str_nil, SX.S_len, SX.S_len]
            exact sl_ok (by simp only [List.length_nil]; omega)
          refine ⟨_, _, rfl, rfl, n1, ?_⟩
          have g := q _ (Same.refl _)
          have ee : S r ++ ("" : Str) = S r := by rw [str_nil, SX.S_cat, List.append_nil]
          rw [← ee] at g
          exact g
theorem ok_law_line (T : Txt mg) (D : Dn K mg "_law_line" sLawLine) : ∀ n, Cal P w K mg base CX0 (n + 1) "_law_line" pLawLine (spText n)
  | 0 => by
    refine cal_of D scLawLine bLawLine (fun vs H Q E h => ?_) fun f cdv A outer s H vs Q E hr h => ?_
    · obtain ⟨v, t, rfl, _⟩ := h
      rfl
    · obtain ⟨v, t, rfl, z, _⟩ := h
      exact z.elim
  | n + 1 => by
    have C := ok_law_line T D n
    refine cal_of D scLawLine bLawLine (fun vs H Q E h => ?_) fun f cdv A outer s H vs Q E hr h => ?_
    · obtain ⟨v, t, rfl, _⟩ := h
      rfl
    · obtain ⟨v, t, rfl, z, hlen, q⟩ := h
      refine ⟨_, pss_cons (ps_if (pt_val (pe_isi (pv 0) T.isi T.str boot_str)) (pss_one (ps_ret (pv 0))) pss_nil)
        (pss_cons (ps_if (pt_cmpR op_eq (pe_callB call_len_seq (by rfl) T.len b_len (pa_cons (pv 0) pa_nil)) pe_int (nomark _)) (pss_one (ps_ret (pe_ix ix_tup (pv 0) pe_int (fun _ _ => rfl)))) pss_nil)
        (pss_one (ps_ret (pe_op op_add_str (pe_op op_add_str (pe_op op_add_str (pe_ix ix_tup (pv 0) pe_int (fun _ _ => rfl)) pe_str)
          (pe_join pe_str (pe_lc (own := [("_law_part", 1)]) (g := gName 1) (tt := tYes) rfl scLawLine.nd (pi_tup (pe_slice sl_tail (pv 0) (po_some pe_int) po_none))
            (blkOk_by (N := nLawLine) (sc := defScope sLawLine) (by decide +kernel)) (fun _ _ _ _ _ => pg_name (i := 1) scLawLine.nd rfl (Or.inl rfl)) (fun _ _ _ _ _ => pts_nil) (fun _ _ _ _ _ => pe_cal C hr (pa_cons (pv 1) pa_nil))))) pe_str)))), ?_⟩
      cases t with
      | nm x =>
        obtain ⟨rfl, zl⟩ := z
        refine ⟨_, rfl, _, _, _, _, rfl, ty_str _, k_ss, true, rfl, iteT ⟨_, rfl, ?_⟩⟩
        rw [text] at q
        exact q _ (Same.refl _)
      | nd r ps =>
        obtain ⟨a, vs, rfl, ha, hz, hp⟩ := z
        have hl := paired_len hp
        refine ⟨_, rfl, _, _, _, _, rfl, ty_tup ha, k_ts, false, rfl, iteF ?_⟩
        refine ⟨_, rfl, a, _, rfl, .inr (SqT.of ha), rfl, _, rfl, iteD (fun c => ?_) fun c => ?_⟩
        · have c' : ((vs.length + 1 : Nat) : Int) = 1 := V.int.inj c
          have e0 : ps = [] := List.eq_nil_of_length_eq_zero (by omega)
          subst e0
          have et : text (.nd r []) = r := by rw [text, texts, wrap, List.append_nil]
          rw [et] at q
          exact ⟨_, rfl, a, _, _, _, rfl, rfl, SqT.of ha, atI_nat (j := 0) rfl, q _ (Same.refl _)⟩
        · have ne : ps ≠ [] := by
            intro e
            subst e
            have := List.eq_nil_of_length_eq_zero hl
            subst this
            exact c rfl
          have ne' : ps.map text ≠ [] := by simpa using ne
          have et : text (.nd r ps) = r ++ wrap (ps.map text) := by rw [text, texts_map]
          rw [et, List.length_append, wrap_len ne'] at hlen
          have n0 : (S r).length + ("(" : Str).length ≤ sizeLine := by
            rw [str_lp, SX.S_len, SX.S_len]
            exact sl_ok (by simp only [List.length_singleton]; omega)
          refine ⟨_, rfl, a, _, _, _, rfl, rfl, SqT.of ha, atI_nat (j := 0) rfl, _, _, rfl, rfl, n0, ⟨_, rfl⟩, _, rfl, 1, rfl, a, _, vs, rfl, rfl, rfl, SqT.of ha, fun p hpn => ?_⟩
          refine ⟨p, rfl, ⟨_, SqT.of upd_same⟩, fun L hL => lc_name (turns_tup (K := K) vs) (fun i y _ => y = .str (S (text (ps.getD i dT)))) hL (by omega) (fun H' s1 => Same.tup s1 (SqT.of upd_same)) (fun _ _ _ _ _ h => h) (fun _ => rfl) (fun i H' hi s1 H2 s2 Q2 k => ?_) (fun H' ys s1 h1 hl1 hq => ?_)⟩
          · have at_ := (paired_getD (d := V.non) (e := dT) hp hi).same (Same.trans (Same.new (o := .tup vs) hpn) (Same.trans s1 s2))
            refine ⟨_, rfl, _, _, rfl, at_, ?_, fun H3 s3 => k _ _ s3 rfl⟩
            have hi' : i < ps.length := by omega
            have m : text (ps.getD i dT) ∈ ps.map text := by
              rw [List.getD_eq_getElem?_getD, List.getElem?_eq_getElem hi']
              exact List.mem_map.mpr ⟨ps[i], List.getElem_mem hi', rfl⟩
            have := join_part m
            omega
          · have e := strs_of (f := fun i => text (ps.getD i dT)) hl1 hq
            subst e
            have er : ((List.range vs.length).map fun i => text (ps.getD i dT)) = ps.map text := by rw [hl, range_map ps dT text]
            rw [er] at h1
            have j1 := sum_lens (ps.map text) ne'
            have lens := SX.lens (ps.map text)
            have hj : Txt.join "," ((ps.map text).map S) = S (TL.joinL [44] (ps.map text)) := by rw [str_cm, SX.join_S]
            have n1 : ((S r ++ ("(" : Str)).length + (Txt.join "," ((ps.map text).map S)).length) ≤ sizeLine := by
              rw [str_lp, hj, SX.S_cat, SX.S_len, SX.S_len]
              exact sl_ok (by simp only [List.length_append, List.length_singleton]; omega)
            have n2 : (((S r ++ ("(" : Str)) ++ Txt.join "," ((ps.map text).map S)).length + (")" : Str).length) ≤ sizeLine := by
              rw [str_lp, str_rp, hj, SX.S_cat, SX.S_cat, SX.S_len, SX.S_len]
              exact sl_ok (by simp only [List.length_append, List.length_singleton]; omega)
            refine ⟨_, L, (ps.map text).map S, rfl, rfl, .inl (SqL.of h1), ?_, _, _, rfl, rfl, n1, _, _, rfl, rfl, n2, ?_⟩
            · rw [lens, str_cm, SX.S_len, List.length_map, List.length_singleton]
              have : (ps.map text).length = ps.length := by simp
              have hpos : 0 < ps.length := List.length_pos_iff.mpr ne
              have key : ((ps.map text).map (·.length)).sum + (ps.map text).length * 1 ≤ 16777216 := by omega
              exact key
            · have g := q _ (Same.trans (Same.new hpn) s1)
              have ee : ((S r ++ ("(" : Str)) ++ Txt.join "," ((ps.map text).map S)) ++ (")" : Str) = S (text (.nd r ps)) := by
                rw [str_lp, str_rp, hj, SX.S_cat, SX.S_cat, SX.S_cat, et]
                congr 1
                cases e : ps.map text with
                | nil => exact absurd e ne'
                | cons x xs =>
                  rw [wrap]
                  simp
              rw [← ee] at g
              exact g
end
end Ts

/-! is_sort_with, _law_is -/
namespace Ts
open PySem PySem.Spec PyProof.Rows L2
/-! ### the constructors as a dict -/
def ckv (c : Cons) : List (Key × V) := c.map fun q => (Sum.inr (S q.1), V.int (q.2 : Nat))
theorem merge_val : ∀ (more acc : List (Key × V)) (j : Key), (more.map (·.1)).Nodup → valV (mergeK acc more) j = ((valV more j).or (valV acc j))
  | [], acc, j, _ => by
    show valV acc j = _
    rw [valV_nil]
    rfl
  | p :: r, acc, j, h => by
    rw [List.map_cons, List.nodup_cons] at h
    show valV (mergeK (putK acc p.1 p.2) r) j = _
    rw [merge_val r _ j h.2, valV_put]
    by_cases e : j = p.1
    · have hn : valV r j = none := by
        cases q : valV r j with
        | none => rfl
        | some v => exact absurd (e ▸ valV_in q) h.1
      rw [hn, if_pos e, valV_pos e.symm]
      rfl
    · rw [if_neg e, valV_neg (fun z => e z.symm)]
theorem ckv_val : ∀ (c : Cons) (r : Tx), valV (ckv c) (Sum.inr (S r)) = (arity c r).map fun k => V.int (k : Nat)
  | [], r => rfl
  | (q, k) :: c, r => by
    unfold arity
    by_cases e : q = r
    · subst e
      rw [if_pos rfl]
      exact valV_pos rfl
    · rw [if_neg e]
      exact (valV_neg fun z => e (SX.S_inj (Sum.inr.inj z))).trans (ckv_val c r)
theorem dict_val {c : Cons} (h : (c.map (·.1)).Nodup) (r : Tx) : valV (mergeK [] (ckv c)) (Sum.inr (S r)) = (arity c r).map fun k => V.int (k : Nat) := by
  have nd : ((ckv c).map (·.1)).Nodup := by
    unfold ckv
    rw [List.map_map]
    have e : (c.map fun q => (Sum.inr (S q.1) : Key)) = (c.map (·.1)).map fun x => (Sum.inr (S x) : Key) := by rw [List.map_map]; rfl
    show (c.map fun q => (Sum.inr (S q.1) : Key)).Nodup
    rw [e]
    refine List.Pairwise.map _ (fun a b hab z => hab ?_) h
    exact SX.S_inj (Sum.inr.inj z)
  rw [merge_val _ _ _ nd, ckv_val, valV_nil, Option.or_none]
theorem ckv_paired {K : PySem.W.Frag} {H : Hp} : ∀ {ps : List Addr} {c : Cons}, Paired (fun p (q : Tx × Nat) => H p = some (.tup [.str (S q.1), .int (q.2 : Nat)])) ps c → Paired (fun p (kv : Key × V) => SqT K H p [kV kv.1, kv.2]) ps (ckv c)
  | _, _, .nil => .nil
  | _, _, .cons r t => .cons (SqT.of r) (ckv_paired t)
/-- the test of the root's parts: arity != parts -/
theorem arity_ne {c : Cons} (r : Tx) (n : Nat) : (!decide (((arity c r).map fun k => V.int (k : Nat)).getD .non = V.int ((n : Nat) : Int))) = !decide (arity c r = some n) := by
  cases e : arity c r with
  | none => simp
  | some k =>
    simp only [Option.map_some, Option.getD_some]
    congr 1
    by_cases h : k = n
    · subst h
      simp
    · rw [decide_eq_false (fun z => h (by have := V.int.inj z; omega)), decide_eq_false (fun z => h (Option.some.inj z))]
theorem names_is : ("abcdefgh" : Str).cps.toList = [97, 98, 99, 100, 101, 102, 103, 104] := by decide +kernel
theorem inNames (x : Nat) : decide (x ∈ ("abcdefgh" : Str).cps.toList) = decide (97 ≤ x ∧ x ≤ 104) := by
  rw [names_is]
  apply decide_eq_decide.mpr
  simp only [List.mem_cons, List.not_mem_nil, or_false]
  omega
section
variable {P : Program} {w : PySem.World} {K : PySem.W.Frag} {mg : Str → Option Value} {base : Heap}
/-- what is_sort_with is asked of: a world, distinct names of constructors, a sort, NAMES -/
def spIs (n : Nat) : Sp := fun vs H Q _ => ∃ (u v : V) (W : Wd) (t : T), vs = [u, v, .str "abcdefgh"] ∧ IsW H u W ∧ (W.cons.map (·.1)).Nodup ∧ At n H v t ∧ ∀ H', Same H H' → Q (.bl (isS W.cons t)) H'
theorem ok_is_sort_with (T : Txt mg) (D : Dn K mg "is_sort_with" sIsSortWith) : ∀ n, Cal P w K mg base CX0 (n + 1) "is_sort_with" pIsSortWith (spIs n)
  | 0 => by
    refine cal_of D scIsSortWith bIsSortWith (fun vs H Q E h => ?_) fun f cdv A outer s H vs Q E hr h => ?_
    · obtain ⟨u, v, W, t, rfl, _⟩ := h
      rfl
    · obtain ⟨u, v, W, t, rfl, _, _, z, _⟩ := h
      exact z.elim
  | n + 1 => by
    have C := ok_is_sort_with T D n
    refine cal_of D scIsSortWith bIsSortWith (fun vs H Q E h => ?_) fun f cdv A outer s H vs Q E hr h => ?_
    · obtain ⟨u, v, W, t, rfl, _⟩ := h
      rfl
    · obtain ⟨u, v, W, t, rfl, hW, nd, z, q⟩ := h
      refine ⟨_, pss_cons (ps_if (pt_val (pe_isi (pv 1) T.isi T.str boot_str)) (pss_one (ps_ret (pe_and (pe_cmpR op_eq (pe_callB call_len_str (by rfl) T.len b_len (pa_cons (pv 1) pa_nil)) pe_int (nomark _)) (pe_one (pe_cmpR op_in_sign (pv 1) (pv 2) (by rfl)))))) pss_nil)
        (pss_cons (ps_if (PW.pt (pw_or (pt_not (pt_val (pe_isi (pv 1) T.isi T.tup boot_tuple))) (pw_or (pt_cmpR op_eq (pe_callB call_len_seq (by rfl) T.len b_len (pa_cons (pv 1) pa_nil)) pe_int (nomark _))
          (pw_or1 (pt_not (pt_val (pe_isi (pe_ix ix_tup (pv 1) pe_int (fun _ _ => rfl)) T.isi T.str boot_str))))))) (pss_one (ps_ret pe_bl)) pss_nil)
        (pss_cons (ps_if (pt_cmpR op_ne (pe_dget1 (hu_of hr) (pe_callTy (call_dictT rfl) (by rfl) T.dict boot_dict (pa_cons (pe_ix ix_tup (pv 0) pe_int (fun _ _ => rfl)) pa_nil)) (pe_ix ix_tup (pv 1) pe_int (fun _ _ => rfl)) ⟨rfl, rfl, rfl, rfl⟩)
            (pe_op op_sub (pe_callB call_len_seq (by rfl) T.len b_len (pa_cons (pv 1) pa_nil)) pe_int) (nomark _)) (pss_one (ps_ret pe_bl)) pss_nil)
        (pss_one (ps_ret (pe_callB (cr_all rfl) (by rfl) T.all b_all (pa_cons
          (pe_lc (own := [("part", 3)]) (g := gName 3) (tt := tYes) rfl scIsSortWith.nd (pi_tup (pe_slice sl_tail (pv 1) (po_some pe_int) po_none)) (blkOk_by (N := nIsSortWith) (sc := defScope sIsSortWith) (by decide +kernel))
            (fun _ _ _ _ _ => pg_name (i := 3) scIsSortWith.nd rfl (Or.inl rfl)) (fun _ _ _ _ _ => pts_nil) (fun _ _ _ _ _ => pe_cal C hr (pa_cons (pv 0) (pa_cons (pv 3) (pa_cons (pv 2) pa_nil))))) pa_nil)))))), ?_⟩
      cases t with
      | nm x =>
        obtain ⟨rfl, zl⟩ := z
        have hz : (S x).length ≤ sizeLine := by
          rw [SX.S_len]
          exact Nat.le_trans zl (by decide)
        refine ⟨_, rfl, _, _, _, _, rfl, ty_str _, k_ss, true, rfl, iteT ?_⟩
        rw [isS] at q
        refine ⟨_, rfl, S x, rfl, hz, rfl, _, rfl, iteD (fun c => ?_) fun c => ?_⟩
        · have c1 : ((S x).length : Int) = 1 := V.int.inj c
          rw [SX.S_len] at c1
          obtain ⟨y, rfl⟩ : ∃ y, x = [y] := by
            cases x with
            | nil => simp at c1
            | cons y r =>
              cases r with
              | nil => exact ⟨y, rfl⟩
              | cons z r =>
                simp only [List.length_cons] at c1
                omega
          refine ⟨_, rfl, _, rfl, y, _, rfl, rfl, ?_⟩
          have g := q _ (Same.refl _)
          have e : isName [y] = decide (y ∈ ("abcdefgh" : Str).cps.toList) := (inNames y).symm
          rw [e] at g
          exact g
        · have c1 : ¬ x.length = 1 := fun e => c (by rw [SX.S_len, e]; rfl)
          have g := q _ (Same.refl _)
          have e : isName x = false := by
            unfold isName
            split
            · exact absurd rfl c1
            · rfl
          rw [e] at g
          exact g
      | nd r ps =>
        obtain ⟨a, vs, rfl, ha, hz, hp⟩ := z
        have hl := paired_len hp
        obtain ⟨w0⟩ := id hW
        rw [isS, areS_all] at q
        have ne : ¬ V.int (((V.str (S r) :: vs).length : Nat) : Int) = V.int 0 := by
          intro z
          have z1 := V.int.inj z
          rw [List.length_cons] at z1
          omega
        refine ⟨_, rfl, _, _, _, _, rfl, ty_tup ha, k_ts, false, rfl, iteF ?_⟩
        refine ⟨_, rfl, _, _, _, _, rfl, ty_tup ha, k_tt, true, rfl, iteF ⟨_, rfl, a, _, rfl, .inr (SqT.of ha), rfl, _, rfl, iteDF ne ?_⟩⟩
        refine ⟨_, rfl, a, _, _, _, rfl, rfl, SqT.of ha, atI_nat (j := 0) rfl, _, _, _, _, rfl, ty_str _, k_ss, true, rfl, iteF ?_⟩
        refine ⟨_, rfl, _, _, _, _, w0.ev, rfl, SqT.of w0.h, atI_nat (j := 0) rfl, w0.a0, w0.o, w0.ps, ckv W.cons, rfl, w0.h0, w0.od, ckv_paired w0.cs, fun d hd => ?_⟩
        have ha' : L2.upd H d (.dK (mergeK [] (ckv W.cons))) a = some (.tup (.str (S r) :: vs)) := Same.new hd _ _ ha
        refine ⟨d, rfl, .inl ⟨_, .inl upd_same⟩, _, rfl, a, _, _, _, rfl, rfl, SqT.of ha', atI_nat (j := 0) rfl, _, DGet.k (k := Sum.inr (S r)) upd_same, ?_⟩
        refine ⟨_, rfl, a, _, rfl, .inr (SqT.of ha'), _, _, rfl, rfl, ?_⟩
        rw [dict_val nd]
        have sub : ((V.str (S r) :: vs).length : Int) - 1 = ((ps.length : Nat) : Int) := by
          rw [List.length_cons, hl]
          omega
        refine ⟨?_, ?_⟩
        · cases arity W.cons r <;> rfl
        · have hb : (!decide (((arity W.cons r).map fun k => V.int (k : Nat)).getD .non = V.int (((V.str (S r) :: vs).length : Int) - 1))) = !decide (arity W.cons r = some ps.length) := by
            rw [sub, arity_ne]
          refine ⟨_, rfl, iteE hb (iteND (fun c => ?_) fun c => ?_)⟩
          · rw [decide_eq_false c, Bool.false_and] at q
            exact q _ (Same.new hd)
          · rw [decide_eq_true c, Bool.true_and] at q
            refine ⟨_, rfl, 1, rfl, a, _, vs, rfl, rfl, rfl, SqT.of ha', fun p hpn => ?_⟩
            have s0 : Same H (L2.upd (L2.upd H d (.dK (mergeK [] (ckv W.cons)))) p (.tup vs)) := Same.trans (Same.new hd) (Same.new hpn)
            refine ⟨p, rfl, ⟨_, SqT.of upd_same⟩, fun L hL => lc_name (turns_tup (K := K) vs) (fun i y _ => y = .bl (isS W.cons (ps.getD i dT))) hL (by omega) (fun H' s1 => Same.tup s1 (SqT.of upd_same)) (fun _ _ _ _ _ h => h) (fun _ => rfl) (fun i H' hi s1 H2 s2 Q2 k => ?_) (fun H' ys s1 h1 hl1 hq => ?_)⟩
            · have ss := Same.trans s0 (Same.trans s1 s2)
              exact ⟨_, rfl, _, rfl, _, rfl, _, _, W, _, rfl, hW.same ss, nd, (paired_getD (d := V.non) (e := dT) hp hi).same ss, fun H3 s3 => k _ _ s3 rfl⟩
            · have e := bools_of hl1 hq
              subst e
              refine ⟨L, _, rfl, SqL.of h1, ?_⟩
              have g := q _ (Same.trans s0 s1)
              have e1 : ps.all (isS W.cons) = ((List.range vs.length).map fun i => isS W.cons (ps.getD i dT)).all id := by
                rw [hl, range_map ps dT (isS W.cons), List.all_map]
                rfl
              rw [e1] at g
              exact g
/-! ### what is no sort at all -/
def Junk (H : Hp) (v : V) : Prop := v = .non ∨ (∃ i, v = .int i) ∨ (∃ a, v = .ref a ∧ H a = some (.tup [])) ∨ ∃ a xs, v = .ref a ∧ H a = some (.lst xs)
def spIsJ : Sp := fun vs H Q _ => ∃ (u v : V), vs = [u, v, .str "abcdefgh"] ∧ Junk H v ∧ Q (.bl false) H
theorem k_ns : kitB "NoneType" "str" = some false := by decide +kernel
theorem k_nt : kitB "NoneType" "tuple" = some false := by decide +kernel
theorem k_is_ : kitB "int" "str" = some false := by decide +kernel
theorem k_it : kitB "int" "tuple" = some false := by decide +kernel
theorem k_ls : kitB "list" "str" = some false := by decide +kernel
theorem k_lt : kitB "list" "tuple" = some false := by decide +kernel
theorem ok_is_sort_withJ (T : Txt mg) (D : Dn K mg "is_sort_with" sIsSortWith) : Cal P w K mg base CX0 1 "is_sort_with" pIsSortWith spIsJ := by
  refine cal_of D scIsSortWith bIsSortWith (fun vs H Q E h => ?_) fun f cdv A outer s H vs Q E hr h => ?_
  · obtain ⟨u, v, rfl, _⟩ := h
    rfl
  · obtain ⟨u, v, rfl, hj, q⟩ := h
    refine ⟨_, pss_cons (ps_if (pt_val (pe_isi (pv 1) T.isi T.str boot_str)) pss_never pss_nil)
      (pss_cons (ps_if (PW.pt (pw_or (pt_not (pt_val (pe_isi (pv 1) T.isi T.tup boot_tuple))) (pw_or (pt_cmpR op_eq (pe_callB call_len_seq (by rfl) T.len b_len (pa_cons (pv 1) pa_nil)) pe_int (nomark _))
        (pw_or1 (pt_not (pt_val (pe_isi (pe_ix ix_tup (pv 1) pe_int (fun _ _ => rfl)) T.isi T.str boot_str))))))) (pss_one (ps_ret pe_bl)) pss_nil) pss_never), ?_⟩
    rcases hj with rfl | ⟨i, rfl⟩ | ⟨a, rfl, ha⟩ | ⟨a, xs, rfl, ha⟩
    · exact ⟨_, rfl, _, _, _, _, rfl, .base .non, k_ns, false, rfl, iteF ⟨_, rfl, _, _, _, _, rfl, .base .non, k_nt, false, rfl, iteT (iteT q)⟩⟩
    · exact ⟨_, rfl, _, _, _, _, rfl, ty_int _, k_is_, false, rfl, iteF ⟨_, rfl, _, _, _, _, rfl, ty_int _, k_it, false, rfl, iteT (iteT q)⟩⟩
    · exact ⟨_, rfl, _, _, _, _, rfl, ty_tup ha, k_ts, false, rfl, iteF ⟨_, rfl, _, _, _, _, rfl, ty_tup ha, k_tt, true, rfl, iteF ⟨_, rfl, a, _, rfl, .inr (SqT.of ha), rfl, _, rfl, iteDT rfl (iteT q)⟩⟩⟩
    · exact ⟨_, rfl, _, _, _, _, rfl, ty_lst ha, k_ls, false, rfl, iteF ⟨_, rfl, _, _, _, _, rfl, ty_lst ha, k_lt, false, rfl, iteT (iteT q)⟩⟩
/-! ### _law_is -/
abbrev namesL : List Nat := [97, 98, 99, 100, 101, 102, 103, 104]
theorem names_S : ("abcdefgh" : Str) = S namesL := by decide +kernel
theorem in_listed (s : Tx) (h : isName s = true) : inV (.str (S s)) (namesL.map fun c => V.str (S [c])) = true := by
  obtain ⟨x, rfl, h1, h2⟩ := isName_one h
  unfold inV
  rw [List.any_eq_true]
  refine ⟨.str (S [x]), List.mem_map.mpr ⟨x, ?_, rfl⟩, ?_⟩
  · simp only [List.mem_cons, List.not_mem_nil, or_false]
    omega
  · show (S [x] == S [x]) = true
    exact beq_self_eq_true _
/-- asked of sorts of the world alone -/
def spLawIs (n : Nat) : Sp := fun vs H Q _ => ∃ (u v : V) (W : Wd) (t : T), vs = [u, v] ∧ IsW H u W ∧ (W.cons.map (·.1)).Nodup ∧ At n H v t ∧ isS W.cons t = true ∧ ∀ H', Same H H' → Q (.bl true) H'
theorem dp_nil {K : PySem.W.Frag} {H : Hp} {a : Addr} (h : H a = some (.lst [])) : Dp K H (.ref a) (.list []) := .lst (SqL.of h) .nil
theorem ok_law_is (T : Txt mg) (D : Dn K mg "_law_is" sLawIs) : ∀ n, Cal P w K mg base CX0 (n + 1) "_law_is" pLawIs (spLawIs n)
  | 0 => by
    refine cal_of D scLawIs bLawIs (fun vs H Q E h => ?_) fun f cdv A outer s H vs Q E hr h => ?_
    · obtain ⟨u, v, W, t, rfl, _⟩ := h
      rfl
    · obtain ⟨u, v, W, t, rfl, _, _, z, _⟩ := h
      exact z.elim
  | n + 1 => by
    have C := ok_law_is T D n
    refine cal_of D scLawIs bLawIs (fun vs H Q E h => ?_) fun f cdv A outer s H vs Q E hr h => ?_
    · obtain ⟨u, v, W, t, rfl, _⟩ := h
      rfl
    · obtain ⟨u, v, W, t, rfl, hW, nd, z, hs, q⟩ := h
      refine ⟨_, pss_cons (ps_if (pt_val (pe_isi (pv 1) T.isi T.str boot_str)) (pss_one (ps_ret (pe_cmpR op_in_seq (pv 1) (pe_callTy (call_listS rfl) (by rfl) T.lst boot_list (pa_cons pe_str pa_nil)) (by rfl)))) pss_nil)
        (pss_cons (ps_if (pt_cmpR op_ne (pe_dget1 (hu_of hr) (pe_callTy (call_dictT rfl) (by rfl) T.dict boot_dict (pa_cons (pe_ix ix_tup (pv 0) pe_int (fun _ _ => rfl)) pa_nil)) (pe_ix ix_tup (pv 1) pe_int (fun _ _ => rfl)) ⟨rfl, rfl, rfl, rfl⟩)
            (pe_op op_sub (pe_callB call_len_seq (by rfl) T.len b_len (pa_cons (pv 1) pa_nil)) pe_int) (nomark _)) (pss_one (ps_ret pe_bl)) pss_nil)
        (pss_one (ps_ret (pe_cmpR (op_eqD hr.units)
          (pe_lc (own := [("_law_part", 2)]) (g := gName 2) rfl scLawIs.nd (pi_tup (pe_slice sl_tail (pv 1) (po_some pe_int) po_none)) (blkOk_by (N := nLawIs) (sc := defScope sLawIs) (by decide +kernel))
            (fun _ _ _ _ _ => pg_name (i := 2) scLawIs.nd rfl (Or.inl rfl)) (fun _ _ _ _ _ => pts_one (pt_not (pt_val (pe_cal C hr (pa_cons (pv 0) (pa_cons (pv 2) pa_nil)))))) (fun _ _ _ _ _ => pv 2))
          (pe_lst pa_nil) (nomark _))))), ?_⟩
      cases t with
      | nm x =>
        obtain ⟨rfl, zl⟩ := z
        rw [isS] at hs
        refine ⟨_, rfl, _, _, _, _, rfl, ty_str _, k_ss, true, rfl, iteT ?_⟩
        refine ⟨_, rfl, namesL, ?_, by decide, fun p hp => ⟨p, _, rfl, .inl (SqL.of upd_same), rfl, rfl, ?_⟩⟩
        · rw [names_S]
        · have g := q _ (Same.new (o := .lst (namesL.map fun c => V.str (S [c]))) hp)
          rw [← in_listed x hs] at g
          exact g
      | nd r ps =>
        obtain ⟨a, vs, rfl, ha, hz, hp⟩ := z
        have hl := paired_len hp
        obtain ⟨w0⟩ := id hW
        rw [isS, areS_all, Bool.and_eq_true, decide_eq_true_eq] at hs
        obtain ⟨har, hall⟩ := hs
        refine ⟨_, rfl, _, _, _, _, rfl, ty_tup ha, k_ts, false, rfl, iteF ?_⟩
        refine ⟨_, rfl, _, _, _, _, w0.ev, rfl, SqT.of w0.h, atI_nat (j := 0) rfl, w0.a0, w0.o, w0.ps, ckv W.cons, rfl, w0.h0, w0.od, ckv_paired w0.cs, fun d hd => ?_⟩
        have ha' : L2.upd H d (.dK (mergeK [] (ckv W.cons))) a = some (.tup (.str (S r) :: vs)) := Same.new hd _ _ ha
        refine ⟨d, rfl, .inl ⟨_, .inl upd_same⟩, _, rfl, a, _, _, _, rfl, rfl, SqT.of ha', atI_nat (j := 0) rfl, _, DGet.k (k := Sum.inr (S r)) upd_same, ?_⟩
        refine ⟨_, rfl, a, _, rfl, .inr (SqT.of ha'), _, _, rfl, rfl, ?_⟩
        rw [dict_val nd]
        have sub : ((V.str (S r) :: vs).length : Int) - 1 = ((ps.length : Nat) : Int) := by
          rw [List.length_cons, hl]
          omega
        refine ⟨?_, ?_⟩
        · cases arity W.cons r <;> rfl
        · have hb : (!decide (((arity W.cons r).map fun k => V.int (k : Nat)).getD .non = V.int (((V.str (S r) :: vs).length : Int) - 1))) = false := by
            rw [sub, arity_ne, decide_eq_true har]
            rfl
          refine ⟨_, rfl, iteE hb (iteF ?_)⟩
          refine ⟨_, rfl, 1, rfl, a, _, vs, rfl, rfl, rfl, SqT.of ha', fun p hpn => ?_⟩
          have s0 : Same H (L2.upd (L2.upd H d (.dK (mergeK [] (ckv W.cons)))) p (.tup vs)) := Same.trans (Same.new hd) (Same.new hpn)
          refine ⟨p, rfl, ⟨_, SqT.of upd_same⟩, fun L hL => lc_keep (turns_tup (K := K) vs) (fun _ => false) hL (by omega) (fun H' s1 => Same.tup s1 (SqT.of upd_same)) (fun _ => rfl) (fun i H' hi s1 H2 s2 Q2 k => ?_) (fun i H' hi s1 e => by cases e) (fun H' s1 h1 => ?_)⟩
          · have ss := Same.trans s0 (Same.trans s1 s2)
            have hi' : i < ps.length := by omega
            have hsi : isS W.cons (ps.getD i dT) = true := by
              rw [List.getD_eq_getElem?_getD, List.getElem?_eq_getElem hi']
              exact List.all_eq_true.mp hall _ (List.getElem_mem hi')
            exact ⟨_, rfl, _, rfl, _, _, W, _, rfl, hW.same ss, nd, (paired_getD (d := V.non) (e := dT) hp hi).same ss, hsi, fun H3 s3 => ⟨true, rfl, k _ s3⟩⟩
          · have e0 : ((List.range vs.length).filter fun _ => false) = [] := by simp
            rw [e0] at h1
            refine ⟨Nat.zero_le _, fun m hm => ?_⟩
            have h2 : L2.upd H' m (.lst []) L = some (.lst []) := Same.new hm _ _ h1
            exact ⟨_, _, dp_nil h2, dp_nil upd_same, by decide, by decide, q _ (Same.trans s0 (Same.trans s1 (Same.new hm)))⟩
end
end Ts

/-! pieces_of, read_sort -/
namespace Ts
open PySem PySem.Spec PyProof.Rows L2
/-- a for over things that stand still -/
theorem for_turns {J : It} {n : Nat} {X : Nat → V} {C : Hp → Prop} (T : Turns J n X C) {g : TG} {tb : TS} {D : Ends} {σ : L2.St} {H : Hp} (Pv : Nat → L2.St → Hp → Prop) (h0 : Pv 0 σ H) (hC : ∀ i σ H, i ≤ n → Pv i σ H → C H)
    (hs : ∀ i σ H, i < n → Pv i σ H → g (X i) σ H fun σ2 H2 => tb { D with nx := Pv (i + 1), ct := Pv (i + 1), bk := D.nx } σ2 H2) (hd : ∀ σ H, Pv n σ H → D.nx σ H) :
    ∃ W : Nat → Nat → L2.St → Hp → Prop, (∃ m, W 0 m σ H) ∧ ∀ i m σ H, W i m σ H →
      (J.stop i H ∧ D.nx σ H) ∨ (J.go i H ∧ ∃ N : L2.St → Hp → Prop, (∀ σ' H', N σ' H' → ∃ m', m' < m ∧ W (i + 1) m' σ' H') ∧ ∀ x H', J.yld i H x H' → g x σ H' fun σ2 H2 => tb { D with nx := N, ct := N, bk := D.nx } σ2 H2) := by
  refine ⟨fun i m σ H => m = n - i ∧ i ≤ n ∧ Pv i σ H, ⟨n, by simp, Nat.zero_le _, h0⟩, ?_⟩
  rintro i m σ H ⟨rfl, hi, p⟩
  have c := hC i σ H hi p
  by_cases hlt : i < n
  · refine .inr ⟨T.go i H c hlt, Pv (i + 1), fun σ' H' p' => ⟨n - (i + 1), by omega, rfl, hlt, p'⟩, fun x H' y => ?_⟩
    obtain ⟨e1, e2⟩ := T.yld i H x H' c hlt y
    subst e1
    subst e2
    exact hs i σ _ hlt p
  · have e : i = n := by omega
    subst e
    exact .inl ⟨T.stop H c, hd σ H p⟩
theorem decS (a b : Tx) : decide (V.str (S a) = V.str (S b)) = decide (a = b) := by
  by_cases h : a = b
  · subst h
    simp
  · rw [decide_eq_false h, decide_eq_false (fun z => h (SX.S_inj (V.str.inj z)))]
theorem dec1 (c d : Nat) : decide (V.str (S [c]) = V.str (S [d])) = decide (c = d) := by
  rw [decS]
  by_cases h : c = d
  · subst h
    simp
  · rw [decide_eq_false h, decide_eq_false (fun z => h (by injection z))]
/-! ### pieces -/
def prunN (t : Tx) (i : Nat) : Pst := prun (t.take i)
theorem prunN_succ {t : Tx} {i : Nat} (h : i < t.length) : prunN t (i + 1) = pstep (prunN t i) (t.getD i 0) := by
  unfold prunN prun
  have e : t.take (i + 1) = t.take i ++ [t.getD i 0] := by
    rw [List.take_add_one, List.getD_eq_getElem?_getD, List.getElem?_eq_getElem h]
    rfl
  rw [e, List.foldl_append]
  rfl
def pdeep (s : Pst) (c : Nat) : Int := s.deep + (if c = 40 then 1 else 0) - (if c = 41 then 1 else 0)
theorem pstep_eq (s : Pst) (c : Nat) : pstep s c = if c = 44 ∧ pdeep s c = 0 then ⟨s.done ++ [s.cur], [], pdeep s c⟩ else ⟨s.done, s.cur ++ [c], pdeep s c⟩ := rfl
theorem pstep_cut {s : Pst} {c : Nat} (h : c = 44 ∧ pdeep s c = 0) : pstep s c = ⟨s.done ++ [s.cur], [], pdeep s c⟩ := by rw [pstep_eq, if_pos h]
theorem pstep_add {s : Pst} {c : Nat} (h : ¬ (c = 44 ∧ pdeep s c = 0)) : pstep s c = ⟨s.done, s.cur ++ [c], pdeep s c⟩ := by rw [pstep_eq, if_neg h]
/-- what the pieces' texts may be -/
structure Pok (s : Pst) (n : Nat) : Prop where
  many : s.done.length ≤ n
  short : ∀ p ∈ s.done, p.length ≤ n
  cur : s.cur.length ≤ n
theorem pok_step {s : Pst} {n : Nat} (c : Nat) (h : Pok s n) : Pok (pstep s c) (n + 1) := by
  by_cases hc : c = 44 ∧ pdeep s c = 0
  · rw [pstep_cut hc]
    refine ⟨by show (s.done ++ [s.cur]).length ≤ n + 1; rw [List.length_append, List.length_singleton]; have := h.many; omega, fun p hp => ?_, Nat.zero_le _⟩
    rcases List.mem_append.mp hp with hp | hp
    · have := h.short p hp
      omega
    · rw [List.mem_singleton.mp hp]
      have := h.cur
      omega
  · rw [pstep_add hc]
    refine ⟨Nat.le_succ_of_le h.many, fun p hp => Nat.le_succ_of_le (h.short p hp), ?_⟩
    have := h.cur
    show (s.cur ++ [c]).length ≤ n + 1
    rw [List.length_append, List.length_singleton]
    omega
theorem pok_run : ∀ (x : Tx) (s : Pst) (n : Nat), Pok s n → Pok (x.foldl pstep s) (n + x.length)
  | [], _, _, h => h
  | c :: r, s, n, h => by
    have e := pok_run r _ _ (pok_step c h)
    rw [List.foldl_cons, List.length_cons]
    have : n + (r.length + 1) = n + 1 + r.length := by omega
    rw [this]
    exact e
theorem pok_prun (x : Tx) : Pok (prun x) x.length := by
  have h := pok_run x ⟨[], [], 0⟩ 0 ⟨Nat.le_refl _, (fun p hp => by cases hp), Nat.le_refl _⟩
  rw [Nat.zero_add] at h
  exact h
theorem pieces_short {x p : Tx} (h : p ∈ pieces x) : p.length ≤ x.length := by
  have k := pok_prun x
  unfold pieces at h
  rcases List.mem_append.mp h with h | h
  · exact k.short p h
  · rw [List.mem_singleton.mp h]
    exact k.cur
theorem pieces_few (x : Tx) : (pieces x).length ≤ x.length + 1 := by
  have k := (pok_prun x).many
  unfold pieces
  rw [List.length_append, List.length_singleton]
  omega
theorem pieces_ne (x : Tx) : pieces x ≠ [] := by
  unfold pieces
  simp
def txs (xs : List Tx) : List V := (xs.map S).map V.str
theorem txs_app (xs : List Tx) (x : Tx) : txs (xs ++ [x]) = txs xs ++ [V.str (S x)] := by
  unfold txs
  simp
theorem txs_len (xs : List Tx) : (txs xs).length = xs.length := by
  unfold txs
  simp
theorem ixN_last (xs : List V) (v : V) : ixN (xs ++ [v]).length (-1) = some xs.length := by
  have hl : (xs ++ [v]).length = xs.length + 1 := by simp
  unfold ixN
  rw [hl, if_neg (by decide), if_pos (by omega)]
  congr 1
  omega
theorem set_last (xs : List V) (v y : V) : (xs ++ [v]).set xs.length y = xs ++ [y] := by
  rw [List.set_append_right _ _ (Nat.le_refl _), Nat.sub_self]
  rfl
section
variable {P : Program} {w : PySem.World} {K : PySem.W.Frag} {mg : Str → Option Value} {base : Heap}
def spPieces : Sp := fun vs H Q _ => ∃ t : Tx, vs = [.str (S t)] ∧ t.length ≤ 1000 ∧ ∀ H' p, Same H H' → H p = none → H' p = some (.lst (txs (pieces t))) → Q (.ref p) H'
theorem ok_pieces_of (T : Txt mg) (D : Dn K mg "pieces_of" sPiecesOf) : Cal P w K mg base CX0 1 "pieces_of" pPiecesOf spPieces := by
  refine cal_of D scPiecesOf bPiecesOf (fun vs H Q E h => ?_) fun f cdv A outer s H vs Q E hr h => ?_
  · obtain ⟨t, rfl, _⟩ := h
    rfl
  · obtain ⟨t, rfl, hz, q⟩ := h
    refine ⟨_, pss_cons (ps_par (i := 1) (j := 2) rfl scPiecesOf.nd rfl rfl (by decide) rfl rfl (pa_cons (pe_lst (pa_cons pe_str pa_nil)) (pa_cons pe_int pa_nil)) (by rfl))
      (pss_cons (ps_for PassesOwn.never rfl (pi_str (pv 0)) (pg_name (i := 3) scPiecesOf.nd rfl (Or.inl rfl))
        (pss_cons (ps_set (i := 2) scPiecesOf.nd rfl (Or.inl rfl) (pe_op op_sub (pe_op op_add (pv 2) (pe_callTy call_int1 (by rfl) T.int boot_int (pa_cons (pe_cmpR op_eq (pv 3) pe_str (nomark _)) pa_nil))) (pe_callTy call_int1 (by rfl) T.int boot_int (pa_cons (pe_cmpR op_eq (pv 3) pe_str (nomark _)) pa_nil))))
          (pss_one (ps_if (PW.pt (pw_and (pt_cmpR op_eq (pv 3) pe_str (nomark _)) (pw_and1 (pt_cmpR op_eq (pv 2) pe_int (nomark _)))))
            (pss_one (ps_expr (pe_bm PySem.F.plainAttrs_list PySem.F.slot_list_append PySem.F.type_list_append mt_append (pv 1) (pa_cons pe_str pa_nil))))
            (pss_one (ps_asg (pe_op op_add_str (pe_ix ix_list (pv 1) (pe_un un_neg pe_int) (fun _ _ => rfl)) (pv 3)) (pg_sub (pv 1) (pe_un un_neg pe_int) set_list)))))))
      (pss_one (ps_ret (pv 1)))), ?_⟩
    refine ⟨by decide, fun p hp => ⟨_, _, rfl, ?_⟩⟩
    refine ⟨_, rfl, S t, rfl, for_turns (turns_str t) (fun i σ H' => ∃ v : Option V, σ = [some (.str (S t)), some (.ref p), some (.int (prunN t i).deep), v] ∧ Same H H' ∧ H' p = some (.lst (txs ((prunN t i).done ++ [(prunN t i).cur])))) ?_ (fun _ _ _ _ _ => trivial) ?_ ?_⟩
    · refine ⟨none, rfl, Same.new hp, ?_⟩
      rw [upd_same]
      show some (HO.lst [V.str ""]) = some (HO.lst [V.str (S [])])
      rw [str_nil]
    · rintro i σ H' hi ⟨v, rfl, s1, h1⟩
      have st := prunN_succ hi
      have ok : Pok (prunN t i) i := by
        have := pok_prun (t.take i)
        rw [List.length_take, Nat.min_eq_left (Nat.le_of_lt hi)] at this
        exact this
      rw [txs_app] at h1
      have dp : (prunN t i).deep + (if decide (V.str (S [t.getD i 0]) = V.str "(") = true then (1 : Int) else 0) - (if decide (V.str (S [t.getD i 0]) = V.str ")") = true then (1 : Int) else 0) = pdeep (prunN t i) (t.getD i 0) := by
        rw [str_lp, str_rp, dec1, dec1]
        simp only [decide_eq_true_eq]
        rfl
      refine ⟨_, rfl, _, rfl, rfl, .inr ⟨_, rfl, _, _, rfl, rfl, _, rfl, rfl, .inr ⟨_, rfl, _, _, rfl, rfl, ?_⟩⟩⟩
      have hcm : decide (V.str (S [t.getD i 0]) = V.str ",") = decide (t.getD i 0 = 44) := by rw [str_cm, dec1]
      -- the other way: the sign behind the last piece
      have other : ¬ (t.getD i 0 = 44 ∧ pdeep (prunN t i) (t.getD i 0) = 0) → ∀ v' : V, v' = .int (pdeep (prunN t i) (t.getD i 0)) →
          (fun σ H' => ∃ v : Option V, σ = [some (.str (S t)), some (.ref p), some (.int (prunN t (i + 1)).deep), v] ∧ Same H H' ∧ H' p = some (.lst (txs ((prunN t (i + 1)).done ++ [(prunN t (i + 1)).cur]))))
            [some (.str (S t)), some (.ref p), some v', some (.str (S [t.getD i 0]))] (L2.upd H' p (.lst (txs (prunN t i).done ++ [.str (S ((prunN t i).cur ++ [t.getD i 0]))]))) := by
        intro hc v' e
        subst e
        rw [st, pstep_add hc]
        exact ⟨_, rfl, Same.mut s1 hp, by rw [upd_same, txs_app]⟩
      have size : (S (prunN t i).cur).length + (S [t.getD i 0]).length ≤ sizeLine := by
        rw [SX.S_len, SX.S_len]
        have := ok.cur
        exact sl_ok (by simp only [List.length_singleton]; omega)
      refine ⟨_, rfl, rfl, _, rfl, iteE hcm (iteD (fun c1 => ?_) fun c1 => ?_)⟩
      · refine ⟨_, rfl, rfl, _, rfl, iteD (fun c2 => ?_) fun c2 => ?_⟩
        · have c3 : pdeep (prunN t i) (t.getD i 0) = 0 := dp.symm.trans (V.int.inj c2)
          refine ⟨_, rfl, .inl ⟨rfl, _, SqL.of h1⟩, p, _, _, rfl, rfl, h1, ?_, some (.str (S [t.getD i 0])), ?_, Same.mut s1 hp, ?_⟩
          · rw [List.length_append, txs_len, List.length_singleton]
            have := ok.many
            exact Nat.lt_of_lt_of_le (by omega : _ < 100001) (by decide)
          · rw [st, pstep_cut ⟨c1, c3⟩]
            show _ = [some (V.str (S t)), some (V.ref p), some (V.int (pdeep (prunN t i) (t.getD i 0))), some (V.str (S [t.getD i 0]))]
            rw [← dp]
            rfl
          · rw [upd_same, st, pstep_cut ⟨c1, c3⟩, txs_app, txs_app, str_nil]
        · have c3 : ¬ (t.getD i 0 = 44 ∧ pdeep (prunN t i) (t.getD i 0) = 0) := fun z => c2 (congrArg V.int (dp.trans z.2))
          refine ⟨_, rfl, _, rfl, p, _, _, _, rfl, rfl, SqL.of h1, atI_last _ _, _, rfl, _, _, rfl, rfl, size, _, rfl, _, rfl, p, _, _, _, rfl, rfl, h1, ixN_last _ _, ?_⟩
          rw [set_last, SX.S_cat]
          exact other c3 _ (congrArg V.int dp)
      · have c3 : ¬ (t.getD i 0 = 44 ∧ pdeep (prunN t i) (t.getD i 0) = 0) := fun z => c1 z.1
        refine iteF ⟨_, rfl, _, rfl, p, _, _, _, rfl, rfl, SqL.of h1, atI_last _ _, _, rfl, _, _, rfl, rfl, size, _, rfl, _, rfl, p, _, _, _, rfl, rfl, h1, ixN_last _ _, ?_⟩
        rw [set_last, SX.S_cat]
        exact other c3 _ (congrArg V.int dp)
    · rintro σ H' ⟨v, rfl, s1, h1⟩
      refine ⟨_, rfl, q _ p s1 hp ?_⟩
      rw [h1]
      unfold prunN pieces
      rw [List.take_length]
/-! ### read_sort -/
theorem spl_head : ∀ (s acc : Tx), (TL.spl [40] 0 acc s)[0]? = some (acc ++ root s)
  | [], acc => by
    rw [TL.spl_nil]
    unfold root
    simp
  | c :: r, acc => by
    by_cases h : c = 40
    · subst h
      rw [TL.spl_hit (show TL.pre [40] (40 :: r) = true from TL.pre_self [40] r)]
      unfold root
      simp
    · rw [TL.spl_miss (TL.pre_of_head _ _ h), spl_head r]
      unfold root
      rw [List.takeWhile_cons, if_pos (decide_eq_true h)]
      simp
theorem root_lt {s : Tx} (h : root s ≠ s) : (root s).length < s.length := by
  have e : root s <+: s := List.takeWhile_prefix _
  rcases Nat.lt_or_ge (root s).length s.length with l | l
  · exact l
  · exact absurd (e.eq_of_length_le l) h
theorem slice_inner {s : Tx} (h : root s ≠ s) : Txt.slice (S s) (some (((root s).length : Int) + 1)) (some (-1)) = S (inner s) := by
  have hl := root_lt h
  rw [← C8.cutS_slice]
  unfold cutS
  have e1 : HT.sIx (S s).length 0 (some (((root s).length : Int) + 1)) = (root s).length + 1 := by
    show HT.sIx (S s).length 0 (some (((root s).length + 1 : Nat) : Int)) = _
    rw [HT.sIx_nat, SX.S_len]
    omega
  have e2 : HT.sIx (S s).length (S s).length (some (-1)) = s.length - 1 := by
    rw [SX.S_len]
    show (if (-1 : Int) < 0 then ((-1 : Int) + ((s.length : Nat) : Int)).toNat else min (-1 : Int).toNat s.length) = _
    rw [if_pos (by decide)]
    omega
  rw [e1, e2]
  unfold inner
  show S ((s.drop ((root s).length + 1)).take (s.length - 1 - ((root s).length + 1))) = _
  congr 1
  rw [List.dropLast_eq_take, List.length_drop]
  congr 1
  omega
theorem inner_len (s : Tx) : (inner s).length ≤ s.length := by
  unfold inner
  rw [List.length_dropLast, List.length_drop]
  omega
theorem decN (a b : Int) : decide (V.int a = V.int b) = decide (a = b) := by
  by_cases h : a = b
  · subst h
    simp
  · rw [decide_eq_false h, decide_eq_false (fun z => h (V.int.inj z))]
def spRead (n : Nat) : Sp := fun vs H Q _ => ∃ s : Tx, vs = [.str (S s), .int (n : Nat)] ∧ s.length ≤ 500 ∧ ∀ H' v, Same H H' → At (n + 1) H' v (read n s) → Q v H'
theorem ok_read_sort (T : Txt mg) (D : Dn K mg "read_sort" sReadSort) (Cp : Cal P w K mg base CX0 1 "pieces_of" pPiecesOf spPieces) : ∀ n, Cal P w K mg base CX0 (n + 2) "read_sort" pReadSort (spRead n) := by
  intro n
  -- the callee, where there is one: of a depth less by one
  have step : ∀ n, (n = 0 ∨ (∃ m, n = m + 1) ∧ Cal P w K mg base CX0 (n + 1) "read_sort" pReadSort (spRead (n - 1))) → Cal P w K mg base CX0 (n + 2) "read_sort" pReadSort (spRead n) := by
    intro n hC
    refine cal_of D scReadSort bReadSort (fun vs H Q E h => ?_) fun f cdv A outer s H vs Q E hr h => ?_
    · obtain ⟨x, rfl, _⟩ := h
      rfl
    · obtain ⟨x, rfl, hz, q⟩ := h
      have hzl : (S x).length ≤ sizeLine := by
        rw [SX.S_len]
        exact Nat.le_trans hz (by decide)
      obtain ⟨nu, hnu⟩ := T.names
      have hroot : (Txt.split (S x) "(")[0]? = some (S (root x)) := by
        rw [str_lp, SX.split_S (by decide) (by decide), List.getElem?_map, spl_head, List.nil_append]
        rfl
      have hroot' : ((Txt.split (S x) "(").map V.str)[0]? = some (.str (S (root x))) := by
        rw [List.getElem?_map, hroot]
        rfl
      -- return text if len(text) == 1 and text in NAMES else (text,)
      have leafT : ∀ {D : Ends} {H1 : Hp}, Same H H1 → D.rt = Q → (read n x = leaf x) →
          tRet (tIf (tAnd (tTest (tOp rEq (tCB (fun xs H Q => ∃ z, xs = [V.str z] ∧ z.length ≤ sizeLine ∧ Q (.int z.length) H) (tCons (tVar 0) tNil)) (tC (.int 1)))) (tTest (tOp (fun x y H Q => ∃ (c : Nat) (z : Str), x = .str ⟨#[c]⟩ ∧ y = .str z ∧ Q (.bl (decide (c ∈ z.cps.toList))) H) (tVar 0) (tC (.str "abcdefgh"))))) (tVar 0) (tTup (tCons (tVar 0) tNil)))
            D [some (.str (S x)), some (.int (n : Nat)), some (.str (S (root x))), none] H1 := by
        intro D H1 s1 hD hread
        have name : isName x = true → Q (.str (S x)) H1 := fun h => by
          refine q H1 _ s1 ?_
          rw [hread]
          unfold leaf
          rw [if_pos h]
          exact ⟨rfl, by omega⟩
        have cons : isName x = false → ∀ p, H1 p = none → Q (.ref p) (L2.upd H1 p (.tup [.str (S x)])) := fun h p hp => by
          refine q _ _ (Same.trans s1 (Same.new hp)) ?_
          rw [hread]
          unfold leaf
          rw [if_neg (by rw [h]; exact Bool.false_ne_true)]
          exact ⟨p, [], rfl, upd_same, Nat.zero_le _, .nil⟩
        show tIf _ _ _ _ H1 D.rt
        rw [hD]
        refine ⟨_, rfl, S x, rfl, hzl, rfl, _, rfl, iteD (fun c => ?_) fun c => ?_⟩
        · have c1 : ((S x).length : Int) = 1 := V.int.inj c
          rw [SX.S_len] at c1
          obtain ⟨y, rfl⟩ : ∃ y, x = [y] := by
            cases x with
            | nil => simp at c1
            | cons y r =>
              cases r with
              | nil => exact ⟨y, rfl⟩
              | cons z r =>
                simp only [List.length_cons] at c1
                omega
          have e : decide (y ∈ ("abcdefgh" : Str).cps.toList) = isName [y] := inNames y
          refine ⟨_, rfl, y, _, rfl, rfl, _, rfl, iteE e (iteB (fun h => ⟨_, rfl, name h⟩) fun h => ?_)⟩
          exact ⟨_, rfl, (by show 1 ≤ sizeLine; decide), cons h⟩
        · have c1 : ¬ x.length = 1 := fun e => c (by rw [SX.S_len, e]; rfl)
          have e : isName x = false := by
            unfold isName
            split
            · exact absurd rfl c1
            · rfl
          exact iteF ⟨_, rfl, (by show 1 ≤ sizeLine; decide), cons e⟩
      rcases hC with rfl | ⟨hm, C⟩
      · refine ⟨_, pss_cons (ps_set (i := 2) scReadSort.nd rfl (Or.inl rfl) (pe_ix ix_list (pe_split (pv 0) pe_str) pe_int (fun _ _ => rfl)))
          (pss_cons (ps_if (PW.pt (pw_or (pt_cmpR op_eq (pv 2) (pv 0) (nomark _)) (pw_or1 (pt_cmpR op_eq (pv 1) pe_int (nomark _)))))
            (pss_one (ps_ret (pe_ifExp (PW.pt (pw_and (pt_cmpR op_eq (pe_callB call_len_str (by rfl) T.len b_len (pa_cons (pv 0) pa_nil)) pe_int (nomark _)) (pw_and1 (pt_cmpR op_in_sign (pv 0) (pe_glob rfl hnu (rel_str _ _)) (by rfl))))) (pv 0) (pe_tup (pa_cons (pv 0) pa_nil))))) pss_nil) pss_never), ?_⟩
        refine ⟨_, rfl, ⟨_, rfl⟩, _, _, rfl, rfl, by rw [str_lp]; rfl, ?_, fun p hp => ?_⟩
        · exact Nat.le_trans (by rw [SX.S_len]; omega : _ ≤ 1000) (by decide)
        · refine ⟨p, _, _, _, rfl, rfl, SqL.of upd_same, atI_nat (j := 0) hroot', _, rfl, _, rfl, rfl, _, rfl, iteB (fun _ => ?_) fun _ => ?_⟩
          · exact iteT (leafT (Same.new hp) rfl rfl)
          · exact ⟨_, rfl, rfl, _, rfl, iteDT rfl (leafT (Same.new hp) rfl rfl)⟩
      · obtain ⟨m, rfl⟩ := hm
        refine ⟨_, pss_cons (ps_set (i := 2) scReadSort.nd rfl (Or.inl rfl) (pe_ix ix_list (pe_split (pv 0) pe_str) pe_int (fun _ _ => rfl)))
          (pss_cons (ps_if (PW.pt (pw_or (pt_cmpR op_eq (pv 2) (pv 0) (nomark _)) (pw_or1 (pt_cmpR op_eq (pv 1) pe_int (nomark _)))))
            (pss_one (ps_ret (pe_ifExp (PW.pt (pw_and (pt_cmpR op_eq (pe_callB call_len_str (by rfl) T.len b_len (pa_cons (pv 0) pa_nil)) pe_int (nomark _)) (pw_and1 (pt_cmpR op_in_sign (pv 0) (pe_glob rfl hnu (rel_str _ _)) (by rfl))))) (pv 0) (pe_tup (pa_cons (pv 0) pa_nil))))) pss_nil)
          (pss_one (ps_ret (pe_op op_catA (pe_tup (pa_cons (pv 2) pa_nil)) (pe_callTy call_tuple_of (by rfl) T.tup boot_tuple (pa_cons
            (pe_lc (own := [("piece", 3)]) (g := gName 3) (tt := tYes) rfl scReadSort.nd
              (pi_list (pe_cal Cp (hr.mono (by omega)) (pa_cons (pe_slice C8.sl_txt (pv 0) (po_some (pe_op op_add (pe_callB call_len_str (by rfl) T.len b_len (pa_cons (pv 2) pa_nil)) pe_int)) (po_some (pe_un un_neg pe_int))) pa_nil)))
              (blkOk_by (N := nReadSort) (sc := defScope sReadSort) (by decide +kernel)) (fun _ _ _ _ _ => pg_name (i := 3) scReadSort.nd rfl (Or.inl rfl)) (fun _ _ _ _ _ => pts_nil)
              (fun _ _ _ _ _ => pe_cal C hr (pa_cons (pv 3) (pa_cons (pe_op op_sub (pv 1) pe_int) pa_nil)))) pa_nil)))))), ?_⟩
        refine ⟨_, rfl, ⟨_, rfl⟩, _, _, rfl, rfl, by rw [str_lp]; rfl, ?_, fun p hp => ?_⟩
        · exact Nat.le_trans (by rw [SX.S_len]; omega : _ ≤ 1000) (by decide)
        · refine ⟨p, _, _, _, rfl, rfl, SqL.of upd_same, atI_nat (j := 0) hroot', _, rfl, _, rfl, rfl, _, rfl, iteE (decS _ _) (iteD (fun c => ?_) fun c => ?_)⟩
          · refine iteT (leafT (Same.new hp) rfl ?_)
            unfold read
            rw [if_pos c]
          · refine ⟨_, rfl, rfl, _, rfl, iteE (decN _ _) (iteDF (by omega) ?_)⟩
            have er : read (m + 1) x = .nd (root x) ((pieces (inner x)).map (read m)) := by
              conv => lhs; unfold read
              rw [if_neg c]
            have hil := inner_len x
            have hrl : (S (root x)).length ≤ sizeLine := by
              rw [SX.S_len]
              have := root_lt c
              exact Nat.le_trans (by omega : _ ≤ 1000) (by decide)
            have sl : Txt.slice (S x) (some (((S (root x)).length : Int) + 1)) (some (-1)) = S (inner x) := by
              rw [SX.S_len]
              exact slice_inner c
            have few := pieces_few (inner x)
            have tl := txs_len (pieces (inner x))
            have item : ∀ i, i < (pieces (inner x)).length → (txs (pieces (inner x))).getD i .non = .str (S ((pieces (inner x)).getD i [])) ∧ ((pieces (inner x)).getD i []).length ≤ 500 := by
              intro i hi
              have e1 : (pieces (inner x))[i]? = some (pieces (inner x))[i] := List.getElem?_eq_getElem hi
              constructor
              · unfold txs
                rw [List.getD_eq_getElem?_getD, List.getD_eq_getElem?_getD, List.getElem?_map, List.getElem?_map, e1]
                rfl
              · rw [List.getD_eq_getElem?_getD, e1]
                have := pieces_short (List.getElem_mem hi)
                show (pieces (inner x))[i].length ≤ 500
                omega
            refine ⟨_, rfl, (by show 1 ≤ sizeLine; decide), fun a1 ha1 => ⟨_, rfl, _, rfl, _, rfl, hrl, _, _, rfl, rfl, _, rfl, _, rfl, _, rfl, _, rfl, hzl, inner x, ?_, by omega, fun H2 b s2 hb h2 => ?_⟩⟩
            · show [V.str (Txt.slice (S x) (some (((S (root x)).length : Int) + 1)) (some (-1)))] = _
              rw [sl]
            have s02 : Same H H2 := Same.trans (Same.new hp) (Same.trans (Same.new ha1) s2)
            refine ⟨b, rfl, ⟨_, SqL.of h2⟩, fun L hL => lc_name (turns_lst (K := K) (txs (pieces (inner x)))) (fun i y H => At (m + 1) H y (read m ((pieces (inner x)).getD i []))) hL (by omega) (fun H' s1 => Same.seq s1 (SqL.of h2)) (fun _ _ _ _ tk h => h.tk tk) (fun _ => rfl) (fun i H' hi s1 H3 s3 Q3 k => ?_) (fun H' ys s1 h1 hl1 hq => ?_)⟩
            · rw [tl] at hi
              obtain ⟨i1, i2⟩ := item i hi
              refine ⟨_, rfl, _, rfl, _, _, rfl, rfl, (pieces (inner x)).getD i [], ?_, i2, fun H4 v s4 h4 => k _ _ s4 h4⟩
              show [(txs (pieces (inner x))).getD i .non, V.int (((m + 1 : Nat) : Int) - 1)] = [V.str (S ((pieces (inner x)).getD i [])), V.int ((m : Nat) : Int)]
              rw [i1]
              congr 3
              omega
            · refine ⟨L, ys, rfl, .inl ⟨SqL.of h1, fun l hl => ?_⟩⟩
              have ht1 : H' a1 = some (.tup [.str (S (root x))]) := s1 _ _ (s2 _ _ upd_same)
              have yl : ys.length = (pieces (inner x)).length := hl1.trans tl
              refine ⟨a1, l, _, ys, rfl, rfl, SqT.of (Same.new hl _ _ ht1), SqT.of upd_same, ?_, (fun e => by cases e), fun _ e => ?_, fun _ _ c1 hc1 => ?_⟩
              · exact Nat.le_trans (by rw [List.length_singleton]; omega : _ ≤ 1000) (by decide)
              · subst e
                exact absurd (List.eq_nil_of_length_eq_zero (show (pieces (inner x)).length = 0 by rw [← yl]; rfl)) (pieces_ne _)
              · have s3 : Same H' (L2.upd (L2.upd H' l (.tup ys)) c1 (.tup ([.str (S (root x))] ++ ys))) := Same.trans (Same.new hl) (Same.new hc1)
                refine q _ _ (Same.trans s02 (Same.trans s1 s3)) ?_
                rw [er]
                refine ⟨c1, ys, rfl, upd_same, by rw [List.length_map]; omega, paired_of (by rw [List.length_map]; exact yl) fun i y u e1 e2 => ?_⟩
                have h3 := (hq i y e1).same s3
                rw [List.getElem?_map] at e2
                cases e3 : (pieces (inner x))[i]? with
                | none =>
                  rw [e3] at e2
                  cases e2
                | some z =>
                  rw [e3] at e2
                  have e4 : read m z = u := Option.some.inj e2
                  rw [← e4]
                  rw [List.getD_eq_getElem?_getD, e3] at h3
                  exact h3
  induction n with
  | zero => exact step 0 (.inl rfl)
  | succ n ih => exact step (n + 1) (.inr ⟨⟨n, rfl⟩, ih⟩)
end
end Ts

/-! are_traits, is_world, check_world -/
namespace Ts
open PySem PySem.Spec PyProof.Rows L2
def asc (b : List Tx) : Bool := ((List.range (b.length - 1)).map fun k => decide (b.getD k [] < b.getD (k + 1) [])).all id
abbrev tellL : Tx := [116, 101, 108, 108]
abbrev makeL : Tx := [109, 97, 107, 101]
theorem str_tell : ("tell" : Str) = S tellL := by decide +kernel
theorem str_make : ("make" : Str) = S makeL := by decide +kernel
/-- one trait, behind earlier ones -/
def traitOk (e : List Tx) (q : Tx × Tx × List Tx) : Bool :=
  smallB q.1 1 6 && !decide (q.1 ∈ e) && decide (q.2.1 = tellL ∨ q.2.1 = makeL) && (q.2.2.map fun x => decide (x ∈ e)).all id && asc q.2.2 && decide (q.2.2.length ≤ 1000)
def trOk : List Tx → List (Tx × Tx × List Tx) → Bool
  | _, [] => true
  | e, q :: r => traitOk e q && trOk (e ++ [q.1]) r
theorem trOk_at : ∀ {e : List Tx} {ts : List (Tx × Tx × List Tx)} {i : Nat} {q : Tx × Tx × List Tx}, trOk e ts = true → ts[i]? = some q → traitOk (e ++ (ts.take i).map (·.1)) q = true
  | _, [], _, _, _, h => by simp at h
  | e, p :: r, 0, q, h, k => by
    have z : p = q := Option.some.inj k
    subst z
    unfold trOk at h
    rw [Bool.and_eq_true] at h
    simpa using h.1
  | e, p :: r, i + 1, q, h, k => by
    unfold trOk at h
    rw [Bool.and_eq_true] at h
    have z := trOk_at (i := i) h.2 (by simpa using k)
    rw [List.append_assoc] at z
    exact z
theorem inV_txs (x : Tx) : ∀ es : List Tx, inV (.str (S x)) (txs es) = decide (x ∈ es)
  | [] => rfl
  | y :: r => by
    have ih := inV_txs x r
    unfold inV at ih ⊢
    show ((S y == S x) || (txs r).any fun z => eqV z (.str (S x))) = _
    rw [ih, SX.S_beq_eq]
    by_cases h : x = y
    · subst h
      simp
    · rw [decide_eq_false (fun z => h z.symm), Bool.false_or]
      simp [h]
theorem flat_txs (es : List Tx) : (txs es).all flatV = true := by
  unfold txs
  rw [List.all_map, List.all_map]
  exact List.all_eq_true.mpr fun _ _ => rfl
theorem txs_getD {es : List Tx} {i : Nat} (h : i < es.length) : (txs es)[i]? = some (.str (S (es.getD i []))) := by
  unfold txs
  rw [List.getElem?_map, List.getElem?_map, List.getElem?_eq_getElem h, List.getD_eq_getElem?_getD, List.getElem?_eq_getElem h]
  rfl
section
variable {P : Program} {w : PySem.World} {K : PySem.W.Frag} {mg : Str → Option Value} {base : Heap}
def rLtS : R2 := fun x y H Q => ∃ i j, x = .str i ∧ y = .str j ∧ Q (.bl (decide (i.cps.toList < j.cps.toList))) H
def TrAt (H : Hp) (p : Addr) (q : Tx × Tx × List Tx) : Prop := ∃ b, H p = some (.tup [.str (S q.1), .str (S q.2.1), .ref b]) ∧ H b = some (.tup (q.2.2.map fun x => .str (S x)))
def spTraits : Sp := fun vs H Q _ => ∃ (a : Addr) (qs : List Addr) (ts : List (Tx × Tx × List Tx)), vs = [.ref a] ∧ H a = some (.tup (qs.map .ref)) ∧ Paired (TrAt H) qs ts ∧ 1 ≤ ts.length ∧ ts.length ≤ 4 ∧ trOk [] ts = true ∧ ∀ H', Same H H' → Q (.bl true) H'
theorem map_txs (b : List Tx) : (b.map fun x => V.str (S x)) = txs b := by
  unfold txs
  rw [List.map_map]
  rfl
theorem ok_are_traits (T : Txt mg) (D : Dn K mg "are_traits" sAreTraits) (C1 : Cal P w K mg base CX0 1 "are_small" pAreSmall spSmall) : Cal P w K mg base CX0 2 "are_traits" pAreTraits spTraits := by
  refine cal_of D scAreTraits bAreTraits (fun vs H Q E h => ?_) fun f cdv A outer s H vs Q E hr h => ?_
  · obtain ⟨a, qs, ts, rfl, _⟩ := h
    rfl
  · obtain ⟨a, qs, ts, rfl, ha, hp, l1, l4, hok, q⟩ := h
    have hl := paired_len hp
    refine ⟨_, pss_cons (ps_if (PW.pt (pw_or (pt_not (pt_val (pe_isi (pv 0) T.isi T.tup boot_tuple))) (pw_or1 (pt_not (pt_chain op_le op_le pe_int (pe_callB call_len_seq (by rfl) T.len b_len (pa_cons (pv 0) pa_nil)) pe_int))))) (pss_one (ps_ret pe_bl)) pss_nil)
      (pss_cons (ps_set (i := 1) scAreTraits.nd rfl (Or.inr rfl) (pe_lst pa_nil))
      (pss_cons (ps_for PassesOwn.never rfl (pi_tup (pv 0)) (pg_name (i := 2) scAreTraits.nd rfl (Or.inl rfl))
        (pss_cons (ps_if (PW.pt (pw_or (pt_not (pt_val (pe_isi (pv 2) T.isi T.tup boot_tuple))) (pw_or (pt_cmpR op_ne (pe_callB call_len_seq (by rfl) T.len b_len (pa_cons (pv 2) pa_nil)) pe_int (nomark _))
            (pw_or (pt_not (pt_val (pe_cal C1 hr (pa_cons (pe_ix ix_tup (pv 2) pe_int (fun _ _ => rfl)) (pa_cons pe_int (pa_cons pe_int pa_nil)))))) (pw_or1 (pt_cmpR op_in_seq (pe_ix ix_tup (pv 2) pe_int (fun _ _ => rfl)) (pv 1) (by rfl))))))) (pss_one (ps_ret pe_bl)) pss_nil)
        (pss_cons (ps_asg (pv 2) (pg_tup (by rfl) (pgs_cons (pg_name (i := 3) scAreTraits.nd rfl (Or.inl rfl)) (pgs_cons (pg_name (i := 4) scAreTraits.nd rfl (Or.inl rfl)) (pgs_cons (pg_name (i := 5) scAreTraits.nd rfl (Or.inr rfl)) pgs_nil)))))
        (pss_cons (ps_if (PW.pt (pw_or (pt_not (pt_val (pe_isi (pv 4) T.isi T.str boot_str))) (pw_or (pt_cmpR op_notIn_seq (pv 4) (pe_tup (pa_cons pe_str (pa_cons pe_str pa_nil))) (by rfl)) (pw_or1 (pt_not (pt_val (pe_isi (pv 5) T.isi T.tup boot_tuple))))))) (pss_one (ps_ret pe_bl)) pss_nil)
        (pss_cons (ps_if (pt_not (pt_val (pe_callB (cr_all rfl) (by rfl) T.all b_all (pa_cons
          (pe_lc (own := [("one", 6)]) (g := gName 6) (tt := tYes) (te := tAndV (tCB (rIsN K) (tCons (tVar 6) (tCons (tC (.ty "str")) tNil))) (tOp (rIn K false) (tVar 6) (tVar 1))) rfl scAreTraits.nd (pi_tup (pv 5)) (blkOk_by (N := nAreTraits) (sc := defScope sAreTraits) (by decide +kernel)) (fun _ _ _ _ _ => pg_name (i := 6) scAreTraits.nd rfl (Or.inl rfl)) (fun _ _ _ _ _ => pts_nil)
            (fun _ _ _ _ _ => pe_and (pe_isi (pv 6) T.isi T.str boot_str) (pe_one (pe_cmpR op_in_seq (pv 6) (pv 1) (by rfl))))) pa_nil)))) (pss_one (ps_ret pe_bl)) pss_nil)
        (pss_cons (ps_if (pt_not (pt_val (pe_callB (cr_all rfl) (by rfl) T.all b_all (pa_cons
          (pe_lc (own := [("k", 7)]) (g := gName 7) (tt := tYes) (te := tOp rLtS (tOp (rIxT K) (tVar 5) (tVar 7)) (tOp (rIxT K) (tVar 5) (tOp (rI0 fun i j => .int (i + j)) (tVar 7) (tC (.int 1))))) rfl scAreTraits.nd (pi_range1 (by rfl) T.range (pa_cons (pe_op op_sub (pe_callB call_len_seq (by rfl) T.len b_len (pa_cons (pv 5) pa_nil)) pe_int) pa_nil)) (blkOk_by (N := nAreTraits) (sc := defScope sAreTraits) (by decide +kernel)) (fun _ _ _ _ _ => pg_name (i := 7) scAreTraits.nd rfl (Or.inl rfl)) (fun _ _ _ _ _ => pts_nil)
            (fun _ _ _ _ _ => pe_cmpR op_lt_str (pe_ix ix_tup (pv 5) (pv 7) (fun _ _ => rfl)) (pe_ix ix_tup (pv 5) (pe_op op_add (pv 7) pe_int) (fun _ _ => rfl)) (nomark _))) pa_nil)))) (pss_one (ps_ret pe_bl)) pss_nil)
        (pss_one (ps_expr (pe_bm PySem.F.plainAttrs_list PySem.F.slot_list_append PySem.F.type_list_append mt_append (pv 1) (pa_cons (pv 3) pa_nil))))))))))
      (pss_one (ps_ret pe_bl)))), ?_⟩
    have len1 : (1 : Int) ≤ (((qs.map V.ref).length : Nat) : Int) := by
      rw [List.length_map]
      omega
    have len4 : (((qs.map V.ref).length : Nat) : Int) ≤ 4 := by
      rw [List.length_map]
      omega
    refine ⟨_, rfl, _, _, _, _, rfl, ty_tup ha, k_tt, true, rfl, iteF ⟨_, rfl, a, _, rfl, .inr (SqT.of ha), _, _, rfl, rfl, _, rfl, iteDT len1 ⟨_, _, rfl, rfl, _, rfl, iteNF len4 ?_⟩⟩⟩
    refine ⟨Nat.zero_le _, fun l hlf => ?_⟩
    refine ⟨_, rfl, a, rfl, ⟨_, SqT.of (Same.new hlf _ _ ha)⟩, for_tup (K := K) (a := a) (xs := qs.map V.ref) (fun i σ H' => ∃ v2 v3 v4 v5 : Option V, σ = [some (.ref a), some (.ref l), v2, v3, v4, v5, none, none] ∧ Same H H' ∧ H' l = some (.lst (txs ((ts.take i).map (·.1)))))
      ⟨none, none, none, none, rfl, Same.new hlf, upd_same⟩ (fun i σ H' _ ⟨_, _, _, _, _, s1, _⟩ => Same.tup s1 (SqT.of ha)) ?_ ?_⟩
    · rintro i x σ H' hi ⟨v2, v3, v4, v5, rfl, s1, h1⟩
      obtain ⟨p, hpi, rfl⟩ : ∃ p, qs[i]? = some p ∧ x = .ref p := by
        rw [List.getElem?_map] at hi
        cases e : qs[i]? with
        | none =>
          rw [e] at hi
          cases hi
        | some p =>
          rw [e] at hi
          exact ⟨p, rfl, (Option.some.inj hi).symm⟩
      obtain ⟨⟨n, fm, b⟩, hti, c, hc1, hc2⟩ := paired_at hp hpi
      have hc1 : H p = some (.tup [.str (S n), .str (S fm), .ref c]) := hc1
      have hc2 : H c = some (.tup (b.map fun x => .str (S x))) := hc2
      rw [map_txs] at hc2
      have ok := trOk_at hok hti
      rw [List.nil_append] at ok
      have hilt : i < ts.length := (List.getElem?_eq_some_iff.mp hti).1
      have esl : ((ts.take i).map (·.1)).length ≤ 4 := by
        rw [List.length_map, List.length_take]
        omega
      have etk : (ts.take (i + 1)).map (·.1) = (ts.take i).map (·.1) ++ [n] := by
        rw [List.take_add_one, hti, List.map_append]
        rfl
      generalize (ts.take i).map (·.1) = es at ok h1 esl etk
      unfold traitOk at ok
      simp only [Bool.and_eq_true, decide_eq_true_eq, Bool.not_eq_true', decide_eq_false_iff_not] at ok
      obtain ⟨⟨⟨⟨⟨o1, o2⟩, o3⟩, o4⟩, o5⟩, o6⟩ := ok
      have nl : n.length ≤ 1000 := by
        unfold smallB at o1
        simp only [Bool.and_eq_true, decide_eq_true_eq] at o1
        omega
      have t1 := s1 _ _ hc1
      -- not isinstance(trait, tuple) or len(trait) != 3 or not are_small(trait[0], 1, 6) or trait[0] in earlier
      refine ⟨_, rfl, _, _, _, _, rfl, ty_tup t1, k_tt, true, rfl, iteF ⟨_, rfl, p, _, rfl, .inr (SqT.of t1), rfl, _, rfl, iteNF rfl ?_⟩⟩
      refine ⟨_, rfl, p, _, _, _, rfl, rfl, SqT.of t1, atI_nat (j := 0) rfl, n, 1, 6, rfl, nl, fun H2 s2 => ⟨_, rfl, iteE (by rw [o1]; rfl) (iteF ?_)⟩⟩
      have t2 := s2 _ _ t1
      have h2 := s2 _ _ h1
      refine ⟨_, rfl, p, _, _, _, rfl, rfl, SqT.of t2, atI_nat (j := 0) rfl, _, rfl, l, _, rfl, .inl (SqL.of h2), rfl, flat_txs _, _, rfl, iteE (inV_txs n es) (iteDF o2 ?_)⟩
      refine ⟨_, rfl, p, _, rfl, SqT.of t2, rfl, _, _, rfl, _, _, rfl, _, _, rfl, rfl, ?_⟩
      -- form
      have b2 : H2 c = some (.tup (txs b)) := s2 _ _ (s1 _ _ hc2)
      refine ⟨_, rfl, _, _, _, _, rfl, ty_str _, k_ss, true, rfl, iteF ⟨_, rfl, by decide, fun u hu => ⟨u, _, rfl, .inr (SqT.of upd_same), rfl, rfl, _, rfl, iteE (c := false) ?_ (iteF ?_)⟩⟩⟩
      · show (!inV (.str (S fm)) [.str "tell", .str "make"]) = false
        rw [str_tell, str_make]
        have : inV (.str (S fm)) (txs [tellL, makeL]) = true := by
          rw [inV_txs]
          exact decide_eq_true (by simpa using o3)
        rw [Bool.not_eq_false']
        exact this
      have b3 := Same.new (o := .tup [.str "tell", .str "make"]) hu _ _ b2
      refine ⟨_, rfl, _, _, _, _, rfl, ty_tup b3, k_tt, true, rfl, iteF ?_⟩
      have s3 : Same H' (L2.upd H2 u (.tup [.str "tell", .str "make"])) := Same.trans s2 (Same.new hu)
      have h3 := s3 _ _ h1
      generalize L2.upd H2 u (.tup [.str "tell", .str "make"]) = H3 at b3 s3 h3
      clear hu u h2 t2 b2 s2 H2
      -- all([isinstance(one, str) and one in earlier for one in below])
      refine ⟨_, rfl, c, rfl, ⟨_, SqT.of b3⟩, fun L hL => lc_name (turns_tup (K := K) (txs b)) (fun i y _ => y = .bl (decide (b.getD i [] ∈ es))) hL (by rw [txs_len]; omega) (fun H4 s4 => Same.tup s4 (SqT.of b3)) (fun _ _ _ _ _ h => h) (fun _ => rfl) (fun j H4 hj s4 H5 s5 Q5 k => ?_) (fun H4 ys s4 h4 hl4 hq => ?_)⟩
      · rw [txs_len] at hj
        have ej : (txs b).getD j .non = .str (S (b.getD j [])) := by
          rw [List.getD_eq_getElem?_getD, txs_getD hj]
          rfl
        rw [ej]
        refine ⟨_, rfl, _, _, _, _, rfl, ty_str _, k_ss, true, rfl, iteT ⟨_, rfl, _, rfl, l, _, rfl, .inl (SqL.of (s5 _ _ (s4 _ _ h3))), rfl, flat_txs _, ?_⟩⟩
        exact k _ _ (Same.refl _) (congrArg V.bl (inV_txs _ _))
      have e := bools_of hl4 hq
      subst e
      have r4 : ((List.range (txs b).length).map fun i => decide (b.getD i [] ∈ es)).all id = true := by
        rw [txs_len, range_map b [] (fun x => decide (x ∈ es))]
        exact o4
      refine ⟨L, _, rfl, SqL.of h4, _, rfl, iteE (c := false) ?_ (iteF ?_)⟩
      · rw [r4]
        rfl
      -- all([below[k] < below[k + 1] for k in range(len(below) - 1)])
      have b4 := s4 _ _ b3
      have n4 : ((((txs b).length : Nat) : Int) - 1).toNat = b.length - 1 := by
        rw [txs_len]
        omega
      refine ⟨_, rfl, c, _, rfl, .inr (SqT.of b4), _, _, rfl, rfl, _, rfl, ?_, ?_, fun L2 hL2 => lc_name (turns_rng ((((txs b).length : Nat) : Int) - 1).toNat) (fun i y _ => y = .bl (decide (b.getD i [] < b.getD (i + 1) []))) hL2 (by rw [n4]; omega) (fun _ _ => trivial) (fun _ _ _ _ _ h => h) (fun _ => rfl) (fun j H5 hj s5 H6 s6 Q6 k => ?_) (fun H5 ys s5 h5 hl5 hq5 => ?_)⟩
      · rw [txs_len]
        omega
      · rw [txs_len]
        omega
      · rw [n4] at hj
        have b6 := SqT.of (K := K) (s6 _ _ (s5 _ _ b4))
        refine ⟨_, rfl, _, rfl, c, _, _, _, rfl, rfl, b6, atI_nat (j := j) (txs_getD (by omega)), ?_⟩
        refine ⟨_, rfl, _, rfl, _, _, rfl, rfl, c, _, _, _, rfl, rfl, b6, at_of (j := j + 1) (by omega) (txs_getD (by omega)), _, _, rfl, rfl, k _ _ (Same.refl _) rfl⟩
      have e := bools_of hl5 hq5
      subst e
      refine ⟨L2, _, rfl, SqL.of h5, _, rfl, iteE (c := false) ?_ (iteF ?_)⟩
      · have : ((List.range ((((txs b).length : Nat) : Int) - 1).toNat).map fun i => decide (b.getD i [] < b.getD (i + 1) [])).all id = true := by
          rw [n4]
          exact o5
        rw [this]
        rfl
      have h6 := s5 _ _ (s4 _ _ h3)
      refine ⟨_, rfl, .inl ⟨rfl, _, SqL.of h6⟩, _, rfl, l, _, _, rfl, rfl, h6, ?_, _, _, _, _, rfl, ?_, ?_⟩
      · rw [txs_len]
        exact Nat.lt_of_le_of_lt esl (by decide)
      · exact Same.mut (Same.trans s1 (Same.trans s3 (Same.trans s4 s5))) hlf
      · rw [upd_same, etk, txs_app]
    · rintro σ H' ⟨v2, v3, v4, v5, rfl, s1, h1⟩
      exact q _ s1
/-! ### is_world -/
def wok (W : Wd) : Bool := decide (1 ≤ W.cons.length ∧ W.cons.length ≤ 4) && (W.cons.map conOk).all id && asc (W.cons.map (·.1)) && (W.cons.map fun q => decide (q.2 = 0)).any id && decide (1 ≤ W.traits.length ∧ W.traits.length ≤ 4) && trOk [] W.traits
def spWorld : Sp := fun vs H Q _ => ∃ (v : V) (W : Wd), vs = [v] ∧ IsW H v W ∧ wok W = true ∧ ∀ H', Same H H' → Q (.bl true) H'
theorem gTup_mono {n : Nat} {t : TGs} (m : ∀ xs σ H Q Q', (∀ a b, Q a b → Q' a b) → t xs σ H Q → t xs σ H Q') : ∀ (x : V) (σ : L2.St) (H : Hp) (Q Q' : L2.St → Hp → Prop), (∀ a b, Q a b → Q' a b) → gTup K n t x σ H Q → gTup K n t x σ H Q' := by
  rintro x σ H Q Q' h ⟨a, xs, e, s, l, g⟩
  exact ⟨a, xs, e, s, l, m _ _ _ _ _ h g⟩
theorem g2_mono {i j : Nat} : ∀ (xs : List V) (σ : L2.St) (H : Hp) (Q Q' : L2.St → Hp → Prop), (∀ a b, Q a b → Q' a b) → gCons (gName i) (gCons (gName j) gNil) xs σ H Q → gCons (gName i) (gCons (gName j) gNil) xs σ H Q' := by
  rintro xs σ H Q Q' h ⟨v, r, e, v2, r2, e2, e3, g⟩
  exact ⟨v, r, e, v2, r2, e2, e3, h _ _ g⟩
theorem refs_getD {ps : List Addr} {i : Nat} (h : i < ps.length) : (ps.map V.ref).getD i .non = .ref (ps.getD i 0) := by
  rw [List.getD_eq_getElem?_getD, List.getElem?_map, List.getElem?_eq_getElem h, List.getD_eq_getElem?_getD, List.getElem?_eq_getElem h]
  rfl
theorem refs_get {ps : List Addr} {i : Nat} (h : i < ps.length) : (ps.map V.ref)[i]? = some (.ref (ps.getD i 0)) := by
  rw [List.getElem?_map, List.getElem?_eq_getElem h, List.getD_eq_getElem?_getD, List.getElem?_eq_getElem h]
  rfl
theorem ok_is_world (T : Txt mg) (D : Dn K mg "is_world" sIsWorld) (C1 : Cal P w K mg base CX0 2 "is_constructor" pIsConstructor spCon) (C2 : Cal P w K mg base CX0 2 "are_traits" pAreTraits spTraits) : Cal P w K mg base CX0 3 "is_world" pIsWorld spWorld := by
  refine cal_of D scIsWorld bIsWorld (fun vs H Q E h => ?_) fun f cdv A outer s H vs Q E hr h => ?_
  · obtain ⟨v, W, rfl, _⟩ := h
    rfl
  · obtain ⟨v, W, rfl, ⟨w0⟩, hok, q⟩ := h
    unfold wok at hok
    simp only [Bool.and_eq_true, decide_eq_true_eq] at hok
    obtain ⟨⟨⟨⟨⟨⟨c1, c4⟩, hcon⟩, hasc⟩, hany⟩, t1, t4⟩, htr⟩ := hok
    refine ⟨_, pss_cons (ps_if (PW.pt (pw_or (pt_not (pt_val (pe_isi (pv 0) T.isi T.tup boot_tuple))) (pw_or (pt_cmpR op_ne (pe_callB call_len_seq (by rfl) T.len b_len (pa_cons (pv 0) pa_nil)) pe_int (nomark _))
        (pw_or1 (pt_not (pt_val (pe_isi (pe_ix ix_tup (pv 0) pe_int (fun _ _ => rfl)) T.isi T.tup boot_tuple))))))) (pss_one (ps_ret pe_bl)) pss_nil)
      (pss_cons (ps_set (i := 1) scIsWorld.nd rfl (Or.inr rfl) (pe_ix ix_tup (pv 0) pe_int (fun _ _ => rfl)))
      (pss_cons (ps_if (PW.pt (pw_or (pt_not (pt_chain op_le op_le pe_int (pe_callB call_len_seq (by rfl) T.len b_len (pa_cons (pv 1) pa_nil)) pe_int)) (pw_or1 (pt_not (pt_val (pe_callB (cr_all rfl) (by rfl) T.all b_all (pa_cons
          (pe_lc (own := [("one", 2)]) (g := gName 2) (tt := tYes) rfl scIsWorld.nd (pi_tup (pv 1)) (blkOk_by (N := nIsWorld) (sc := defScope sIsWorld) (by decide +kernel)) (fun _ _ _ _ _ => pg_name (i := 2) scIsWorld.nd rfl (Or.inl rfl)) (fun _ _ _ _ _ => pts_nil)
            (fun _ _ _ _ _ => pe_cal C1 hr (pa_cons (pv 2) pa_nil))) pa_nil))))))) (pss_one (ps_ret pe_bl)) pss_nil)
      (pss_cons (ps_if (pt_not (pt_val (pe_callB (cr_all rfl) (by rfl) T.all b_all (pa_cons
          (pe_lc (own := [("k", 3)]) (g := gName 3) (tt := tYes) (te := tOp rLtS (tOp (rIxT K) (tOp (rIxT K) (tVar 1) (tVar 3)) (tC (.int 0))) (tOp (rIxT K) (tOp (rIxT K) (tVar 1) (tOp (rI0 fun i j => .int (i + j)) (tVar 3) (tC (.int 1)))) (tC (.int 0)))) rfl scIsWorld.nd
            (pi_range1 (by rfl) T.range (pa_cons (pe_op op_sub (pe_callB call_len_seq (by rfl) T.len b_len (pa_cons (pv 1) pa_nil)) pe_int) pa_nil)) (blkOk_by (N := nIsWorld) (sc := defScope sIsWorld) (by decide +kernel)) (fun _ _ _ _ _ => pg_name (i := 3) scIsWorld.nd rfl (Or.inl rfl)) (fun _ _ _ _ _ => pts_nil)
            (fun _ _ _ _ _ => pe_cmpR op_lt_str (pe_ix ix_tup (pe_ix ix_tup (pv 1) (pv 3) (fun _ _ => rfl)) pe_int (fun _ _ => rfl)) (pe_ix ix_tup (pe_ix ix_tup (pv 1) (pe_op op_add (pv 3) pe_int) (fun _ _ => rfl)) pe_int (fun _ _ => rfl)) (nomark _))) pa_nil)))) (pss_one (ps_ret pe_bl)) pss_nil)
      (pss_one (ps_ret (pe_and (pe_callB (cr_any rfl) (by rfl) T.any b_any (pa_cons
          (pe_lc (own := [("name", 4), ("parts", 5)]) (g := gTup K 2 (gCons (gName 4) (gCons (gName 5) gNil))) (tt := tYes) rfl scIsWorld.nd (pi_tup (pv 1)) (blkOk_by (N := nIsWorld) (sc := defScope sIsWorld) (by decide +kernel))
            (fun _ _ _ _ _ => pg_tup (by rfl) (pgs_cons (pg_name (i := 4) scIsWorld.nd rfl (Or.inl rfl)) (pgs_cons (pg_name (i := 5) scIsWorld.nd rfl (Or.inl rfl)) pgs_nil))) (fun _ _ _ _ _ => pts_nil)
            (fun _ _ _ _ _ => pe_cmpR op_eq (pv 5) pe_int (nomark _))) pa_nil)) (pe_one (pe_cal C2 hr (pa_cons (pe_ix ix_tup (pv 0) pe_int (fun _ _ => rfl)) pa_nil))))))))), ?_⟩
    obtain ⟨a, a0, a1, o, ps, qs, rfl, h, h0, od, cs, h1, ts⟩ := w0
    have hl : ps.length = W.cons.length := paired_len cs
    have lc : (ps.map V.ref).length = W.cons.length := by
      rw [List.length_map]
      exact hl
    have sq0 : ∀ {H'}, Same H H' → SqT K H' a0 (ps.map V.ref) := fun s => .inl (.inr ⟨o, s _ _ h0⟩)
    have con : ∀ i, i < ps.length → H (ps.getD i 0) = some (.tup [.str (S (W.cons.getD i ([], 0)).1), .int ((W.cons.getD i ([], 0)).2 : Nat)]) := fun i hi => paired_getD (d := 0) (e := (([], 0) : Tx × Nat)) cs hi
    have ok1 : ∀ i, i < W.cons.length → conOk (W.cons.getD i ([], 0)) = true := by
      intro i hi
      rw [List.all_map] at hcon
      rw [List.getD_eq_getElem?_getD, List.getElem?_eq_getElem hi]
      exact List.all_eq_true.mp hcon _ (List.getElem_mem hi)
    refine ⟨_, rfl, _, _, _, _, rfl, ty_tup h, k_tt, true, rfl, iteF ⟨_, rfl, a, _, rfl, .inr (SqT.of h), rfl, _, rfl, iteNF rfl ?_⟩⟩
    refine ⟨_, rfl, a, _, _, _, rfl, rfl, SqT.of h, atI_nat (j := 0) rfl, _, _, _, _, rfl, .fTuple h0, k_tt, true, rfl, iteF ?_⟩
    refine ⟨_, rfl, a, _, _, _, rfl, rfl, SqT.of h, atI_nat (j := 0) rfl, ?_⟩
    -- not 1 <= len(some) <= 4 or not all(..)
    refine ⟨_, rfl, a0, _, rfl, .inr (sq0 (Same.refl _)), _, _, rfl, rfl, _, rfl, iteDT (by rw [lc]; omega) ⟨_, _, rfl, rfl, _, rfl, iteNF (by rw [lc]; omega) ?_⟩⟩
    refine ⟨_, rfl, a0, rfl, ⟨_, sq0 (Same.refl _)⟩, fun L hL => lc_name (turns_tup (K := K) (ps.map V.ref)) (fun i y _ => y = .bl (conOk (W.cons.getD i ([], 0)))) hL (by rw [lc]; omega) (fun H' s1 => sq0 s1) (fun _ _ _ _ _ h => h) (fun _ => rfl) (fun i H' hi s1 H2 s2 Q2 k => ?_) (fun H' ys s1 g1 hl1 hq => ?_)⟩
    · rw [lc] at hi
      have hi' : i < ps.length := by omega
      rw [refs_getD hi']
      refine ⟨_, rfl, _, _, rfl, s2 _ _ (s1 _ _ (con i hi')), ok1 i hi, fun H3 s3 => k _ _ s3 ?_⟩
      rw [ok1 i hi]
    have e := bools_of hl1 hq
    subst e
    refine ⟨L, _, rfl, SqL.of g1, _, rfl, iteE (c := false) ?_ (iteF ?_)⟩
    · have : ((List.range (ps.map V.ref).length).map fun i => conOk (W.cons.getD i ([], 0))).all id = true := by
        rw [lc, range_map W.cons ([], 0) conOk]
        exact hcon
      rw [this]
      rfl
    clear hq hl1 g1
    -- not all([some[k][0] < some[k + 1][0] ..])
    have n4 : ((((ps.map V.ref).length : Nat) : Int) - 1).toNat = W.cons.length - 1 := by
      rw [lc]
      omega
    have nm : ∀ i, i < W.cons.length → (W.cons.map (·.1)).getD i [] = (W.cons.getD i ([], 0)).1 := by
      intro i hi
      rw [List.getD_eq_getElem?_getD, List.getElem?_map, List.getElem?_eq_getElem hi, List.getD_eq_getElem?_getD, List.getElem?_eq_getElem hi]
      rfl
    refine ⟨_, rfl, a0, _, rfl, .inr (sq0 s1), _, _, rfl, rfl, _, rfl, (by rw [lc]; omega), (by rw [lc]; omega), fun L2 hL2 => lc_name (turns_rng ((((ps.map V.ref).length : Nat) : Int) - 1).toNat) (fun i y _ => y = .bl (decide ((W.cons.map (·.1)).getD i [] < (W.cons.map (·.1)).getD (i + 1) []))) hL2 (by rw [n4]; omega) (fun _ _ => trivial) (fun _ _ _ _ _ h => h) (fun _ => rfl) (fun i H2 hi s2 H3 s3 Q3 k => ?_) (fun H2 ys s2 g2 hl2 hq2 => ?_)⟩
    · rw [n4] at hi
      have s13 := Same.trans s1 (Same.trans s2 s3)
      refine ⟨_, rfl, _, rfl, a0, _, _, _, rfl, rfl, sq0 s13, atI_nat (j := i) (refs_get (by omega)), _, _, _, _, rfl, rfl, SqT.of (s13 _ _ (con i (by omega))), atI_nat (j := 0) rfl, ?_⟩
      refine ⟨_, rfl, _, rfl, _, _, rfl, rfl, a0, _, _, _, rfl, rfl, sq0 s13, at_of (j := i + 1) (by omega) (refs_get (by omega)), _, _, _, _, rfl, rfl, SqT.of (s13 _ _ (con (i + 1) (by omega))), atI_nat (j := 0) rfl, _, _, rfl, rfl, k _ _ (Same.refl _) ?_⟩
      rw [nm i (by omega), nm (i + 1) (by omega)]
    have e := bools_of hl2 hq2
    subst e
    refine ⟨L2, _, rfl, SqL.of g2, _, rfl, iteE (c := false) ?_ (iteF ?_)⟩
    · have : ((List.range ((((ps.map V.ref).length : Nat) : Int) - 1).toNat).map fun i => decide ((W.cons.map (·.1)).getD i [] < (W.cons.map (·.1)).getD (i + 1) [])).all id = true := by
        rw [n4]
        unfold asc at hasc
        rw [List.length_map] at hasc
        exact hasc
      rw [this]
      rfl
    clear hq2 hl2 g2
    have s12 := Same.trans s1 s2
    -- any([parts == 0 for name, parts in some]) and are_traits(value[1])
    refine ⟨_, rfl, a0, rfl, ⟨_, sq0 s12⟩, fun L3 hL3 => lc_all (turns_tup (K := K) (ps.map V.ref)) (fun i y _ => y = .bl (decide ((W.cons.getD i ([], 0)).2 = 0))) hL3 (by rw [lc]; omega) (fun H' s3 => sq0 (Same.trans s12 s3)) (fun _ _ _ _ _ h => h) (fun i H3 hi s3 => ?_) (gTup_mono g2_mono) (fun H3 ys s3 g3 hl3 hq3 => ?_)⟩
    · rw [lc] at hi
      have hi' : i < ps.length := by omega
      rw [refs_getD hi']
      refine ⟨_, _, rfl, SqT.of (Same.trans s12 s3 _ _ (con i hi')), rfl, _, _, rfl, _, _, rfl, rfl, rfl, Same.refl _, fun H4 s4 Q4 k => ?_⟩
      refine ⟨_, rfl, rfl, k _ _ (Same.refl _) ?_⟩
      rw [decN]
      congr 1
      apply decide_eq_decide.mpr
      omega
    have e := bools_of hl3 hq3
    subst e
    refine ⟨L3, _, rfl, SqL.of g3, _, rfl, iteE (c := true) ?_ (iteT ?_)⟩
    · rw [lc, range_map W.cons ([], 0) (fun q => decide (q.2 = 0))]
      exact hany
    have s13 := Same.trans s12 s3
    exact ⟨_, rfl, a, _, _, _, rfl, rfl, SqT.of (s13 _ _ h), atI_nat (j := 1) rfl, a1, qs, W.traits, rfl, s13 _ _ h1, paired_imp ts fun p q z => by
      obtain ⟨b, z1, z2⟩ := z
      exact ⟨b, s13 _ _ z1, s13 _ _ z2⟩, t1, t4, htr, fun H4 s4 => q _ (Same.trans s13 s4)⟩
def spCheckW : Sp := fun vs H Q _ => ∃ (v : V) (W : Wd), vs = [v] ∧ IsW H v W ∧ wok W = true ∧ ∀ H', Same H H' → Q .non H'
theorem ok_check_world (T : Txt mg) (D : Dn K mg "check_world" sCheckWorld) (C : Cal P w K mg base CX0 3 "is_world" pIsWorld spWorld) : Cal P w K mg base CX0 4 "check_world" pCheckWorld spCheckW := by
  refine cal_of D scCheckWorld bCheckWorld (fun vs H Q E h => ?_) fun f cdv A outer s H vs Q E hr h => ?_
  · obtain ⟨v, W, rfl, _⟩ := h
    rfl
  · obtain ⟨v, W, rfl, hW, hok, q⟩ := h
    refine ⟨_, pss_one (ps_if (pt_not (pt_val (pe_cal C hr (pa_cons (pv 0) pa_nil)))) pss_never pss_nil), ?_⟩
    exact ⟨_, rfl, v, W, rfl, hW, hok, fun H1 s1 => ⟨_, rfl, iteF (q _ s1)⟩⟩
end
end Ts

/-! check_sort, format_sort, parse_sort, _law_call: the defs that raise -/
namespace Ts
open PySem PySem.Spec PyProof.Rows L2
/-- an error class of the text, at C -/
structure Ec (K : PySem.W.Frag) (mg : Str → Option Value) (x : Str) (C : Addr) : Prop where
  g : mg x = some (.ref C)
  new : PySem.W.excIn K C [.type "ValueError", .type "Exception", .type "BaseException", .type "object"] "ValueError.__new__" = true
  kp : PySem.W.keepIn K (.ref C) = true
  sub : PySem.W.subIn K (.ref C) (.type "BaseException") = some true
  ty : PySem.W.typeIn K (.ref C) = some (.type "type")
/-- what a world's datum is to bear -/
structure Wg (W : Wd) : Prop where
  ok : wok W = true
  nd : (W.cons.map (·.1)).Nodup
  cok : Cok W.cons
theorem Junk.same {H H' : Hp} {v : V} (s : Same H H') (h : Junk H v) : Junk H' v := by
  rcases h with h | h | ⟨a, e, h⟩ | ⟨a, xs, e, h⟩
  · exact .inl h
  · exact .inr (.inl h)
  · exact .inr (.inr (.inl ⟨a, e, s _ _ h⟩))
  · exact .inr (.inr (.inr ⟨a, xs, e, s _ _ h⟩))
/-- no text -/
def NonS (H : Hp) (v : V) : Prop := v = .non ∨ (∃ i, v = .int i) ∨ (∃ b, v = .bl b) ∨ (∃ a xs, v = .ref a ∧ H a = some (.tup xs)) ∨ ∃ a xs, v = .ref a ∧ H a = some (.lst xs)
theorem NonS.same {H H' : Hp} {v : V} (s : Same H H') (h : NonS H v) : NonS H' v := by
  rcases h with h | h | h | ⟨a, xs, e, h⟩ | ⟨a, xs, e, h⟩
  · exact .inl h
  · exact .inr (.inl h)
  · exact .inr (.inr (.inl h))
  · exact .inr (.inr (.inr (.inl ⟨a, xs, e, s _ _ h⟩)))
  · exact .inr (.inr (.inr (.inr ⟨a, xs, e, s _ _ h⟩)))
theorem k_bs : kitB "bool" "str" = some false := by decide +kernel
theorem NonS.ty {K : PySem.W.Frag} {H : Hp} {v : V} (h : NonS H v) : ∃ t, TyX K H v (.type t) ∧ kitB t "str" = some false := by
  rcases h with rfl | ⟨i, rfl⟩ | ⟨b, rfl⟩ | ⟨a, xs, rfl, h⟩ | ⟨a, xs, rfl, h⟩
  · exact ⟨_, .base .non, k_ns⟩
  · exact ⟨_, ty_int _, k_is_⟩
  · exact ⟨_, .base (.bl b), k_bs⟩
  · exact ⟨_, ty_tup h, k_ts⟩
  · exact ⟨_, ty_lst h, k_ls⟩
/-- a sort of the world, not too large -/
def good (c : Cons) (t : T) : Prop := isS c t = true ∧ size t ≤ 12
section
variable {P : Program} {w : PySem.World} {K : PySem.W.Frag} {mg : Str → Option Value} {base : Heap} {CS CT : Addr}
/-! ### check_sort -/
def spCheckS (CS : Addr) : Sp := fun vs H Q E => ∃ (u v : V) (W : Wd), vs = [u, v, .str "abcdefgh"] ∧ IsW H u W ∧ Wg W ∧
  ((∃ t, At 13 H v t ∧ (good W.cons t → ∀ H', Same H H' → Q .non H') ∧ (¬ good W.cons t → ∀ H', Same H H' → E (.ref CS) none H')) ∨ (Junk H v ∧ ∀ H', Same H H' → E (.ref CS) none H'))
theorem ok_check_sort (T : Txt mg) (D : Dn K mg "check_sort" sCheckSort) (ES : Ec K mg "InvalidSort" CS) (C1 : Cal P w K mg base CX0 14 "is_sort_with" pIsSortWith (spIs 13)) (CJ : Cal P w K mg base CX0 1 "is_sort_with" pIsSortWith spIsJ)
    (C2 : Cal P w K mg base CX0 14 "size_in" pSizeIn (spSize 13)) : Cal P w K mg base (L2.CX P w) 15 "check_sort" pCheckSort (spCheckS CS) := by
  refine cal_ofX D scCheckSort bCheckSort (fun vs H Q E h => ?_) fun f cdv A outer s H vs Q E hr h => ?_
  · obtain ⟨u, v, W, rfl, _⟩ := h
    rfl
  · obtain ⟨u, v, W, rfl, hW, wg, h⟩ := h
    rcases h with ⟨t, ht, k1, k2⟩ | ⟨hj, k2⟩
    · refine ⟨_, pss_one (ps_if (PW.pt (pw_or (pt_not (pt_val (pe_cal C1 hr (pa_cons (pv 0) (pa_cons (pv 1) (pa_cons (pv 2) pa_nil)))))) (pw_or1 (pt_cmpR op_gt (pe_cal C2 hr (pa_cons (pv 1) pa_nil)) pe_int (nomark _)))))
        (pss_one (ps_raise rfl (takes_of rfl rfl rfl rfl) (pmk_own PySem.F.excBase_ValueError ES.new ES.g ES.kp (raises_own ES.sub ES.ty) rfl))) pss_nil), ?_⟩
      refine ⟨_, rfl, _, rfl, _, rfl, u, v, W, t, rfl, hW, wg.nd, ht, fun H1 s1 => ⟨_, rfl, ?_⟩⟩
      cases hi : isS W.cons t with
      | false => exact iteT (iteT (k2 (fun z => by have z1 := z.1; rw [hi] at z1; cases z1) _ s1))
      | true =>
        refine iteF ⟨_, rfl, v, t, rfl, ht.same s1, fun H2 s2 => ⟨_, _, rfl, rfl, _, rfl, iteD (fun c => ?_) fun c => ?_⟩⟩
        · exact k2 (fun z => by have := z.2; omega) _ (Same.trans s1 s2)
        · exact k1 ⟨hi, by omega⟩ _ (Same.trans s1 s2)
    · refine ⟨_, pss_one (ps_if (PW.pt (pw_or (pt_not (pt_val (pe_cal CJ (hr.mono (by omega)) (pa_cons (pv 0) (pa_cons (pv 1) (pa_cons (pv 2) pa_nil)))))) (pw_or1 (pt_cmpR op_gt (pe_cal C2 hr (pa_cons (pv 1) pa_nil)) pe_int (nomark _)))))
        (pss_one (ps_raise rfl (takes_of rfl rfl rfl rfl) (pmk_own PySem.F.excBase_ValueError ES.new ES.g ES.kp (raises_own ES.sub ES.ty) rfl))) pss_nil), ?_⟩
      exact ⟨_, rfl, _, rfl, _, rfl, u, v, rfl, hj, _, rfl, iteT (iteT (k2 _ (Same.refl _)))⟩
/-! ### format_sort -/
def spFormat (CS : Addr) : Sp := fun vs H Q E => ∃ (u v : V) (W : Wd), vs = [u, v] ∧ IsW H u W ∧ Wg W ∧
  ((∃ t, At 13 H v t ∧ (good W.cons t → ∀ H', Same H H' → Q (.str (S (text t))) H') ∧ (¬ good W.cons t → ∀ H', Same H H' → E (.ref CS) none H')) ∨ (Junk H v ∧ ∀ H', Same H H' → E (.ref CS) none H'))
theorem good_len {W : Wd} (wg : Wg W) {n : Nat} {H : Hp} {v : V} {t : T} (h : At n H v t) (g : good W.cons t) : (text t).length ≤ 107 := by
  have := text_len wg.cok n t h.fit g.1
  have := g.2
  omega
theorem ok_format_sort (T : Txt mg) (D : Dn K mg "format_sort" sFormatSort) (C0 : Cal P w K mg base CX0 4 "check_world" pCheckWorld spCheckW) (C1 : Cal P w K mg base (L2.CX P w) 15 "check_sort" pCheckSort (spCheckS CS))
    (C2 : Cal P w K mg base CX0 14 "sort_text" pSortText (spText 13)) : Cal P w K mg base (L2.CX P w) 16 "format_sort" pFormatSort (spFormat CS) := by
  refine cal_ofX D scFormatSort bFormatSort (fun vs H Q E h => ?_) fun f cdv A outer s H vs Q E hr h => ?_
  · obtain ⟨u, v, W, rfl, _⟩ := h
    rfl
  · obtain ⟨u, v, W, rfl, hW, wg, h⟩ := h
    obtain ⟨nu, hnu⟩ := T.names
    refine ⟨_, pss_cons (ps_expr (pe_cal C0 (hr.mono (by omega)) (pa_cons (pv 0) pa_nil)))
      (pss_cons (ps_expr (pe_calX (takes_of rfl rfl rfl rfl) C1 hr (pa_cons (pv 0) (pa_cons (pv 1) (pa_cons (pe_glob rfl hnu (rel_str _ _)) pa_nil)))))
      (pss_one (ps_ret (pe_cal C2 (hr.mono (by omega)) (pa_cons (pv 1) pa_nil))))), ?_⟩
    refine ⟨_, rfl, u, W, rfl, hW, wg.ok, fun H1 s1 => ⟨_, rfl, _, rfl, u, v, W, rfl, hW.same s1, wg, ?_⟩⟩
    rcases h with ⟨t, ht, k1, k2⟩ | ⟨hj, k2⟩
    · refine .inl ⟨t, ht.same s1, fun g H2 s2 => ?_, fun g H2 s2 => k2 g _ (Same.trans s1 s2)⟩
      have := good_len wg ht g
      exact ⟨_, rfl, v, t, rfl, ht.same (Same.trans s1 s2), by omega, fun H3 s3 => k1 g _ (Same.trans s1 (Same.trans s2 s3))⟩
    · exact .inr ⟨hj.same s1, fun H2 s2 => k2 _ (Same.trans s1 s2)⟩
/-! ### parse_sort -/
def spParse (CT : Addr) : Sp := fun vs H Q E => ∃ (u v : V) (W : Wd), vs = [u, v] ∧ IsW H u W ∧ Wg W ∧
  ((∃ x, v = .str (S x) ∧ x.length ≤ 100000 ∧ (∀ t, parse W.cons x = some t → ∀ H' v', Same H H' → At 13 H' v' t → Q v' H') ∧ (parse W.cons x = none → ∀ H', Same H H' → E (.ref CT) none H')) ∨ (NonS H v ∧ ∀ H', Same H H' → E (.ref CT) none H'))
theorem ok_parse_sort (T : Txt mg) (D : Dn K mg "parse_sort" sParseSort) (ET : Ec K mg "InvalidText" CT) (C0 : Cal P w K mg base CX0 4 "check_world" pCheckWorld spCheckW) (CR : Cal P w K mg base CX0 14 "read_sort" pReadSort (spRead 12))
    (C1 : Cal P w K mg base CX0 14 "is_sort_with" pIsSortWith (spIs 13)) (C2 : Cal P w K mg base CX0 14 "size_in" pSizeIn (spSize 13)) (C3 : Cal P w K mg base CX0 14 "sort_text" pSortText (spText 13)) :
    Cal P w K mg base (L2.CX P w) 15 "parse_sort" pParseSort (spParse CT) := by
  refine cal_ofX D scParseSort bParseSort (fun vs H Q E h => ?_) fun f cdv A outer s H vs Q E hr h => ?_
  · obtain ⟨u, v, W, rfl, _⟩ := h
    rfl
  · obtain ⟨u, v, W, rfl, hW, wg, h⟩ := h
    obtain ⟨nu, hnu⟩ := T.names
    refine ⟨_, pss_cons (ps_expr (pe_cal C0 (hr.mono (by omega)) (pa_cons (pv 0) pa_nil)))
      (pss_cons (ps_if (PW.pt (pw_or (pt_not (pt_val (pe_isi (pv 1) T.isi T.str boot_str))) (pw_or1 (pt_cmpR op_gt (pe_callB call_len_str (by rfl) T.len b_len (pa_cons (pv 1) pa_nil)) pe_int (nomark _)))))
        (pss_one (ps_raise rfl (takes_of rfl rfl rfl rfl) (pmk_own PySem.F.excBase_ValueError ET.new ET.g ET.kp (raises_own ET.sub ET.ty) rfl))) pss_nil)
      (pss_cons (ps_set (i := 2) scParseSort.nd rfl (Or.inl rfl) (pe_cal CR hr (pa_cons (pv 1) (pa_cons pe_int pa_nil))))
      (pss_cons (ps_if (PW.pt (pw_or (pt_not (pt_val (pe_cal C1 hr (pa_cons (pv 0) (pa_cons (pv 2) (pa_cons (pe_glob rfl hnu (rel_str _ _)) pa_nil)))))) (pw_or (pt_cmpR op_gt (pe_cal C2 hr (pa_cons (pv 2) pa_nil)) pe_int (nomark _))
          (pw_or1 (pt_cmpR op_ne (pe_cal C3 hr (pa_cons (pv 2) pa_nil)) (pv 1) (nomark _))))))
        (pss_one (ps_raise rfl (takes_of rfl rfl rfl rfl) (pmk_own PySem.F.excBase_ValueError ET.new ET.g ET.kp (raises_own ET.sub ET.ty) rfl))) pss_nil)
      (pss_one (ps_ret (pv 2)))))), ?_⟩
    refine ⟨_, rfl, u, W, rfl, hW, wg.ok, fun H1 s1 => ?_⟩
    rcases h with ⟨x, rfl, hx, k1, k2⟩ | ⟨hj, k2⟩
    · have hz : (S x).length ≤ sizeLine := by
        rw [SX.S_len]
        exact sl_ok (by omega)
      refine ⟨_, rfl, _, _, _, _, rfl, ty_str _, k_ss, true, rfl, iteF ⟨_, rfl, S x, rfl, hz, _, _, rfl, rfl, _, rfl, iteD (fun c => ?_) fun c => ?_⟩⟩
      · rw [SX.S_len] at c
        refine k2 ?_ _ s1
        unfold parse
        rw [if_pos (by omega)]
      · rw [SX.S_len] at c
        have c' : x.length ≤ 200 := by omega
        refine ⟨_, rfl, x, rfl, by omega, fun H2 v s2 ht => ?_⟩
        have s12 := Same.trans s1 s2
        have pn : ¬ (isS W.cons (read 12 x) = true ∧ size (read 12 x) ≤ 12 ∧ text (read 12 x) = x) → parse W.cons x = none := fun h => by
          unfold parse
          rw [if_neg (by omega), if_neg h]
        refine ⟨_, rfl, _, rfl, u, v, W, read 12 x, rfl, hW.same s12, wg.nd, ht, fun H3 s3 => ⟨_, rfl, ?_⟩⟩
        cases hi : isS W.cons (read 12 x) with
        | false => exact iteT (iteT (k2 (pn fun z => by rw [hi] at z; cases z.1) _ (Same.trans s12 s3)))
        | true =>
          refine iteF ⟨_, rfl, v, _, rfl, ht.same s3, fun H4 s4 => ⟨_, _, rfl, rfl, _, rfl, iteD (fun c1 => ?_) fun c1 => ?_⟩⟩
          · exact iteT (k2 (pn fun z => by have := z.2.1; omega) _ (Same.trans s12 (Same.trans s3 s4)))
          · have g : good W.cons (read 12 x) := ⟨hi, by omega⟩
            have gl := good_len wg ht g
            have s34 := Same.trans s3 s4
            refine ⟨_, rfl, v, _, rfl, ht.same s34, by omega, fun H5 s5 => ⟨_, rfl, rfl, _, rfl, iteND (fun c2 => ?_) fun c2 => ?_⟩⟩
            · exact k2 (pn fun z => c2 (by rw [z.2.2])) _ (Same.trans s12 (Same.trans s34 s5))
            · refine ⟨_, rfl, k1 (read 12 x) ?_ _ _ (Same.trans s12 (Same.trans s34 s5)) (ht.same (Same.trans s34 s5))⟩
              unfold parse
              rw [if_neg (by omega), if_pos ⟨hi, g.2, SX.S_inj (V.str.inj c2)⟩]
    · obtain ⟨t, ty, kt⟩ := (hj.same s1).ty (K := K)
      exact ⟨_, rfl, _, _, _, _, rfl, ty, kt, false, rfl, iteT (iteT (k2 _ s1))⟩
/-! ### _law_call -/
def spCallL (CT CS : Addr) : Sp := fun vs H Q E => ∃ (k : Int) (p : Addr) (u v : V), vs = [.int k, .ref p] ∧ H p = some (.tup [u, v]) ∧ (k = 0 → spParse CT [u, v] H Q E) ∧ (k ≠ 0 → spFormat CS [u, v] H Q E)
theorem ok_law_call (T : Txt mg) (D : Dn K mg "_law_call" sLawCall) (C1 : Cal P w K mg base (L2.CX P w) 15 "parse_sort" pParseSort (spParse CT)) (C2 : Cal P w K mg base (L2.CX P w) 16 "format_sort" pFormatSort (spFormat CS)) :
    Cal P w K mg base (L2.CX P w) 17 "_law_call" pLawCall (spCallL CT CS) := by
  refine cal_ofX D scLawCall bLawCall (fun vs H Q E h => ?_) fun f cdv A outer s H vs Q E hr h => ?_
  · obtain ⟨k, p, u, v, rfl, _⟩ := h
    rfl
  · obtain ⟨k, p, u, v, rfl, hp, h1, h2⟩ := h
    refine ⟨_, pss_one (ps_ret (pe_ifExp (pt_cmpR op_eq (pv 0) pe_int (nomark _))
      (pe_calX (takes_of rfl rfl rfl rfl) C1 (hr.mono (by omega)) (pa_cons (pe_ix ix_tup (pv 1) pe_int (fun _ _ => rfl)) (pa_cons (pe_ix ix_tup (pv 1) pe_int (fun _ _ => rfl)) pa_nil)))
      (pe_calX (takes_of rfl rfl rfl rfl) C2 hr (pa_cons (pe_ix ix_tup (pv 1) pe_int (fun _ _ => rfl)) (pa_cons (pe_ix ix_tup (pv 1) pe_int (fun _ _ => rfl)) pa_nil))))), ?_⟩
    refine ⟨_, rfl, rfl, _, rfl, iteE (decN _ _) (iteD (fun c => ?_) fun c => ?_)⟩
    · exact ⟨_, rfl, p, _, _, _, rfl, rfl, SqT.of hp, atI_nat (j := 0) rfl, _, rfl, p, _, _, _, rfl, rfl, SqT.of hp, atI_nat (j := 1) rfl, h1 c⟩
    · exact ⟨_, rfl, p, _, _, _, rfl, rfl, SqT.of hp, atI_nat (j := 0) rfl, _, rfl, p, _, _, _, rfl, rfl, SqT.of hp, atI_nat (j := 1) rfl, h2 c⟩
end
end Ts

/-! try .. except C as e: the error is still known behind the suite. -/
namespace Ts
open PySem PySem.Spec PyProof.Rows L2
section
variable {X : Cx} {pins : List (Addr × Obj)} {σ : L2.St} {H : Hp} {s : Shared}
/-- an untracked error of our own time is tracked from here on -/
theorem hold_inv (I : Inv X pins σ H s) {a D : Addr} {oe : Obj} {vs : Array Value} (g : s.heap.get? a = some oe) (z : Zc (.ref D) none oe) (f : oe.data = .fields vs) (na : H a = none) (nL : a ≠ X.env.locals)
    (n0 : X.s_0.heap.get? a = none) (np : ∀ p ∈ X.pn ++ pins, p.1 ≠ a) : Inv X pins σ (upd H a (Held D a)) s where
  ok := I.ok
  os := I.os
  bare := I.bare
  base := {
    keep := I.base.keep
    slot := I.base.slot
    free := fun b o e n hx => by
      rw [upd_ne (fun w => by rw [w, n0] at e; cases e)]
      exact I.base.free b o e n hx
    there := I.base.there
    tups := fun b xs e => by
      have e1 := I.base.tups b xs e
      rw [upd_ne (ne_of_none e1 na)]
      exact e1
    frzs := fun b o xs e => by
      have e1 := I.base.frzs b o xs e
      rw [upd_ne (ne_of_none e1 na)]
      exact e1
    tbls := fun b ps e => by
      obtain ⟨m, e1⟩ := I.base.tbls b ps e
      exact ⟨m, by rw [upd_ne (ne_of_none e1 na)]; exact e1⟩ }
  loc := I.loc
  cell := I.cell
  free := by
    rw [upd_ne (Ne.symm nL)]
    exact I.free
  freeC := fun x c e => by
    obtain ⟨v, o, ho, hd⟩ := I.cell x c e
    have ne : c ≠ a := fun w => by
      rw [w, g] at ho
      cases ho
      rw [f] at hd
      cases hd
    rw [upd_ne ne]
    exact I.freeC x c e
  pin := fun p hp => by
    obtain ⟨e, n, r⟩ := I.pin p hp
    refine ⟨e, ?_, r⟩
    rw [upd_ne (np p hp)]
    exact n
  hok := fun b u e => by
    by_cases hb : b = a
    · rw [hb, upd_same] at e
      cases e
      rw [hb]
      exact held_ok g z ⟨vs, f⟩
    · rw [upd_ne hb] at e
      refine (I.hok b u e).stay (fun _ _ _ q => q) (fun c q => ?_) fun c xs q => ?_
      · rw [upd_ne (ne_of_none q na)]
        exact q
      · rw [upd_ne (ne_of_none q na)]
        exact q
  len := I.len
end
/-- what such a clause wishes of an error: slot i is the name's, the suite goes on behind itself alone -/
def wKeep (K : PySem.W.Frag) (c : Value) (i : Nat) (ts : Addr → TS) (Wout : WX) (D : Ends) : WX := fun cls d σ H =>
  ∃ b, PySem.W.exmOne K cls c = some b ∧
    (b = true → ∃ C, cls = .ref C ∧ d = none ∧ ∀ a, H a = none → ts a { nx := fun σ' H' => H' a = none ∧ D.nx (σ'.set i none) (upd H' a (Held C a)), rt := fun _ _ => False } (σ.set i (some (.ref a))) H) ∧
    (b = false → Wout cls d σ H)
section
variable {X : Cx} {x n : Str} {c : Value} {i : Nat} {body suite : List Stmt} {b₀ : Stmt} {np pos pos' : Pos} {tb : WX → TS} {ts : Addr → TS} {Wout : WX}
theorem ps_try_keep (hs : X.stack = X.env :: X.outer) (hf : X.env.frame = some X.env.locals) (hex : X.ex = []) (hN : X.N.Nodup) (hi : X.N[i]? = some n) (hln : X.env.kindOf n = some .local) (hc : Names X x c) (tk : Takes X Wout)
    (hb : ∀ (W : WX) (pn : List (Addr × Obj)) (xe : Value → Shared → Prop), Takes (X.tr pn xe) W → PassesOwn (model X.prog X.w) X.A X.env xe → PSs (X.tr pn xe) body (tb W))
    (hsu : ∀ (a : Addr) (oe : Obj) (pn : List (Addr × Obj)), PSs (X.suite a ((a, oe) :: pn)) (b₀ :: suite) (ts a)) :
    PS X (.Try body [.ExceptHandler (some (.Name x np)) (some n) (b₀ :: suite) pos'] [] [] pos) (fun D σ H => tb (wKeep X.K c i ts Wout D) D σ H) := by
  refine ⟨fun pins s σ H D I h => ?_⟩
  have ok := I.ok
  have fr0 : X.A.frames = some (X.env :: X.outer) := by rw [ok.frames, hs]
  refine wpAny_Try_except ?_
  refine wpAny_mono ((hb (wKeep X.K c i ts Wout D) (X.pn ++ pins) (fun e s₁ => wpAny (model X.prog X.w) X.A (noteFrame e X.env) (fun _ s₂ => wpAny (model X.prog X.w) X.A (setFlight e none) (fun _ s₃ =>
    wpAny (model X.prog X.w) X.A (handleBy e X.env [.ExceptHandler (some (.Name x np)) (some n) (b₀ :: suite) pos']) (SP X pins D) X.xe s₃) X.xe s₂) X.xe s₁) (fun u s' air => ?_) PassesOwn.looking).run [] s σ H D (I.toTry _) h) (fun f s1 e => ?_) (fun _ _ he => he)
  rotate_left
  · cases f with
    | next =>
      obtain ⟨σ1, H1, I1, q⟩ := e
      exact wpAny_execs_nil ⟨σ1, H1, I1.ofTry ok, q⟩
    | brk =>
      obtain ⟨σ1, H1, I1, q⟩ := e
      exact ⟨σ1, H1, I1.ofTry ok, q⟩
    | cont =>
      obtain ⟨σ1, H1, I1, q⟩ := e
      exact ⟨σ1, H1, I1.ofTry ok, q⟩
    | ret u =>
      obtain ⟨v, σ1, H1, I1, r, q⟩ := e
      exact ⟨v, σ1, H1, I1.ofTry ok, r, q⟩
  obtain ⟨a, B, sI, p1, σ1, H1, cls, d, rfl, I1', nb, up, sky, na, os, ag, b, eb, yes, no⟩ := air
  have I1 : Inv X pins σ1 H1 sI := I1'.ofTry ok
  have sky1 : Sky B (X.env :: X.outer) a (Zc cls d) X.env.locals s'.heap := by rw [← hs]; exact sky
  show wpAny (model X.prog X.w) X.A (noteFrame (.ref a) X.env) _ _ _
  refine Sky.land Zc.steady fr0 hf sky1 fun h3 fl3 up3 => ?_
  have I3 : Inv X pins σ1 H1 { s' with heap := h3 } := I1.landed nb fl3.1 (up.trans up3) os ag
  obtain ⟨o3, v3, g3, z3, f3⟩ := fl3.there
  have offFr : a ∉ frs (X.env :: X.outer) := fun hm => by
    obtain ⟨_, o', e', hnf⟩ := fl3.2.2.1.mem hm
    rw [g3] at e'
    cases e'
    exact hnf _ f3
  have nL : a ≠ X.env.locals := fun w => offFr (List.mem_filterMap.mpr ⟨X.env, List.mem_cons_self, by rw [hf, w]⟩)
  have nF : a ∉ X.fs := fun hm => by
    obtain ⟨e, he, q⟩ := List.mem_filterMap.mp hm
    exact offFr (List.mem_filterMap.mpr ⟨e, List.mem_cons_of_mem _ he, q⟩)
  -- a is younger than the state without the error
  have nI : sI.heap.get? a = none := by
    cases q : sI.heap.get? a with
    | none => rfl
    | some o =>
      have w := nb a o q (by rw [hs]; exact offFr)
      have w0 : B.get? a = none := fl3.2.1
      rw [w0] at w
      cases w
  have n0 : X.s_0.heap.get? a = none := by
    cases q : X.s_0.heap.get? a with
    | none => rfl
    | some o =>
      obtain ⟨o', w⟩ := I1.base.there a o q (by rw [hex]; exact List.not_mem_nil)
      rw [nI] at w
      cases w
  have npn : ∀ p ∈ X.pn ++ pins, p.1 ≠ a := fun p hp w => by
    have e := (I1.pin p hp).1
    rw [w, nI] at e
    cases e
  have S3 := I3.suite g3 f3 na nL nF
  refine wpAny_handleBy_cons (codeAny_handlers_test ?_) (by intro q; cases q)
  have LT : PySem.W.Looks (model X.prog X.w) h3 (typeOf (.ref a)) cls := fun A Q E s k q => wpAny_typeOf_ref (k _ _ g3) (by rw [z3.1]; exact q)
  have LM := PySem.W.exm_one (M := model X.prog X.w) (I3.kIn) LT eb
  have test : ∀ {Q : Value → Shared → Prop} {E : Value → Shared → Prop}, Q c { s' with heap := h3 } → wpAny (model X.prog X.w) (X.A.mark (some (.ref a))) (eval (.Name x np) X.env) Q E { s' with heap := h3 } := fun {Q E} q => by
    obtain ⟨hg, hdbg, hm | ⟨hm, hv, hnn⟩⟩ := hc
    · exact ld_glob (X := X.suite a ((a, o3) :: (X.pn ++ pins))) S3 hg hm q hdbg
    · exact ld_blt (X := X.suite a ((a, o3) :: (X.pn ++ pins))) S3 hg hm hv q hnn hdbg
  refine test (LM.here ?_)
  cases b with
  | true =>
    obtain ⟨C, rfl, rfl, run⟩ := yes rfl
    refine codeAny_handlers_suite_as ?_
    refine HandSPX.lands_againZ fl3 fun h4 fl4 up4 => ?_
    have I4 : Inv X pins σ1 H1 { s' with heap := h4 } := I1.landed nb fl4.1 ((up.trans up3).trans up4) os ag
    obtain ⟨o4, v4, g4, z4, f4⟩ := fl4.there
    have S4 := I4.suite g4 f4 na nL nF
    refine store_ok (X := X.suite a ((a, o4) :: (X.pn ++ pins))) (v := .ref a) S4 hN hi (.inl hln) rfl (fun s5 S5 => ?_) (.inr hln)
    refine wpAny_mono ((hsu a o4 (X.pn ++ pins)).run [] s5 _ H1 _ S5 (run a na)) (fun f s6 e => ?_) (fun _ _ z => False.elim z)
    cases f with
    | next =>
      obtain ⟨σ6, H6, S6, n6, q6⟩ := e
      refine gone_ok (X := X.suite a ((a, o4) :: (X.pn ++ pins))) (pos := pos') S6 hN hi hln fun s7 S7 => ?_
      have g7 := (S7.pin (a, o4) List.mem_cons_self).1
      exact ⟨_, _, hold_inv (S7.unsuite ok) g7 z4 f4 n6 nL n0 npn, q6⟩
    | brk =>
      obtain ⟨_, _, _, z⟩ := e
      exact z.elim
    | cont =>
      obtain ⟨_, _, _, z⟩ := e
      exact z.elim
    | ret u =>
      obtain ⟨_, _, _, _, _, z⟩ := e
      exact z.elim
  | false =>
    show wpAny _ X.A (handleBy (.ref a) X.env []) _ _ _
    refine wpAny_handleBy_nil ?_
    obtain ⟨k1, k2, k3, oe, vs, T, oT, ts', he, hz, hd, h1, hr⟩ := id fl3
    unfold PySem.passOn
    refine wpAny_bind (wpAny_field he hd h1 ?_)
    rw [if_neg (show ¬ ((Value.ref T == Value.none) = true) from by simp)]
    have fin : wpAny (model X.prog X.w) X.A (setFlight (.ref a) X.env.frame) (fun _ s4 => wpAny (model X.prog X.w) X.A (throw (.ref a) : Sem Flow) (SP X pins D) X.xe s4) X.xe { s' with heap := h3 } := by
      rw [hf]
      refine HandSPX.setFlight_upZ fl3 fun h4 hh4 up4 => wpAny_throw (tk _ _ ?_)
      exact ⟨a, B, sI, pins, σ1, H1, cls, d, rfl, I1, nb, (up.trans up3).trans up4, .inr (.inr (by rw [hs]; exact hh4)), na, os, ag, no rfl⟩
    first
      | exact wpAny_bind (wpAny_pure (wpAny_bind fin))
      | exact wpAny_bind fin
end
end Ts

/-! _law_raises, _law_name, _law_outcome -/
namespace Ts
open PySem PySem.Spec PyProof.Rows L2
section
variable {P : Program} {w : PySem.World} {K : PySem.W.Frag} {mg : Str → Option Value} {base : Heap} {CS CT : Addr}
theorem nobody {X : Cx} : Takes X (fun _ _ _ _ => False) := fun _ _ ⟨_, _, _, _, _, _, _, _, _, _, _, _, _, _, _, _, z⟩ => z.elim
theorem b_isi : bootBuiltins "isinstance" = some (.builtin "isinstance") := boot_isinstance

abbrev told24 : List V := [.str "world", .str "sort", .str "trait", .str "instance", .str "set", .str "number", .str "size", .str "granted", .str "pairs", .str "stock", .str "wanted", .str "choice", .str "library", .str "module", .str "program", .str "arguments", .str "text", .str "tangled", .str "unsound", .str "unclear", .str "unchecked", .str "notholding", .str "many", .str "undo"]
/-- "text" is the seventeenth, "sort" the second -/
def spRaises : Sp := fun vs H Q _ => ∃ (x : Str) (i : Nat), vs = [.str x] ∧ ((x = "text" ∧ i = 16) ∨ (x = "sort" ∧ i = 1)) ∧ ∀ p H', Same H H' → H' p = some (.tup [.str "raised", .int i]) → Q (.ref p) H'
theorem told_at {x : Str} {i : Nat} (h : (x = "text" ∧ i = 16) ∨ (x = "sort" ∧ i = 1)) : told24[i]? = some (.str x) ∧ eqV (.str x) (.str x) = true ∧ ∀ (m : Nat) (z : V), m < i → told24[m]? = some z → eqV z (.str x) = false := by
  have all : ∀ (x : Str) (i : Nat), (List.range i).all (fun m => !eqV (told24.getD m .non) (.str x)) = true → ∀ (m : Nat) (z : V), m < i → told24[m]? = some z → eqV z (.str x) = false := fun x i h m z hm e => by
    have g := List.all_eq_true.mp h m (List.mem_range.mpr hm)
    rw [List.getD_eq_getElem?_getD, e] at g
    simpa using g
  rcases h with ⟨rfl, rfl⟩ | ⟨rfl, rfl⟩
  · exact ⟨rfl, by decide +kernel, all _ _ (by decide +kernel)⟩
  · exact ⟨rfl, by decide +kernel, all _ _ (by decide +kernel)⟩
theorem told_flat : told24.all flatV = true := by decide +kernel
theorem ok_raises (D : Dn K mg "_law_raises" sLawRaises) : Cal P w K mg base CX0 1 "_law_raises" pLawRaises spRaises := by
  refine cal_of D scLawRaises bLawRaises (fun vs H Q E h => ?_) fun f cdv A outer s H vs Q E hr h => ?_
  · obtain ⟨x, i, rfl, _⟩ := h
    rfl
  · obtain ⟨x, i, rfl, hx, q⟩ := h
    obtain ⟨t1, t2, t3⟩ := told_at hx
    refine ⟨_, pss_cons (ps_set (i := 1) scLawRaises.nd rfl (Or.inl rfl) (pe_lst (pa_cons pe_str (pa_cons pe_str (pa_cons pe_str (pa_cons pe_str (pa_cons pe_str (pa_cons pe_str (pa_cons pe_str (pa_cons pe_str pa_nil))))))))))
      (pss_cons (ps_set (i := 1) scLawRaises.nd rfl (Or.inl rfl) (pe_op op_cat (pv 1) (pe_lst (pa_cons pe_str (pa_cons pe_str (pa_cons pe_str (pa_cons pe_str (pa_cons pe_str (pa_cons pe_str (pa_cons pe_str (pa_cons pe_str pa_nil)))))))))))
      (pss_cons (ps_set (i := 1) scLawRaises.nd rfl (Or.inl rfl) (pe_op op_cat (pv 1) (pe_lst (pa_cons pe_str (pa_cons pe_str (pa_cons pe_str (pa_cons pe_str (pa_cons pe_str (pa_cons pe_str (pa_cons pe_str (pa_cons pe_str pa_nil)))))))))))
      (pss_one (ps_ret (pe_tup (pa_cons pe_str (pa_cons (pe_bm PySem.F.plainAttrs_list PySem.F.slot_list_index PySem.F.type_list_index mt_index (pv 1) (pa_cons (pv 0) pa_nil)) pa_nil))))))), ?_⟩
    refine ⟨by decide, fun p hp => ?_⟩
    refine ⟨_, rfl, by decide, fun p2 hp2 => ⟨p, p2, [.str "world", .str "sort", .str "trait", .str "instance", .str "set", .str "number", .str "size", .str "granted"], [.str "pairs", .str "stock", .str "wanted", .str "choice", .str "library", .str "module", .str "program", .str "arguments"], rfl, rfl, Same.new hp2 _ _ upd_same, upd_same, by decide, fun p3 hp3 => ?_⟩⟩
    have s3 : Same H (L2.upd (L2.upd (L2.upd H p (.lst [.str "world", .str "sort", .str "trait", .str "instance", .str "set", .str "number", .str "size", .str "granted"])) p2 (.lst [.str "pairs", .str "stock", .str "wanted", .str "choice", .str "library", .str "module", .str "program", .str "arguments"])) p3 (.lst ([.str "world", .str "sort", .str "trait", .str "instance", .str "set", .str "number", .str "size", .str "granted"] ++ [.str "pairs", .str "stock", .str "wanted", .str "choice", .str "library", .str "module", .str "program", .str "arguments"]))) := Same.trans (Same.new hp) (Same.trans (Same.new hp2) (Same.new hp3))
    have h3 : L2.upd (L2.upd (L2.upd H p (.lst [.str "world", .str "sort", .str "trait", .str "instance", .str "set", .str "number", .str "size", .str "granted"])) p2 (.lst [.str "pairs", .str "stock", .str "wanted", .str "choice", .str "library", .str "module", .str "program", .str "arguments"])) p3 (.lst ([.str "world", .str "sort", .str "trait", .str "instance", .str "set", .str "number", .str "size", .str "granted"] ++ [.str "pairs", .str "stock", .str "wanted", .str "choice", .str "library", .str "module", .str "program", .str "arguments"])) p3 = some (.lst [.str "world", .str "sort", .str "trait", .str "instance", .str "set", .str "number", .str "size", .str "granted", .str "pairs", .str "stock", .str "wanted", .str "choice", .str "library", .str "module", .str "program", .str "arguments"]) := upd_same
    generalize L2.upd (L2.upd (L2.upd H p (.lst [.str "world", .str "sort", .str "trait", .str "instance", .str "set", .str "number", .str "size", .str "granted"])) p2 (.lst [.str "pairs", .str "stock", .str "wanted", .str "choice", .str "library", .str "module", .str "program", .str "arguments"])) p3 (.lst ([.str "world", .str "sort", .str "trait", .str "instance", .str "set", .str "number", .str "size", .str "granted"] ++ [.str "pairs", .str "stock", .str "wanted", .str "choice", .str "library", .str "module", .str "program", .str "arguments"])) = H3 at s3 h3 ⊢
    refine ⟨_, rfl, by decide, fun p4 hp4 => ⟨p3, p4, [.str "world", .str "sort", .str "trait", .str "instance", .str "set", .str "number", .str "size", .str "granted", .str "pairs", .str "stock", .str "wanted", .str "choice", .str "library", .str "module", .str "program", .str "arguments"], [.str "text", .str "tangled", .str "unsound", .str "unclear", .str "unchecked", .str "notholding", .str "many", .str "undo"], rfl, rfl, Same.new hp4 _ _ h3, upd_same, by decide, fun p5 hp5 => ?_⟩⟩
    have s5 : Same H (L2.upd (L2.upd H3 p4 (.lst [.str "text", .str "tangled", .str "unsound", .str "unclear", .str "unchecked", .str "notholding", .str "many", .str "undo"])) p5 (.lst ([.str "world", .str "sort", .str "trait", .str "instance", .str "set", .str "number", .str "size", .str "granted", .str "pairs", .str "stock", .str "wanted", .str "choice", .str "library", .str "module", .str "program", .str "arguments"] ++ [.str "text", .str "tangled", .str "unsound", .str "unclear", .str "unchecked", .str "notholding", .str "many", .str "undo"]))) := Same.trans s3 (Same.trans (Same.new hp4) (Same.new hp5))
    have h5 : (L2.upd (L2.upd H3 p4 (.lst [.str "text", .str "tangled", .str "unsound", .str "unclear", .str "unchecked", .str "notholding", .str "many", .str "undo"])) p5 (.lst ([.str "world", .str "sort", .str "trait", .str "instance", .str "set", .str "number", .str "size", .str "granted", .str "pairs", .str "stock", .str "wanted", .str "choice", .str "library", .str "module", .str "program", .str "arguments"] ++ [.str "text", .str "tangled", .str "unsound", .str "unclear", .str "unchecked", .str "notholding", .str "many", .str "undo"]))) p5 = some (.lst told24) := upd_same
    generalize L2.upd (L2.upd H3 p4 (.lst [.str "text", .str "tangled", .str "unsound", .str "unclear", .str "unchecked", .str "notholding", .str "many", .str "undo"])) p5 (.lst ([.str "world", .str "sort", .str "trait", .str "instance", .str "set", .str "number", .str "size", .str "granted", .str "pairs", .str "stock", .str "wanted", .str "choice", .str "library", .str "module", .str "program", .str "arguments"] ++ [.str "text", .str "tangled", .str "unsound", .str "unclear", .str "unchecked", .str "notholding", .str "many", .str "undo"])) = H5 at s5 h5 ⊢
    refine ⟨_, rfl, .inl ⟨rfl, _, SqL.of h5⟩, _, rfl, p5, told24, .str x, i, .str x, rfl, rfl, SqL.of h5, rfl, told_flat, t1, t2, t3, (by decide : 2 ≤ sizeLine), fun p6 hp6 => ?_⟩
    exact q _ _ (Same.trans s5 (Same.new hp6)) upd_same
abbrev cls24 : List Str := ["InvalidWorld", "InvalidSort", "InvalidTrait", "InvalidInstance", "InvalidSet", "InvalidNumber", "InvalidSize", "InvalidGranted", "InvalidPairs", "InvalidStock", "InvalidWanted", "InvalidChoice", "InvalidLibrary", "InvalidModule", "InvalidProgram", "InvalidArguments", "InvalidText", "Tangled", "Unsound", "Unclear", "Unchecked", "NotHolding", "TooMany", "NothingToUndo"]
/-- an error class of the text, at D, the i-th of the 24 -/
structure Er (K : PySem.W.Frag) (mg : Str → Option Value) (D : Addr) (i : Nat) : Prop where
  exc : ExcC K D
  val : PySem.W.kitOne K (.ref D) (.type "ValueError") = some true
  cls : ∀ (k : Nat) (x : Str), cls24[k]? = some x → ∃ c : Addr, mg x = some (.ref c) ∧ PySem.W.kitOne K (.ref D) (.ref c) = some (decide (k = i))
def found (i : Nat) : List Bool := (List.range 24).map fun k => decide (k = i)
theorem found_at {i : Nat} (h : i = 16 ∨ i = 1) : countIn (.bool true) (bD (found i)) = 1 ∧ ((found i).map V.bl).all flatV = true ∧ ((found i).map V.bl)[i]? = some (.bl true) ∧ ∀ (m : Nat) (z : V), m < i → ((found i).map V.bl)[m]? = some z → eqV z (.bl true) = false := by
  have all : ∀ i : Nat, (List.range i).all (fun m => !eqV (((found i).map V.bl).getD m .non) (.bl true)) = true → ∀ (m : Nat) (z : V), m < i → ((found i).map V.bl)[m]? = some z → eqV z (.bl true) = false := fun i h m z hm e => by
    have g := List.all_eq_true.mp h m (List.mem_range.mpr hm)
    rw [List.getD_eq_getElem?_getD, e] at g
    simpa using g
  rcases h with rfl | rfl
  · exact ⟨by decide +kernel, by decide +kernel, by rfl, all _ (by decide +kernel)⟩
  · exact ⟨by decide +kernel, by decide +kernel, by rfl, all _ (by decide +kernel)⟩
abbrev tIs (K : PySem.W.Frag) (c : Addr) : TE := tCB (rIsH K) (tCons (tVar 0) (tCons (tC (.ref c)) tNil))
/-- a kept error, its class's place told for a class c -/
def IsAt (K : PySem.W.Frag) (D c : Addr) (b : Bool) : Prop := PySem.W.kitOne K (.ref D) (.ref c) = some b
theorem name_first {K : PySem.W.Frag} {tz : TS} {E : Ends} {H : Hp} {a D c c' : Addr} {b b' : Bool} (ha : H a = some (Held D a)) (x : ExcC K D) (k : IsAt K D c b) (k' : IsAt K D c' b')
    (h : ∀ l H', Same H H' → H' l = some (.lst ([b, b'].map V.bl)) → tz E [some (.ref a), some (.ref l)] H') : tSeq (tAsg (tLst (tCons (tIs K c) (tCons (tIs K c') tNil))) (gName 1)) tz E [some (.ref a), none] H := by
  refine ⟨_, rfl, a, D, .ref c, .ref c, b, rfl, ha, x, .own c, k, _, rfl, a, D, .ref c', .ref c', b', rfl, ha, x, .own c', k', (by decide : 2 ≤ sizeLine), fun l hl => ?_⟩
  exact h l _ (Same.new hl) upd_same
theorem name_step {K : PySem.W.Frag} {tz : TS} {E : Ends} {H : Hp} {a D l c c' : Addr} {bs : List Bool} {b b' : Bool} (ha : H a = some (Held D a)) (x : ExcC K D) (hl : H l = some (.lst (bs.map V.bl))) (hz : bs.length ≤ 22) (k : IsAt K D c b) (k' : IsAt K D c' b')
    (h : ∀ l H', Same H H' → H' l = some (.lst ((bs ++ [b, b']).map V.bl)) → tz E [some (.ref a), some (.ref l)] H') :
    tSeq (tAsg (tOp rCat (tVar 1) (tLst (tCons (tIs K c) (tCons (tIs K c') tNil)))) (gName 1)) tz E [some (.ref a), some (.ref l)] H := by
  refine ⟨_, rfl, _, rfl, a, D, .ref c, .ref c, b, rfl, ha, x, .own c, k, _, rfl, a, D, .ref c', .ref c', b', rfl, ha, x, .own c', k', (by decide : 2 ≤ sizeLine), fun p hp => ⟨l, p, _, [.bl b, .bl b'], rfl, rfl, Same.new hp _ _ hl, upd_same, ?_, fun m hm => ?_⟩⟩
  · rw [List.length_map]
    exact Nat.le_trans (by show bs.length + 2 ≤ 24; omega) (by decide)
  · refine h m _ (Same.trans (Same.new hp) (Same.new hm)) ?_
    rw [List.map_append]
    exact upd_same
def spName : Sp := fun vs H Q _ => ∃ (a D : Addr) (i : Nat), vs = [.ref a] ∧ H a = some (Held D a) ∧ Er K mg D i ∧ (i = 16 ∨ i = 1) ∧ ∀ H', Same H H' → Q (.int i) H'
theorem ok_name (T : Txt mg) (D : Dn K mg "_law_name" sLawName) : Cal P w K mg base CX0 1 "_law_name" pLawName (spName (K := K) (mg := mg)) := by
  refine cal_of D scLawName bLawName (fun vs H Q E h => ?_) fun f cdv A outer s H vs Q E hr h => ?_
  · obtain ⟨a, D, i, rfl, _⟩ := h
    rfl
  · obtain ⟨a, D, i, rfl, ha, Z, hi, q⟩ := h
    obtain ⟨f1, f2, f3, f4⟩ := found_at hi
    obtain ⟨c0, m0, k0⟩ := Z.cls 0 "InvalidWorld" rfl
    obtain ⟨c1, m1, k1⟩ := Z.cls 1 "InvalidSort" rfl
    obtain ⟨c2, m2, k2⟩ := Z.cls 2 "InvalidTrait" rfl
    obtain ⟨c3, m3, k3⟩ := Z.cls 3 "InvalidInstance" rfl
    obtain ⟨c4, m4, k4⟩ := Z.cls 4 "InvalidSet" rfl
    obtain ⟨c5, m5, k5⟩ := Z.cls 5 "InvalidNumber" rfl
    obtain ⟨c6, m6, k6⟩ := Z.cls 6 "InvalidSize" rfl
    obtain ⟨c7, m7, k7⟩ := Z.cls 7 "InvalidGranted" rfl
    obtain ⟨c8, m8, k8⟩ := Z.cls 8 "InvalidPairs" rfl
    obtain ⟨c9, m9, k9⟩ := Z.cls 9 "InvalidStock" rfl
    obtain ⟨c10, m10, k10⟩ := Z.cls 10 "InvalidWanted" rfl
    obtain ⟨c11, m11, k11⟩ := Z.cls 11 "InvalidChoice" rfl
    obtain ⟨c12, m12, k12⟩ := Z.cls 12 "InvalidLibrary" rfl
    obtain ⟨c13, m13, k13⟩ := Z.cls 13 "InvalidModule" rfl
    obtain ⟨c14, m14, k14⟩ := Z.cls 14 "InvalidProgram" rfl
    obtain ⟨c15, m15, k15⟩ := Z.cls 15 "InvalidArguments" rfl
    obtain ⟨c16, m16, k16⟩ := Z.cls 16 "InvalidText" rfl
    obtain ⟨c17, m17, k17⟩ := Z.cls 17 "Tangled" rfl
    obtain ⟨c18, m18, k18⟩ := Z.cls 18 "Unsound" rfl
    obtain ⟨c19, m19, k19⟩ := Z.cls 19 "Unclear" rfl
    obtain ⟨c20, m20, k20⟩ := Z.cls 20 "Unchecked" rfl
    obtain ⟨c21, m21, k21⟩ := Z.cls 21 "NotHolding" rfl
    obtain ⟨c22, m22, k22⟩ := Z.cls 22 "TooMany" rfl
    obtain ⟨c23, m23, k23⟩ := Z.cls 23 "NothingToUndo" rfl
    refine ⟨_, pss_cons (ps_if (pt_not (pt_val (pe_callB call_isH (by rfl) T.isi boot_isinstance (pa_cons (pv 0) (pa_cons (pe_bltn (v := .ty "ValueError") rfl T.val boot_ValueError rfl) pa_nil))))) pss_never pss_nil)
      (pss_cons (ps_set (i := 1) scLawName.nd rfl (Or.inl rfl) (pe_lst (pa_cons (pe_callB call_isH (by rfl) T.isi boot_isinstance (pa_cons (pv 0) (pa_cons (pe_glob (v := .ref c0) rfl m0 rfl) pa_nil))) (pa_cons (pe_callB call_isH (by rfl) T.isi boot_isinstance (pa_cons (pv 0) (pa_cons (pe_glob (v := .ref c1) rfl m1 rfl) pa_nil))) pa_nil))))
      (pss_cons (ps_set (i := 1) scLawName.nd rfl (Or.inl rfl) (pe_op op_cat (pv 1) (pe_lst (pa_cons (pe_callB call_isH (by rfl) T.isi boot_isinstance (pa_cons (pv 0) (pa_cons (pe_glob (v := .ref c2) rfl m2 rfl) pa_nil))) (pa_cons (pe_callB call_isH (by rfl) T.isi boot_isinstance (pa_cons (pv 0) (pa_cons (pe_glob (v := .ref c3) rfl m3 rfl) pa_nil))) pa_nil)))))
      (pss_cons (ps_set (i := 1) scLawName.nd rfl (Or.inl rfl) (pe_op op_cat (pv 1) (pe_lst (pa_cons (pe_callB call_isH (by rfl) T.isi boot_isinstance (pa_cons (pv 0) (pa_cons (pe_glob (v := .ref c4) rfl m4 rfl) pa_nil))) (pa_cons (pe_callB call_isH (by rfl) T.isi boot_isinstance (pa_cons (pv 0) (pa_cons (pe_glob (v := .ref c5) rfl m5 rfl) pa_nil))) pa_nil)))))
      (pss_cons (ps_set (i := 1) scLawName.nd rfl (Or.inl rfl) (pe_op op_cat (pv 1) (pe_lst (pa_cons (pe_callB call_isH (by rfl) T.isi boot_isinstance (pa_cons (pv 0) (pa_cons (pe_glob (v := .ref c6) rfl m6 rfl) pa_nil))) (pa_cons (pe_callB call_isH (by rfl) T.isi boot_isinstance (pa_cons (pv 0) (pa_cons (pe_glob (v := .ref c7) rfl m7 rfl) pa_nil))) pa_nil)))))
      (pss_cons (ps_set (i := 1) scLawName.nd rfl (Or.inl rfl) (pe_op op_cat (pv 1) (pe_lst (pa_cons (pe_callB call_isH (by rfl) T.isi boot_isinstance (pa_cons (pv 0) (pa_cons (pe_glob (v := .ref c8) rfl m8 rfl) pa_nil))) (pa_cons (pe_callB call_isH (by rfl) T.isi boot_isinstance (pa_cons (pv 0) (pa_cons (pe_glob (v := .ref c9) rfl m9 rfl) pa_nil))) pa_nil)))))
      (pss_cons (ps_set (i := 1) scLawName.nd rfl (Or.inl rfl) (pe_op op_cat (pv 1) (pe_lst (pa_cons (pe_callB call_isH (by rfl) T.isi boot_isinstance (pa_cons (pv 0) (pa_cons (pe_glob (v := .ref c10) rfl m10 rfl) pa_nil))) (pa_cons (pe_callB call_isH (by rfl) T.isi boot_isinstance (pa_cons (pv 0) (pa_cons (pe_glob (v := .ref c11) rfl m11 rfl) pa_nil))) pa_nil)))))
      (pss_cons (ps_set (i := 1) scLawName.nd rfl (Or.inl rfl) (pe_op op_cat (pv 1) (pe_lst (pa_cons (pe_callB call_isH (by rfl) T.isi boot_isinstance (pa_cons (pv 0) (pa_cons (pe_glob (v := .ref c12) rfl m12 rfl) pa_nil))) (pa_cons (pe_callB call_isH (by rfl) T.isi boot_isinstance (pa_cons (pv 0) (pa_cons (pe_glob (v := .ref c13) rfl m13 rfl) pa_nil))) pa_nil)))))
      (pss_cons (ps_set (i := 1) scLawName.nd rfl (Or.inl rfl) (pe_op op_cat (pv 1) (pe_lst (pa_cons (pe_callB call_isH (by rfl) T.isi boot_isinstance (pa_cons (pv 0) (pa_cons (pe_glob (v := .ref c14) rfl m14 rfl) pa_nil))) (pa_cons (pe_callB call_isH (by rfl) T.isi boot_isinstance (pa_cons (pv 0) (pa_cons (pe_glob (v := .ref c15) rfl m15 rfl) pa_nil))) pa_nil)))))
      (pss_cons (ps_set (i := 1) scLawName.nd rfl (Or.inl rfl) (pe_op op_cat (pv 1) (pe_lst (pa_cons (pe_callB call_isH (by rfl) T.isi boot_isinstance (pa_cons (pv 0) (pa_cons (pe_glob (v := .ref c16) rfl m16 rfl) pa_nil))) (pa_cons (pe_callB call_isH (by rfl) T.isi boot_isinstance (pa_cons (pv 0) (pa_cons (pe_glob (v := .ref c17) rfl m17 rfl) pa_nil))) pa_nil)))))
      (pss_cons (ps_set (i := 1) scLawName.nd rfl (Or.inl rfl) (pe_op op_cat (pv 1) (pe_lst (pa_cons (pe_callB call_isH (by rfl) T.isi boot_isinstance (pa_cons (pv 0) (pa_cons (pe_glob (v := .ref c18) rfl m18 rfl) pa_nil))) (pa_cons (pe_callB call_isH (by rfl) T.isi boot_isinstance (pa_cons (pv 0) (pa_cons (pe_glob (v := .ref c19) rfl m19 rfl) pa_nil))) pa_nil)))))
      (pss_cons (ps_set (i := 1) scLawName.nd rfl (Or.inl rfl) (pe_op op_cat (pv 1) (pe_lst (pa_cons (pe_callB call_isH (by rfl) T.isi boot_isinstance (pa_cons (pv 0) (pa_cons (pe_glob (v := .ref c20) rfl m20 rfl) pa_nil))) (pa_cons (pe_callB call_isH (by rfl) T.isi boot_isinstance (pa_cons (pv 0) (pa_cons (pe_glob (v := .ref c21) rfl m21 rfl) pa_nil))) pa_nil)))))
      (pss_cons (ps_set (i := 1) scLawName.nd rfl (Or.inl rfl) (pe_op op_cat (pv 1) (pe_lst (pa_cons (pe_callB call_isH (by rfl) T.isi boot_isinstance (pa_cons (pv 0) (pa_cons (pe_glob (v := .ref c22) rfl m22 rfl) pa_nil))) (pa_cons (pe_callB call_isH (by rfl) T.isi boot_isinstance (pa_cons (pv 0) (pa_cons (pe_glob (v := .ref c23) rfl m23 rfl) pa_nil))) pa_nil)))))
      (pss_one (ps_ret (pe_ifExp (pt_cmpR op_eq (pe_bm PySem.F.plainAttrs_list PySem.F.slot_list_count PySem.F.type_list_count mt_countB (pv 1) (pa_cons pe_bl pa_nil)) pe_int (nomark _)) (pe_bm PySem.F.plainAttrs_list PySem.F.slot_list_index PySem.F.type_list_index mt_index (pv 1) (pa_cons pe_bl pa_nil)) (pe_un un_neg pe_int)))))))))))))))), ?_⟩
    refine ⟨_, rfl, a, D, .ty "ValueError", .type "ValueError", true, rfl, ha, Z.exc, .ty _, Z.val, _, rfl, iteF ?_⟩
    refine name_first ha Z.exc k0 k1 fun l0 H0 s0 h0 => ?_
    refine name_step (s0 _ _ ha) Z.exc h0 (show 2 ≤ 22 by decide) k2 k3 fun l1 H1 u1 h1 => ?_
    have s1 := Same.trans s0 u1
    refine name_step (s1 _ _ ha) Z.exc h1 (show 4 ≤ 22 by decide) k4 k5 fun l2 H2 u2 h2 => ?_
    have s2 := Same.trans s1 u2
    refine name_step (s2 _ _ ha) Z.exc h2 (show 6 ≤ 22 by decide) k6 k7 fun l3 H3 u3 h3 => ?_
    have s3 := Same.trans s2 u3
    refine name_step (s3 _ _ ha) Z.exc h3 (show 8 ≤ 22 by decide) k8 k9 fun l4 H4 u4 h4 => ?_
    have s4 := Same.trans s3 u4
    refine name_step (s4 _ _ ha) Z.exc h4 (show 10 ≤ 22 by decide) k10 k11 fun l5 H5 u5 h5 => ?_
    have s5 := Same.trans s4 u5
    refine name_step (s5 _ _ ha) Z.exc h5 (show 12 ≤ 22 by decide) k12 k13 fun l6 H6 u6 h6 => ?_
    have s6 := Same.trans s5 u6
    refine name_step (s6 _ _ ha) Z.exc h6 (show 14 ≤ 22 by decide) k14 k15 fun l7 H7 u7 h7 => ?_
    have s7 := Same.trans s6 u7
    refine name_step (s7 _ _ ha) Z.exc h7 (show 16 ≤ 22 by decide) k16 k17 fun l8 H8 u8 h8 => ?_
    have s8 := Same.trans s7 u8
    refine name_step (s8 _ _ ha) Z.exc h8 (show 18 ≤ 22 by decide) k18 k19 fun l9 H9 u9 h9 => ?_
    have s9 := Same.trans s8 u9
    refine name_step (s9 _ _ ha) Z.exc h9 (show 20 ≤ 22 by decide) k20 k21 fun l10 H10 u10 h10 => ?_
    have s10 := Same.trans s9 u10
    refine name_step (s10 _ _ ha) Z.exc h10 (show 22 ≤ 22 by decide) k22 k23 fun l11 H11 u11 h11 => ?_
    have s11 := Same.trans s10 u11
    have h : H11 l11 = some (.lst ((found i).map V.bl)) := h11
    refine ⟨_, rfl, .inl ⟨rfl, _, SqL.of h⟩, l11, found i, true, rfl, rfl, SqL.of h, rfl, _, rfl, iteDT (by rw [f1]) ?_⟩
    exact ⟨_, rfl, .inl ⟨rfl, _, SqL.of h⟩, l11, _, .bl true, i, .bl true, rfl, rfl, SqL.of h, rfl, f2, f3, rfl, f4, q _ s11⟩
/-! ### _law_outcome -/
def spOut (CT CS : Addr) : Sp := fun vs H Q _ => spCallL CT CS vs H (fun r H' => ∀ p H2, Same H' H2 → H2 p = some (.tup [.str "returned", r]) → Q (.ref p) H2)
  (fun c d H' => ∃ (D : Addr) (i : Nat), c = .ref D ∧ d = none ∧ ((D = CT ∧ i = 16) ∨ (D = CS ∧ i = 1)) ∧ ∀ p H2, Same H' H2 → H2 p = some (.tup [.str "raised", .int i]) → Q (.ref p) H2)
theorem parse_mono {vs : List V} {H : Hp} {Q Q' : VK} {E E' : XK} (hq : ∀ v H', Q v H' → Q' v H') (he : ∀ c d H', E c d H' → E' c d H') (h : spParse CT vs H Q E) : spParse CT vs H Q' E' := by
  obtain ⟨u, v, W, e, hW, wg, h⟩ := h
  refine ⟨u, v, W, e, hW, wg, ?_⟩
  rcases h with ⟨x, e2, hx, k1, k2⟩ | ⟨hj, k2⟩
  · exact .inl ⟨x, e2, hx, fun t pt H' v' s a => hq _ _ (k1 t pt H' v' s a), fun pn H' s => he _ _ _ (k2 pn H' s)⟩
  · exact .inr ⟨hj, fun H' s => he _ _ _ (k2 H' s)⟩
theorem format_mono {vs : List V} {H : Hp} {Q Q' : VK} {E E' : XK} (hq : ∀ v H', Q v H' → Q' v H') (he : ∀ c d H', E c d H' → E' c d H') (h : spFormat CS vs H Q E) : spFormat CS vs H Q' E' := by
  obtain ⟨u, v, W, e, hW, wg, h⟩ := h
  refine ⟨u, v, W, e, hW, wg, ?_⟩
  rcases h with ⟨t, ht, k1, k2⟩ | ⟨hj, k2⟩
  · exact .inl ⟨t, ht, fun g H' s => hq _ _ (k1 g H' s), fun g H' s => he _ _ _ (k2 g H' s)⟩
  · exact .inr ⟨hj, fun H' s => he _ _ _ (k2 H' s)⟩
theorem callL_mono {vs : List V} {H : Hp} {Q Q' : VK} {E E' : XK} (hq : ∀ v H', Q v H' → Q' v H') (he : ∀ c d H', E c d H' → E' c d H') (h : spCallL CT CS vs H Q E) : spCallL CT CS vs H Q' E' := by
  obtain ⟨k, p, u, v, e, hp, h1, h2⟩ := h
  exact ⟨k, p, u, v, e, hp, fun z => parse_mono hq he (h1 z), fun z => format_mono hq he (h2 z)⟩
theorem ok_outcome {TE : Addr} (D : Dn K mg "_law_outcome" sLawOutcome) (hTE : mg "TraitError" = some (.ref TE)) (eT : PySem.W.exmOne K (.ref CT) (.ref TE) = some true) (eS : PySem.W.exmOne K (.ref CS) (.ref TE) = some true)
    (zT : Er K mg CT 16) (zS : Er K mg CS 1) (C1 : Cal P w K mg base (L2.CX P w) 17 "_law_call" pLawCall (spCallL CT CS)) (C2 : Cal P w K mg base CX0 1 "_law_name" pLawName (spName (K := K) (mg := mg))) : Cal P w K mg base CX0 18 "_law_outcome" pLawOutcome (spOut CT CS) := by
  refine cal_of D scLawOutcome bLawOutcome (fun vs H Q E h => ?_) fun f cdv A outer s H vs Q E hr h => ?_
  · obtain ⟨k, p, u, v, rfl, _⟩ := h
    rfl
  · refine ⟨_, pss_cons (ps_set (i := 2) scLawOutcome.nd rfl (Or.inl rfl) pe_non)
      (pss_cons (ps_set (i := 3) scLawOutcome.nd rfl (Or.inl rfl) pe_non)
      (pss_cons (ps_try_keep (i := 4) (tb := fun W => tAsg (tCallS (spCallL CT CS) (WE W) (tCons (tVar 0) (tCons (tVar 1) tNil))) (gName 3)) (ts := fun _ => tAsg (tVar 4) (gName 2)) (Wout := fun _ _ _ _ => False) rfl rfl rfl scLawOutcome.nd rfl rfl ⟨rfl, by decide, Or.inl hTE⟩ nobody
        (fun W pn xe tk _ => pss_one (ps_set (i := 3) scLawOutcome.nd rfl (Or.inl rfl) (pe_calX tk C1 hr (pa_cons (pv 0) (pa_cons (pv 1) pa_nil)))))
        (fun a oe pn => pss_one (ps_set (i := 2) scLawOutcome.nd rfl (Or.inl rfl) (pv 4))))
      (pss_cons (ps_if (pt_cmpR op_isN (pv 2) pe_non (nomark _)) (pss_one (ps_ret (pe_tup (pa_cons pe_str (pa_cons (pv 3) pa_nil))))) pss_nil)
      (pss_one (ps_ret (pe_tup (pa_cons pe_str (pa_cons (pe_cal C2 (hr.mono (by omega)) (pa_cons (pv 2) pa_nil)) pa_nil)))))))), ?_⟩
    obtain ⟨k, p, u, v, rfl, _⟩ := id h
    refine ⟨_, rfl, _, rfl, callL_mono (fun r H1 hq => ?_) (fun c d H1 hx => ?_) h⟩
    · exact ⟨_, rfl, rfl, _, rfl, iteDT rfl ⟨_, rfl, (by decide : 2 ≤ sizeLine), fun a ha => hq a _ (Same.new ha) upd_same⟩⟩
    · obtain ⟨D, i, rfl, rfl, hD, hq⟩ := hx
      have hh : PySem.W.exmOne K (.ref D) (.ref TE) = some true ∧ Er K mg D i ∧ (i = 16 ∨ i = 1) := by
        rcases hD with ⟨rfl, rfl⟩ | ⟨rfl, rfl⟩
        · exact ⟨eT, zT, .inl rfl⟩
        · exact ⟨eS, zS, .inr rfl⟩
      obtain ⟨e1, z, hi⟩ := hh
      refine ⟨true, e1, fun _ => ⟨D, rfl, rfl, fun a ha => ⟨_, rfl, ha, ?_⟩⟩, fun z => nomatch z⟩
      refine ⟨_, rfl, rfl, _, rfl, iteDF (fun z => nomatch z) ?_⟩
      exact ⟨_, rfl, a, D, i, rfl, upd_same, z, hi, fun H3 s3 => ⟨(by decide : 2 ≤ sizeLine), fun q hp => hq q _ (Same.trans (Same.new ha) (Same.trans s3 (Same.new hp))) upd_same⟩⟩
end
end Ts

/-! _law_town, _law_draw, _law_pick -/
namespace Ts
open PySem PySem.Spec PyProof.Rows L2
/-- the draws' state: the script at a, the town at t -/
structure Town (K : PySem.W.Frag) (ns : List Int) (H : Hp) (a t : Addr) (d : Int) : Prop where
  sc : ∀ H', But t H H' → SqL K H' a (ns.map V.int)
  ex : ∃ ls : List Int, H t = some (.lst (V.int d :: ls.map V.int)) ∧ ls.length = ns.length
  lo : 0 ≤ d
  sz : ns.length ≤ 1000
section
variable {K : PySem.W.Frag} {ns : List Int}
theorem Town.same {H H' : Hp} {a t : Addr} {d : Int} (h : Town K ns H a t d) (s : Same H H') : Town K ns H' a t d := by
  obtain ⟨ls, h2, h3⟩ := h.ex
  exact ⟨fun H2 b => h.sc _ (But.trans (But.of s) b), ⟨ls, s _ _ h2, h3⟩, h.lo, h.sz⟩
theorem Town.none {H : Hp} {a t p : Addr} {d : Int} (h : Town K ns H a t d) (e : H p = none) : p ≠ t := by
  obtain ⟨ls, h2, h3⟩ := h.ex
  intro z
  rw [z, h2] at e
  cases e
theorem Town.tk {H H' : Hp} {a t : Addr} {d : Int} (h : Town K ns H a t d) (s : But t H H') : Tk H H' := by
  obtain ⟨ls, h2, h3⟩ := h.ex
  exact s.tk h2
/-- a list that came behind H0 is written -/
theorem Town.upd {H0 H : Hp} {a t p : Addr} {d0 d : Int} {o : HO} (h : Town K ns H a t d) (h0 : Town K ns H0 a t d0) (b : But t H0 (L2.upd H p o)) (nt : p ≠ t) : Town K ns (L2.upd H p o) a t d := by
  obtain ⟨ls, h2, h3⟩ := h.ex
  exact ⟨fun H2 b2 => h0.sc _ (But.trans b b2), ⟨ls, by rw [upd_ne (Ne.symm nt)]; exact h2, h3⟩, h.lo, h.sz⟩
end
theorem sc_new {K : PySem.W.Frag} {H H' : Hp} {a t : Addr} {xs : List V} (h : SqL K H a xs) (e : H t = none) (b : But t H H') : SqL K H' a xs := by
  rcases h with (h | ⟨o, h⟩) | h
  · exact .inl (.inl (b _ _ (ne_of_none h e) h))
  · exact .inl (.inr ⟨o, b _ _ (ne_of_none h e) h⟩)
  · exact .inr h
theorem dp_ints {K : PySem.W.Frag} {H : Hp} : ∀ ns : List Int, DpAll K H (ns.map V.int) (ns.map PyData.int)
  | [] => .nil
  | n :: ns => .cons (.int n) (dp_ints ns)
theorem ints_can : ∀ ns : List Int, PyData.canLayAll0 (ns.map PyData.int) = true
  | [] => rfl
  | n :: ns => by
    show (PyData.canLay0 (.int n) && PyData.canLayAll0 (ns.map PyData.int)) = true
    rw [ints_can ns]
    rfl
theorem ints_depth : ∀ ns : List Int, PyData.depthAll (ns.map PyData.int) = 0
  | [] => rfl
  | n :: ns => by
    show max (PyData.depth (.int n)) (PyData.depthAll (ns.map PyData.int)) = 0
    rw [ints_depth ns]
    rfl
theorem ints_shaped (ns : List Int) : SeqAt.shaped (.list (ns.map PyData.int)) = true := by
  unfold SeqAt.shaped
  rw [PyData.canLay0, PyData.depth, ints_can, ints_depth]
  rfl
theorem ints_eqv (ns : List Int) : PyData.eqv (.list (ns.map PyData.int)) (.list []) = decide (ns = []) := by
  cases ns <;> rfl
theorem ixN_n {n j : Nat} (h : j < n) : ixN n (j : Int) = some j := by
  unfold ixN
  rw [if_pos (by omega), if_pos (by omega)]
  simp
section
variable {P : Program} {w : PySem.World} {K : PySem.W.Frag} {mg : Str → Option Value} {base : Heap} {ns : List Int}
def spTown : Sp := fun vs H Q _ => ∃ (a : Addr), vs = [.ref a] ∧ SqL K H a (ns.map V.int) ∧ ns.length ≤ 1000 ∧ ∀ t H', Same H H' → Town K ns H' a t 0 → Q (.ref t) H'
theorem ok_town (T : Txt mg) (D : Dn K mg "_law_town" sLawTown) : Cal P w K mg base CX0 1 "_law_town" pLawTown (spTown (K := K) (ns := ns)) := by
  refine cal_of D scLawTown bLawTown (fun vs H Q E h => ?_) fun f cdv A outer s H vs Q E hr h => ?_
  · obtain ⟨a, rfl, _⟩ := h
    rfl
  · obtain ⟨a, rfl, ha, hz, q⟩ := h
    refine ⟨_, pss_one (ps_ret (pe_op op_cat (pe_lst (pa_cons pe_int pa_nil)) (pe_callTy call_list_of (by rfl) T.lst boot_list (pa_cons (pv 0) pa_nil)))), ?_⟩
    refine ⟨by decide, fun p hp => ⟨_, rfl, a, _, rfl, Or.inl (Same.seq (Same.new hp) ha), fun p2 hp2 => ?_⟩⟩
    refine ⟨p, p2, [.int 0], _, rfl, rfl, Same.new hp2 _ _ upd_same, upd_same, ?_, fun p3 hp3 => ?_⟩
    · rw [List.length_map]
      exact Nat.le_trans (by show 1 + ns.length ≤ 1001; omega) (by decide : 1001 ≤ sizeLine)
    · have s3 := Same.trans (Same.new (o := .lst [.int 0]) hp) (Same.trans (Same.new (o := .lst (ns.map V.int)) hp2) (Same.new (o := .lst ([.int 0] ++ ns.map V.int)) hp3))
      have n0 : H p3 = none := by
        cases z : H p3 with
        | none => rfl
        | some o =>
          have z2 := Same.trans (Same.new (o := .lst [.int 0]) hp) (Same.new (o := .lst (ns.map V.int)) hp2) _ _ z
          rw [hp3] at z2
          cases z2
      exact q _ _ s3 ⟨fun H' b => sc_new ha n0 (But.trans (But.of s3) b), ⟨ns, upd_same, rfl⟩, Int.le_refl 0, hz⟩
/-! ### _law_draw -/
def spDraw : Sp := fun vs H Q _ => ∃ (a t : Addr) (lim d : Int), vs = [.ref a, .ref t, .int lim] ∧ Town K ns H a t d ∧ d ≤ 1000000 ∧ 0 < lim ∧ lim < 1000000000 ∧ ∀ (r : Int) H', 0 ≤ r → r < lim → But t H H' → Town K ns H' a t (d + 1) → Q (.int r) H'
theorem ok_draw (T : Txt mg) (D : Dn K mg "_law_draw" sLawDraw) : Cal P w K mg base CX0 1 "_law_draw" pLawDraw (spDraw (K := K) (ns := ns)) := by
  refine cal_of D scLawDraw bLawDraw (fun vs H Q E h => ?_) fun f cdv A outer s H vs Q E hr h => ?_
  · obtain ⟨a, t, lim, d, rfl, _⟩ := h
    rfl
  · obtain ⟨a, t, lim, d, rfl, tw, hd, l0, l1, q⟩ := h
    obtain ⟨ls, ht, hl⟩ := tw.ex
    have hz := tw.sz
    have d0 := tw.lo
    refine ⟨_, pss_cons (ps_asg (pe_op op_add (pe_ix ix_list (pv 1) pe_int (fun _ _ => rfl)) pe_int) (pg_sub (pv 1) pe_int set_list))
      (pss_cons (ps_if (pt_cmpR (op_eqD hr.units) (pv 0) (pe_lst pa_nil) (nomark _))
        (pss_one (ps_ret (pe_op op_mod (pe_op op_fdiv (pe_op op_mul (pe_op op_mul (pe_ix ix_list (pv 1) pe_int (fun _ _ => rfl)) (pe_ix ix_list (pv 1) pe_int (fun _ _ => rfl))) pe_int) pe_int) (pv 2)))) pss_nil)
      (pss_cons (ps_set (i := 3) scLawDraw.nd rfl (Or.inl rfl) (pe_op op_mod (pe_ix ix_list (pv 1) pe_int (fun _ _ => rfl)) (pe_callB call_len_seq (by rfl) T.len b_len (pa_cons (pv 0) pa_nil))))
      (pss_cons (ps_set (i := 4) scLawDraw.nd rfl (Or.inl rfl) (pe_ix ix_list (pv 1) (pe_op op_add pe_int (pv 3)) (fun _ _ => rfl)))
      (pss_cons (ps_if (PW.pt (pw_and (pt_cmpR op_ge (pe_ix ix_list (pv 0) (pv 3) (fun _ _ => rfl)) (pe_op op_pow pe_int pe_int) (nomark _)) (pw_and1 (pt_cmpR op_gt (pv 4) pe_int (nomark _)))))
        (pss_cons (ps_asg (pe_op op_fdiv (pv 4) (pv 2)) (pg_sub (pv 1) (pe_op op_add pe_int (pv 3)) set_list)) (pss_one (ps_ret (pe_op op_mod (pv 4) (pv 2))))) pss_nil)
      (pss_cons (ps_set (i := 5) scLawDraw.nd rfl (Or.inl rfl) (pe_op op_mod (pe_op op_add (pe_ix ix_list (pv 0) (pv 3) (fun _ _ => rfl)) (pe_op op_mul pe_int (pe_ix ix_list (pv 1) pe_int (fun _ _ => rfl)))) pe_int))
      (pss_cons (ps_set (i := 5) scLawDraw.nd rfl (Or.inl rfl) (pe_op op_mod (pe_op op_pow (pv 5) pe_int) pe_int))
      (pss_one (ps_ret (pe_op op_mod (pe_op op_fdiv (pe_op op_mod (pe_op op_add (pe_op op_mul (pe_op op_fdiv (pv 5) pe_int) pe_int) (pv 5)) pe_int) pe_int) (pv 2)))))))))), ?_⟩
    -- town[0] = town[0] + 1
    refine ⟨_, rfl, t, _, 0, .int d, rfl, rfl, SqL.of ht, atI_nat (j := 0) rfl, _, _, rfl, rfl, _, rfl, t, _, 0, 0, rfl, rfl, ht, ixN_n (j := 0) (Nat.succ_pos _), ?_⟩
    have b1 : But t H (L2.upd H t (.lst ((V.int d :: ls.map V.int).set 0 (.int (d + 1))))) := But.upd
    have t1 : L2.upd H t (.lst ((V.int d :: ls.map V.int).set 0 (.int (d + 1)))) t = some (.lst (V.int (d + 1) :: ls.map V.int)) := upd_same
    generalize L2.upd H t (.lst ((V.int d :: ls.map V.int).set 0 (.int (d + 1)))) = H1 at b1 t1 ⊢
    have tw1 : Town K ns H1 a t (d + 1) := ⟨fun H' b => tw.sc _ (But.trans b1 b), ⟨ls, t1, hl⟩, by omega, hz⟩
    -- script == []
    refine ⟨_, rfl, Nat.zero_le _, fun m hm => ?_⟩
    have s2 : Same H1 (L2.upd H1 m (.lst [])) := Same.new hm
    have m2 : L2.upd H1 m (.lst []) m = some (.lst []) := upd_same
    generalize L2.upd H1 m (.lst []) = H2 at s2 m2 ⊢
    have b2 : But t H H2 := But.trans b1 (But.of s2)
    have tw2 := tw1.same s2
    have a2 := tw.sc _ b2
    have t2 := s2 _ _ t1
    refine ⟨_, _, .lst a2 (dp_ints ns), dp_nil m2, ints_shaped ns, by decide, _, rfl, iteE (ints_eqv ns) (iteD (fun e => ?_) fun e => ?_)⟩
    · refine ⟨_, rfl, t, _, 0, .int (d + 1), rfl, rfl, SqL.of t2, atI_nat (j := 0) rfl, _, rfl, t, _, 0, .int (d + 1), rfl, rfl, SqL.of t2, atI_nat (j := 0) rfl, _, _, rfl, rfl, ?_, _, _, rfl, rfl, ?_, _, _, rfl, rfl, ?_, _, rfl, _, _, rfl, rfl, l0, ?_⟩
      · exact .inl ⟨by omega, by omega⟩
      · exact .inr ⟨by decide, by decide⟩
      · exact ⟨by decide, by decide⟩
      · exact q _ _ (Int.emod_nonneg _ (by omega)) (Int.emod_lt_of_pos _ l0) b2 tw2
    have np : 0 < ns.length := List.length_pos_iff.mpr e
    -- at
    refine ⟨_, rfl, t, _, 0, .int (d + 1), rfl, rfl, SqL.of t2, atI_nat (j := 0) rfl, _, rfl, a, _, rfl, .inl (a2), _, _, rfl, rfl, ?_, ?_⟩
    · rw [List.length_map]
      omega
    obtain ⟨j, hj, hj1⟩ : ∃ j : Nat, (d + 1) % (((ns.map V.int).length : Nat) : Int) = j ∧ j < ns.length := by
      rw [List.length_map]
      have m0 := Int.emod_nonneg (d + 1) (b := (ns.length : Int)) (by omega)
      have m1 := Int.emod_lt_of_pos (d + 1) (b := (ns.length : Int)) (by omega)
      obtain ⟨j, hj⟩ := Int.eq_ofNat_of_zero_le m0
      exact ⟨j, hj, by omega⟩
    -- left
    have at1 : atI (V.int (d + 1) :: ls.map V.int) (1 + (d + 1) % (((ns.map V.int).length : Nat) : Int)) = some (.int (ls.getD j 0)) := by
      rw [hj]
      have e1 : (1 + (j : Int)) = ((j + 1 : Nat) : Int) := by omega
      rw [e1]
      refine atI_nat (j := j + 1) ?_
      rw [List.getElem?_cons_succ, List.getElem?_map, List.getElem?_eq_getElem (by omega), List.getD_eq_getElem?_getD, List.getElem?_eq_getElem (by omega)]
      rfl
    have at0 : atI (ns.map V.int) ((d + 1) % (((ns.map V.int).length : Nat) : Int)) = some (.int (ns.getD j 0)) := by
      rw [hj]
      refine atI_nat (j := j) ?_
      rw [List.getElem?_map, List.getElem?_eq_getElem (by omega), List.getD_eq_getElem?_getD, List.getElem?_eq_getElem (by omega)]
      rfl
    refine ⟨_, rfl, _, rfl, _, _, rfl, rfl, t, _, _, _, rfl, rfl, SqL.of t2, at1, ?_⟩
    have ixl : ixN (V.int (d + 1) :: ls.map V.int).length (1 + (d + 1) % (((ns.map V.int).length : Nat) : Int)) = some (j + 1) := by
      rw [hj]
      have e1 : (1 + (j : Int)) = ((j + 1 : Nat) : Int) := by omega
      rw [e1]
      refine ixN_n ?_
      rw [List.length_cons, List.length_map]
      omega
    -- the digit of a large cell
    refine ⟨_, rfl, _, rfl, a, _, _, _, rfl, rfl, a2, at0, _, _, rfl, rfl, ⟨by decide, by decide, by decide⟩, _, _, rfl, rfl, _, rfl, ?_⟩
    refine iteD (fun c => ⟨_, rfl, _, _, rfl, rfl, _, rfl, iteD (fun c2 => ?_) fun c2 => ?_⟩) fun c => ?_
    · refine ⟨_, rfl, _, rfl, _, _, rfl, rfl, ⟨l0, by omega⟩, _, rfl, _, rfl, _, _, rfl, rfl, t, _, _, j + 1, rfl, rfl, t2, ixl, ?_⟩
      refine ⟨_, rfl, _, rfl, _, _, rfl, rfl, l0, ?_⟩
      refine q _ _ (Int.emod_nonneg _ (by omega)) (Int.emod_lt_of_pos _ l0) (But.trans b2 But.upd) ⟨fun H' b => tw.sc _ (But.trans b2 (But.trans But.upd b)), ⟨ls.set j (ls.getD j 0 / lim), ?_, ?_⟩, by omega, hz⟩
      · rw [upd_same, List.set_cons_succ, List.map_set]
      · rw [List.length_set, hl]
    all_goals
      refine ⟨_, rfl, _, rfl, a, _, _, _, rfl, rfl, a2, at0, _, rfl, t, _, 0, .int (d + 1), rfl, rfl, SqL.of t2, atI_nat (j := 0) rfl, _, _, rfl, rfl, .inl ⟨by decide, by decide⟩, _, _, rfl, rfl, _, _, rfl, rfl, (show (0 : Int) < 4294967291 by decide), ?_⟩
      refine ⟨_, rfl, _, _, rfl, rfl, ⟨by decide, by decide, ?_⟩, _, _, rfl, rfl, (show (0 : Int) < 4294967279 by decide), ?_⟩
      · have p0 := Int.emod_nonneg (ns.getD j 0 + 104729 * (d + 1)) (b := 4294967291) (by decide)
        have p1 := Int.emod_lt_of_pos (ns.getD j 0 + 104729 * (d + 1)) (b := 4294967291) (by decide)
        omega
      · exact ⟨_, rfl, _, _, rfl, rfl, ⟨by decide, by decide⟩, _, _, rfl, rfl, .inr ⟨by decide, by decide⟩, _, rfl, _, _, rfl, rfl, _, _, rfl, rfl, (show (0 : Int) < 4294967231 by decide), _, _, rfl, rfl, ⟨by decide, by decide⟩, _, rfl, _, _, rfl, rfl, l0,
          q _ _ (Int.emod_nonneg _ (by omega)) (Int.emod_lt_of_pos _ l0) b2 tw2⟩
/-! ### _law_pick -/
/-- one of a list's items -/
def spPick : Sp := fun vs H Q _ => ∃ (a t c : Addr) (d : Int) (xs : List V), vs = [.ref a, .ref t, .ref c] ∧ Town K ns H a t d ∧ d ≤ 1000000 ∧ c ≠ t ∧ H c = some (.lst xs) ∧ xs ≠ [] ∧ xs.length ≤ 1000 ∧ ∀ (i : Nat) x H', xs[i]? = some x → But t H H' → Town K ns H' a t (d + 1) → Q x H'
theorem ok_pick (T : Txt mg) (D : Dn K mg "_law_pick" sLawPick) (C1 : Cal P w K mg base CX0 1 "_law_draw" pLawDraw (spDraw (K := K) (ns := ns))) : Cal P w K mg base CX0 2 "_law_pick" pLawPick (spPick (K := K) (ns := ns)) := by
  refine cal_of D scLawPick bLawPick (fun vs H Q E h => ?_) fun f cdv A outer s H vs Q E hr h => ?_
  · obtain ⟨a, t, c, d, xs, rfl, _⟩ := h
    rfl
  · obtain ⟨a, t, c, d, xs, rfl, tw, hd, hct, hc, hx, hz, q⟩ := h
    have xp : 0 < xs.length := List.length_pos_iff.mpr hx
    refine ⟨_, pss_one (ps_ret (pe_ix ix_list (pv 2) (pe_cal C1 hr (pa_cons (pv 0) (pa_cons (pv 1) (pa_cons (pe_callB call_len_seq (by rfl) T.len b_len (pa_cons (pv 2) pa_nil)) pa_nil)))) (fun _ _ => rfl))), ?_⟩
    refine ⟨_, rfl, _, rfl, _, rfl, _, rfl, c, _, rfl, .inl (SqL.of hc), a, t, _, d, rfl, tw, hd, ?_, ?_, fun r H' r0 r1 b tw' => ?_⟩
    · omega
    · omega
    · obtain ⟨j, rfl⟩ := Int.eq_ofNat_of_zero_le r0
      have hj : j < xs.length := by omega
      exact ⟨c, xs, _, xs[j], rfl, rfl, SqL.of (b _ _ hct hc), atI_nat (List.getElem?_eq_getElem hj), q j _ H' (List.getElem?_eq_getElem hj) b tw'⟩
end
end Ts

/-! _law_world -/
namespace Ts
open PySem PySem.Spec PyProof.Rows L2
/-! ### rows of constructors -/
abbrev Rw := List (Str × Int)
def tPs : Rw → TA
  | [] => tNil
  | q :: l => tCons (tTup (tCons (tC (.str q.1)) (tCons (tC (.int q.2)) tNil))) (tPs l)
def tRs : List Rw → TA
  | [] => tNil
  | l :: r => tCons (tTupF (tPs l)) (tRs r)
def PsAt (H : Hp) (p : Addr) (q : Str × Int) : Prop := H p = some (.tup [.str q.1, .int q.2])
def RowAt (H : Hp) (x : V) (l : Rw) : Prop := ∃ (a : Addr) (o : Obj) (ps : List Addr), x = .ref a ∧ H a = some (.frz o (.tup (ps.map .ref))) ∧ o.dict = none ∧ Paired (PsAt H) ps l
theorem RowAt.tk {H H' : Hp} {x : V} {l : Rw} (k : Tk H H') : RowAt H x l → RowAt H' x l := fun ⟨a, o, ps, e, h, d, p⟩ => ⟨a, o, ps, e, k.frz _ _ _ h, d, paired_imp p fun _ _ q => k.tup _ _ q⟩
theorem ps_ev : ∀ (l : Rw) {σ : L2.St} {H : Hp} {Q : List V → Hp → Prop}, (∀ H' ps, Same H H' → Paired (PsAt H') ps l → Q (ps.map .ref) H') → tPs l σ H Q
  | [], _, H, _, k => k H [] (Same.refl H) .nil
  | q :: l, _, H, _, k => ⟨(by decide : 2 ≤ sizeLine), fun p hp => ps_ev l fun H' ps s pr => k H' (p :: ps) (Same.trans (Same.new hp) s) (.cons (s _ _ upd_same) pr)⟩
theorem rs_ev : ∀ (r : List Rw) {σ : L2.St} {H : Hp} {Q : List V → Hp → Prop}, (∀ l ∈ r, l.length ≤ 100) → (∀ H' xs, Same H H' → Paired (RowAt H') xs r → Q xs H') → tRs r σ H Q
  | [], _, H, _, _, k => k H [] (Same.refl H) .nil
  | l :: r, _, H, _, hz, k => ps_ev l fun H' ps s pr => ⟨by
      rw [List.length_map, paired_len pr]
      exact Nat.le_trans (hz l List.mem_cons_self) (by decide), fun p o hp ho => rs_ev r (fun x hx => hz x (List.mem_cons_of_mem _ hx)) fun H2 xs s2 px =>
        k H2 (.ref p :: xs) (Same.trans s (Same.trans (Same.new hp) s2)) (.cons ⟨p, o, ps, rfl, s2 _ _ upd_same, ho, paired_imp pr fun _ _ q => s2 _ _ (Same.new hp _ _ q)⟩ px)⟩
abbrev rowsA : List Rw := [[("List", 1), ("Num", 0), ("Pair", 2)], [("List", 1), ("Num", 0)], [("Num", 0), ("Pair", 2)]]
abbrev rowsB : List Rw := [[("List", 1), ("Num", 0), ("Unit", 0)], [("Num", 0)], [("Box", 1), ("List", 1), ("Num", 0)]]
abbrev rowsC : List Rw := [[("List", 1), ("Num", 0), ("Pair", 2), ("Unit", 0)], [("List", 1), ("Num", 0), ("Pair", 2)]]
abbrev cL : Tx × Nat := ([76, 105, 115, 116], 1)
abbrev cN : Tx × Nat := ([78, 117, 109], 0)
abbrev cP : Tx × Nat := ([80, 97, 105, 114], 2)
abbrev cU : Tx × Nat := ([85, 110, 105, 116], 0)
abbrev cB : Tx × Nat := ([66, 111, 120], 1)
abbrev rows8 : List Cons := [[cL, cN, cP], [cL, cN], [cN, cP], [cL, cN, cU], [cN], [cB, cL, cN], [cL, cN, cP, cU], [cL, cN, cP]]
def cv (q : Tx × Nat) : Str × Int := (S q.1, (q.2 : Nat))
theorem rows_eq : rowsA ++ rowsB ++ rowsC = rows8.map fun c => c.map cv := by decide +kernel
theorem rows_wok : ∀ c ∈ rows8, (decide (1 ≤ c.length ∧ c.length ≤ 4) && (c.map conOk).all id && asc (c.map (·.1)) && (c.map fun q => decide (q.2 = 0)).any id) = true ∧ (c.map (·.1)).Nodup := by decide +kernel
theorem rows_cok : ∀ c ∈ rows8, (∀ q ∈ c, ∀ x ∈ q.1, x ≠ 40 ∧ x ≠ 41 ∧ x ≠ 44) ∧ (∀ q ∈ c, isName q.1 = false) ∧ ∀ q ∈ c, 1 ≤ q.1.length ∧ q.1.length ≤ 6 := by decide +kernel
theorem paired_map {α β γ : Type} {F : α → γ → Prop} {f : β → γ} : ∀ {l : List α} {m : List β}, Paired F l (m.map f) → Paired (fun a b => F a (f b)) l m
  | [], [], _ => .nil
  | _ :: _, _ :: _, .cons r t => .cons r (paired_map t)
/-! ### the traits -/
abbrev nm3 : List Tx := [[99, 111, 117, 110, 116], [115, 104, 111, 119], [102, 114, 101, 115, 104]]
def subs : Nat → List (List Tx)
  | 0 => [[]]
  | 1 => [[], [nm3.getD 0 []]]
  | _ => [[], [nm3.getD 0 []], [nm3.getD 1 []], [nm3.getD 0 [], nm3.getD 1 []]]
theorem subs_step : ∀ j < 2, ∀ bs ∈ subs j, bs ++ [nm3.getD j []] ∈ subs (j + 1) ∧ bs ∈ subs (j + 1) ∧ bs.length ≤ 2 := by decide +kernel
theorem subs_len : ∀ j < 3, ∀ bs ∈ subs j, bs.length ≤ 2 := by decide +kernel
theorem subs_ok : ∀ i < 3, ∀ bs ∈ subs i, ∀ fm ∈ [tellL, makeL], traitOk (nm3.take i) (nm3.getD i [], fm, bs) = true := by decide +kernel
theorem perm2 {α : Type} {a b : α} {ys : List α} (h : ys.Perm [a, b]) : ys = [a, b] ∨ ys = [b, a] := by
  have hl := h.length_eq
  match ys, hl, h with
  | [x, y], _, h =>
    have hx : x ∈ [a, b] := h.subset List.mem_cons_self
    rcases List.mem_cons.mp hx with rfl | hx
    · have g := h.cons_inv
      have : [y] = [b] := List.perm_singleton.mp g
      left
      rw [List.cons.inj this |>.1]
    · have : x = b := by simpa using hx
      subst this
      have g := (h.trans (List.Perm.swap x a [])).cons_inv
      have : [y] = [a] := List.perm_singleton.mp g
      right
      rw [List.cons.inj this |>.1]
theorem subs_sort : ∀ {i : Nat} {bs : List Tx} {ys : List Str}, i < 3 → bs ∈ subs i → ys.Perm (bs.map S) → sortedS ys = true → ys = bs.map S := by
  have key : ∀ {bs : List Tx} {ys : List Str}, bs ∈ subs 2 → ys.Perm (bs.map S) → sortedS ys = true → ys = bs.map S := by
    intro bs ys hb hp hs
    simp only [subs, List.mem_cons, List.not_mem_nil, or_false] at hb
    rcases hb with rfl | rfl | rfl | rfl
    · exact List.perm_nil.mp hp
    · exact List.perm_singleton.mp hp
    · exact List.perm_singleton.mp hp
    · rcases perm2 hp with e | e
      · exact e
      · rw [e] at hs
        exact absurd hs (by decide +kernel)
  intro i bs ys hi hb hp hs
  refine key ?_ hp hs
  have sub : ∀ i < 3, ∀ bs ∈ subs i, bs ∈ subs 2 := by decide +kernel
  exact sub i hi bs hb
theorem trOk_app : ∀ (e : List Tx) (ts : List (Tx × Tx × List Tx)) (q : Tx × Tx × List Tx), trOk e ts = true → traitOk (e ++ ts.map (·.1)) q = true → trOk e (ts ++ [q]) = true
  | e, [], q, _, h => by
    rw [List.map_nil, List.append_nil] at h
    show (traitOk e q && trOk (e ++ [q.1]) []) = true
    rw [h]
    rfl
  | e, p :: ts, q, h0, h => by
    unfold trOk at h0
    rw [Bool.and_eq_true] at h0
    show (traitOk e p && trOk (e ++ [p.1]) (ts ++ [q])) = true
    rw [h0.1, trOk_app (e ++ [p.1]) ts q h0.2 (by rw [List.append_assoc]; exact h)]
    rfl
theorem but_none {K : PySem.W.Frag} {ns : List Int} {H H1 : Hp} {a t p : Addr} {d : Int} (b : But t H H1) (tw : Town K ns H1 a t d) (e : H1 p = none) : H p = none := by
  cases q : H p with
  | none => rfl
  | some o =>
    have z := b p o (tw.none e) q
    rw [e] at z
    cases z
theorem but_mut {H H1 : Hp} {t p : Addr} {o : HO} (b : But t H H1) (e : H p = none) : But t H (L2.upd H1 p o) := fun c u n h => by
  rw [upd_ne (ne_of_none h e)]
  exact b c u n h
theorem TrAt.tk {H H' : Hp} {p : Addr} {q : Tx × Tx × List Tx} (k : Tk H H') : TrAt H p q → TrAt H' p q := fun ⟨b, h1, h2⟩ => ⟨b, k.tup _ _ h1, k.tup _ _ h2⟩
/-- a value by what is known of it -/
theorem gseq {te : TE} {i j : Nat} {tz : TS} {D : Ends} {σ : L2.St} {H : Hp} {x : V} (G : V → Hp → Prop) (h2 : ∀ Q' : VK, (∀ v H', G v H' → Q' v H') → te (σ.set i (some x)) H Q') (h : ∀ v H', G v H' → tz D ((σ.set i (some x)).set j (some v)) H') :
    gName i x σ H (tSeq (tAsg te (gName j)) tz D) := h2 _ h
section
variable {P : Program} {w : PySem.World} {K : PySem.W.Frag} {mg : Str → Option Value} {base : Heap} {ns : List Int}
theorem paired_app {α β : Type} {F : α → β → Prop} : ∀ {l l2 : List α} {m m2 : List β}, Paired F l m → Paired F l2 m2 → Paired F (l ++ l2) (m ++ m2)
  | _, _, _, _, .nil, h => h
  | _, _, _, _, .cons r t, h => .cons r (paired_app t h)
theorem cut3 {r : Int} (h0 : 0 ≤ r) (h1 : r < 3) : ∃ k : Nat, 1 ≤ k ∧ k ≤ 3 ∧ cutV [.str "count", .str "show", .str "fresh"] none (some (1 + r)) = txs (nm3.take k) := by
  have h : r = 0 ∨ r = 1 ∨ r = 2 := by omega
  rcases h with rfl | rfl | rfl
  · exact ⟨1, by decide, by decide, by rfl⟩
  · exact ⟨2, by decide, by decide, by rfl⟩
  · exact ⟨3, by decide, by decide, by rfl⟩
theorem seq_lst {ta : TA} {i : Nat} {tz : TS} {D : Ends} {σ : L2.St} {H : Hp} (h : ta σ H fun xs H1 => xs.length ≤ sizeLine ∧ ∀ p, H1 p = none → tz D (σ.set i (some (.ref p))) (L2.upd H1 p (.lst xs))) : tSeq (tAsg (tLst ta) (gName i)) tz D σ H := h
theorem seq_cat {ta : TA} {i j : Nat} {tz : TS} {D : Ends} {σ : L2.St} {H : Hp} (x : V) (hx : σ[j]? = some (some x)) (h : ta σ H fun xs H1 => xs.length ≤ sizeLine ∧ ∀ p, H1 p = none → rCat x (.ref p) (L2.upd H1 p (.lst xs)) fun v H2 => tz D (σ.set i (some v)) H2) :
    tSeq (tAsg (tOp rCat (tVar j) (tLst ta)) (gName i)) tz D σ H := ⟨x, hx, h⟩
theorem b_sorted : bootBuiltins "sorted" = some (.builtin "sorted") := by decide +kernel
def spWorldL : Sp := fun vs H Q _ => ∃ (a t : Addr) (d : Int), vs = [.ref a, .ref t] ∧ Town K ns H a t d ∧ d ≤ 900000 ∧ ∀ v H' d' W, But t H H' → Town K ns H' a t d' → d' ≤ d + 20 → IsW H' v W → Wg W → W.cons ∈ rows8 → Q v H'
theorem ok_law_world (T : Txt mg) (D : Dn K mg "_law_world" sLawWorld) (C1 : Cal P w K mg base CX0 1 "_law_draw" pLawDraw (spDraw (K := K) (ns := ns))) (C2 : Cal P w K mg base CX0 2 "_law_pick" pLawPick (spPick (K := K) (ns := ns))) : Cal P w K mg base CX0 3 "_law_world" pLawWorld (spWorldL (K := K) (ns := ns)) := by
  refine cal_of D scLawWorld bLawWorld (fun vs H Q E h => ?_) fun f cdv A outer s H vs Q E hr h => ?_
  · obtain ⟨a, t, d, rfl, _⟩ := h
    rfl
  · obtain ⟨a, t, d, rfl, tw, hd, q⟩ := h
    refine ⟨_, pss_cons (ps_set (i := 2) scLawWorld.nd rfl (Or.inl rfl) (pe_lst (t := tRs rowsA) (pa_cons (pe_tupF (pa_cons (pe_tup (pa_cons pe_str (pa_cons pe_int pa_nil))) (pa_cons (pe_tup (pa_cons pe_str (pa_cons pe_int pa_nil))) (pa_cons (pe_tup (pa_cons pe_str (pa_cons pe_int pa_nil))) pa_nil)))) (pa_cons (pe_tupF (pa_cons (pe_tup (pa_cons pe_str (pa_cons pe_int pa_nil))) (pa_cons (pe_tup (pa_cons pe_str (pa_cons pe_int pa_nil))) pa_nil))) (pa_cons (pe_tupF (pa_cons (pe_tup (pa_cons pe_str (pa_cons pe_int pa_nil))) (pa_cons (pe_tup (pa_cons pe_str (pa_cons pe_int pa_nil))) pa_nil))) pa_nil)))))
      (pss_cons (ps_set (i := 2) scLawWorld.nd rfl (Or.inl rfl) (pe_op op_cat (pv 2) (pe_lst (t := tRs rowsB) (pa_cons (pe_tupF (pa_cons (pe_tup (pa_cons pe_str (pa_cons pe_int pa_nil))) (pa_cons (pe_tup (pa_cons pe_str (pa_cons pe_int pa_nil))) (pa_cons (pe_tup (pa_cons pe_str (pa_cons pe_int pa_nil))) pa_nil)))) (pa_cons (pe_tupF (pa_cons (pe_tup (pa_cons pe_str (pa_cons pe_int pa_nil))) pa_nil)) (pa_cons (pe_tupF (pa_cons (pe_tup (pa_cons pe_str (pa_cons pe_int pa_nil))) (pa_cons (pe_tup (pa_cons pe_str (pa_cons pe_int pa_nil))) (pa_cons (pe_tup (pa_cons pe_str (pa_cons pe_int pa_nil))) pa_nil)))) pa_nil))))))
      (pss_cons (ps_set (i := 2) scLawWorld.nd rfl (Or.inl rfl) (pe_op op_cat (pv 2) (pe_lst (t := tRs rowsC) (pa_cons (pe_tupF (pa_cons (pe_tup (pa_cons pe_str (pa_cons pe_int pa_nil))) (pa_cons (pe_tup (pa_cons pe_str (pa_cons pe_int pa_nil))) (pa_cons (pe_tup (pa_cons pe_str (pa_cons pe_int pa_nil))) (pa_cons (pe_tup (pa_cons pe_str (pa_cons pe_int pa_nil))) pa_nil))))) (pa_cons (pe_tupF (pa_cons (pe_tup (pa_cons pe_str (pa_cons pe_int pa_nil))) (pa_cons (pe_tup (pa_cons pe_str (pa_cons pe_int pa_nil))) (pa_cons (pe_tup (pa_cons pe_str (pa_cons pe_int pa_nil))) pa_nil)))) pa_nil)))))
      (pss_cons (ps_par (i := 3) (j := 4) rfl scLawWorld.nd rfl rfl (by decide) rfl rfl (pa_cons (pe_lst pa_nil) (pa_cons (pe_lst pa_nil) pa_nil)) (by rfl))
      (pss_cons (ps_for PassesOwn.never rfl (pi_list (pe_slice sl_list (pe_lst (pa_cons pe_str (pa_cons pe_str (pa_cons pe_str pa_nil)))) po_none (po_some (pe_op op_add pe_int (pe_cal C1 (hr.mono (by omega)) (pa_cons (pv 0) (pa_cons (pv 1) (pa_cons pe_int pa_nil)))))))) (pg_name (i := 5) scLawWorld.nd rfl (Or.inl rfl))
        (pss_cons (ps_set (i := 6) scLawWorld.nd rfl (Or.inl rfl) (pe_callTy call_tuple_of (by rfl) T.tup boot_tuple (pa_cons (pe_callB cr_sortedS (by rfl) T.sorted b_sorted (pa_cons
          (pe_lc (own := [("_law_one", 8)]) (g := gName 8) rfl scLawWorld.nd (pi_list (pv 4)) (blkOk_by (N := nLawWorld) (sc := defScope sLawWorld) (by decide +kernel)) (fun _ _ _ _ _ => pg_name (i := 8) scLawWorld.nd rfl (Or.inl rfl))
            (fun _ _ _ _ _ => pts_one (pt_cmpR op_eq (pe_cal C1 (hr.mono (by omega)) (pa_cons (pv 0) (pa_cons (pv 1) (pa_cons pe_int pa_nil)))) pe_int (nomark _))) (fun _ _ _ _ _ => pv 8)) pa_nil)) pa_nil)))
        (pss_cons (ps_set (i := 7) scLawWorld.nd rfl (Or.inl rfl) (pe_ifExp (PW.pt (pw_or (pt_cmpR op_eq (pv 5) pe_str (nomark _)) (pw_or1 (pt_cmpR op_eq (pe_cal C1 (hr.mono (by omega)) (pa_cons (pv 0) (pa_cons (pv 1) (pa_cons pe_int pa_nil)))) pe_int (nomark _))))) pe_str pe_str))
        (pss_cons (ps_expr (pe_bm PySem.F.plainAttrs_list PySem.F.slot_list_append PySem.F.type_list_append mt_append (pv 3) (pa_cons (pe_tup (pa_cons (pv 5) (pa_cons (pv 7) (pa_cons (pv 6) pa_nil)))) pa_nil)))
        (pss_one (ps_expr (pe_bm PySem.F.plainAttrs_list PySem.F.slot_list_append PySem.F.type_list_append mt_append (pv 4) (pa_cons (pv 5) pa_nil))))))))
      (pss_one (ps_ret (pe_tup (pa_cons (pe_cal C2 hr (pa_cons (pv 0) (pa_cons (pv 1) (pa_cons (pv 2) pa_nil)))) (pa_cons (pe_callTy call_tuple_of (by rfl) T.tup boot_tuple (pa_cons (pv 3) pa_nil)) pa_nil))))))))), ?_⟩
    refine seq_lst (rs_ev rowsA (by decide) fun H1 xa s1 pa => ⟨by rw [paired_len pa]; decide, fun l0 hl0 => ?_⟩)
    refine seq_cat _ rfl (rs_ev rowsB (by decide) fun H2 xb s2 pb => ⟨by rw [paired_len pb]; decide, fun m1 hm1 => ⟨l0, m1, xa, xb, rfl, rfl, Same.new hm1 _ _ (s2 _ _ upd_same), upd_same, by rw [paired_len pa, paired_len pb]; decide, fun l1 hl1 => ?_⟩⟩)
    have z2 : Same H1 (L2.upd (L2.upd H2 m1 (.lst xb)) l1 (.lst (xa ++ xb))) := Same.trans (Same.new hl0) (Same.trans s2 (Same.trans (Same.new hm1) (Same.new hl1)))
    have z2b : Same H2 (L2.upd (L2.upd H2 m1 (.lst xb)) l1 (.lst (xa ++ xb))) := Same.trans (Same.new hm1) (Same.new hl1)
    have e2 : L2.upd (L2.upd H2 m1 (.lst xb)) l1 (.lst (xa ++ xb)) l1 = some (.lst (xa ++ xb)) := upd_same
    generalize L2.upd (L2.upd H2 m1 (.lst xb)) l1 (.lst (xa ++ xb)) = H3 at z2 z2b e2 ⊢
    refine seq_cat _ rfl (rs_ev rowsC (by decide) fun H4 xc s4 pc => ⟨by rw [paired_len pc]; decide, fun m2 hm2 => ⟨l1, m2, xa ++ xb, xc, rfl, rfl, Same.new hm2 _ _ (s4 _ _ e2), upd_same, by rw [List.length_append, paired_len pa, paired_len pb, paired_len pc]; decide, fun rl hrl => ?_⟩⟩)
    have z4 : Same H3 (L2.upd (L2.upd H4 m2 (.lst xc)) rl (.lst (xa ++ xb ++ xc))) := Same.trans s4 (Same.trans (Same.new hm2) (Same.new hrl))
    have z4b : Same H4 (L2.upd (L2.upd H4 m2 (.lst xc)) rl (.lst (xa ++ xb ++ xc))) := Same.trans (Same.new hm2) (Same.new hrl)
    have nrt : rl ≠ t := (tw.same (Same.trans s1 (Same.trans z2 (Same.trans s4 (Same.new (o := .lst xc) hm2))))).none hrl
    have e4 : L2.upd (L2.upd H4 m2 (.lst xc)) rl (.lst (xa ++ xb ++ xc)) rl = some (.lst (xa ++ xb ++ xc)) := upd_same
    generalize L2.upd (L2.upd H4 m2 (.lst xc)) rl (.lst (xa ++ xb ++ xc)) = H5 at z4 z4b e4 ⊢
    have s5 : Same H H5 := Same.trans s1 (Same.trans z2 z4)
    have pr : Paired (RowAt H5) (xa ++ xb ++ xc) (rowsA ++ rowsB ++ rowsC) :=
      paired_app (paired_app (paired_imp pa fun _ _ r => r.tk (Tk.of (Same.trans z2 z4))) (paired_imp pb fun _ _ r => r.tk (Tk.of (Same.trans z2b z4)))) (paired_imp pc fun _ _ r => r.tk (Tk.of z4b))
    have lx : (xa ++ xb ++ xc).length = 8 := by rw [paired_len pr]; decide
    generalize xa ++ xb ++ xc = xs at pr e4 lx ⊢
    clear z4 z4b z2 z2b e2 pa pb pc s1 s2 s4 hm1 hm2 hl0 hl1 hrl
    -- traits, earlier = [], []
    refine ⟨Nat.zero_le _, fun l1 h1 => ⟨Nat.zero_le _, fun l2 h2 => ⟨_, _, rfl, ?_⟩⟩⟩
    have s6 : Same H5 (L2.upd (L2.upd H5 l1 (.lst [])) l2 (.lst [])) := Same.trans (Same.new h1) (Same.new h2)
    have a1 : L2.upd (L2.upd H5 l1 (.lst [])) l2 (.lst []) l1 = some (.lst []) := Same.new h2 _ _ upd_same
    have a2 : L2.upd (L2.upd H5 l1 (.lst [])) l2 (.lst []) l2 = some (.lst []) := upd_same
    have n12 : l1 ≠ l2 := ne_of_none (upd_same (H := H5) (a := l1) (o := .lst [])) h2
    have nr1 : rl ≠ l1 := ne_of_none e4 h1
    have nr2 : rl ≠ l2 := ne_of_none (Same.new (o := .lst []) h1 _ _ e4) h2
    have n1 : H l1 = none := but_none (But.of s5) (tw.same s5) h1
    have n2 : H l2 = none := but_none (But.of (Same.trans s5 (Same.new (o := .lst []) h1))) (tw.same (Same.trans s5 (Same.new h1))) h2
    have s7 : Same H (L2.upd (L2.upd H5 l1 (.lst [])) l2 (.lst [])) := Same.trans s5 s6
    have e6 := s6 _ _ e4
    have pr6 := paired_imp pr fun _ _ r => r.tk (Tk.of s6)
    generalize L2.upd (L2.upd H5 l1 (.lst [])) l2 (.lst []) = H6 at s6 a1 a2 s7 e6 pr6 ⊢
    have tw6 := tw.same s7
    have n1t := tw.none n1
    have n2t := tw.none n2
    -- the names
    refine ⟨by decide, fun p hp => ?_⟩
    refine ⟨_, rfl, _, rfl, a, t, 3, d, rfl, tw6.same (Same.new hp), by omega, by decide, by decide, fun r H7 r0 r1 b7 tw7 => ?_⟩
    obtain ⟨k, k1, k3, ek⟩ := cut3 r0 r1
    refine ⟨_, _, rfl, rfl, _, rfl, p, _, rfl, SqL.of (b7 _ _ (tw6.none hp) upd_same), fun sl hsl => ?_⟩
    rw [ek]
    have s8 : Same H7 (L2.upd H7 sl (.lst (txs (nm3.take k)))) := Same.new hsl
    have z1 := s8 _ _ (b7 _ _ n1t (Same.new (o := .lst [.str "count", .str "show", .str "fresh"]) hp _ _ a1))
    have z2 := s8 _ _ (b7 _ _ n2t (Same.new (o := .lst [.str "count", .str "show", .str "fresh"]) hp _ _ a2))
    have zr := s8 _ _ (b7 _ _ nrt (Same.new (o := .lst [.str "count", .str "show", .str "fresh"]) hp _ _ e6))
    have zp := paired_imp pr6 fun _ _ r => r.tk (Tk.trans (Tk.of (Same.new (o := .lst [.str "count", .str "show", .str "fresh"]) hp)) (Tk.trans ((tw6.same (Same.new hp)).tk b7) (Tk.of s8)))
    have bs := But.trans (But.of (t := t) (Same.trans s7 (Same.new (o := .lst [.str "count", .str "show", .str "fresh"]) hp))) (But.trans b7 (But.of s8))
    have es : L2.upd H7 sl (.lst (txs (nm3.take k))) sl = some (.lst (txs (nm3.take k))) := upd_same
    have nst : sl ≠ t := tw7.none hsl
    have ns1 : l1 ≠ sl := ne_of_none (b7 _ _ n1t (Same.new (o := .lst [.str "count", .str "show", .str "fresh"]) hp _ _ a1)) hsl
    have ns2 : l2 ≠ sl := ne_of_none (b7 _ _ n2t (Same.new (o := .lst [.str "count", .str "show", .str "fresh"]) hp _ _ a2)) hsl
    have nrs : rl ≠ sl := ne_of_none (b7 _ _ nrt (Same.new (o := .lst [.str "count", .str "show", .str "fresh"]) hp _ _ e6)) hsl
    have tw8 := tw7.same s8
    generalize L2.upd H7 sl (.lst (txs (nm3.take k))) = H8 at z1 z2 zr zp bs es tw8 ⊢
    clear s8 tw7 b7 hsl hp tw6 pr6 e6 s7 a1 a2 s6 h1 h2 e4 pr s5
    have lk : (txs (nm3.take k)).length = k := by
      rw [txs_len, List.length_take]
      show min k 3 = k
      omega
    refine ⟨sl, rfl, ⟨_, SqL.of es⟩, for_list (K := K) (a := sl) (xs := txs (nm3.take k))
      (fun i σ H' => ∃ (v5 v6 v7 : Option V) (qs : List Addr) (ts : List (Tx × Tx × List Tx)) (d' : Int), σ = [some (.ref a), some (.ref t), some (.ref rl), some (.ref l1), some (.ref l2), v5, v6, v7, none] ∧ But t H H' ∧ Town K ns H' a t d' ∧ d' ≤ d + 1 + 4 * (i : Int) ∧
        H' rl = some (.lst xs) ∧ Paired (RowAt H') xs (rowsA ++ rowsB ++ rowsC) ∧ H' l1 = some (.lst (qs.map .ref)) ∧ Paired (TrAt H') qs ts ∧ H' l2 = some (.lst (txs (nm3.take i))) ∧ H' sl = some (.lst (txs (nm3.take k))) ∧ trOk [] ts = true ∧ ts.map (·.1) = nm3.take i ∧ i ≤ 3)
      ⟨none, none, none, [], [], _, rfl, bs, tw8, by omega, zr, zp, z1, .nil, z2, es, rfl, rfl, by omega⟩ (fun i σ H' _ ⟨_, _, _, _, _, _, _, _, _, _, _, _, _, _, _, h, _⟩ => SqL.of h) ?_ ?_⟩
    · rintro i x σ H' hi ⟨v5, v6, v7, qs, ts, d', rfl, b1, tw1, d1, g1, g2, g3, g4, g5, g6, g7, g8, _⟩
      have hik : i < k := by
        have := (List.getElem?_eq_some_iff.mp hi).1
        omega
      have hi3 : i < nm3.length := Nat.lt_of_lt_of_le hik k3
      have ex : x = .str (S (nm3.getD i [])) := by
        rw [txs_getD (by rw [List.length_take]; show i < min k 3; omega)] at hi
        have e := (Option.some.inj hi).symm
        rw [e, List.getD_eq_getElem?_getD, List.getD_eq_getElem?_getD, List.getElem?_take_of_lt hik]
      subst ex
      have ln : (txs (nm3.take i)).length = i := by
        rw [txs_len, List.length_take]
        show min i 3 = i
        omega
      -- below
      refine ⟨_, rfl, l2, rfl, ⟨_, SqL.of g5⟩, fun L hL => lc_turns (turns_lst (K := K) (txs (nm3.take i))) (fun j H5 => But t H' H5 ∧ ∃ (bs : List Tx) (d5 : Int), Town K ns H5 a t d5 ∧ d5 ≤ d' + j ∧ H5 L = some (.lst (txs bs)) ∧ bs ∈ subs j)
        ⟨But.of (Same.new hL), [], d', tw1.same (Same.new hL), by omega, upd_same, List.mem_cons_self⟩ (fun j H5 _ p => SqL.of (p.1 _ _ n2t g5)) ?_ ?_⟩
      · rintro j H5 hj ⟨b5, cs, d5, tw5, e5, h5, m5⟩
        rw [ln] at hj
        have hj2 : j < 2 := by omega
        obtain ⟨m6, m7, l6⟩ := subs_step j hj2 cs m5
        have xj : (txs (nm3.take i)).getD j .non = .str (S (nm3.getD j [])) := by
          rw [List.getD_eq_getElem?_getD, txs_getD (by rw [List.length_take]; show j < min i 3; omega), List.getD_eq_getElem?_getD, List.getD_eq_getElem?_getD, List.getElem?_take_of_lt hj]
          rfl
        rw [xj]
        have nLt := tw1.none hL
        refine ⟨rfl, _, rfl, _, rfl, a, t, 3, d5, rfl, tw5, by omega, by decide, by decide, fun r2 H9 q0 q1 b9 tw9 => ⟨rfl, _, rfl, iteE (decN _ _) (iteD (fun c => ?_) fun c => ?_)⟩⟩
        · refine ⟨_, rfl, txs cs, b9 _ _ nLt h5, ?_, but_mut (But.trans b5 b9) hL, cs ++ [nm3.getD j []], d5 + 1, ?_, by omega, ?_, m6⟩
          · rw [txs_len]
            exact Nat.lt_of_le_of_lt l6 (by decide)
          · exact tw9.upd tw1 (but_mut (But.trans b5 b9) hL) nLt
          · rw [upd_same, txs_app]
        · exact ⟨But.trans b5 b9, cs, d5 + 1, tw9, by omega, b9 _ _ nLt h5, m7⟩
      · rintro H5 ⟨b5, cs, d5, tw5, e5, h5, m5⟩
        rw [ln] at e5 m5
        have lb := subs_len i hi3 cs m5
        refine ⟨L, cs.map S, rfl, SqL.of h5, by rw [List.length_map]; omega, fun ys u pm so hu => ⟨u, _, rfl, .inl ⟨SqL.of upd_same, fun b hb => ?_⟩⟩⟩
        have ey := subs_sort hi3 m5 pm so
        subst ey
        have s6 : Same H5 (L2.upd (L2.upd H5 u (.lst ((cs.map S).map V.str))) b (.tup ((cs.map S).map V.str))) := Same.trans (Same.new hu) (Same.new hb)
        have h6 : L2.upd (L2.upd H5 u (.lst ((cs.map S).map V.str))) b (.tup ((cs.map S).map V.str)) b = some (.tup (cs.map fun x => .str (S x))) := by
          rw [upd_same, List.map_map]
          rfl
        generalize L2.upd (L2.upd H5 u (.lst ((cs.map S).map V.str))) b (.tup ((cs.map S).map V.str)) = H6 at s6 h6 ⊢
        have tw6 := tw5.same s6
        have b6 : But t H' H6 := But.trans b5 (But.of s6)
        clear s6 h5 hu hb
        -- form
        dsimp only
        refine gseq (fun v H7 => ∃ (fm : Tx) (d7 : Int), v = .str (S fm) ∧ fm ∈ [tellL, makeL] ∧ But t H6 H7 ∧ Town K ns H7 a t d7 ∧ d7 ≤ d5 + 1) (fun Q' hq => ?_) fun v H7 hv => ?_
        · refine ⟨_, rfl, rfl, _, rfl, iteD (fun c => ?_) fun c => ?_⟩
          · exact hq _ _ ⟨makeL, d5, by rw [str_make], by decide, But.refl _ _, tw6, by omega⟩
          · refine ⟨_, rfl, _, rfl, a, t, 6, d5, rfl, tw6, by omega, by decide, by decide, fun r2 H9 q0 q1 b9 tw9 => ⟨rfl, _, rfl, iteD (fun c => ?_) fun c => ?_⟩⟩
            · exact hq _ _ ⟨makeL, d5 + 1, by rw [str_make], by decide, b9, tw9, by omega⟩
            · exact hq _ _ ⟨tellL, d5 + 1, by rw [str_tell], by decide, b9, tw9, by omega⟩
        · obtain ⟨fm, d7, rfl, hfm, b7, tw7, e7⟩ := hv
          have b7' := But.trans b6 b7
          have t7 := (tw6.tk b7).tup _ _ h6
          have k7 : Tk H' H7 := tw1.tk b7'
          have q1 := b7' _ _ n1t g3
          have q2 := b7' _ _ n2t g5
          have lq : qs.length = i := by
            rw [paired_len g4]
            have e := congrArg List.length g8
            rw [List.length_map, List.length_take] at e
            rw [e]
            show min i 3 = i
            omega
          have ln1 : nm3.take (i + 1) = nm3.take i ++ [nm3.getD i []] := by
            rw [List.take_add_one, List.getElem?_eq_getElem hi3, List.getD_eq_getElem?_getD, List.getElem?_eq_getElem hi3]
            rfl
          refine ⟨_, rfl, .inl ⟨rfl, _, SqL.of q1⟩, _, rfl, _, rfl, _, rfl, (by decide : 3 ≤ sizeLine), fun p3 hp3 => ⟨l1, _, _, rfl, rfl, Same.new hp3 _ _ q1, ?_, ?_⟩⟩
          · rw [List.length_map, lq]
            exact Nat.lt_of_lt_of_le hi3 (by decide)
          have r8 : Same H7 (L2.upd H7 p3 (.tup [.str (S (nm3.getD i [])), .str (S fm), .ref b])) := Same.new hp3
          have r8p : L2.upd H7 p3 (.tup [.str (S (nm3.getD i [])), .str (S fm), .ref b]) p3 = some (.tup [.str (S (nm3.getD i [])), .str (S fm), .ref b]) := upd_same
          generalize L2.upd H7 p3 (.tup [.str (S (nm3.getD i [])), .str (S fm), .ref b]) = H8 at r8 r8p ⊢
          have q1 := r8 _ _ q1
          have q2 := r8 _ _ q2
          have q2' : L2.upd H8 l1 (.lst (qs.map V.ref ++ [.ref p3])) l2 = some (.lst (txs (nm3.take i))) := by
            rw [upd_ne (Ne.symm n12)]
            exact q2
          refine ⟨_, rfl, .inl ⟨rfl, _, SqL.of q2'⟩, _, rfl, l2, _, _, rfl, rfl, q2', ?_, ?_⟩
          · rw [ln]
            exact Nat.lt_of_lt_of_le hi3 (by decide)
          have k10 : Tk H8 (L2.upd (L2.upd H8 l1 (.lst (qs.map V.ref ++ [.ref p3]))) l2 (.lst (txs (nm3.take i) ++ [.str (S (nm3.getD i []))]))) := Tk.trans (Tk.mutl q1) (Tk.mutl q2')
          have kk := Tk.trans k7 (Tk.trans (Tk.of r8) k10)
          refine ⟨_, _, _, qs ++ [p3], ts ++ [(nm3.getD i [], fm, cs)], d7, rfl, but_mut (but_mut (But.trans (But.trans b1 b7') (But.of r8)) n1) n2, ((tw7.same r8).upd tw (but_mut (But.trans (But.trans b1 b7') (But.of r8)) n1) n1t).upd tw (but_mut (but_mut (But.trans (But.trans b1 b7') (But.of r8)) n1) n2) n2t, by omega, ?_, paired_imp g2 fun _ _ r => r.tk kk, ?_,
            paired_app (paired_imp g4 fun _ _ r => r.tk kk) (.cons ⟨b, k10.tup _ _ r8p, k10.tup _ _ (r8 _ _ t7)⟩ .nil), ?_, ?_, trOk_app [] ts _ g7 ?_, ?_, hi3⟩
          · rw [upd_ne nr2, upd_ne nr1]
            exact r8 _ _ (b7' _ _ nrt g1)
          · rw [upd_ne n12, upd_same, List.map_append]
            rfl
          · rw [upd_same, ln1, txs_app]
          · rw [upd_ne (Ne.symm ns2), upd_ne (Ne.symm ns1)]
            exact r8 _ _ (b7' _ _ nst g6)
          · rw [List.nil_append, g8]
            exact subs_ok i hi3 cs m5 fm hfm
          · rw [List.map_append, g8, ln1]
            rfl
    · rintro σ H' ⟨v5, v6, v7, qs, ts, d', rfl, b1, tw1, d1, g1, g2, g3, g4, g5, g6, g7, g8, _⟩
      rw [lk] at d1 g8
      refine ⟨_, rfl, _, rfl, _, rfl, a, t, rl, d', xs, rfl, tw1, by omega, nrt, g1, ?_, ?_, fun i x H9 hi b9 tw9 => ?_⟩
      · intro e
        rw [e] at lx
        cases lx
      · omega
      · have k9 := tw1.tk b9
        obtain ⟨rw_, hr1, ra, ro, rps, rfl, ha, hro, hps⟩ := paired_at g2 hi
        rw [rows_eq, List.getElem?_map] at hr1
        obtain ⟨c, hc, rfl⟩ : ∃ c, rows8[i]? = some c ∧ rw_ = c.map cv := by
          cases e : rows8[i]? with
          | none =>
            rw [e] at hr1
            cases hr1
          | some c =>
            rw [e] at hr1
            exact ⟨c, rfl, (Option.some.inj hr1).symm⟩
        have hcm : c ∈ rows8 := List.mem_of_getElem? hc
        have q3 := b9 _ _ n1t g3
        refine ⟨_, rfl, l1, _, rfl, .inl ⟨SqL.of q3, fun p4 hp4 => ⟨(by decide : 2 ≤ sizeLine), fun p5 hp5 => ?_⟩⟩⟩
        have s10 : Same H9 (L2.upd (L2.upd H9 p4 (.tup (qs.map V.ref))) p5 (.tup [.ref ra, .ref p4])) := Same.trans (Same.new hp4) (Same.new hp5)
        have k10 := Tk.trans k9 (Tk.of s10)
        obtain ⟨w1, w2⟩ := rows_wok c hcm
        obtain ⟨c1, c2, c3⟩ := rows_cok c hcm
        have lt : ts.length = k := by
          have e := congrArg List.length g8
          rw [List.length_map, List.length_take] at e
          rw [e]
          show min k 3 = k
          omega
        refine q _ _ (d' + 1) ⟨c, ts⟩ (But.trans (But.trans b1 b9) (But.of s10)) (tw9.same s10) (by omega) ⟨⟨p5, ra, p4, ro, rps, qs, rfl, upd_same, k10.frz _ _ _ ha, hro, ?_, Same.new hp5 _ _ upd_same, paired_imp g4 fun _ _ r => r.tk k10⟩⟩ ⟨?_, w2, ⟨c1, c2, c3⟩⟩ hcm
        · exact paired_imp (paired_map hps) fun _ _ r => k10.tup _ _ r
        · unfold wok
          rw [w1, g7]
          have : decide (1 ≤ ts.length ∧ ts.length ≤ 4) = true := decide_eq_true (by omega)
          show (true && decide (1 ≤ ts.length ∧ ts.length ≤ 4) && true) = true
          rw [this]
          rfl
end
end Ts

/-! _law_named -/
namespace Ts
open PySem PySem.Spec PyProof.Rows L2
def szf : Nat → Nat
  | 0 => 1
  | 1 => 1
  | 2 => 3
  | 3 => 5
  | _ => 9
def sm (m : Nat) : Nat → Nat
  | 0 => 0
  | j + 1 => sm m j + szf (max 1 (m - 1 - j))
theorem sm_le : ∀ m ≤ 4, ∀ p ≤ 2, 2 ≤ m → 1 + sm m p ≤ szf m := by decide
theorem arity_nodup : ∀ {c : Cons} {q : Tx × Nat}, (c.map (·.1)).Nodup → q ∈ c → arity c q.1 = some q.2
  | [], _, _, h => by cases h
  | (r, k) :: c, q, nd, h => by
    rw [List.map_cons, List.nodup_cons] at nd
    unfold arity
    rcases List.mem_cons.mp h with rfl | h
    · rw [if_pos rfl]
    · have ne : ¬ r = q.1 := fun e => nd.1 (by rw [e]; exact List.mem_map.mpr ⟨q, h, rfl⟩)
      rw [if_neg ne]
      exact arity_nodup nd.2 h
def RowQ (W : Wd) (m : Nat) (H : Hp) (x : V) : Prop := ∃ (p : Addr) (q : Tx × Nat), x = .ref p ∧ H p = some (.tup [.str (S q.1), .int (q.2 : Nat)]) ∧ q ∈ W.cons ∧ (m ≤ 1 → q.2 = 0)
theorem areS_nil (c : Cons) : areS c [] = true := by rw [areS]
theorem sizes_nil : sizes [] = 0 := by rw [sizes]
theorem szf_pos : ∀ m, 1 ≤ szf m
  | 0 => by decide
  | 1 => by decide
  | 2 => by decide
  | 3 => by decide
  | n + 4 => by show 1 ≤ 9; decide
theorem rows_two : ∀ c ∈ rows8, ∀ q ∈ c, q.2 ≤ 2 := by decide +kernel
theorem sasg {te : TE} {g : TG} {tz : TS} {D : Ends} {σ : L2.St} {H : Hp} (G : V → Hp → Prop) (h2 : ∀ Q' : VK, (∀ v H', G v H' → Q' v H') → te σ H Q') (h : ∀ v H', G v H' → g v σ H' fun σ2 H2 => tz D σ2 H2) : tSeq (tAsg te g) tz D σ H := h2 _ h
section
variable {P : Program} {w : PySem.World} {K : PySem.W.Frag} {mg : Str → Option Value} {base : Heap} {ns : List Int}
def spNamed (n : Nat) : Sp := fun vs H Q _ => ∃ (a t : Addr) (u : V) (m : Nat) (d : Int) (W : Wd), vs = [.ref a, .ref t, u, .int (m : Nat)] ∧ 1 ≤ m ∧ m ≤ n ∧ m ≤ 4 ∧ Town K ns H a t d ∧ d + 2 * (szf m : Nat) ≤ 800000 ∧ IsW H u W ∧ Wg W ∧ W.cons ∈ rows8 ∧
  ∀ v H' d' tr, But t H H' → Town K ns H' a t d' → d' ≤ d + 2 * (szf m : Nat) → At m H' v tr → isS W.cons tr = true → size tr ≤ szf m → Q v H'
theorem ok_named (T : Txt mg) (D : Dn K mg "_law_named" sLawNamed) (C1 : Cal P w K mg base CX0 1 "_law_draw" pLawDraw (spDraw (K := K) (ns := ns))) (C2 : Cal P w K mg base CX0 2 "_law_pick" pLawPick (spPick (K := K) (ns := ns))) : ∀ n, Cal P w K mg base CX0 (n + 2) "_law_named" pLawNamed (spNamed (K := K) (ns := ns) n)
  | 0 => by
    refine Cal.imp (sp := fun _ _ _ _ => False) ?_ fun vs H Q E h => ?_
    · exact (cal_of (k := 1) D scLawNamed bLawNamed (fun vs H Q E h => h.elim) fun f cdv A outer s H vs Q E hr h => h.elim)
    · obtain ⟨_, _, _, m, _, _, _, h1, h2, _⟩ := h
      omega
  | n + 1 => by
    have C := ok_named T D C1 C2 n
    refine cal_of D scLawNamed bLawNamed (fun vs H Q E h => ?_) fun f cdv A outer s H vs Q E hr h => ?_
    · obtain ⟨a, t, u, m, d, W, rfl, _⟩ := h
      rfl
    · obtain ⟨a, t, u, m, d, W, rfl, m1, mn, m4, tw, hd, hW, wg, hc8, q⟩ := h
      refine ⟨_, pss_cons (ps_if (pt_cmpR op_eq (pe_cal C1 (hr.mono (by omega)) (pa_cons (pv 0) (pa_cons (pv 1) (pa_cons pe_int pa_nil)))) pe_int (nomark _))
          (pss_one (ps_ret (pe_cal C2 (hr.mono (by omega)) (pa_cons (pv 0) (pa_cons (pv 1) (pa_cons (pe_lst (pa_cons pe_str (pa_cons pe_str (pa_cons pe_str pa_nil)))) pa_nil)))))) pss_nil)
        (pss_cons (ps_asg (pe_cal C2 (hr.mono (by omega)) (pa_cons (pv 0) (pa_cons (pv 1) (pa_cons
            (pe_ifExp (pt_cmpR op_gt (pv 3) pe_int (nomark _)) (pe_callTy call_list_of (by rfl) T.lst boot_list (pa_cons (pe_ix ix_tup (pv 2) pe_int (fun _ _ => rfl)) pa_nil))
              (pe_lc (own := [("_law_row", 6)]) (g := gName 6) (tt := tTest (tOp rEq (tOp (rIxT K) (tVar 6) (tC (.int 1))) (tC (.int 0)))) rfl scLawNamed.nd (pi_tup (pe_ix ix_tup (pv 2) pe_int (fun _ _ => rfl))) (blkOk_by (N := nLawNamed) (sc := defScope sLawNamed) (by decide +kernel)) (fun _ _ _ _ _ => pg_name (i := 6) scLawNamed.nd rfl (Or.inl rfl))
                (fun _ _ _ _ _ => pts_one (pt_cmpR op_eq (pe_ix ix_tup (pv 6) pe_int (fun _ _ => rfl)) pe_int (nomark _))) (fun _ _ _ _ _ => pv 6))) pa_nil))))
            (pg_tup (by rfl) (pgs_cons (pg_name (i := 4) scLawNamed.nd rfl (Or.inl rfl)) (pgs_cons (pg_name (i := 5) scLawNamed.nd rfl (Or.inl rfl)) pgs_nil))))
        (pss_one (ps_ret (pe_op op_catA (pe_tup (pa_cons (pv 4) pa_nil)) (pe_callTy call_tuple_of (by rfl) T.tup boot_tuple (pa_cons
          (pe_lc (own := [("_law_k", 7)]) (g := gName 7) (tt := tYes) rfl scLawNamed.nd (pi_range1 (by rfl) T.range (pa_cons (pv 5) pa_nil)) (blkOk_by (N := nLawNamed) (sc := defScope sLawNamed) (by decide +kernel)) (fun _ _ _ _ _ => pg_name (i := 7) scLawNamed.nd rfl (Or.inl rfl))
            (fun _ _ _ _ _ => pts_nil) (fun _ _ _ _ _ => pe_cal C hr (pa_cons (pv 0) (pa_cons (pv 1) (pa_cons (pv 2) (pa_cons (pe_callB (call_max2 rfl) (by rfl) T.max b_max (pa_cons pe_int (pa_cons (pe_op op_sub (pe_op op_sub (pv 3) pe_int) (pv 7)) pa_nil))) pa_nil)))))) pa_nil)))))), ?_⟩
      obtain ⟨m', rfl⟩ : ∃ m', m = m' + 1 := ⟨m - 1, by omega⟩
      have zp := szf_pos (m' + 1)
      -- a name
      refine ⟨_, rfl, _, rfl, a, t, 4, d, rfl, tw, by omega, by decide, by decide, fun r H1 r0 r1 b1 tw1 => ⟨rfl, _, rfl, iteE (decN _ _) (iteD (fun c => ?_) fun c => ?_)⟩⟩
      · refine ⟨_, rfl, _, rfl, (by decide : 3 ≤ sizeLine), fun p hp => ⟨a, t, p, d + 1, _, rfl, tw1.same (Same.new hp), by omega, tw1.none hp, upd_same, by simp, by simp, fun i x H' hi b tw' => ?_⟩⟩
        have bb : But t H H' := But.trans b1 (But.trans (But.of (Same.new hp)) b)
        match i, hi with
        | 0, hi => exact q x H' _ (.nm [97]) bb tw' (by omega) ⟨(Option.some.inj hi).symm, by decide⟩ (by rw [isS]; rfl) (by rw [size]; exact zp)
        | 1, hi => exact q x H' _ (.nm [98]) bb tw' (by omega) ⟨(Option.some.inj hi).symm, by decide⟩ (by rw [isS]; rfl) (by rw [size]; exact zp)
        | 2, hi => exact q x H' _ (.nm [104]) bb tw' (by omega) ⟨(Option.some.inj hi).symm, by decide⟩ (by rw [isS]; rfl) (by rw [size]; exact zp)
        | i + 3, hi => simp at hi
      -- a constructor
      obtain ⟨w1⟩ := hW.tk (tw.tk b1)
      have cl := paired_len w1.cs
      have c4 : W.cons.length ≤ 4 := by
        have h := wg.ok
        unfold wok at h
        simp only [Bool.and_eq_true, decide_eq_true_eq] at h
        omega
      have sq : SqT K H1 w1.a0 (w1.ps.map V.ref) := .inl (.inr ⟨_, w1.h0⟩)
      have pick : ∀ (c : Addr) (H3 : Hp) (Q3 : VK), c ≠ t → (∃ xs, H3 c = some (.lst xs) ∧ xs ≠ [] ∧ xs.length ≤ 1000 ∧ (∀ (i : Nat) x, xs[i]? = some x → RowQ W (m' + 1) H3 x) ∧ Same H1 H3) →
          (∀ v H4, (RowQ W (m' + 1) H4 v ∧ But t H1 H4 ∧ Town K ns H4 a t (d + 2)) → Q3 v H4) → spPick (K := K) (ns := ns) [.ref a, .ref t, .ref c] H3 Q3 E0 := by
        rintro c H3 Q3 nc ⟨xs, h3, hx, hz, hr, s3⟩ k
        have tw3 := tw1.same s3
        refine ⟨a, t, c, d + 1, xs, rfl, tw3, by omega, nc, h3, hx, hz, fun i x H4 hi b4 tw4 => k _ _ ⟨?_, But.trans (But.of s3) b4, ?_⟩⟩
        · obtain ⟨p, y, e1, e2, e3, e4⟩ := hr i x hi
          exact ⟨p, y, e1, (tw3.tk b4).tup _ _ e2, e3, e4⟩
        · have e : d + 2 = d + 1 + 1 := by omega
          rw [e]
          exact tw4
      dsimp only [tNext]
      refine sasg (fun v H4 => RowQ W (m' + 1) H4 v ∧ But t H1 H4 ∧ Town K ns H4 a t (d + 2)) (fun Q3 hq => ?_) fun v H4 hv => ?_
      · refine ⟨_, rfl, _, rfl, _, rfl, _, _, rfl, rfl, _, rfl, iteD (fun cd => ?_) fun cd => ?_⟩
        · refine ⟨_, rfl, _, _, _, _, w1.ev, rfl, SqT.of w1.h, atI_nat (j := 0) rfl, w1.a0, _, rfl, .inr sq, fun c hc => pick c _ _ (tw1.none hc) ⟨_, upd_same, ?_, by rw [List.length_map]; omega, fun i x hi => ?_, Same.new hc⟩ hq⟩
          · intro e
            have z := congrArg List.length e
            rw [List.length_map, List.length_nil] at z
            have h := wg.ok
            unfold wok at h
            simp only [Bool.and_eq_true, decide_eq_true_eq] at h
            omega
          · rw [List.getElem?_map] at hi
            cases e : w1.ps[i]? with
            | none =>
              rw [e] at hi
              cases hi
            | some p =>
              rw [e] at hi
              obtain ⟨y, hy, h⟩ := paired_at w1.cs e
              exact ⟨p, y, (Option.some.inj hi).symm, Same.new hc _ _ h, List.mem_of_getElem? hy, fun hm => by omega⟩
        · refine ⟨_, rfl, _, _, _, _, w1.ev, rfl, SqT.of w1.h, atI_nat (j := 0) rfl, w1.a0, rfl, ⟨_, sq⟩, fun c hc => lc_keep (turns_tup (K := K) (w1.ps.map V.ref)) (fun i => decide ((W.cons.getD i ([], 0)).2 = 0)) hc (by rw [List.length_map]; omega) (fun H' s1 => Same.tup s1 sq) (fun _ => rfl) (fun i H' hi s1 H2 s2 Q2 k => ?_) (fun i H' hi s1 _ H2 s2 Q2 k => ⟨_, rfl, k _ _ (Same.refl _) rfl⟩) (fun H' s1 h1 => pick c _ _ (tw1.none hc) ⟨_, h1, ?_, ?_, fun i x hi => ?_, s1⟩ hq)⟩
          · rw [List.length_map] at hi
            rw [refs_getD hi]
            have h := s2 _ _ (s1 _ _ (paired_getD (d := 0) (e := (([], 0) : Tx × Nat)) w1.cs hi))
            refine ⟨_, rfl, w1.ps.getD i 0, _, _, _, rfl, rfl, SqT.of h, atI_nat (j := 1) rfl, rfl, _, rfl, ?_⟩
            have g := k _ (Same.refl H2)
            have e : decide (V.int ((W.cons.getD i ([], 0)).2 : Nat) = V.int 0) = decide ((W.cons.getD i ([], 0)).2 = 0) := by
              rw [decN]
              exact decide_eq_decide.mpr Int.ofNat_eq_zero
            rw [← e] at g
            exact g
          · have h := wg.ok
            unfold wok at h
            simp only [Bool.and_eq_true] at h
            obtain ⟨y, hy, h0⟩ := List.any_eq_true.mp h.1.1.2
            obtain ⟨z, hz, rfl⟩ := List.mem_map.mp hy
            obtain ⟨i, hi⟩ := List.getElem?_of_mem hz
            have il : i < W.cons.length := (List.getElem?_eq_some_iff.mp hi).1
            intro e
            have e2 := List.map_eq_nil_iff.mp e
            have : i ∈ (List.range (w1.ps.map V.ref).length).filter fun i => decide ((W.cons.getD i ([], 0)).2 = 0) := by
              refine List.mem_filter.mpr ⟨List.mem_range.mpr (by rw [List.length_map, cl]; exact il), ?_⟩
              rw [List.getD_eq_getElem?_getD, hi]
              exact h0
            rw [e2] at this
            cases this
          · rw [List.length_map]
            refine Nat.le_trans (List.length_filter_le _ _) ?_
            rw [List.length_range, List.length_map]
            omega
          · have hm := List.mem_of_getElem? hi
            obtain ⟨j, hj, rfl⟩ := List.mem_map.mp hm
            obtain ⟨hj1, hj2⟩ := List.mem_filter.mp hj
            have jl : j < w1.ps.length := by
              have := List.mem_range.mp hj1
              rwa [List.length_map] at this
            rw [refs_getD jl]
            have h := s1 _ _ (paired_getD (d := 0) (e := (([], 0) : Tx × Nat)) w1.cs jl)
            refine ⟨_, _, rfl, h, ?_, fun _ => of_decide_eq_true hj2⟩
            rw [List.getD_eq_getElem?_getD, List.getElem?_eq_getElem (by omega)]
            exact List.getElem_mem _
      · obtain ⟨⟨p, y, rfl, hp, hy, hy1⟩, b4, tw4⟩ := hv
        refine ⟨p, _, rfl, SqT.of hp, rfl, _, _, rfl, _, _, rfl, rfl, ?_⟩
        have b14 : But t H H4 := But.trans b1 b4
        have y2 := rows_two _ hc8 y hy
        have har := arity_nodup wg.nd hy
        refine ⟨_, rfl, (by decide : 1 ≤ sizeLine), fun a1 ha1 => ⟨_, rfl, _, rfl, by omega, by omega, fun L hL => ?_⟩⟩
        have s5 : Same H4 (L2.upd H4 a1 (.tup [.str (S y.1)])) := Same.new ha1
        have e5 : L2.upd H4 a1 (.tup [.str (S y.1)]) a1 = some (.tup [.str (S y.1)]) := upd_same
        generalize L2.upd H4 a1 (.tup [.str (S y.1)]) = H5 at s5 e5 hL ⊢
        have b5 : But t H H5 := But.trans b14 (But.of s5)
        have tw5 := tw4.same s5
        have hW5 := hW.tk (tw.tk b5)
        have tn : ((y.2 : Nat) : Int).toNat = y.2 := Int.toNat_natCast _
        refine lc_turns (turns_rng ((y.2 : Nat) : Int).toNat) (fun j H6 => But t H5 H6 ∧ ∃ (vs : List V) (trs : List Ts.T) (d6 : Int), Town K ns H6 a t d6 ∧ d6 ≤ d + 2 + 2 * ((sm (m' + 1) j : Nat) : Int) ∧ H6 L = some (.lst vs) ∧ Paired (At m' H6) vs trs ∧ vs.length = j ∧ areS W.cons trs = true ∧ sizes trs ≤ sm (m' + 1) j)
          ⟨But.of (Same.new hL), [], [], _, tw5.same (Same.new hL), by show d + 2 ≤ d + 2 + 2 * ((0 : Nat) : Int); omega, upd_same, .nil, rfl, areS_nil _, Nat.le_of_eq sizes_nil⟩ (fun _ _ _ _ => trivial) ?_ ?_
        · rintro j H6 hj ⟨b6, vs, trs, d6, tw6, e6, h6, p6, l6, i6, z6⟩
          rw [tn] at hj
          have m2 : 1 ≤ m' := by
            refine Nat.le_of_not_lt fun z => ?_
            have := hy1 (by omega)
            omega
          have sz : 1 + sm (m' + 1) (j + 1) ≤ szf (m' + 1) := sm_le (m' + 1) m4 (j + 1) (by omega) (by omega)
          have sz2 : sm (m' + 1) (j + 1) = sm (m' + 1) j + szf (max 1 (m' + 1 - 1 - j)) := rfl
          have nLt := tw5.none hL
          refine ⟨rfl, ?_⟩
          unfold tYes
          dsimp only
          rw [if_pos rfl]
          refine ⟨_, rfl, _, rfl, _, rfl, _, rfl, _, _, rfl, rfl, _, rfl, _, _, rfl, rfl, _, _, rfl, a, t, u, max 1 (m' + 1 - 1 - j), d6, W, ?_, by omega, by omega, by omega, tw6, by omega, hW5.tk (tw5.tk b6), wg, hc8, fun v H7 d7 tr b7 tw7 e7 h7 i7 z7 => ?_⟩
          · have e : (if (((m' + 1 : Nat) : Int) - 1 - (j : Nat)) > 1 then (((m' + 1 : Nat) : Int) - 1 - (j : Nat)) else 1) = ((max 1 (m' + 1 - 1 - j) : Nat) : Int) := by
              split <;> omega
            show [V.ref a, V.ref t, u, V.int (if (((m' + 1 : Nat) : Int) - 1 - (j : Nat)) > 1 then (((m' + 1 : Nat) : Int) - 1 - (j : Nat)) else 1)] = _
            rw [e]
          · have k7 := tw6.tk b7
            refine ⟨vs, b7 _ _ nLt h6, ?_, but_mut (But.trans b6 b7) hL, vs ++ [v], trs ++ [tr], d7, tw7.upd tw5 (but_mut (But.trans b6 b7) hL) nLt, by omega, upd_same, ?_, by rw [List.length_append, l6]; rfl, ?_, ?_⟩
            · rw [l6]
              exact Nat.lt_of_lt_of_le (by omega : j < 3) (by decide)
            · have kk : Tk H7 (L2.upd H7 L (.lst (vs ++ [v]))) := Tk.mutl (b7 _ _ nLt h6)
              exact paired_app (paired_imp p6 fun _ _ r => r.tk (Tk.trans k7 kk)) (.cons ((h7.tk kk).le (by omega)) .nil)
            · rw [areS_all, List.all_append, ← areS_all, i6]
              show (true && (isS W.cons tr && true)) = true
              rw [i7]
              rfl
            · rw [sizes_sum, List.map_append, List.sum_append, ← sizes_sum]
              show sizes trs + (size tr + 0) ≤ _
              omega
        · rintro H6 ⟨b6, vs, trs, d6, tw6, e6, h6, p6, l6, i6, z6⟩
          rw [tn] at e6 l6 z6
          have lt := paired_len p6
          have sz : 1 + sm (m' + 1) y.2 ≤ szf (m' + 1) := by
            by_cases hm : 1 ≤ m'
            · exact sm_le (m' + 1) m4 y.2 y2 (by omega)
            · have h0 : y.2 = 0 := hy1 (by omega)
              rw [h0]
              exact zp
          have e1 := (tw5.tk b6).tup _ _ e5
          have fit : ∀ (b : Addr) (Hx : Hp), Tk H6 Hx → Hx b = some (.tup (.str (S y.1) :: vs)) → At (m' + 1) Hx (.ref b) (.nd y.1 trs) := fun b Hx k hb => ⟨b, vs, rfl, hb, by omega, paired_imp p6 fun _ _ r => r.tk k⟩
          have is : isS W.cons (.nd y.1 trs) = true := by
            rw [isS, i6, har, ← lt, l6]
            simp
          have zz : size (.nd y.1 trs) ≤ szf (m' + 1) := by
            rw [size]
            omega
          refine ⟨L, vs, rfl, .inl ⟨SqL.of h6, fun l hl => ⟨a1, l, _, vs, rfl, rfl, SqT.of (Same.new hl _ _ e1), SqT.of upd_same, ?_, (fun e => by cases e), fun _ e => ?_, fun _ _ b hb => ?_⟩⟩⟩
          · rw [l6]
            exact Nat.le_trans (by show 1 + y.2 ≤ 3; omega) (by decide : 3 ≤ sizeLine)
          · have s7 : Same H6 (L2.upd H6 l (.tup vs)) := Same.new hl
            refine q _ _ d6 (.nd y.1 trs) (But.trans b5 (But.trans b6 (But.of s7))) (tw6.same s7) (by omega) (fit a1 _ (Tk.of s7) ?_) is zz
            rw [e]
            rw [e] at s7
            exact s7 _ _ e1
          · have s7 : Same H6 (L2.upd (L2.upd H6 l (.tup vs)) b (.tup ([.str (S y.1)] ++ vs))) := Same.trans (Same.new hl) (Same.new hb)
            exact q _ _ d6 (.nd y.1 trs) (But.trans b5 (But.trans b6 (But.of s7))) (tw6.same s7) (by omega) (fit b _ (Tk.of s7) upd_same) is zz
end
end Ts

/-! what the law compares: sorts as data; the bad texts -/
namespace Ts
open PySem PySem.Spec PyProof.Rows L2
mutual
def dat : T → PyData
  | .nm s => .str (S s)
  | .nd r ps => .tuple (.str (S r) :: dats ps)
def dats : List T → List PyData
  | [] => []
  | p :: ps => dat p :: dats ps
end
mutual
theorem eqv_refl : ∀ d : PyData, d.canLay0 = true → PyData.eqv d d = true
  | .none, _ => rfl
  | .bool b, _ => by
    show (b == b) = true
    exact beq_self_eq_true b
  | .int i, _ => by
    show (i == i) = true
    exact beq_self_eq_true i
  | .str x, _ => by
    show (x == x) = true
    exact beq_self_eq_true x
  | .list xs, h => eqvs_refl xs (by rw [PyData.canLay0] at h; exact h)
  | .tuple xs, h => eqvs_refl xs (by rw [PyData.canLay0] at h; exact h)
  | .dict _, h => by cases h
theorem eqvs_refl : ∀ ds : List PyData, PyData.canLayAll0 ds = true → PyData.eqvAll ds ds = true
  | [], _ => rfl
  | d :: ds, h => by
    rw [PyData.canLayAll0, Bool.and_eq_true] at h
    show (PyData.eqv d d && PyData.eqvAll ds ds) = true
    rw [eqv_refl d h.1, eqvs_refl ds h.2]
    rfl
end
/-- the names' signs are signs -/
def Clear (c : Cons) : Prop := ∀ q ∈ c, PyData.strOk (S q.1) = true
theorem isName_ok {s : Tx} (h : isName s = true) : PyData.strOk (S s) = true := by
  obtain ⟨x, rfl, h1, h2⟩ := isName_one h
  show (Array.all #[x] (· < 0x110000)) = true
  simp
  omega
mutual
theorem can_dat {c : Cons} (C : Clear c) : ∀ t : T, isS c t = true → (dat t).canLay0 = true
  | .nm s, h => by
    rw [isS] at h
    rw [dat, PyData.canLay0]
    exact isName_ok h
  | .nd r ps, h => by
    rw [isS, Bool.and_eq_true, decide_eq_true_eq] at h
    rw [dat, PyData.canLay0, PyData.canLayAll0, PyData.canLay0, C _ (arity_mem h.1), can_dats C ps h.2]
    rfl
theorem can_dats {c : Cons} (C : Clear c) : ∀ ts : List T, areS c ts = true → PyData.canLayAll0 (dats ts) = true
  | [], _ => by rw [dats]; rfl
  | t :: ts, h => by
    rw [areS, Bool.and_eq_true] at h
    rw [dats, PyData.canLayAll0, can_dat C t h.1, can_dats C ts h.2]
    rfl
end
theorem dats_depth {n : Nat} : ∀ ts : List T, (∀ t ∈ ts, (dat t).depth ≤ n) → PyData.depthAll (dats ts) ≤ n
  | [], _ => by rw [dats]; exact Nat.zero_le _
  | t :: ts, h => by
    rw [dats, PyData.depthAll]
    exact Nat.max_le.mpr ⟨h t List.mem_cons_self, dats_depth ts fun x hx => h x (List.mem_cons_of_mem _ hx)⟩
theorem dat_depth : ∀ (n : Nat) (t : T), Fit n t → (dat t).depth ≤ n
  | 0, _, h => h.elim
  | n + 1, .nm s, _ => by rw [dat, PyData.depth]; exact Nat.zero_le _
  | n + 1, .nd r ps, h => by
    rw [dat, PyData.depth, PyData.depthAll, PyData.depth]
    have := dats_depth (n := n) ps fun t ht => dat_depth n t (h t ht)
    omega
theorem dats_of {K : PySem.W.Frag} {H : Hp} {F : V → T → Prop} (hF : ∀ v t, F v t → Dp K H v (dat t)) : ∀ {vs : List V} {ps : List T}, Paired F vs ps → DpAll K H vs (dats ps)
  | _, _, .nil => by rw [dats]; exact .nil
  | _, _, .cons r p => by rw [dats]; exact .cons (hF _ _ r) (dats_of hF p)
theorem dat_of {K : PySem.W.Frag} {H : Hp} : ∀ (n : Nat) (v : V) (t : T), At n H v t → Dp K H v (dat t)
  | 0, _, _, h => h.elim
  | n + 1, v, .nm s, h => by
    obtain ⟨rfl, _⟩ := h
    rw [dat]
    exact .str _
  | n + 1, v, .nd r ps, h => by
    obtain ⟨a, vs, rfl, ha, _, hp⟩ := h
    rw [dat]
    exact .tup (SqT.of ha) (.cons (.str _) (dats_of (fun v t h => dat_of n v t h) hp))
/-- ("returned", t) -/
def ret (t : T) : PyData := .tuple [.str "returned", dat t]
theorem ret_shaped {c : Cons} (C : Clear c) {t : T} (h : isS c t = true) (f : Fit 13 t) : SeqAt.shaped (ret t) = true ∧ PyData.eqv (ret t) (ret t) = true := by
  have k : (ret t).canLay0 = true := by
    unfold ret
    rw [PyData.canLay0, PyData.canLayAll0, PyData.canLayAll0, PyData.canLayAll0, can_dat C t h]
    decide +kernel
  have d : (ret t).depth ≤ 64 := by
    have := dat_depth 13 t f
    unfold ret
    rw [PyData.depth, PyData.depthAll, PyData.depthAll, PyData.depthAll, PyData.depth]
    omega
  refine ⟨?_, eqv_refl _ k⟩
  unfold SeqAt.shaped
  rw [k, decide_eq_true d]
  rfl
theorem rows_clear : ∀ c ∈ rows8, Clear c := by
  have h : ∀ c ∈ rows8, ∀ q ∈ c, PyData.strOk (S q.1) = true := by decide +kernel
  exact h
/-- ("raised", i) -/
def rai (i : Nat) : PyData := .tuple [.str "raised", .int (i : Nat)]
theorem rai_ok : SeqAt.shaped (rai 16) = true ∧ SeqAt.shaped (rai 1) = true ∧ PyData.eqv (rai 16) (rai 16) = true ∧ PyData.eqv (rai 1) (rai 1) = true := by decide +kernel
theorem dp_rai {K : PySem.W.Frag} {H : Hp} {p : Addr} {i : Nat} (h : H p = some (.tup [.str "raised", .int (i : Nat)])) : Dp K H (.ref p) (rai i) := .tup (SqT.of h) (.cons (.str _) (.cons (.int _) .nil))
theorem dp_ret {K : PySem.W.Frag} {H : Hp} {p : Addr} {n : Nat} {v : V} {t : T} (h : H p = some (.tup [.str "returned", v])) (a : At n H v t) : Dp K H (.ref p) (ret t) := .tup (SqT.of h) (.cons (.str _) (.cons (dat_of n v t a) .nil))
/-! ### the bad texts -/
abbrev badS : List Str := ["", " ", "i", "ab", "Nil", "Num()", "Num ", " Num", "(a)", "Num(a)", "List", "List(a", "List a", "List(a)(b)", "List((a))", "Pair(a)", "Pair(a,b,c)", "Pair(a, b)", "Pair(,)", "num"]
theorem bad_none : ∀ x ∈ badS, x.length ≤ 20 ∧ ∀ c ∈ rows8, (parse c x.cps.toList).isNone = true := by decide +kernel
theorem h_good : ∀ c : Cons, isS c (.nm [104]) = true := fun c => by rw [isS]; rfl
theorem h_text : text (.nm [104]) = [104] := by rw [text]
abbrev signT : Tx := [97, 98, 104, 105, 78, 76, 80, 40, 41, 44, 46, 32]
theorem sign_S : ("abhiNLP(),. " : Str) = S signT := by decide +kernel
abbrev signs : List Tx := signT.map (fun c => [c]) ++ [[78, 117, 109], [40, 97, 41], []]
theorem signs_eq : (signT.map fun c => V.str (S [c])) ++ [.str "Num", .str "(a)", .str ""] = txs signs := by rfl
theorem signs_len : ∀ s ∈ signs, s.length ≤ 3 := by decide
end Ts

/-! law -/
namespace Ts
open PySem PySem.Spec PyProof.Rows L2
section
variable {P : Program} {w : PySem.World} {K : PySem.W.Frag} {mg : Str → Option Value} {base : Heap} {CS CT : Addr}
theorem out_none {H : Hp} {p : Addr} {u v : V} {W : Wd} {Q : VK} {E : XK} (hp : H p = some (.tup [u, v])) (hW : IsW H u W) (wg : Wg W) (h : (∃ x, v = .str (S x) ∧ x.length ≤ 100000 ∧ parse W.cons x = none) ∨ NonS H v)
    (k : ∀ q H2, Same H H2 → H2 q = some (.tup [.str "raised", .int ((16 : Nat) : Int)]) → Q (.ref q) H2) : spOut CT CS [.int 0, .ref p] H Q E := by
  refine ⟨0, p, u, v, rfl, hp, fun _ => ⟨u, v, W, rfl, hW, wg, ?_⟩, fun z => absurd rfl z⟩
  rcases h with ⟨x, rfl, hx, pn⟩ | h
  · exact .inl ⟨x, rfl, hx, fun t pt => (by rw [pn] at pt; cases pt), fun _ H' s => ⟨CT, 16, rfl, rfl, .inl ⟨rfl, rfl⟩, fun q H2 s2 e => k q H2 (Same.trans s s2) e⟩⟩
  · exact .inr ⟨h, fun H' s => ⟨CT, 16, rfl, rfl, .inl ⟨rfl, rfl⟩, fun q H2 s2 e => k q H2 (Same.trans s s2) e⟩⟩
theorem out_some {H : Hp} {p : Addr} {u : V} {x : Tx} {t : T} {W : Wd} {Q : VK} {E : XK} (hp : H p = some (.tup [u, .str (S x)])) (hW : IsW H u W) (wg : Wg W) (hx : x.length ≤ 100000) (pt : parse W.cons x = some t)
    (k : ∀ q H2 v, Same H H2 → At 13 H2 v t → H2 q = some (.tup [.str "returned", v]) → Q (.ref q) H2) : spOut CT CS [.int 0, .ref p] H Q E := by
  refine ⟨0, p, u, _, rfl, hp, fun _ => ⟨u, _, W, rfl, hW, wg, .inl ⟨x, rfl, hx, fun t2 pt2 H' v s a q H2 s2 e => ?_, fun pn => by rw [pt] at pn; cases pn⟩⟩, fun z => absurd rfl z⟩
  rw [pt] at pt2
  cases pt2
  exact k q H2 v (Same.trans s s2) (a.same s2) e
theorem out_bad {H : Hp} {p : Addr} {u v : V} {W : Wd} {Q : VK} {E : XK} (hp : H p = some (.tup [u, v])) (hW : IsW H u W) (wg : Wg W) (h : (∃ t, At 13 H v t ∧ ¬ good W.cons t) ∨ Junk H v)
    (k : ∀ q H2, Same H H2 → H2 q = some (.tup [.str "raised", .int ((1 : Nat) : Int)]) → Q (.ref q) H2) : spOut CT CS [.int 1, .ref p] H Q E := by
  refine ⟨1, p, u, v, rfl, hp, fun z => absurd z (by decide), fun _ => ⟨u, v, W, rfl, hW, wg, ?_⟩⟩
  rcases h with ⟨t, a, ng⟩ | h
  · exact .inl ⟨t, a, fun g => absurd g ng, fun _ H' s => ⟨CS, 1, rfl, rfl, .inr ⟨rfl, rfl⟩, fun q H2 s2 e => k q H2 (Same.trans s s2) e⟩⟩
  · exact .inr ⟨h, fun H' s => ⟨CS, 1, rfl, rfl, .inr ⟨rfl, rfl⟩, fun q H2 s2 e => k q H2 (Same.trans s s2) e⟩⟩
def spO : Sp := fun vs H Q _ => ∃ (way : Int) (p : Addr) (u v : V) (W : Wd), vs = [.int way, .ref p] ∧ H p = some (.tup [u, v]) ∧ IsW H u W ∧ Wg W ∧
  ((way = 0 ∧ ((∃ x t, v = .str (S x) ∧ x.length ≤ 100000 ∧ parse W.cons x = some t ∧ ∀ q H2 v', Same H H2 → At 13 H2 v' t → H2 q = some (.tup [.str "returned", v']) → Q (.ref q) H2) ∨
      (((∃ x, v = .str (S x) ∧ x.length ≤ 100000 ∧ parse W.cons x = none) ∨ NonS H v) ∧ ∀ q H2, Same H H2 → H2 q = some (.tup [.str "raised", .int ((16 : Nat) : Int)]) → Q (.ref q) H2))) ∨
    (way = 1 ∧ ((∃ t, At 13 H v t ∧ ¬ good W.cons t) ∨ Junk H v) ∧ ∀ q H2, Same H H2 → H2 q = some (.tup [.str "raised", .int ((1 : Nat) : Int)]) → Q (.ref q) H2))
theorem ok_out (C : Cal P w K mg base CX0 18 "_law_outcome" pLawOutcome (spOut CT CS)) : Cal P w K mg base CX0 18 "_law_outcome" pLawOutcome spO := by
  refine C.imp fun vs H Q E h => ?_
  obtain ⟨way, p, u, v, W, rfl, hp, hW, wg, h⟩ := h
  rcases h with ⟨rfl, ⟨x, t, rfl, hx, pt, k⟩ | ⟨h, k⟩⟩ | ⟨rfl, h, k⟩
  · exact out_some hp hW wg hx pt k
  · exact out_none hp hW wg h k
  · exact out_bad hp hW wg h k
def Bad (H : Hp) (x : V) : Prop := (∃ s ∈ badS, x = .str s) ∨ NonS H x
theorem Bad.same {H H' : Hp} {x : V} (s : Same H H') (h : Bad H x) : Bad H' x := by
  rcases h with h | h
  · exact .inl h
  · exact .inr (h.same s)
theorem Bad.all {H : Hp} {ss : List Str} (h : ∀ s ∈ ss, s ∈ badS) : ∀ x ∈ ss.map V.str, Bad H x := fun x hx => by
  obtain ⟨s, hs, rfl⟩ := List.mem_map.mp hx
  exact .inl ⟨s, h s hs, rfl⟩
abbrev bs1 : List Str := ["", " ", "i", "ab", "Nil", "Num()", "Num ", " Num", "(a)", "Num(a)", "List", "List(a"]
abbrev bs3 : List Str := ["List(a)(b)", "List((a))", "Pair(a)", "Pair(a,b,c)", "Pair(a, b)", "Pair(,)"]
theorem bs_sub : (∀ s ∈ bs1, s ∈ badS) ∧ (∀ s ∈ bs3, s ∈ badS) ∧ ("List a" : Str) ∈ badS ∧ ("num" : Str) ∈ badS := by decide +kernel
theorem bad_all {H : Hp} {y z : Addr} {ys zs : List V} (hy : H y = some (.tup ys)) (hz : H z = some (.lst zs)) : ∀ x ∈ ([V.non, .int 5] ++ bs1.map V.str) ++ [.str "List a", .ref y] ++ (bs3.map V.str ++ [.ref z, .bl true, .str "num"]), Bad H x := by
  intro x hx
  rcases List.mem_append.mp hx with hx | hx
  · rcases List.mem_append.mp hx with hx | hx
    · rcases List.mem_append.mp hx with hx | hx
      · simp only [List.mem_cons, List.not_mem_nil, or_false] at hx
        rcases hx with rfl | rfl
        · exact .inr (.inl rfl)
        · exact .inr (.inr (.inl ⟨_, rfl⟩))
      · exact Bad.all bs_sub.1 x hx
    · simp only [List.mem_cons, List.not_mem_nil, or_false] at hx
      rcases hx with rfl | rfl
      · exact .inl ⟨_, bs_sub.2.2.1, rfl⟩
      · exact .inr (.inr (.inr (.inr (.inl ⟨_, _, rfl, hy⟩))))
  · rcases List.mem_append.mp hx with hx | hx
    · exact Bad.all bs_sub.2.1 x hx
    · simp only [List.mem_cons, List.not_mem_nil, or_false] at hx
      rcases hx with rfl | rfl | rfl
      · exact .inr (.inr (.inr (.inr (.inr ⟨_, _, rfl, hz⟩))))
      · exact .inr (.inr (.inr (.inl ⟨_, rfl⟩)))
      · exact .inl ⟨_, bs_sub.2.2.2, rfl⟩
theorem Bad.use {H : Hp} {x : V} {c : Cons} (hc : c ∈ rows8) (h : Bad H x) : (∃ y, x = .str (S y) ∧ y.length ≤ 100000 ∧ parse c y = none) ∨ NonS H x := by
  rcases h with ⟨s, hs, rfl⟩ | h
  · obtain ⟨h1, h2⟩ := bad_none s hs
    refine .inl ⟨s.cps.toList, by rw [show S s.cps.toList = s from SX.S_tl s], ?_, Option.isNone_iff_eq_none.mp (h2 c hc)⟩
    have e : s.cps.toList.length = s.length := by simp [Str.length]
    rw [e]
    omega
  · exact .inr h
/-- what format_sort refuses -/
def Fmt (c : Cons) (H : Hp) (x : V) : Prop := (∃ t, At 13 H x t ∧ ¬ good c t) ∨ Junk H x
theorem Fmt.same {c : Cons} {H H' : Hp} {x : V} (s : Same H H') (h : Fmt c H x) : Fmt c H' x := by
  rcases h with ⟨t, a, g⟩ | h
  · exact .inl ⟨t, a.same s, g⟩
  · exact .inr (h.same s)
theorem no_Nil : ∀ c ∈ rows8, arity c [78, 105, 108] = none := by decide
theorem str_i : ("i" : Str) = S [105] ∧ ("ab" : Str) = S [97, 98] ∧ ("Nil" : Str) = S [78, 105, 108] ∧ ("h" : Str) = S [104] := by decide +kernel
theorem fmt_all {c : Cons} (hc : c ∈ rows8) {H : Hp} {y1 y2 y3 : Addr} (h1 : H y1 = some (.tup [])) (h2 : H y2 = some (.tup [.str "Nil"])) (h3 : H y3 = some (.lst [.str "Num"])) : ∀ x ∈ [V.non, .int 5, .ref y1, .str "i", .str "ab", .ref y2, .ref y3], Fmt c H x := by
  intro x hx
  simp only [List.mem_cons, List.not_mem_nil, or_false] at hx
  rcases hx with rfl | rfl | rfl | rfl | rfl | rfl | rfl
  · exact .inr (.inl rfl)
  · exact .inr (.inr (.inl ⟨_, rfl⟩))
  · exact .inr (.inr (.inr (.inl ⟨_, rfl, h1⟩)))
  · exact .inl ⟨.nm [105], ⟨by rw [str_i.1], by decide⟩, fun g => by have g1 := g.1; rw [isS] at g1; cases g1⟩
  · exact .inl ⟨.nm [97, 98], ⟨by rw [str_i.2.1], by decide⟩, fun g => by have g1 := g.1; rw [isS] at g1; cases g1⟩
  · refine .inl ⟨.nd [78, 105, 108] [], ⟨y2, [], rfl, by rw [h2, str_i.2.2.1], Nat.zero_le _, .nil⟩, fun g => ?_⟩
    have g1 := g.1
    rw [isS, no_Nil c hc] at g1
    cases g1
  · exact .inr (.inr (.inr (.inr ⟨_, _, rfl, h3⟩)))
def spLaw (K : PySem.W.Frag) : Sp := fun vs H Q _ => ∃ (a : Addr) (ns : List Int), vs = [.ref a] ∧ SqL K H a (ns.map V.int) ∧ ns.length ≤ 1000 ∧ ∀ H', Q (.bl true) H'
theorem ok_law {f : Addr} {fd : FuncData} (T : Txt mg) (F : Fun K "law" "law" sLaw f fd) (C1 : ∀ ns, Cal P w K mg base CX0 1 "_law_town" pLawTown (spTown (K := K) (ns := ns))) (C2 : ∀ ns, Cal P w K mg base CX0 1 "_law_draw" pLawDraw (spDraw (K := K) (ns := ns)))
    (C3 : ∀ ns, Cal P w K mg base CX0 2 "_law_pick" pLawPick (spPick (K := K) (ns := ns))) (C4 : ∀ ns, Cal P w K mg base CX0 3 "_law_world" pLawWorld (spWorldL (K := K) (ns := ns))) (C5 : ∀ ns, Cal P w K mg base CX0 6 "_law_named" pLawNamed (spNamed (K := K) (ns := ns) 4))
    (CL : Cal P w K mg base CX0 14 "_law_line" pLawLine (spText 13)) (CI : Cal P w K mg base CX0 14 "_law_is" pLawIs (spLawIs 13)) (CF : Cal P w K mg base (L2.CX P w) 16 "format_sort" pFormatSort (spFormat CS))
    (CO : Cal P w K mg base CX0 18 "_law_outcome" pLawOutcome spO) (CR : Cal P w K mg base CX0 1 "_law_raises" pLawRaises spRaises) : FnOk P w K mg base CX0 19 f fd pLaw (spLaw K) := by
  refine F.ok scLaw (fun vs H Q E h => ?_) fun cdv A outer s H vs Q E hr h => ?_
  · obtain ⟨a, ns, rfl, _⟩ := h
    rfl
  · obtain ⟨a, ns, rfl, ha, hz, q⟩ := h
    have r1 := hr.mono (j := 1) (by omega)
    refine ⟨_, pss_cons (ps_set (i := 1) scLaw.nd rfl (Or.inl rfl) (pe_cal (C1 ns) (hr.mono (by omega)) (pa_cons (pv 0) pa_nil)))
      (pss_cons (ps_set (i := 2) scLaw.nd rfl (Or.inr rfl) (pe_cal (C4 ns) (hr.mono (by omega)) (pa_cons (pv 0) (pa_cons (pv 1) pa_nil))))
      (pss_cons (ps_for PassesOwn.never rfl (pi_range1 (by rfl) T.range (pa_cons pe_int pa_nil)) (pg_name (i := 3) scLaw.nd rfl (Or.inl rfl))
        (pss_cons (ps_set (i := 4) scLaw.nd rfl (Or.inl rfl) (pe_cal (C5 ns) (hr.mono (by omega)) (pa_cons (pv 0) (pa_cons (pv 1) (pa_cons (pv 2) (pa_cons pe_int pa_nil))))))
        (pss_cons (ps_set (i := 5) scLaw.nd rfl (Or.inl rfl) (pe_cal CL (hr.mono (by omega)) (pa_cons (pv 4) pa_nil)))
        (pss_cons (ps_if (PW.pt (pw_or (pt_cmpR op_ne (pe_calX nobody CF (hr.mono (by omega)) (pa_cons (pv 2) (pa_cons (pv 4) pa_nil))) (pv 5) (nomark _))
            (pw_or1 (pt_cmpR (op_neD hr.units) (pe_cal CO hr (pa_cons pe_int (pa_cons (pe_tup (pa_cons (pv 2) (pa_cons (pv 5) pa_nil))) pa_nil))) (pe_tup (pa_cons pe_str (pa_cons (pv 4) pa_nil))) (nomark _))))) (pss_one (ps_ret pe_bl)) pss_nil)
        (pss_one (ps_for PassesOwn.never rfl (pi_range1 (by rfl) T.range (pa_cons pe_int pa_nil)) (pg_name (i := 6) scLaw.nd rfl (Or.inl rfl))
          (pss_cons (ps_set (i := 7) scLaw.nd rfl (Or.inl rfl) (pe_cal (C2 ns) (hr.mono (by omega)) (pa_cons (pv 0) (pa_cons (pv 1) (pa_cons (pe_op op_add (pe_callB call_len_str (by rfl) T.len b_len (pa_cons (pv 5) pa_nil)) pe_int) pa_nil)))))
          (pss_cons (ps_set (i := 8) scLaw.nd rfl (Or.inl rfl) (pe_cal (C3 ns) (hr.mono (by omega)) (pa_cons (pv 0) (pa_cons (pv 1) (pa_cons (pe_op op_cat (pe_callTy (call_listS rfl) (by rfl) T.lst boot_list (pa_cons pe_str pa_nil)) (pe_lst (pa_cons pe_str (pa_cons pe_str (pa_cons pe_str pa_nil))))) pa_nil)))))
          (pss_cons (ps_set (i := 9) scLaw.nd rfl (Or.inl rfl) (pe_op op_add_str (pe_op op_add_str (pe_slice C8.sl_txt (pv 5) po_none (po_some (pv 7))) (pv 8)) (pe_slice C8.sl_txt (pv 5) (po_some (pe_op op_add (pv 7) (pe_cal (C2 ns) (hr.mono (by omega)) (pa_cons (pv 0) (pa_cons (pv 1) (pa_cons pe_int pa_nil)))))) po_none)))
          (pss_cons (ps_set (i := 10) scLaw.nd rfl (Or.inl rfl) (pe_cal CO hr (pa_cons pe_int (pa_cons (pe_tup (pa_cons (pv 2) (pa_cons (pv 9) pa_nil))) pa_nil))))
          (pss_one (ps_if (pt_cmpR op_eq (pe_ix ix_tup (pv 10) pe_int (fun _ _ => rfl)) pe_str (nomark _))
            (pss_one (ps_if (PW.pt (pw_or (pt_not (pt_val (pe_cal CI (hr.mono (by omega)) (pa_cons (pv 2) (pa_cons (pe_ix ix_tup (pv 10) pe_int (fun _ _ => rfl)) pa_nil))))) (pw_or1 (pt_cmpR op_ne (pe_cal CL (hr.mono (by omega)) (pa_cons (pe_ix ix_tup (pv 10) pe_int (fun _ _ => rfl)) pa_nil)) (pv 9) (nomark _))))) (pss_one (ps_ret pe_bl)) pss_nil))
            (pss_one (ps_if (PW.pt (pw_or (pt_cmpR (op_neD hr.units) (pv 10) (pe_cal CR (hr.mono (by omega)) (pa_cons pe_str pa_nil)) (nomark _)) (pw_or1 (pt_cmpR op_eq (pv 9) (pv 5) (nomark _))))) (pss_one (ps_ret pe_bl)) pss_nil))))))))))))))
      (pss_cons (ps_set (i := 11) scLaw.nd rfl (Or.inl rfl) (pe_lst (pa_cons pe_non (pa_cons pe_int (pa_cons pe_str (pa_cons pe_str (pa_cons pe_str (pa_cons pe_str (pa_cons pe_str (pa_cons pe_str (pa_cons pe_str (pa_cons pe_str (pa_cons pe_str (pa_cons pe_str (pa_cons pe_str (pa_cons pe_str pa_nil))))))))))))))))
      (pss_cons (ps_set (i := 11) scLaw.nd rfl (Or.inl rfl) (pe_op op_cat (pv 11) (pe_lst (pa_cons pe_str (pa_cons (pe_tup (pa_cons pe_str pa_nil)) pa_nil)))))
      (pss_cons (ps_set (i := 11) scLaw.nd rfl (Or.inl rfl) (pe_op op_cat (pv 11) (pe_lst (pa_cons pe_str (pa_cons pe_str (pa_cons pe_str (pa_cons pe_str (pa_cons pe_str (pa_cons pe_str (pa_cons (pe_lst (pa_cons (pv 5) pa_nil)) (pa_cons pe_bl (pa_cons pe_str pa_nil))))))))))))
      (pss_cons (ps_if (pt_cmpR (op_neD hr.units)
          (pe_lc (own := [("_law_bad", 12)]) (g := gName 12) (tt := tTest (tOp (rNeD K) (tCall spO [] E0 (tCons (tC (.int 0)) (tCons (tTup (tCons (tVar 2) (tCons (tVar 12) tNil))) tNil))) (tCall spRaises [] E0 (tCons (tC (.str "text")) tNil)))) rfl scLaw.nd (pi_list (pv 11)) (blkOk_by (N := nLaw) (sc := defScope sLaw) (by decide +kernel)) (fun _ _ _ _ _ => pg_name (i := 12) scLaw.nd rfl (Or.inl rfl))
            (fun _ _ _ _ _ => pts_one (pt_cmpR (op_neD hr.units) (pe_cal CO hr (pa_cons pe_int (pa_cons (pe_tup (pa_cons (pv 2) (pa_cons (pv 12) pa_nil))) pa_nil))) (pe_cal CR (hr.mono (by omega)) (pa_cons pe_str pa_nil)) (nomark _))) (fun _ _ _ _ _ => pv 12))
          (pe_lst pa_nil) (nomark _)) (pss_one (ps_ret pe_bl)) pss_nil)
      (pss_cons (ps_for PassesOwn.never rfl (pi_tup (pe_tup (pa_cons pe_non (pa_cons pe_int (pa_cons (pe_tup pa_nil) (pa_cons pe_str (pa_cons pe_str (pa_cons (pe_tup (pa_cons pe_str pa_nil)) (pa_cons (pe_lst (pa_cons pe_str pa_nil)) pa_nil))))))))) (pg_name (i := 12) scLaw.nd rfl (Or.inl rfl))
        (pss_one (ps_if (pt_cmpR (op_neD hr.units) (pe_cal CO hr (pa_cons pe_int (pa_cons (pe_tup (pa_cons (pv 2) (pa_cons (pv 12) pa_nil))) pa_nil))) (pe_cal CR (hr.mono (by omega)) (pa_cons pe_str pa_nil)) (nomark _)) (pss_one (ps_ret pe_bl)) pss_nil)))
      (pss_one (ps_ret (pe_cmpR (op_eqD hr.units) (pe_cal CO hr (pa_cons pe_int (pa_cons (pe_tup (pa_cons (pv 2) (pa_cons pe_str pa_nil))) pa_nil))) (pe_tup (pa_cons pe_str (pa_cons pe_str pa_nil))) (nomark _))))))))))), ?_⟩
    refine ⟨_, rfl, a, rfl, ha, hz, fun t H1 s1 tw1 => ?_⟩
    refine ⟨_, rfl, _, rfl, a, t, 0, rfl, tw1, by decide, fun u H2 d2 W b2 tw2 e2 hW wg hc8 => ?_⟩
    have clr := rows_clear _ hc8
    have z4 : ((szf 4 : Nat) : Int) = 9 := rfl
    refine ⟨4, rfl, by decide, by decide, for_range (lo := 0) (n := 4) (fun k σ H' => ∃ (v3 v4 v5 v6 v7 v8 v9 v10 : Option V) (d' : Int), σ = [some (.ref a), some (.ref t), some u, v3, v4, v5, v6, v7, v8, v9, v10, none, none] ∧ Town K ns H' a t d' ∧ d' ≤ 20 + 40 * (k : Int) ∧ IsW H' u W ∧ (k = 0 ∨ ∃ v, v5 = some v))
      ⟨none, none, none, none, none, none, none, none, d2, rfl, tw2, by omega, hW, .inl rfl⟩ ?_ ?_⟩
    · rintro k σ H' hk ⟨v3, v4, v5, v6, v7, v8, v9, v10, d', rfl, tw, hd, hW', _⟩
      refine ⟨_, rfl, _, rfl, _, rfl, a, t, u, 4, d', W, rfl, by decide, by decide, by decide, tw, by omega, hW', wg, hc8, fun v H3 d3 tr b3 tw3 e3 a3 i3 q3 => ?_⟩
      have hW3 := hW'.tk (tw.tk b3)
      have q3' : size tr ≤ 9 := q3
      have len := text_len wg.cok 4 tr a3.fit i3
      have a13 : At 13 H3 v tr := a3.le (by decide)
      have pt : parse W.cons (text tr) = some tr := parse_text wg.cok a13.fit i3 (by omega)
      refine ⟨_, rfl, v, tr, rfl, a13, by omega, fun H4 s4 => ?_⟩
      have rs := ret_shaped clr i3 a13.fit
      refine ⟨_, rfl, _, rfl, u, v, W, rfl, hW3.same s4, wg, .inl ⟨tr, a13.same s4, fun g H5 s5 => ⟨_, rfl, rfl, _, rfl, iteNF rfl ?_⟩, fun ng => absurd ⟨i3, by omega⟩ ng⟩⟩
      have s45 := Same.trans s4 s5
      refine ⟨_, rfl, _, rfl, (by decide : 2 ≤ sizeLine), fun p hp => ⟨0, p, u, _, W, rfl, upd_same, (hW3.same s45).same (Same.new hp), wg, .inl ⟨rfl, .inl ⟨text tr, tr, rfl, by omega, pt, fun r H6 y6 s6 a6 h6 => ?_⟩⟩⟩⟩
      refine ⟨_, rfl, (by decide : 2 ≤ sizeLine), fun p2 hp2 => ⟨ret tr, ret tr, dp_ret (Same.new hp2 _ _ h6) (a6.same (Same.new hp2)), dp_ret upd_same (a13.same (Same.trans s45 (Same.trans (Same.new hp) (Same.trans s6 (Same.new hp2))))), rs.1, rs.1, _, rfl, iteE (c := false) (by rw [rs.2]; rfl) (iteF ?_)⟩⟩
      have s7 := Same.trans s45 (Same.trans (Same.new (o := .tup [u, .str (S (text tr))]) hp) (Same.trans s6 (Same.new (o := .tup [.str "returned", v]) hp2)))
      generalize L2.upd H6 p2 (.tup [.str "returned", v]) = H7 at s7 ⊢
      have tw7 := tw3.same s7
      have hW7 := hW3.same s7
      clear s7 h6 a6 s6 hp hp2 s45
      refine ⟨6, rfl, by decide, by decide, for_range (lo := 0) (n := 6) (fun j σ H' => ∃ (v3 v6 v7 v8 v9 v10 : Option V) (d' : Int), σ = [some (.ref a), some (.ref t), some u, v3, some v, some (.str (S (text tr))), v6, v7, v8, v9, v10, none, none] ∧ Town K ns H' a t d' ∧ d' ≤ 20 + 40 * (k : Int) + 18 + 3 * (j : Int) ∧ IsW H' u W)
        ⟨_, v6, v7, v8, v9, v10, d3, rfl, tw7, by omega, hW7⟩ ?_ ?_⟩
      · rintro j σ H' hj ⟨w3, w6, w7, w8, w9, w10, d8, rfl, tw8, h8, hW8⟩
        have hl : (S (text tr)).length ≤ sizeLine := by
          rw [SX.S_len]
          exact Nat.le_trans (by omega : _ ≤ 100) (by decide)
        -- at
        refine ⟨_, rfl, _, rfl, _, rfl, S (text tr), rfl, hl, _, _, rfl, rfl, a, t, _, d8, rfl, tw8, by omega, ?_, ?_, fun r H9 r0 r1 b9 tw9 => ?_⟩
        · rw [SX.S_len]
          omega
        · rw [SX.S_len]
          omega
        -- sign
        refine ⟨_, rfl, _, rfl, signT, ?_, by decide, fun p hp => ⟨(by decide : 3 ≤ sizeLine), fun p2 hp2 => ⟨p, p2, _, _, rfl, rfl, Same.new hp2 _ _ upd_same, upd_same, by decide, fun c hc => ?_⟩⟩⟩
        · rw [sign_S]
        have s10 : Same H9 (L2.upd (L2.upd (L2.upd H9 p (.lst (signT.map fun c => V.str (S [c])))) p2 (.lst [.str "Num", .str "(a)", .str ""])) c (.lst (txs signs))) := Same.trans (Same.new hp) (Same.trans (Same.new hp2) (Same.new hc))
        refine ⟨a, t, c, d8 + 1, _, rfl, tw9.same s10, by omega, (tw9.same (Same.trans (Same.new hp) (Same.new hp2))).none hc, upd_same, by decide, by decide, fun i x H11 hi b11 tw11 => ?_⟩
        obtain ⟨sg, rfl, hsg⟩ : ∃ sg : Tx, x = .str (S sg) ∧ sg.length ≤ 3 := by
          have hm : x ∈ txs signs := List.mem_of_getElem? hi
          unfold txs at hm
          obtain ⟨y, hy, rfl⟩ := List.mem_map.mp hm
          obtain ⟨z, hz2, rfl⟩ := List.mem_map.mp hy
          exact ⟨z, rfl, signs_len z hz2⟩
        have hW11 := hW8.tk (Tk.trans (tw8.tk b9) (Tk.trans (Tk.of s10) ((tw9.same s10).tk b11)))
        -- other
        dsimp only
        refine gseq (fun v H12 => ∃ (ot : Tx), v = .str (S ot) ∧ ot.length ≤ 200 ∧ Town K ns H12 a t (d8 + 1 + 1 + 1) ∧ IsW H12 u W) (fun Q' hq => ?_) fun v H12 hv => ?_
        · have e1 : Txt.slice (S (text tr)) none (some r) = S ((text tr).take r.toNat) := SX.slice_to r0
          have l1 : ((text tr).take r.toNat).length ≤ 100 := by
            rw [List.length_take]
            omega
          have n1 : (Txt.slice (S (text tr)) none (some r)).length + (S sg).length ≤ sizeLine := by
            rw [e1, SX.S_len, SX.S_len]
            exact Nat.le_trans (by omega : _ ≤ 200) (by decide)
          refine ⟨_, rfl, _, rfl, r, rfl, S (text tr), rfl, hl, _, rfl, _, _, rfl, rfl, n1, ?_⟩
          refine ⟨_, rfl, _, rfl, _, rfl, _, rfl, a, t, 2, d8 + 1 + 1, rfl, tw11, by omega, by decide, by decide, fun r2 H12 q0 q1 b12 tw12 => ⟨_, _, rfl, rfl, _, rfl, S (text tr), rfl, hl, _, _, rfl, rfl, ?_, ?_⟩⟩
          · rw [e1, SX.S_cat, SX.slice_from (by omega), SX.S_len, SX.S_len, List.length_append, List.length_drop]
            exact Nat.le_trans (by omega : _ ≤ 300) (by decide)
          · refine hq _ _ ⟨(text tr).take r.toNat ++ sg ++ (text tr).drop (r + r2).toNat, ?_, ?_, tw12, hW11.tk (tw11.tk b12)⟩
            · rw [e1, SX.S_cat, SX.slice_from (by omega), SX.S_cat]
            · rw [List.length_append, List.length_append, List.length_drop]
              omega
        · obtain ⟨ot, rfl, lo, tw12, hW12⟩ := hv
          cases po : parse W.cons ot with
          | some t2 =>
            refine ⟨_, rfl, _, rfl, (by decide : 2 ≤ sizeLine), fun p3 hp3 => ⟨0, p3, u, _, W, rfl, upd_same, hW12.same (Same.new hp3), wg, .inl ⟨rfl, .inl ⟨ot, t2, rfl, by omega, po, fun q2 H13 v13 s13 a13' h13 => ?_⟩⟩⟩⟩
            obtain ⟨f2, i2, z2, x2⟩ := parse_some po
            have s12 : Same H12 H13 := Same.trans (Same.new hp3) s13
            have hW13 := hW12.same s12
            refine ⟨_, rfl, q2, _, _, _, rfl, rfl, SqT.of h13, atI_nat (j := 0) rfl, rfl, _, rfl, iteDT rfl ?_⟩
            refine ⟨_, rfl, _, rfl, q2, _, _, _, rfl, rfl, SqT.of h13, atI_nat (j := 1) rfl, u, v13, W, t2, rfl, hW13, wg.nd, a13', i2, fun H14 s14 => ⟨_, rfl, iteF ?_⟩⟩
            refine ⟨_, rfl, q2, _, _, _, rfl, rfl, SqT.of (s14 _ _ h13), atI_nat (j := 1) rfl, v13, t2, rfl, a13'.same s14, by rw [x2]; omega, fun H15 s15 => ⟨_, rfl, rfl, _, rfl, iteNF (by rw [x2]) ?_⟩⟩
            have s16 := Same.trans s12 (Same.trans s14 s15)
            exact ⟨_, _, _, _, _, _, _, rfl, tw12.same s16, by omega, hW12.same s16⟩
          | none =>
            refine ⟨_, rfl, _, rfl, (by decide : 2 ≤ sizeLine), fun p3 hp3 => ⟨0, p3, u, _, W, rfl, upd_same, hW12.same (Same.new hp3), wg, .inl ⟨rfl, .inr ⟨.inl ⟨ot, rfl, by omega, po⟩, fun q2 H13 s13 h13 => ?_⟩⟩⟩⟩
            have s12 : Same H12 H13 := Same.trans (Same.new hp3) s13
            refine ⟨_, rfl, q2, _, _, _, rfl, rfl, SqT.of h13, atI_nat (j := 0) rfl, rfl, _, rfl, iteDF (fun e => absurd (V.str.inj e) (by decide +kernel)) ?_⟩
            refine ⟨_, rfl, "text", 16, rfl, .inl ⟨rfl, rfl⟩, fun q3 H14 s14 h14 => ⟨rai 16, rai 16, dp_rai (s14 _ _ h13), dp_rai h14, rai_ok.1, rai_ok.1, _, rfl, iteE (c := false) (by rw [rai_ok.2.2.1]; rfl) (iteF ?_)⟩⟩
            refine ⟨_, rfl, _, rfl, rfl, _, rfl, iteDF (fun e => ?_) ?_⟩
            · have e2 := SX.S_inj (V.str.inj e)
              rw [e2, pt] at po
              cases po
            · have s16 := Same.trans s12 s14
              exact ⟨_, _, _, _, _, _, _, rfl, tw12.same s16, by omega, hW12.same s16⟩
      · rintro σ H' ⟨w3, w6, w7, w8, w9, w10, d8, rfl, tw8, h8, hW8⟩
        exact ⟨_, _, _, _, _, _, _, _, d8, rfl, tw8, by omega, hW8, .inr ⟨_, rfl⟩⟩
    · rintro σ H' ⟨v3, v4, v5, v6, v7, v8, v9, v10, d', rfl, tw, hd, hW', h5⟩
      obtain ⟨v, rfl⟩ : ∃ v, v5 = some v := by
        rcases h5 with h | h
        · cases h
        · exact h
      refine ⟨(by decide : 14 ≤ sizeLine), fun p1 hp1 => ?_⟩
      refine ⟨_, rfl, (by decide : 1 ≤ sizeLine), fun y hy => ⟨(by decide : 2 ≤ sizeLine), fun p2 hp2 => ⟨p1, p2, [V.non, .int 5] ++ bs1.map V.str, [V.str "List a", V.ref y], rfl, rfl, Same.new hp2 _ _ (Same.new hy _ _ upd_same), upd_same, (by decide : 16 ≤ sizeLine), fun l hl => ?_⟩⟩⟩
      have s1 : Same H' (L2.upd (L2.upd (L2.upd (L2.upd H' p1 (.lst [V.non, .int 5, .str "", .str " ", .str "i", .str "ab", .str "Nil", .str "Num()", .str "Num ", .str " Num", .str "(a)", .str "Num(a)", .str "List", .str "List(a"])) y (.tup [.str "Num"])) p2 (.lst [V.str "List a", V.ref y])) l (.lst ([V.non, .int 5] ++ bs1.map V.str ++ [V.str "List a", V.ref y]))) :=
        Same.trans (Same.new hp1) (Same.trans (Same.new hy) (Same.trans (Same.new hp2) (Same.new hl)))
      have y1 : (L2.upd (L2.upd (L2.upd (L2.upd H' p1 (.lst [V.non, .int 5, .str "", .str " ", .str "i", .str "ab", .str "Nil", .str "Num()", .str "Num ", .str " Num", .str "(a)", .str "Num(a)", .str "List", .str "List(a"])) y (.tup [.str "Num"])) p2 (.lst [V.str "List a", V.ref y])) l (.lst ([V.non, .int 5] ++ bs1.map V.str ++ [V.str "List a", V.ref y]))) y = some (.tup [.str "Num"]) := Same.trans (Same.new hp2) (Same.new hl) _ _ upd_same
      have l1 : (L2.upd (L2.upd (L2.upd (L2.upd H' p1 (.lst [V.non, .int 5, .str "", .str " ", .str "i", .str "ab", .str "Nil", .str "Num()", .str "Num ", .str " Num", .str "(a)", .str "Num(a)", .str "List", .str "List(a"])) y (.tup [.str "Num"])) p2 (.lst [V.str "List a", V.ref y])) l (.lst ([V.non, .int 5] ++ bs1.map V.str ++ [V.str "List a", V.ref y]))) l = some (.lst ([V.non, .int 5] ++ bs1.map V.str ++ [V.str "List a", V.ref y])) := upd_same
      generalize L2.upd (L2.upd (L2.upd (L2.upd H' p1 (.lst [V.non, .int 5, .str "", .str " ", .str "i", .str "ab", .str "Nil", .str "Num()", .str "Num ", .str " Num", .str "(a)", .str "Num(a)", .str "List", .str "List(a"])) y (.tup [.str "Num"])) p2 (.lst [V.str "List a", V.ref y])) l (.lst ([V.non, .int 5] ++ bs1.map V.str ++ [V.str "List a", V.ref y])) = H1 at s1 y1 l1 ⊢
      clear hp1 hy hp2 hl
      refine ⟨_, rfl, _, rfl, (by decide : 1 ≤ sizeLine), fun z hz => ⟨(by decide : 9 ≤ sizeLine), fun p3 hp3 => ⟨l, p3, _, bs3.map V.str ++ [V.ref z, V.bl true, V.str "num"], rfl, rfl, Same.new hp3 _ _ (Same.new hz _ _ l1), upd_same, ?_, fun l2 hl2 => ?_⟩⟩⟩
      · show 25 ≤ sizeLine
        decide
      have s2 : Same H1 (L2.upd (L2.upd (L2.upd H1 z (.lst [v])) p3 (.lst [V.str "List(a)(b)", .str "List((a))", .str "Pair(a)", .str "Pair(a,b,c)", .str "Pair(a, b)", .str "Pair(,)", .ref z, .bl true, .str "num"])) l2 (.lst ([V.non, .int 5] ++ bs1.map V.str ++ [V.str "List a", V.ref y] ++ (bs3.map V.str ++ [V.ref z, V.bl true, V.str "num"])))) := Same.trans (Same.new hz) (Same.trans (Same.new hp3) (Same.new hl2))
      have z2 : (L2.upd (L2.upd (L2.upd H1 z (.lst [v])) p3 (.lst [V.str "List(a)(b)", .str "List((a))", .str "Pair(a)", .str "Pair(a,b,c)", .str "Pair(a, b)", .str "Pair(,)", .ref z, .bl true, .str "num"])) l2 (.lst ([V.non, .int 5] ++ bs1.map V.str ++ [V.str "List a", V.ref y] ++ (bs3.map V.str ++ [V.ref z, V.bl true, V.str "num"])))) z = some (.lst [v]) := Same.trans (Same.new hp3) (Same.new hl2) _ _ upd_same
      have h2 : (L2.upd (L2.upd (L2.upd H1 z (.lst [v])) p3 (.lst [V.str "List(a)(b)", .str "List((a))", .str "Pair(a)", .str "Pair(a,b,c)", .str "Pair(a, b)", .str "Pair(,)", .ref z, .bl true, .str "num"])) l2 (.lst ([V.non, .int 5] ++ bs1.map V.str ++ [V.str "List a", V.ref y] ++ (bs3.map V.str ++ [V.ref z, V.bl true, V.str "num"])))) l2 = some (.lst ([V.non, .int 5] ++ bs1.map V.str ++ [V.str "List a", V.ref y] ++ (bs3.map V.str ++ [V.ref z, V.bl true, V.str "num"]))) := upd_same
      generalize L2.upd (L2.upd (L2.upd H1 z (.lst [v])) p3 (.lst [V.str "List(a)(b)", .str "List((a))", .str "Pair(a)", .str "Pair(a,b,c)", .str "Pair(a, b)", .str "Pair(,)", .ref z, .bl true, .str "num"])) l2 (.lst ([V.non, .int 5] ++ bs1.map V.str ++ [V.str "List a", V.ref y] ++ (bs3.map V.str ++ [V.ref z, V.bl true, V.str "num"]))) = H2 at s2 z2 h2 ⊢
      have y2 := s2 _ _ y1
      have hW2 := hW'.same (Same.trans s1 s2)
      have bad := bad_all y2 z2
      have lb : ([V.non, .int 5] ++ bs1.map V.str ++ [V.str "List a", V.ref y] ++ (bs3.map V.str ++ [V.ref z, V.bl true, V.str "num"])).length = 25 := rfl
      clear hz hp3 hl2 s2 s1 y1 l1 y2 z2
      generalize [V.non, .int 5] ++ bs1.map V.str ++ [V.str "List a", V.ref y] ++ (bs3.map V.str ++ [V.ref z, V.bl true, V.str "num"]) = xs at h2 bad lb ⊢
      -- no bad text is read
      refine ⟨_, rfl, l2, rfl, ⟨_, SqL.of h2⟩, fun L hL => lc_keep (turns_lst (K := K) xs) (fun _ => false) hL (by omega) (fun H3 s3 => Same.seq s3 (SqL.of h2)) (fun _ => rfl) (fun i H3 hi s3 H4 s4 Q4 k => ?_) (fun i H3 hi s3 e => by cases e) (fun H3 s3 h3 => ?_)⟩
      · have hm : xs.getD i .non ∈ xs := by
          rw [List.getD_eq_getElem?_getD, List.getElem?_eq_getElem hi]
          exact List.getElem_mem hi
        have s34 := Same.trans s3 s4
        refine ⟨_, rfl, _, rfl, (by decide : 2 ≤ sizeLine), fun p hp => ⟨0, p, u, _, W, rfl, upd_same, (hW2.same s34).same (Same.new hp), wg, .inl ⟨rfl, .inr ⟨((bad _ hm).same (Same.trans s34 (Same.new hp))).use hc8, fun q2 H5 s5 h5 => ?_⟩⟩⟩⟩
        refine ⟨"text", 16, rfl, .inl ⟨rfl, rfl⟩, fun q3 H6 s6 h6 => ⟨rai 16, rai 16, dp_rai (s6 _ _ h5), dp_rai h6, rai_ok.1, rai_ok.1, _, rfl, ?_⟩⟩
        have g := k H6 (Same.trans (Same.new hp) (Same.trans s5 s6))
        have e : (!PyData.eqv (rai 16) (rai 16)) = false := by rw [rai_ok.2.2.1]; rfl
        rw [← e] at g
        exact g
      · have e0 : ((List.range xs.length).filter fun _ => false) = [] := by simp
        rw [e0] at h3
        refine ⟨Nat.zero_le _, fun m hm => ⟨_, _, dp_nil (Same.new hm _ _ h3), dp_nil upd_same, by decide, by decide, _, rfl, iteF ?_⟩⟩
        have hW4 := (hW2.same s3).same (Same.new (o := .lst []) hm)
        generalize L2.upd H3 m (.lst []) = H4 at hW4 ⊢
        clear hm h3 s3 hL
        -- for bad in (None, 5, (), "i", "ab", ("Nil",), ["Num"])
        refine ⟨Nat.zero_le _, fun y1 hy1 => ⟨(by decide : 1 ≤ sizeLine), fun y2 hy2 => ⟨(by decide : 1 ≤ sizeLine), fun y3 hy3 => ⟨(by decide : 7 ≤ sizeLine), fun y4 hy4 => ?_⟩⟩⟩⟩
        have t1 : Same H4 (L2.upd (L2.upd (L2.upd (L2.upd H4 y1 (.tup [])) y2 (.tup [.str "Nil"])) y3 (.lst [.str "Num"])) y4 (.tup [.non, .int 5, .ref y1, .str "i", .str "ab", .ref y2, .ref y3])) :=
          Same.trans (Same.new hy1) (Same.trans (Same.new hy2) (Same.trans (Same.new hy3) (Same.new hy4)))
        have k1 : (L2.upd (L2.upd (L2.upd (L2.upd H4 y1 (.tup [])) y2 (.tup [.str "Nil"])) y3 (.lst [.str "Num"])) y4 (.tup [.non, .int 5, .ref y1, .str "i", .str "ab", .ref y2, .ref y3])) y1 = some (.tup []) := Same.trans (Same.new hy2) (Same.trans (Same.new hy3) (Same.new hy4)) _ _ upd_same
        have k2 : (L2.upd (L2.upd (L2.upd (L2.upd H4 y1 (.tup [])) y2 (.tup [.str "Nil"])) y3 (.lst [.str "Num"])) y4 (.tup [.non, .int 5, .ref y1, .str "i", .str "ab", .ref y2, .ref y3])) y2 = some (.tup [.str "Nil"]) := Same.trans (Same.new hy3) (Same.new hy4) _ _ upd_same
        have k3 : (L2.upd (L2.upd (L2.upd (L2.upd H4 y1 (.tup [])) y2 (.tup [.str "Nil"])) y3 (.lst [.str "Num"])) y4 (.tup [.non, .int 5, .ref y1, .str "i", .str "ab", .ref y2, .ref y3])) y3 = some (.lst [.str "Num"]) := Same.new hy4 _ _ upd_same
        have k4 : (L2.upd (L2.upd (L2.upd (L2.upd H4 y1 (.tup [])) y2 (.tup [.str "Nil"])) y3 (.lst [.str "Num"])) y4 (.tup [.non, .int 5, .ref y1, .str "i", .str "ab", .ref y2, .ref y3])) y4 = some (.tup [.non, .int 5, .ref y1, .str "i", .str "ab", .ref y2, .ref y3]) := upd_same
        generalize L2.upd (L2.upd (L2.upd (L2.upd H4 y1 (.tup [])) y2 (.tup [.str "Nil"])) y3 (.lst [.str "Num"])) y4 (.tup [.non, .int 5, .ref y1, .str "i", .str "ab", .ref y2, .ref y3]) = H5 at t1 k1 k2 k3 k4 ⊢
        have hW5 := hW4.same t1
        have fm := fmt_all hc8 k1 k2 k3
        clear t1 hy1 hy2 hy3 hy4 k1 k2 k3 hW4
        refine ⟨y4, rfl, ⟨_, SqT.of k4⟩, for_tup (K := K) (a := y4) (xs := [.non, .int 5, .ref y1, .str "i", .str "ab", .ref y2, .ref y3]) (fun i σ H' => ∃ v12 : Option V, σ = [some (.ref a), some (.ref t), some u, v3, v4, some v, v6, v7, v8, v9, v10, some (.ref l2), v12] ∧ Same H5 H')
          ⟨none, rfl, Same.refl _⟩ (fun i σ H' _ ⟨_, _, s⟩ => Same.tup s (SqT.of k4)) ?_ ?_⟩
        · rintro i x σ H6 hi ⟨v12, rfl, s6⟩
          have hm := List.mem_of_getElem? hi
          refine ⟨_, rfl, _, rfl, (by decide : 2 ≤ sizeLine), fun p hp => ⟨1, p, u, _, W, rfl, upd_same, (hW5.same s6).same (Same.new hp), wg, .inr ⟨rfl, (fm x hm).same (Same.trans s6 (Same.new hp)), fun q2 H7 s7 h7 => ?_⟩⟩⟩
          refine ⟨"sort", 1, rfl, .inr ⟨rfl, rfl⟩, fun q3 H8 s8 h8 => ⟨rai 1, rai 1, dp_rai (s8 _ _ h7), dp_rai h8, rai_ok.2.1, rai_ok.2.1, _, rfl, iteE (c := false) (by rw [rai_ok.2.2.2]; rfl) (iteF ?_)⟩⟩
          exact ⟨_, rfl, Same.trans s6 (Same.trans (Same.new hp) (Same.trans s7 s8))⟩
        · rintro σ H6 ⟨v12, rfl, s6⟩
          have hf : Fit 13 (.nm [104]) := trivial
          have ph : parse W.cons [104] = some (.nm [104]) := by
            have := parse_text wg.cok hf (h_good W.cons) (by rw [size]; decide)
            rw [h_text] at this
            exact this
          refine ⟨_, rfl, (by decide : 2 ≤ sizeLine), fun p hp => ⟨0, p, u, _, W, rfl, upd_same, (hW5.same s6).same (Same.new hp), wg, .inl ⟨rfl, .inl ⟨[104], .nm [104], by rw [str_i.2.2.2], by decide, ph, fun q2 H7 w7 s7 a7 h7 => ?_⟩⟩⟩⟩
          refine ⟨(by decide : 2 ≤ sizeLine), fun q3 hq3 => ⟨ret (.nm [104]), .tuple [.str "returned", .str "h"], dp_ret (Same.new hq3 _ _ h7) (a7.same (Same.new hq3)), .tup (SqT.of upd_same) (.cons (.str _) (.cons (.str _) .nil)), (ret_shaped clr (h_good _) hf).1, by decide +kernel, ?_⟩⟩
          have e : PyData.eqv (ret (.nm [104])) (.tuple [.str "returned", .str "h"]) = true := by decide +kernel
          have g := q (L2.upd H7 q3 (.tup [.str "returned", .str "h"]))
          rw [← e] at g
          exact g
end
end Ts

/-! What the top has written; the law's def. -/
namespace Ts
open PySem PySem.Spec PyProof.Rows L2
def DefF (K : PySem.W.Frag) (x : Str) (st : Stmt) : Prop := ∃ (f : Addr) (fd : FuncData), PySem.W.nsIn K mainGlobals x = some (some (.ref f)) ∧ Fun K x x st f fd
theorem defF {K : PySem.W.Frag} {x : Str} {st : Stmt} {f : Addr} {oc : Value} {od an : Option Addr} {osl : Array (Option Value)} {kV doc pm cdv ct : Value} (a : PySem.W.nsIn K mainGlobals x = some (some (.ref f)))
    (l : K.lookup f = some ⟨oc, od, .func (PySem.W.fnOf x x (defArgs st) (defBody st) (defScope st) .none kV doc pm an cdv ct), osl⟩) (c : PySem.W.codeIn K cdv x = true) (k : PySem.W.keepIn K (.ref f) = true) : DefF K x st := ⟨f, _, a, fun_mk l c k⟩
theorem DefF.dn {K : PySem.W.Frag} {x : Str} {st : Stmt} {h : Heap} {mg : Str → Option Value} (X : K.In h) (G : h.Ns mainGlobals mg) (d : DefF K x st) : Dn K mg x st := by
  obtain ⟨f, fd, a, F⟩ := d
  exact ⟨⟨f, fd, F, PySem.W.mg_of X G a⟩⟩
theorem kit_of {K : PySem.W.Frag} {D c : Addr} {b : Bool} (hs : PySem.W.subIn K (.ref D) (.ref D) = some true) (i : PySem.W.isClsIn K c = true) (t : PySem.W.typeIn K (.ref c) = some (.type "type")) (u : PySem.W.subIn K (.ref D) (.ref c) = some b) : PySem.W.kitOne K (.ref D) (.ref c) = some b := by
  unfold PySem.W.kitOne
  by_cases e : D = c
  · subst e
    rw [hs] at u
    rw [if_pos (beq_self_eq_true _)]
    exact u
  · have ne : ((Value.ref D) == (Value.ref c)) = false := beq_eq_false_iff_ne.mpr fun z => e (by injection z)
    rw [if_neg (by rw [ne]; exact Bool.false_ne_true)]
    have i' : (PySem.W.clsIn K c).isSome = true := i
    have e2 : ((PySem.W.clsIn K c).isSome && PySem.W.typeIn K (.ref c) == some (.type "type")) = true := by
      rw [i', t]
      rfl
    show (if ((PySem.W.clsIn K c).isSome && PySem.W.typeIn K (.ref c) == some (.type "type")) = true then PySem.W.subIn K (.ref D) (.ref c) else none) = some b
    rw [if_pos e2]
    exact u
theorem kit_val {K : PySem.W.Frag} {D : Addr} (u : PySem.W.subIn K (.ref D) (.type "ValueError") = some true) : PySem.W.kitOne K (.ref D) (.type "ValueError") = some true := by
  show (if ((Value.ref D) == (Value.type "ValueError")) = true then some true else if PySem.W.kitMeta "ValueError" = true then PySem.W.subIn K (.ref D) (.type "ValueError") else none) = some true
  have h : PySem.W.kitMeta "ValueError" = true := by decide +kernel
  rw [if_pos h, u]
  split <;> rfl
theorem exm_of {K : PySem.W.Frag} {D c : Addr} (sb : PySem.W.subIn K (.ref c) (.type "BaseException") = some true) (i : PySem.W.isClsIn K c = true) (t : PySem.W.typeIn K (.ref c) = some (.type "type")) (u : PySem.W.subIn K (.ref D) (.ref c) = some true) : PySem.W.exmOne K (.ref D) (.ref c) = some true := by
  have e1 : (PySem.W.subIn K (.ref c) (.type "BaseException") == some true) = true := by rw [sb]; rfl
  have i' : (PySem.W.clsIn K c).isSome = true := i
  have e2 : ((PySem.W.clsIn K c).isSome && PySem.W.typeIn K (.ref c) == some (.type "type")) = true := by
    rw [i', t]
    rfl
  show (if (PySem.W.subIn K (.ref c) (.type "BaseException") == some true) = true then (if ((PySem.W.clsIn K c).isSome && PySem.W.typeIn K (.ref c) == some (.type "type")) = true then PySem.W.subIn K (.ref D) (.ref c) else none) else none) = some true
  rw [if_pos e1, if_pos e2]
  exact u
theorem all_mk {l : PySem.W.OpenLaw} {w : PySem.World} {K : PySem.W.Frag} {h : Heap} {mg : Str → Option Value} {fa f_law : Addr} (X : K.In h) (G : h.Ns mainGlobals mg) (hfa : mg "law" = some (.ref fa))
    {t_small t_great t_names : Tok} {c0 c1 c2 c3 c4 c5 c6 c7 c8 c9 c10 c11 c12 c13 c14 c15 c16 c17 c18 c19 c20 c21 c22 c23 c24 : Addr} {od an : Option Addr} {sl : Array (Option Value)} {oc kV dc pm cd ct : Value}
    (d_is_between : DefF K "is_between" sIsBetween)
    (d_are_small : DefF K "are_small" sAreSmall)
    (d_is_constructor : DefF K "is_constructor" sIsConstructor)
    (d_are_traits : DefF K "are_traits" sAreTraits)
    (d_is_world : DefF K "is_world" sIsWorld)
    (d_check_world : DefF K "check_world" sCheckWorld)
    (d_is_sort_with : DefF K "is_sort_with" sIsSortWith)
    (d_size_in : DefF K "size_in" sSizeIn)
    (d_check_sort : DefF K "check_sort" sCheckSort)
    (d_sort_text : DefF K "sort_text" sSortText)
    (d_format_sort : DefF K "format_sort" sFormatSort)
    (d_pieces_of : DefF K "pieces_of" sPiecesOf)
    (d_read_sort : DefF K "read_sort" sReadSort)
    (d_parse_sort : DefF K "parse_sort" sParseSort)
    (d_law_town : DefF K "_law_town" sLawTown)
    (d_law_draw : DefF K "_law_draw" sLawDraw)
    (d_law_pick : DefF K "_law_pick" sLawPick)
    (d_law_outcome : DefF K "_law_outcome" sLawOutcome)
    (d_law_name : DefF K "_law_name" sLawName)
    (d_law_raises : DefF K "_law_raises" sLawRaises)
    (d_law_world : DefF K "_law_world" sLawWorld)
    (d_law_call : DefF K "_law_call" sLawCall)
    (d_law_named : DefF K "_law_named" sLawNamed)
    (d_law_line : DefF K "_law_line" sLawLine)
    (d_law_is : DefF K "_law_is" sLawIs)
    (b_isi : PySem.W.nsIn K mainGlobals "isinstance" = some none)
    (b_int : PySem.W.nsIn K mainGlobals "int" = some none)
    (b_bool : PySem.W.nsIn K mainGlobals "bool" = some none)
    (b_str : PySem.W.nsIn K mainGlobals "str" = some none)
    (b_tup : PySem.W.nsIn K mainGlobals "tuple" = some none)
    (b_lst : PySem.W.nsIn K mainGlobals "list" = some none)
    (b_dict : PySem.W.nsIn K mainGlobals "dict" = some none)
    (b_len : PySem.W.nsIn K mainGlobals "len" = some none)
    (b_all : PySem.W.nsIn K mainGlobals "all" = some none)
    (b_any : PySem.W.nsIn K mainGlobals "any" = some none)
    (b_sum : PySem.W.nsIn K mainGlobals "sum" = some none)
    (b_max : PySem.W.nsIn K mainGlobals "max" = some none)
    (b_sorted : PySem.W.nsIn K mainGlobals "sorted" = some none)
    (b_range : PySem.W.nsIn K mainGlobals "range" = some none)
    (b_val : PySem.W.nsIn K mainGlobals "ValueError" = some none)
    (s_small : PySem.W.nsIn K mainGlobals "SMALL" = some (some (.str "abcdefghijklmnopqrstuvwxyz" t_small)))
    (s_great : PySem.W.nsIn K mainGlobals "GREAT" = some (some (.str "ABCDEFGHIJKLMNOPQRSTUVWXYZ" t_great)))
    (s_names : PySem.W.nsIn K mainGlobals "NAMES" = some (some (.str "abcdefgh" t_names)))
    (n0 : PySem.W.nsIn K mainGlobals "InvalidWorld" = some (some (.ref c0)))
    (i0 : PySem.W.isClsIn K c0 = true)
    (t0 : PySem.W.typeIn K (.ref c0) = some (.type "type"))
    (n1 : PySem.W.nsIn K mainGlobals "InvalidSort" = some (some (.ref c1)))
    (i1 : PySem.W.isClsIn K c1 = true)
    (t1 : PySem.W.typeIn K (.ref c1) = some (.type "type"))
    (n2 : PySem.W.nsIn K mainGlobals "InvalidTrait" = some (some (.ref c2)))
    (i2 : PySem.W.isClsIn K c2 = true)
    (t2 : PySem.W.typeIn K (.ref c2) = some (.type "type"))
    (n3 : PySem.W.nsIn K mainGlobals "InvalidInstance" = some (some (.ref c3)))
    (i3 : PySem.W.isClsIn K c3 = true)
    (t3 : PySem.W.typeIn K (.ref c3) = some (.type "type"))
    (n4 : PySem.W.nsIn K mainGlobals "InvalidSet" = some (some (.ref c4)))
    (i4 : PySem.W.isClsIn K c4 = true)
    (t4 : PySem.W.typeIn K (.ref c4) = some (.type "type"))
    (n5 : PySem.W.nsIn K mainGlobals "InvalidNumber" = some (some (.ref c5)))
    (i5 : PySem.W.isClsIn K c5 = true)
    (t5 : PySem.W.typeIn K (.ref c5) = some (.type "type"))
    (n6 : PySem.W.nsIn K mainGlobals "InvalidSize" = some (some (.ref c6)))
    (i6 : PySem.W.isClsIn K c6 = true)
    (t6 : PySem.W.typeIn K (.ref c6) = some (.type "type"))
    (n7 : PySem.W.nsIn K mainGlobals "InvalidGranted" = some (some (.ref c7)))
    (i7 : PySem.W.isClsIn K c7 = true)
    (t7 : PySem.W.typeIn K (.ref c7) = some (.type "type"))
    (n8 : PySem.W.nsIn K mainGlobals "InvalidPairs" = some (some (.ref c8)))
    (i8 : PySem.W.isClsIn K c8 = true)
    (t8 : PySem.W.typeIn K (.ref c8) = some (.type "type"))
    (n9 : PySem.W.nsIn K mainGlobals "InvalidStock" = some (some (.ref c9)))
    (i9 : PySem.W.isClsIn K c9 = true)
    (t9 : PySem.W.typeIn K (.ref c9) = some (.type "type"))
    (n10 : PySem.W.nsIn K mainGlobals "InvalidWanted" = some (some (.ref c10)))
    (i10 : PySem.W.isClsIn K c10 = true)
    (t10 : PySem.W.typeIn K (.ref c10) = some (.type "type"))
    (n11 : PySem.W.nsIn K mainGlobals "InvalidChoice" = some (some (.ref c11)))
    (i11 : PySem.W.isClsIn K c11 = true)
    (t11 : PySem.W.typeIn K (.ref c11) = some (.type "type"))
    (n12 : PySem.W.nsIn K mainGlobals "InvalidLibrary" = some (some (.ref c12)))
    (i12 : PySem.W.isClsIn K c12 = true)
    (t12 : PySem.W.typeIn K (.ref c12) = some (.type "type"))
    (n13 : PySem.W.nsIn K mainGlobals "InvalidModule" = some (some (.ref c13)))
    (i13 : PySem.W.isClsIn K c13 = true)
    (t13 : PySem.W.typeIn K (.ref c13) = some (.type "type"))
    (n14 : PySem.W.nsIn K mainGlobals "InvalidProgram" = some (some (.ref c14)))
    (i14 : PySem.W.isClsIn K c14 = true)
    (t14 : PySem.W.typeIn K (.ref c14) = some (.type "type"))
    (n15 : PySem.W.nsIn K mainGlobals "InvalidArguments" = some (some (.ref c15)))
    (i15 : PySem.W.isClsIn K c15 = true)
    (t15 : PySem.W.typeIn K (.ref c15) = some (.type "type"))
    (n16 : PySem.W.nsIn K mainGlobals "InvalidText" = some (some (.ref c16)))
    (i16 : PySem.W.isClsIn K c16 = true)
    (t16 : PySem.W.typeIn K (.ref c16) = some (.type "type"))
    (n17 : PySem.W.nsIn K mainGlobals "Tangled" = some (some (.ref c17)))
    (i17 : PySem.W.isClsIn K c17 = true)
    (t17 : PySem.W.typeIn K (.ref c17) = some (.type "type"))
    (n18 : PySem.W.nsIn K mainGlobals "Unsound" = some (some (.ref c18)))
    (i18 : PySem.W.isClsIn K c18 = true)
    (t18 : PySem.W.typeIn K (.ref c18) = some (.type "type"))
    (n19 : PySem.W.nsIn K mainGlobals "Unclear" = some (some (.ref c19)))
    (i19 : PySem.W.isClsIn K c19 = true)
    (t19 : PySem.W.typeIn K (.ref c19) = some (.type "type"))
    (n20 : PySem.W.nsIn K mainGlobals "Unchecked" = some (some (.ref c20)))
    (i20 : PySem.W.isClsIn K c20 = true)
    (t20 : PySem.W.typeIn K (.ref c20) = some (.type "type"))
    (n21 : PySem.W.nsIn K mainGlobals "NotHolding" = some (some (.ref c21)))
    (i21 : PySem.W.isClsIn K c21 = true)
    (t21 : PySem.W.typeIn K (.ref c21) = some (.type "type"))
    (n22 : PySem.W.nsIn K mainGlobals "TooMany" = some (some (.ref c22)))
    (i22 : PySem.W.isClsIn K c22 = true)
    (t22 : PySem.W.typeIn K (.ref c22) = some (.type "type"))
    (n23 : PySem.W.nsIn K mainGlobals "NothingToUndo" = some (some (.ref c23)))
    (i23 : PySem.W.isClsIn K c23 = true)
    (t23 : PySem.W.typeIn K (.ref c23) = some (.type "type"))
    (n24 : PySem.W.nsIn K mainGlobals "TraitError" = some (some (.ref c24)))
    (i24 : PySem.W.isClsIn K c24 = true)
    (t24 : PySem.W.typeIn K (.ref c24) = some (.type "type"))
    (x16_new : PySem.W.excIn K c16 [.type "ValueError", .type "Exception", .type "BaseException", .type "object"] "ValueError.__new__" = true)
    (x16_kp : PySem.W.keepIn K (.ref c16) = true)
    (x16_sb : PySem.W.subIn K (.ref c16) (.type "BaseException") = some true)
    (x16_sv : PySem.W.subIn K (.ref c16) (.type "ValueError") = some true)
    (x16_hg : PySem.W.findIn K (.ref c16) "__getattribute__" = some (some (.builtin "BaseException.__getattribute__")))
    (x16_hk : PySem.W.findIn K (.ref c16) "__getattr__" = some none)
    (x16_hd : PySem.W.hasDictIn K c16 = true)
    (x16_ha : PySem.W.findIn K (.ref c16) "__class__" = some (some (.builtin "object.__class__")))
    (x16_hm : PySem.W.mroIn K c16 (.type "object") = some true)
    (u16_0 : PySem.W.subIn K (.ref c16) (.ref c0) = some false)
    (u16_1 : PySem.W.subIn K (.ref c16) (.ref c1) = some false)
    (u16_2 : PySem.W.subIn K (.ref c16) (.ref c2) = some false)
    (u16_3 : PySem.W.subIn K (.ref c16) (.ref c3) = some false)
    (u16_4 : PySem.W.subIn K (.ref c16) (.ref c4) = some false)
    (u16_5 : PySem.W.subIn K (.ref c16) (.ref c5) = some false)
    (u16_6 : PySem.W.subIn K (.ref c16) (.ref c6) = some false)
    (u16_7 : PySem.W.subIn K (.ref c16) (.ref c7) = some false)
    (u16_8 : PySem.W.subIn K (.ref c16) (.ref c8) = some false)
    (u16_9 : PySem.W.subIn K (.ref c16) (.ref c9) = some false)
    (u16_10 : PySem.W.subIn K (.ref c16) (.ref c10) = some false)
    (u16_11 : PySem.W.subIn K (.ref c16) (.ref c11) = some false)
    (u16_12 : PySem.W.subIn K (.ref c16) (.ref c12) = some false)
    (u16_13 : PySem.W.subIn K (.ref c16) (.ref c13) = some false)
    (u16_14 : PySem.W.subIn K (.ref c16) (.ref c14) = some false)
    (u16_15 : PySem.W.subIn K (.ref c16) (.ref c15) = some false)
    (u16_16 : PySem.W.subIn K (.ref c16) (.ref c16) = some true)
    (u16_17 : PySem.W.subIn K (.ref c16) (.ref c17) = some false)
    (u16_18 : PySem.W.subIn K (.ref c16) (.ref c18) = some false)
    (u16_19 : PySem.W.subIn K (.ref c16) (.ref c19) = some false)
    (u16_20 : PySem.W.subIn K (.ref c16) (.ref c20) = some false)
    (u16_21 : PySem.W.subIn K (.ref c16) (.ref c21) = some false)
    (u16_22 : PySem.W.subIn K (.ref c16) (.ref c22) = some false)
    (u16_23 : PySem.W.subIn K (.ref c16) (.ref c23) = some false)
    (u16_24 : PySem.W.subIn K (.ref c16) (.ref c24) = some true)
    (x1_new : PySem.W.excIn K c1 [.type "ValueError", .type "Exception", .type "BaseException", .type "object"] "ValueError.__new__" = true)
    (x1_kp : PySem.W.keepIn K (.ref c1) = true)
    (x1_sb : PySem.W.subIn K (.ref c1) (.type "BaseException") = some true)
    (x1_sv : PySem.W.subIn K (.ref c1) (.type "ValueError") = some true)
    (x1_hg : PySem.W.findIn K (.ref c1) "__getattribute__" = some (some (.builtin "BaseException.__getattribute__")))
    (x1_hk : PySem.W.findIn K (.ref c1) "__getattr__" = some none)
    (x1_hd : PySem.W.hasDictIn K c1 = true)
    (x1_ha : PySem.W.findIn K (.ref c1) "__class__" = some (some (.builtin "object.__class__")))
    (x1_hm : PySem.W.mroIn K c1 (.type "object") = some true)
    (u1_0 : PySem.W.subIn K (.ref c1) (.ref c0) = some false)
    (u1_1 : PySem.W.subIn K (.ref c1) (.ref c1) = some true)
    (u1_2 : PySem.W.subIn K (.ref c1) (.ref c2) = some false)
    (u1_3 : PySem.W.subIn K (.ref c1) (.ref c3) = some false)
    (u1_4 : PySem.W.subIn K (.ref c1) (.ref c4) = some false)
    (u1_5 : PySem.W.subIn K (.ref c1) (.ref c5) = some false)
    (u1_6 : PySem.W.subIn K (.ref c1) (.ref c6) = some false)
    (u1_7 : PySem.W.subIn K (.ref c1) (.ref c7) = some false)
    (u1_8 : PySem.W.subIn K (.ref c1) (.ref c8) = some false)
    (u1_9 : PySem.W.subIn K (.ref c1) (.ref c9) = some false)
    (u1_10 : PySem.W.subIn K (.ref c1) (.ref c10) = some false)
    (u1_11 : PySem.W.subIn K (.ref c1) (.ref c11) = some false)
    (u1_12 : PySem.W.subIn K (.ref c1) (.ref c12) = some false)
    (u1_13 : PySem.W.subIn K (.ref c1) (.ref c13) = some false)
    (u1_14 : PySem.W.subIn K (.ref c1) (.ref c14) = some false)
    (u1_15 : PySem.W.subIn K (.ref c1) (.ref c15) = some false)
    (u1_16 : PySem.W.subIn K (.ref c1) (.ref c16) = some false)
    (u1_17 : PySem.W.subIn K (.ref c1) (.ref c17) = some false)
    (u1_18 : PySem.W.subIn K (.ref c1) (.ref c18) = some false)
    (u1_19 : PySem.W.subIn K (.ref c1) (.ref c19) = some false)
    (u1_20 : PySem.W.subIn K (.ref c1) (.ref c20) = some false)
    (u1_21 : PySem.W.subIn K (.ref c1) (.ref c21) = some false)
    (u1_22 : PySem.W.subIn K (.ref c1) (.ref c22) = some false)
    (u1_23 : PySem.W.subIn K (.ref c1) (.ref c23) = some false)
    (u1_24 : PySem.W.subIn K (.ref c1) (.ref c24) = some true)
    (te_sb : PySem.W.subIn K (.ref c24) (.type "BaseException") = some true)
    (g_get : PySem.W.specialIn K (.builtin "object.__class__") "__get__" = some (some (.builtin "getset_descriptor.__get__")))
    (g_tk : PySem.W.takesIn K (.builtin "object.__class__") = some true)
    (a_law : PySem.W.nsIn K mainGlobals "law" = some (some (.ref f_law)))
    (l_law : K.lookup f_law = some ⟨oc, od, .func (PySem.W.fnOf "law" "law" (defArgs sLaw) (defBody sLaw) (defScope sLaw) .none kV dc pm an cd ct), sl⟩)
    (c_law : PySem.W.codeIn K cd "law" = true)
    (k_law : PySem.W.keepIn K (.ref f_law) = true)
    : ∃ fd : FuncData, (∀ (s : Shared) (v : Value), BindsTo s fd ⟨[v], []⟩ [("_law_script", v)]) ∧ ∀ base : Heap, K.In base → base.Ns mainGlobals mg → FnOk l.prog w K mg base CX0 19 fa fd ["_law_script"] (spLaw K) := by
  have e := hfa.symm.trans (PySem.W.mg_of X G a_law)
  cases e
  have T : Txt mg := {
    isi := PySem.W.mg_none_of X G b_isi
    int := PySem.W.mg_none_of X G b_int
    bool := PySem.W.mg_none_of X G b_bool
    str := PySem.W.mg_none_of X G b_str
    tup := PySem.W.mg_none_of X G b_tup
    lst := PySem.W.mg_none_of X G b_lst
    dict := PySem.W.mg_none_of X G b_dict
    len := PySem.W.mg_none_of X G b_len
    all := PySem.W.mg_none_of X G b_all
    any := PySem.W.mg_none_of X G b_any
    sum := PySem.W.mg_none_of X G b_sum
    max := PySem.W.mg_none_of X G b_max
    sorted := PySem.W.mg_none_of X G b_sorted
    range := PySem.W.mg_none_of X G b_range
    val := PySem.W.mg_none_of X G b_val
    small := ⟨_, PySem.W.mg_of X G s_small⟩
    great := ⟨_, PySem.W.mg_of X G s_great⟩
    names := ⟨_, PySem.W.mg_of X G s_names⟩
  }
  have E16 : Ec K mg "InvalidText" c16 := ⟨PySem.W.mg_of X G n16, x16_new, x16_kp, x16_sb, t16⟩
  have Z16 : Er K mg c16 16 := by
    refine ⟨⟨x16_hg, x16_hk, x16_sb, x16_hd, x16_ha, g_get, g_tk, x16_hm⟩, kit_val x16_sv, fun k x hx => ?_⟩
    match k, hx with
    | 0, hx => cases hx; exact ⟨c0, PySem.W.mg_of X G n0, kit_of u16_16 i0 t0 u16_0⟩
    | 1, hx => cases hx; exact ⟨c1, PySem.W.mg_of X G n1, kit_of u16_16 i1 t1 u16_1⟩
    | 2, hx => cases hx; exact ⟨c2, PySem.W.mg_of X G n2, kit_of u16_16 i2 t2 u16_2⟩
    | 3, hx => cases hx; exact ⟨c3, PySem.W.mg_of X G n3, kit_of u16_16 i3 t3 u16_3⟩
    | 4, hx => cases hx; exact ⟨c4, PySem.W.mg_of X G n4, kit_of u16_16 i4 t4 u16_4⟩
    | 5, hx => cases hx; exact ⟨c5, PySem.W.mg_of X G n5, kit_of u16_16 i5 t5 u16_5⟩
    | 6, hx => cases hx; exact ⟨c6, PySem.W.mg_of X G n6, kit_of u16_16 i6 t6 u16_6⟩
    | 7, hx => cases hx; exact ⟨c7, PySem.W.mg_of X G n7, kit_of u16_16 i7 t7 u16_7⟩
    | 8, hx => cases hx; exact ⟨c8, PySem.W.mg_of X G n8, kit_of u16_16 i8 t8 u16_8⟩
    | 9, hx => cases hx; exact ⟨c9, PySem.W.mg_of X G n9, kit_of u16_16 i9 t9 u16_9⟩
    | 10, hx => cases hx; exact ⟨c10, PySem.W.mg_of X G n10, kit_of u16_16 i10 t10 u16_10⟩
    | 11, hx => cases hx; exact ⟨c11, PySem.W.mg_of X G n11, kit_of u16_16 i11 t11 u16_11⟩
    | 12, hx => cases hx; exact ⟨c12, PySem.W.mg_of X G n12, kit_of u16_16 i12 t12 u16_12⟩
    | 13, hx => cases hx; exact ⟨c13, PySem.W.mg_of X G n13, kit_of u16_16 i13 t13 u16_13⟩
    | 14, hx => cases hx; exact ⟨c14, PySem.W.mg_of X G n14, kit_of u16_16 i14 t14 u16_14⟩
    | 15, hx => cases hx; exact ⟨c15, PySem.W.mg_of X G n15, kit_of u16_16 i15 t15 u16_15⟩
    | 16, hx => cases hx; exact ⟨c16, PySem.W.mg_of X G n16, kit_of u16_16 i16 t16 u16_16⟩
    | 17, hx => cases hx; exact ⟨c17, PySem.W.mg_of X G n17, kit_of u16_16 i17 t17 u16_17⟩
    | 18, hx => cases hx; exact ⟨c18, PySem.W.mg_of X G n18, kit_of u16_16 i18 t18 u16_18⟩
    | 19, hx => cases hx; exact ⟨c19, PySem.W.mg_of X G n19, kit_of u16_16 i19 t19 u16_19⟩
    | 20, hx => cases hx; exact ⟨c20, PySem.W.mg_of X G n20, kit_of u16_16 i20 t20 u16_20⟩
    | 21, hx => cases hx; exact ⟨c21, PySem.W.mg_of X G n21, kit_of u16_16 i21 t21 u16_21⟩
    | 22, hx => cases hx; exact ⟨c22, PySem.W.mg_of X G n22, kit_of u16_16 i22 t22 u16_22⟩
    | 23, hx => cases hx; exact ⟨c23, PySem.W.mg_of X G n23, kit_of u16_16 i23 t23 u16_23⟩
    | k + 24, hx => simp [cls24] at hx
  have E1 : Ec K mg "InvalidSort" c1 := ⟨PySem.W.mg_of X G n1, x1_new, x1_kp, x1_sb, t1⟩
  have Z1 : Er K mg c1 1 := by
    refine ⟨⟨x1_hg, x1_hk, x1_sb, x1_hd, x1_ha, g_get, g_tk, x1_hm⟩, kit_val x1_sv, fun k x hx => ?_⟩
    match k, hx with
    | 0, hx => cases hx; exact ⟨c0, PySem.W.mg_of X G n0, kit_of u1_1 i0 t0 u1_0⟩
    | 1, hx => cases hx; exact ⟨c1, PySem.W.mg_of X G n1, kit_of u1_1 i1 t1 u1_1⟩
    | 2, hx => cases hx; exact ⟨c2, PySem.W.mg_of X G n2, kit_of u1_1 i2 t2 u1_2⟩
    | 3, hx => cases hx; exact ⟨c3, PySem.W.mg_of X G n3, kit_of u1_1 i3 t3 u1_3⟩
    | 4, hx => cases hx; exact ⟨c4, PySem.W.mg_of X G n4, kit_of u1_1 i4 t4 u1_4⟩
    | 5, hx => cases hx; exact ⟨c5, PySem.W.mg_of X G n5, kit_of u1_1 i5 t5 u1_5⟩
    | 6, hx => cases hx; exact ⟨c6, PySem.W.mg_of X G n6, kit_of u1_1 i6 t6 u1_6⟩
    | 7, hx => cases hx; exact ⟨c7, PySem.W.mg_of X G n7, kit_of u1_1 i7 t7 u1_7⟩
    | 8, hx => cases hx; exact ⟨c8, PySem.W.mg_of X G n8, kit_of u1_1 i8 t8 u1_8⟩
    | 9, hx => cases hx; exact ⟨c9, PySem.W.mg_of X G n9, kit_of u1_1 i9 t9 u1_9⟩
    | 10, hx => cases hx; exact ⟨c10, PySem.W.mg_of X G n10, kit_of u1_1 i10 t10 u1_10⟩
    | 11, hx => cases hx; exact ⟨c11, PySem.W.mg_of X G n11, kit_of u1_1 i11 t11 u1_11⟩
    | 12, hx => cases hx; exact ⟨c12, PySem.W.mg_of X G n12, kit_of u1_1 i12 t12 u1_12⟩
    | 13, hx => cases hx; exact ⟨c13, PySem.W.mg_of X G n13, kit_of u1_1 i13 t13 u1_13⟩
    | 14, hx => cases hx; exact ⟨c14, PySem.W.mg_of X G n14, kit_of u1_1 i14 t14 u1_14⟩
    | 15, hx => cases hx; exact ⟨c15, PySem.W.mg_of X G n15, kit_of u1_1 i15 t15 u1_15⟩
    | 16, hx => cases hx; exact ⟨c16, PySem.W.mg_of X G n16, kit_of u1_1 i16 t16 u1_16⟩
    | 17, hx => cases hx; exact ⟨c17, PySem.W.mg_of X G n17, kit_of u1_1 i17 t17 u1_17⟩
    | 18, hx => cases hx; exact ⟨c18, PySem.W.mg_of X G n18, kit_of u1_1 i18 t18 u1_18⟩
    | 19, hx => cases hx; exact ⟨c19, PySem.W.mg_of X G n19, kit_of u1_1 i19 t19 u1_19⟩
    | 20, hx => cases hx; exact ⟨c20, PySem.W.mg_of X G n20, kit_of u1_1 i20 t20 u1_20⟩
    | 21, hx => cases hx; exact ⟨c21, PySem.W.mg_of X G n21, kit_of u1_1 i21 t21 u1_21⟩
    | 22, hx => cases hx; exact ⟨c22, PySem.W.mg_of X G n22, kit_of u1_1 i22 t22 u1_22⟩
    | 23, hx => cases hx; exact ⟨c23, PySem.W.mg_of X G n23, kit_of u1_1 i23 t23 u1_23⟩
    | k + 24, hx => simp [cls24] at hx
  refine ⟨PySem.W.fnOf "law" "law" (defArgs sLaw) (defBody sLaw) (defScope sLaw) .none kV dc pm an cd ct, fun s v => .of_eq rfl, fun base _ _ => ?_⟩
  have A1 := ok_is_between (P := l.prog) (w := w) (base := base) T (d_is_between.dn X G)
  have A2 := ok_are_small (P := l.prog) (w := w) (base := base) T (d_are_small.dn X G)
  have A3 := ok_is_constructor T (d_is_constructor.dn X G) A2 A1
  have A4 := ok_are_traits T (d_are_traits.dn X G) A2
  have A5 := ok_is_world T (d_is_world.dn X G) A3 A4
  have A6 := ok_check_world T (d_check_world.dn X G) A5
  have B1 := ok_is_sort_with (P := l.prog) (w := w) (base := base) T (d_is_sort_with.dn X G) 13
  have BJ := ok_is_sort_withJ (P := l.prog) (w := w) (base := base) T (d_is_sort_with.dn X G)
  have B2 := ok_size_in (P := l.prog) (w := w) (base := base) T (d_size_in.dn X G) 13
  have B3 := ok_sort_text (P := l.prog) (w := w) (base := base) T (d_sort_text.dn X G) 13
  have B4 := ok_pieces_of (P := l.prog) (w := w) (base := base) T (d_pieces_of.dn X G)
  have B5 := ok_read_sort T (d_read_sort.dn X G) B4 12
  have B6 := ok_check_sort T (d_check_sort.dn X G) E1 B1 BJ B2
  have B7 := ok_format_sort T (d_format_sort.dn X G) A6 B6 B3
  have B8 := ok_parse_sort T (d_parse_sort.dn X G) E16 A6 B5 B1 B2 B3
  have B9 := ok_law_call T (d_law_call.dn X G) B8 B7
  have N1 := ok_name (P := l.prog) (w := w) (base := base) T (d_law_name.dn X G)
  have O1 := ok_out (ok_outcome (d_law_outcome.dn X G) (PySem.W.mg_of X G n24) (exm_of te_sb i24 t24 u16_24) (exm_of te_sb i24 t24 u1_24) Z16 Z1 B9 N1)
  have R1 := ok_raises (P := l.prog) (w := w) (base := base) (d_law_raises.dn X G)
  have L1 := ok_law_line (P := l.prog) (w := w) (base := base) T (d_law_line.dn X G) 13
  have L2_ := ok_law_is (P := l.prog) (w := w) (base := base) T (d_law_is.dn X G) 13
  have D1 := fun ns => ok_town (P := l.prog) (w := w) (base := base) (ns := ns) T (d_law_town.dn X G)
  have D2 := fun ns => ok_draw (P := l.prog) (w := w) (base := base) (ns := ns) T (d_law_draw.dn X G)
  have D3 := fun ns => ok_pick T (d_law_pick.dn X G) (D2 ns)
  have D4 := fun ns => ok_law_world T (d_law_world.dn X G) (D2 ns) (D3 ns)
  have D5 := fun ns => ok_named T (d_law_named.dn X G) (D2 ns) (D3 ns) 4
  exact ok_law T (fun_mk (st := sLaw) l_law c_law k_law) D1 D2 D3 D4 D5 L1 L2_ B7 O1 R1
theorem walk {l : PySem.W.OpenLaw} {q : Program} {loose : List Str} {XP : (Str → Option Value) → Heap → Prop} {YP : PySem.World → Heap → Prop} {d : DefRec} {K : Params → PySem.W.Frag} (hn : l.most = some 63) (hdf : d.params.defaults = [])
    (hY : ∀ (w : PySem.World) (h : Heap), YP w h → (K w.params).In h)
    (F : ∀ (w : PySem.World) (mg : Str → Option Value) (fa : Addr) (h : Heap), (K w.params).In h → h.Ns mainGlobals mg → mg d.name = some (.ref fa) →
      ∃ fd : FuncData, (∀ (s : Shared) (u : Value), BindsTo s fd ⟨[u], []⟩ [("_law_script", u)]) ∧ ∀ base : Heap, (K w.params).In base → base.Ns mainGlobals mg → FnOk l.prog w (K w.params) mg base CX0 19 fa fd ["_law_script"] (spLaw (K w.params))) :
    PySem.W.WalkO q loose XP YP l.row.toRowW d [] (fun f vs => PySem.call f vs) :=
  L2.walk_of (n := 63) (k := 19) (x := "_law_script") (CX := fun _ => CX0) (sp := fun w => spLaw (K w.params)) hn (by decide) hdf ⟨rfl, by decide, by decide⟩ hY F (fun _ _ a ns hl _ hS => ⟨a, ns, rfl, hS, by omega, fun _ => rfl⟩) fun _ _ _ _ _ z => z
end Ts

open PySem PySem.W PyProof.Rows in
set_option maxRecDepth 100000 in
set_option maxHeartbeats 0 in
theorem PySem.Challenge.cw_traitsure_k06_whole_sort_texts_holds : PySem.Challenge.rw_traitsure_k06_whole_sort_texts.Holds := by
  w_on; o_law; k_head; (case hw => w_witness2)
  k_fill
  refine Ts.walk (l := PySem.Challenge.rw_traitsure_k06_whole_sort_texts) rfl rfl (fun w h Y => PySem.W.kIn_of Y) ?F
  case F =>
    intro w mg fa h KX G hmg
    refine' Ts.all_mk KX G hmg ?d_is_between ?d_are_small ?d_is_constructor ?d_are_traits ?d_is_world ?d_check_world ?d_is_sort_with ?d_size_in ?d_check_sort ?d_sort_text ?d_format_sort ?d_pieces_of ?d_read_sort ?d_parse_sort ?d_law_town ?d_law_draw ?d_law_pick ?d_law_outcome ?d_law_name ?d_law_raises ?d_law_world ?d_law_call ?d_law_named ?d_law_line ?d_law_is ?b_isi ?b_int ?b_bool ?b_str ?b_tup ?b_lst ?b_dict ?b_len ?b_all ?b_any ?b_sum ?b_max ?b_sorted ?b_range ?b_val ?s_small ?s_great ?s_names ?n0 ?i0 ?t0 ?n1 ?i1 ?t1 ?n2 ?i2 ?t2 ?n3 ?i3 ?t3 ?n4 ?i4 ?t4 ?n5 ?i5 ?t5 ?n6 ?i6 ?t6 ?n7 ?i7 ?t7 ?n8 ?i8 ?t8 ?n9 ?i9 ?t9 ?n10 ?i10 ?t10 ?n11 ?i11 ?t11 ?n12 ?i12 ?t12 ?n13 ?i13 ?t13 ?n14 ?i14 ?t14 ?n15 ?i15 ?t15 ?n16 ?i16 ?t16 ?n17 ?i17 ?t17 ?n18 ?i18 ?t18 ?n19 ?i19 ?t19 ?n20 ?i20 ?t20 ?n21 ?i21 ?t21 ?n22 ?i22 ?t22 ?n23 ?i23 ?t23 ?n24 ?i24 ?t24 ?x16_new ?x16_kp ?x16_sb ?x16_sv ?x16_hg ?x16_hk ?x16_hd ?x16_ha ?x16_hm ?u16_0 ?u16_1 ?u16_2 ?u16_3 ?u16_4 ?u16_5 ?u16_6 ?u16_7 ?u16_8 ?u16_9 ?u16_10 ?u16_11 ?u16_12 ?u16_13 ?u16_14 ?u16_15 ?u16_16 ?u16_17 ?u16_18 ?u16_19 ?u16_20 ?u16_21 ?u16_22 ?u16_23 ?u16_24 ?x1_new ?x1_kp ?x1_sb ?x1_sv ?x1_hg ?x1_hk ?x1_hd ?x1_ha ?x1_hm ?u1_0 ?u1_1 ?u1_2 ?u1_3 ?u1_4 ?u1_5 ?u1_6 ?u1_7 ?u1_8 ?u1_9 ?u1_10 ?u1_11 ?u1_12 ?u1_13 ?u1_14 ?u1_15 ?u1_16 ?u1_17 ?u1_18 ?u1_19 ?u1_20 ?u1_21 ?u1_22 ?u1_23 ?u1_24 ?te_sb ?g_get ?g_tk ?a_law ?l_law ?c_law ?k_law
    (case d_is_between => refine' Ts.defF ?a ?l ?c ?k; (case a => k_is); (case l => k_is); (case c => k_is); (case k => k_is))
    (case d_are_small => refine' Ts.defF ?a ?l ?c ?k; (case a => k_is); (case l => k_is); (case c => k_is); (case k => k_is))
    (case d_is_constructor => refine' Ts.defF ?a ?l ?c ?k; (case a => k_is); (case l => k_is); (case c => k_is); (case k => k_is))
    (case d_are_traits => refine' Ts.defF ?a ?l ?c ?k; (case a => k_is); (case l => k_is); (case c => k_is); (case k => k_is))
    (case d_is_world => refine' Ts.defF ?a ?l ?c ?k; (case a => k_is); (case l => k_is); (case c => k_is); (case k => k_is))
    (case d_check_world => refine' Ts.defF ?a ?l ?c ?k; (case a => k_is); (case l => k_is); (case c => k_is); (case k => k_is))
    (case d_is_sort_with => refine' Ts.defF ?a ?l ?c ?k; (case a => k_is); (case l => k_is); (case c => k_is); (case k => k_is))
    (case d_size_in => refine' Ts.defF ?a ?l ?c ?k; (case a => k_is); (case l => k_is); (case c => k_is); (case k => k_is))
    (case d_check_sort => refine' Ts.defF ?a ?l ?c ?k; (case a => k_is); (case l => k_is); (case c => k_is); (case k => k_is))
    (case d_sort_text => refine' Ts.defF ?a ?l ?c ?k; (case a => k_is); (case l => k_is); (case c => k_is); (case k => k_is))
    (case d_format_sort => refine' Ts.defF ?a ?l ?c ?k; (case a => k_is); (case l => k_is); (case c => k_is); (case k => k_is))
    (case d_pieces_of => refine' Ts.defF ?a ?l ?c ?k; (case a => k_is); (case l => k_is); (case c => k_is); (case k => k_is))
    (case d_read_sort => refine' Ts.defF ?a ?l ?c ?k; (case a => k_is); (case l => k_is); (case c => k_is); (case k => k_is))
    (case d_parse_sort => refine' Ts.defF ?a ?l ?c ?k; (case a => k_is); (case l => k_is); (case c => k_is); (case k => k_is))
    (case d_law_town => refine' Ts.defF ?a ?l ?c ?k; (case a => k_is); (case l => k_is); (case c => k_is); (case k => k_is))
    (case d_law_draw => refine' Ts.defF ?a ?l ?c ?k; (case a => k_is); (case l => k_is); (case c => k_is); (case k => k_is))
    (case d_law_pick => refine' Ts.defF ?a ?l ?c ?k; (case a => k_is); (case l => k_is); (case c => k_is); (case k => k_is))
    (case d_law_outcome => refine' Ts.defF ?a ?l ?c ?k; (case a => k_is); (case l => k_is); (case c => k_is); (case k => k_is))
    (case d_law_name => refine' Ts.defF ?a ?l ?c ?k; (case a => k_is); (case l => k_is); (case c => k_is); (case k => k_is))
    (case d_law_raises => refine' Ts.defF ?a ?l ?c ?k; (case a => k_is); (case l => k_is); (case c => k_is); (case k => k_is))
    (case d_law_world => refine' Ts.defF ?a ?l ?c ?k; (case a => k_is); (case l => k_is); (case c => k_is); (case k => k_is))
    (case d_law_call => refine' Ts.defF ?a ?l ?c ?k; (case a => k_is); (case l => k_is); (case c => k_is); (case k => k_is))
    (case d_law_named => refine' Ts.defF ?a ?l ?c ?k; (case a => k_is); (case l => k_is); (case c => k_is); (case k => k_is))
    (case d_law_line => refine' Ts.defF ?a ?l ?c ?k; (case a => k_is); (case l => k_is); (case c => k_is); (case k => k_is))
    (case d_law_is => refine' Ts.defF ?a ?l ?c ?k; (case a => k_is); (case l => k_is); (case c => k_is); (case k => k_is))
    (case b_isi => k_is)
    (case b_int => k_is)
    (case b_bool => k_is)
    (case b_str => k_is)
    (case b_tup => k_is)
    (case b_lst => k_is)
    (case b_dict => k_is)
    (case b_len => k_is)
    (case b_all => k_is)
    (case b_any => k_is)
    (case b_sum => k_is)
    (case b_max => k_is)
    (case b_sorted => k_is)
    (case b_range => k_is)
    (case b_val => k_is)
    (case s_small => k_is)
    (case s_great => k_is)
    (case s_names => k_is)
    (case n0 => k_is)
    (case i0 => k_is)
    (case t0 => k_is)
    (case n1 => k_is)
    (case i1 => k_is)
    (case t1 => k_is)
    (case n2 => k_is)
    (case i2 => k_is)
    (case t2 => k_is)
    (case n3 => k_is)
    (case i3 => k_is)
    (case t3 => k_is)
    (case n4 => k_is)
    (case i4 => k_is)
    (case t4 => k_is)
    (case n5 => k_is)
    (case i5 => k_is)
    (case t5 => k_is)
    (case n6 => k_is)
    (case i6 => k_is)
    (case t6 => k_is)
    (case n7 => k_is)
    (case i7 => k_is)
    (case t7 => k_is)
    (case n8 => k_is)
    (case i8 => k_is)
    (case t8 => k_is)
    (case n9 => k_is)
    (case i9 => k_is)
    (case t9 => k_is)
    (case n10 => k_is)
    (case i10 => k_is)
    (case t10 => k_is)
    (case n11 => k_is)
    (case i11 => k_is)
    (case t11 => k_is)
    (case n12 => k_is)
    (case i12 => k_is)
    (case t12 => k_is)
    (case n13 => k_is)
    (case i13 => k_is)
    (case t13 => k_is)
    (case n14 => k_is)
    (case i14 => k_is)
    (case t14 => k_is)
    (case n15 => k_is)
    (case i15 => k_is)
    (case t15 => k_is)
    (case n16 => k_is)
    (case i16 => k_is)
    (case t16 => k_is)
    (case n17 => k_is)
    (case i17 => k_is)
    (case t17 => k_is)
    (case n18 => k_is)
    (case i18 => k_is)
    (case t18 => k_is)
    (case n19 => k_is)
    (case i19 => k_is)
    (case t19 => k_is)
    (case n20 => k_is)
    (case i20 => k_is)
    (case t20 => k_is)
    (case n21 => k_is)
    (case i21 => k_is)
    (case t21 => k_is)
    (case n22 => k_is)
    (case i22 => k_is)
    (case t22 => k_is)
    (case n23 => k_is)
    (case i23 => k_is)
    (case t23 => k_is)
    (case n24 => k_is)
    (case i24 => k_is)
    (case t24 => k_is)
    (case x16_new => k_exc)
    (case x16_kp => k_is)
    (case x16_sb => k_is)
    (case x16_sv => k_is)
    (case x16_hg => k_is)
    (case x16_hk => k_is)
    (case x16_hd => k_is)
    (case x16_ha => k_is)
    (case x16_hm => k_is)
    (case u16_0 => k_is)
    (case u16_1 => k_is)
    (case u16_2 => k_is)
    (case u16_3 => k_is)
    (case u16_4 => k_is)
    (case u16_5 => k_is)
    (case u16_6 => k_is)
    (case u16_7 => k_is)
    (case u16_8 => k_is)
    (case u16_9 => k_is)
    (case u16_10 => k_is)
    (case u16_11 => k_is)
    (case u16_12 => k_is)
    (case u16_13 => k_is)
    (case u16_14 => k_is)
    (case u16_15 => k_is)
    (case u16_16 => first | k_is | rfl)
    (case u16_17 => k_is)
    (case u16_18 => k_is)
    (case u16_19 => k_is)
    (case u16_20 => k_is)
    (case u16_21 => k_is)
    (case u16_22 => k_is)
    (case u16_23 => k_is)
    (case u16_24 => k_is)
    (case x1_new => k_exc)
    (case x1_kp => k_is)
    (case x1_sb => k_is)
    (case x1_sv => k_is)
    (case x1_hg => k_is)
    (case x1_hk => k_is)
    (case x1_hd => k_is)
    (case x1_ha => k_is)
    (case x1_hm => k_is)
    (case u1_0 => k_is)
    (case u1_1 => first | k_is | rfl)
    (case u1_2 => k_is)
    (case u1_3 => k_is)
    (case u1_4 => k_is)
    (case u1_5 => k_is)
    (case u1_6 => k_is)
    (case u1_7 => k_is)
    (case u1_8 => k_is)
    (case u1_9 => k_is)
    (case u1_10 => k_is)
    (case u1_11 => k_is)
    (case u1_12 => k_is)
    (case u1_13 => k_is)
    (case u1_14 => k_is)
    (case u1_15 => k_is)
    (case u1_16 => k_is)
    (case u1_17 => k_is)
    (case u1_18 => k_is)
    (case u1_19 => k_is)
    (case u1_20 => k_is)
    (case u1_21 => k_is)
    (case u1_22 => k_is)
    (case u1_23 => k_is)
    (case u1_24 => k_is)
    (case te_sb => k_is)
    (case g_get => k_is)
    (case g_tk => k_is)
    (case a_law => k_is)
    (case l_law => k_is)
    (case c_law => k_is)
    (case k_law => k_is)

