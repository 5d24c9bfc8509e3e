import PyProof.Rows.All
import Wide.All
import OpenK.AllK
import Wide.FinOn
import HandS.ForExc
import HandS.Comp
import HandS.Conv
import HandS.TupAny
import HandS.TupMul
import HandS.IsInst
import HandS.Property
import HandS.Flow
import HandS.Wide
import HandS.TryMany
import HandS.ExcField
import HandS.ExcInit
import HandS.EndBits
import KE.KExcSuper
import HandS.Codes
import HandS.Ends
import HandS.ExcIs
import PySem.Challenge.RW_sameshape_k72_whole_editor_undo_and_redo
/-! The mathematics of an editor: pieces, origins, what a replacement does. No program here. -/
namespace Ed

/-- a piece: elements of the base from s up to e, or inserted ones -/
inductive Pc (α : Type) where
  | kept (s e : Nat)
  | ins (l : List α)

/-- an element's origin -/
inductive Og (α : Type) where
  | base (k : Nat)
  | new (v : α)

variable {α : Type}

def Pc.len : Pc α → Nat
  | .kept s e => e - s
  | .ins l => l.length
def Pc.part : Pc α → Nat → Nat → Pc α
  | .kept s _, a, b => .kept (s + a) (s + b)
  | .ins l, a, b => .ins ((l.take b).drop a)
/-- its bounds are in order, and within n -/
def Pc.fine (n : Nat) : Pc α → Prop
  | .kept s e => s ≤ e ∧ e ≤ n
  | .ins _ => True
def Pc.ogs : Pc α → List (Og α)
  | .kept s e => (List.range' s (e - s)).map .base
  | .ins l => l.map .new
def ogsOf (ps : List (Pc α)) : List (Og α) := ps.flatMap Pc.ogs
def Pc.tell (b : List α) : Pc α → List α
  | .kept s e => (b.take e).drop s
  | .ins l => l
def tellOf (b : List α) (ps : List (Pc α)) : List α := ps.flatMap (Pc.tell b)
def lenOf (ps : List (Pc α)) : Nat := (ps.map Pc.len).sum

theorem Pc.ogs_len (p : Pc α) : p.ogs.length = p.len := by
  cases p <;> simp [Pc.ogs, Pc.len]
theorem ogsOf_len (ps : List (Pc α)) : (ogsOf ps).length = lenOf ps := by
  induction ps with
  | nil => rfl
  | cons p r ih =>
    have e : ogsOf (p :: r) = p.ogs ++ ogsOf r := rfl
    have e2 : lenOf (p :: r) = p.len + lenOf r := rfl
    rw [e, e2, List.length_append, p.ogs_len, ih]
theorem ogsOf_append (a b : List (Pc α)) : ogsOf (a ++ b) = ogsOf a ++ ogsOf b := by
  simp [ogsOf]

/-! ### a part of the pieces -/
def partStep (a b : Nat) (s : List (Pc α) × Nat) (p : Pc α) : List (Pc α) × Nat :=
  (if a - s.2 < min (b - s.2) p.len then s.1 ++ [p.part (a - s.2) (min (b - s.2) p.len)] else s.1, s.2 + p.len)
def partOf (ps : List (Pc α)) (a b : Nat) : List (Pc α) := (ps.foldl (partStep a b) ([], 0)).1

theorem take_drop_range' (s n a b : Nat) (h : b ≤ n) : ((List.range' s n).take b).drop a = List.range' (s + a) (b - a) := by
  apply List.ext_getElem
  · simp
    omega
  · intro i h1 h2
    simp
    omega

theorem Pc.part_ogs {p : Pc α} {a b : Nat} (hb : b ≤ p.len) : (p.part a b).ogs = (p.ogs.take b).drop a := by
  cases p with
  | kept s e =>
    simp only [Pc.part, Pc.ogs, Pc.len] at *
    rw [← List.map_take, ← List.map_drop, take_drop_range' _ _ _ _ hb]
    congr 2
    omega
  | ins l => simp [Pc.part, Pc.ogs]

theorem take_drop_append {β : Type} (x y : List β) (a b : Nat) : ((x ++ y).take b).drop a = (x.take b).drop a ++ (y.take (b - x.length)).drop (a - x.length) := by
  rw [List.take_append, List.drop_append, List.length_take]
  by_cases h : b ≤ x.length
  · have : b - x.length = 0 := by omega
    rw [this]
    simp
  · rw [Nat.min_eq_right (by omega)]

theorem partFold (ps : List (Pc α)) (a b : Nat) : ∀ (f : List (Pc α)) (n : Nat),
    ogsOf (ps.foldl (partStep a b) (f, n)).1 = ogsOf f ++ ((ogsOf ps).take (b - n)).drop (a - n) := by
  induction ps with
  | nil => intro f n; simp [ogsOf]
  | cons p r ih =>
    intro f n
    have e : ogsOf (p :: r) = p.ogs ++ ogsOf r := rfl
    rw [List.foldl_cons, e, take_drop_append, p.ogs_len]
    show ogsOf (List.foldl (partStep a b) ((if a - n < min (b - n) p.len then f ++ [p.part (a - n) (min (b - n) p.len)] else f), n + p.len) r).1 = _
    rw [ih]
    have e1 : b - (n + p.len) = b - n - p.len := by omega
    have e2 : a - (n + p.len) = a - n - p.len := by omega
    simp only [e1, e2]
    rw [← List.append_assoc]
    congr 1
    by_cases h : a - n < min (b - n) p.len
    · rw [if_pos h, ogsOf_append]
      congr 1
      have : ogsOf [p.part (a - n) (min (b - n) p.len)] = (p.part (a - n) (min (b - n) p.len)).ogs := by simp [ogsOf]
      rw [this, Pc.part_ogs (Nat.min_le_right _ _)]
      congr 1
      rw [← p.ogs_len, List.take_eq_take_iff]
      omega
    · rw [if_neg h]
      have hl : ((p.ogs.take (b - n)).drop (a - n)).length = 0 := by
        rw [List.length_drop, List.length_take, p.ogs_len]
        omega
      rw [List.eq_nil_of_length_eq_zero hl, List.append_nil]

theorem partOf_ogs (ps : List (Pc α)) (a b : Nat) : ogsOf (partOf ps a b) = ((ogsOf ps).take b).drop a := by
  unfold partOf
  rw [partFold]
  simp [ogsOf]

theorem Pc.part_fine {n : Nat} {p : Pc α} {a b : Nat} (h : p.fine n) (hab : a ≤ b) (hb : b ≤ p.len) : (p.part a b).fine n := by
  cases p with
  | kept s e =>
    simp only [Pc.fine, Pc.part, Pc.len] at *
    omega
  | ins l => trivial
def Fine (n : Nat) (ps : List (Pc α)) : Prop := ∀ p ∈ ps, p.fine n
theorem partStep_fine {n a b : Nat} {s : List (Pc α) × Nat} {p : Pc α} (h : Fine n s.1) (hp : p.fine n) : Fine n (partStep a b s p).1 := by
  unfold partStep
  dsimp only
  split
  · rename_i c
    intro q hq
    rcases List.mem_append.mp hq with hq | hq
    · exact h q hq
    · rw [List.mem_singleton.mp hq]
      exact Pc.part_fine hp (Nat.le_of_lt c) (Nat.min_le_right _ _)
  · exact h
theorem partFold_fine {n a b : Nat} : ∀ (ps : List (Pc α)) (s : List (Pc α) × Nat), Fine n s.1 → Fine n ps → Fine n (ps.foldl (partStep a b) s).1
  | [], s, h, _ => h
  | p :: r, s, h, hp => partFold_fine r _ (partStep_fine h (hp p List.mem_cons_self)) fun q hq => hp q (List.mem_cons_of_mem _ hq)
theorem partOf_fine {n a b : Nat} {ps : List (Pc α)} (h : Fine n ps) : Fine n (partOf ps a b) :=
  partFold_fine ps _ (fun _ z => nomatch z) h

/-! ### the law's pieces, one origin after the other -/
def ogStep (acc : List (Pc α)) (o : Og α) : List (Pc α) :=
  match o, acc.getLast? with
  | .base k, some (.kept s e) => if e = k then acc.dropLast ++ [.kept s (k + 1)] else acc ++ [.kept k (k + 1)]
  | .base k, _ => acc ++ [.kept k (k + 1)]
  | .new v, some (.ins l) => acc.dropLast ++ [.ins (l ++ [v])]
  | .new v, _ => acc ++ [.ins [v]]
def pcsOf (os : List (Og α)) : List (Pc α) := os.foldl ogStep []

/-! ### tidying -/
def canJoin : Pc α → Pc α → Bool
  | .kept _ e, .kept s _ => e == s
  | .ins _, .ins _ => true
  | _, _ => false
def joinP : Pc α → Pc α → Pc α
  | .kept s _, .kept _ e => .kept s e
  | .ins l, .ins m => .ins (l ++ m)
  | p, _ => p
def tidyStep (acc : List (Pc α)) (p : Pc α) : List (Pc α) :=
  match acc.getLast? with
  | some q => if canJoin q p = true then acc.dropLast ++ [joinP q p] else if 0 < p.len then acc ++ [p] else acc
  | none => if 0 < p.len then acc ++ [p] else acc
def tidyOf (ps : List (Pc α)) : List (Pc α) := ps.foldl tidyStep []

theorem getLast?_snoc {β : Type} (a : List β) (x : β) : (a ++ [x]).getLast? = some x := by simp
theorem dropLast_snoc {β : Type} (a : List β) (x : β) : (a ++ [x]).dropLast = a := by simp
theorem snoc_of {β : Type} {a : List β} {x : β} (h : a.getLast? = some x) : a = a.dropLast ++ [x] := by
  have hn : a ≠ [] := by intro e; rw [e] at h; cases h
  have e1 : a.getLast hn = x := by
    rw [List.getLast?_eq_some_getLast hn] at h
    exact Option.some.inj h
  rw [← e1]
  exact (List.dropLast_concat_getLast hn).symm

theorem fold_kept (a : List (Pc α)) (s : Nat) : ∀ (m e : Nat), ((List.range' e m).map (Og.base (α := α))).foldl ogStep (a ++ [.kept s e]) = a ++ [.kept s (e + m)]
  | 0, e => by simp
  | m + 1, e => by
    rw [List.range'_succ, List.map_cons, List.foldl_cons]
    have : ogStep (a ++ [.kept s e]) (.base e) = a ++ [.kept s (e + 1)] := by
      unfold ogStep
      rw [getLast?_snoc]
      simp
    rw [this, fold_kept a s m (e + 1)]
    congr 3
    omega
theorem fold_ins (a : List (Pc α)) : ∀ (m l : List α), (m.map Og.new).foldl ogStep (a ++ [.ins l]) = a ++ [.ins (l ++ m)]
  | [], l => by simp
  | v :: m, l => by
    rw [List.map_cons, List.foldl_cons]
    have : ogStep (a ++ [.ins l]) (.new v) = a ++ [.ins (l ++ [v])] := by
      unfold ogStep
      rw [getLast?_snoc]
      simp
    rw [this, fold_ins a m (l ++ [v])]
    simp

theorem tidyStep_fold {n : Nat} (acc : List (Pc α)) (p : Pc α) (hp : p.fine n) : tidyStep acc p = p.ogs.foldl ogStep acc := by
  cases p with
  | kept s e =>
    have he : s ≤ e := hp.1
    unfold tidyStep
    show _ = ((List.range' s (e - s)).map Og.base).foldl ogStep acc
    have fresh : (∀ s', acc.getLast? ≠ some (.kept s' s)) → (if 0 < (Pc.kept s e : Pc α).len then acc ++ [.kept s e] else acc) = ((List.range' s (e - s)).map Og.base).foldl ogStep acc := by
      intro hne
      by_cases hz : 0 < (Pc.kept s e : Pc α).len
      · rw [if_pos hz]
        replace hz : 0 < e - s := hz
        obtain ⟨m, hm⟩ : ∃ m, e - s = m + 1 := ⟨e - s - 1, by omega⟩
        rw [hm, List.range'_succ, List.map_cons, List.foldl_cons]
        have h1 : ogStep acc (.base s) = acc ++ [.kept s (s + 1)] := by
          unfold ogStep
          cases hg : acc.getLast? with
          | none => rfl
          | some q =>
            cases q with
            | kept s' e' =>
              dsimp only
              rw [if_neg]
              intro z
              rw [z] at hg
              exact hne s' hg
            | ins l => rfl
        rw [h1, fold_kept]
        congr 3
        omega
      · rw [if_neg hz]
        replace hz : ¬ 0 < e - s := hz
        have : e - s = 0 := by omega
        rw [this]
        rfl
    cases hg : acc.getLast? with
    | none => exact fresh (by intro s' z; rw [hg] at z; cases z)
    | some q =>
      cases q with
      | kept s' e' =>
        dsimp only
        by_cases hj : e' = s
        · subst hj
          rw [if_pos (show canJoin (Pc.kept s' e' : Pc α) (Pc.kept e' e) = true from beq_self_eq_true _)]
          show acc.dropLast ++ [.kept s' e] = _
          rw [snoc_of hg, dropLast_snoc, fold_kept]
          congr 3
          omega
        · rw [if_neg (show ¬ (canJoin (Pc.kept s' e' : Pc α) (Pc.kept s e) = true) from fun z => hj (eq_of_beq z))]
          exact fresh (by intro s'' z; rw [hg] at z; cases z; exact hj rfl)
      | ins l =>
        dsimp only
        rw [if_neg (show ¬ (canJoin (Pc.ins l : Pc α) (Pc.kept s e) = true) from Bool.false_ne_true)]
        exact fresh (by intro s'' z; rw [hg] at z; cases z)
  | ins m =>
    unfold tidyStep
    show _ = (m.map Og.new).foldl ogStep acc
    have fresh : (∀ l, acc.getLast? ≠ some (.ins l)) → (if 0 < (Pc.ins m : Pc α).len then acc ++ [.ins m] else acc) = (m.map Og.new).foldl ogStep acc := by
      intro hne
      cases m with
      | nil => rfl
      | cons v m =>
        rw [if_pos (show 0 < (Pc.ins (v :: m)).len from Nat.succ_pos _), List.map_cons, List.foldl_cons]
        have h1 : ogStep acc (.new v) = acc ++ [.ins [v]] := by
          unfold ogStep
          cases hg : acc.getLast? with
          | none => rfl
          | some q =>
            cases q with
            | kept s' e' => rfl
            | ins l => exact absurd hg (hne l)
        rw [h1, fold_ins]
        rfl
    cases hg : acc.getLast? with
    | none => exact fresh (by intro s' z; rw [hg] at z; cases z)
    | some q =>
      cases q with
      | kept s' e' =>
        dsimp only
        rw [if_neg (show ¬ (canJoin (Pc.kept s' e' : Pc α) (Pc.ins m) = true) from Bool.false_ne_true)]
        exact fresh (by intro s'' z; rw [hg] at z; cases z)
      | ins l =>
        dsimp only
        rw [if_pos (show canJoin (Pc.ins l : Pc α) (Pc.ins m) = true from rfl)]
        show acc.dropLast ++ [.ins (l ++ m)] = _
        conv => rhs; rw [snoc_of hg, fold_ins]

theorem tidyFold {n : Nat} : ∀ (ps acc : List (Pc α)), Fine n ps → ps.foldl tidyStep acc = (ogsOf ps).foldl ogStep acc
  | [], acc, _ => rfl
  | p :: r, acc, h => by
    have e : ogsOf (p :: r) = p.ogs ++ ogsOf r := rfl
    rw [List.foldl_cons, e, List.foldl_append, tidyStep_fold acc p (h p List.mem_cons_self)]
    exact tidyFold r _ fun q hq => h q (List.mem_cons_of_mem _ hq)
theorem tidyOf_eq {n : Nat} {ps : List (Pc α)} (h : Fine n ps) : tidyOf ps = pcsOf (ogsOf ps) := tidyFold ps [] h

/-! ### the pieces of origins: their origins are these -/
def OgFine (n : Nat) (os : List (Og α)) : Prop := ∀ k, Og.base k ∈ os → k < n
theorem ogStep_ogs {n : Nat} {acc : List (Pc α)} (o : Og α) (h : Fine n acc) : ogsOf (ogStep acc o) = ogsOf acc ++ [o] := by
  have app : ∀ p : Pc α, p.ogs = [o] → ogsOf (acc ++ [p]) = ogsOf acc ++ [o] := by
    intro p hp
    rw [ogsOf_append]
    simp [ogsOf, hp]
  have chg : ∀ q p : Pc α, acc.getLast? = some q → p.ogs = q.ogs ++ [o] → ogsOf (acc.dropLast ++ [p]) = ogsOf acc ++ [o] := by
    intro q p hq hp
    have e := snoc_of hq
    have e2 : ogsOf acc = ogsOf acc.dropLast ++ q.ogs := by
      conv => lhs; rw [e]
      rw [ogsOf_append]
      simp [ogsOf]
    rw [ogsOf_append, e2]
    simp [ogsOf, hp]
  cases o with
  | base k =>
    unfold ogStep
    cases hg : acc.getLast? with
    | none => exact app _ (by simp [Pc.ogs])
    | some q =>
      cases q with
      | kept s e =>
        dsimp only
        by_cases hk : e = k
        · rw [if_pos hk]
          subst hk
          have hf : s ≤ e := (h _ (List.mem_of_getLast? hg)).1
          refine chg _ _ hg ?_
          simp only [Pc.ogs]
          rw [show e + 1 - s = (e - s) + 1 by omega, List.range'_concat]
          simp
          omega
        · rw [if_neg hk]
          exact app _ (by simp [Pc.ogs])
      | ins l => exact app _ (by simp [Pc.ogs])
  | new v =>
    unfold ogStep
    cases hg : acc.getLast? with
    | none => exact app _ (by simp [Pc.ogs])
    | some q =>
      cases q with
      | kept s e => exact app _ (by simp [Pc.ogs])
      | ins l => exact chg _ _ hg (by simp [Pc.ogs])
theorem mem_dropLast {β : Type} {a : List β} {x : β} (h : x ∈ a.dropLast) : x ∈ a := List.dropLast_subset a h
theorem ogStep_fine {n : Nat} {acc : List (Pc α)} {o : Og α} (h : Fine n acc) (ho : ∀ k, o = .base k → k < n) : Fine n (ogStep acc o) := by
  have app : ∀ p : Pc α, p.fine n → Fine n (acc ++ [p]) := by
    intro p hp q hq
    rcases List.mem_append.mp hq with hq | hq
    · exact h q hq
    · rw [List.mem_singleton.mp hq]; exact hp
  have chg : ∀ p : Pc α, p.fine n → Fine n (acc.dropLast ++ [p]) := by
    intro p hp q hq
    rcases List.mem_append.mp hq with hq | hq
    · exact h q (mem_dropLast hq)
    · rw [List.mem_singleton.mp hq]; exact hp
  cases o with
  | base k =>
    have hk := ho k rfl
    have nw : (Pc.kept k (k + 1) : Pc α).fine n := ⟨Nat.le_succ _, hk⟩
    unfold ogStep
    cases hg : acc.getLast? with
    | none => exact app _ nw
    | some q =>
      cases q with
      | kept s e =>
        dsimp only
        by_cases hk' : e = k
        · rw [if_pos hk']
          have hf : s ≤ e := (h _ (List.mem_of_getLast? hg)).1
          exact chg _ ⟨by omega, hk⟩
        · rw [if_neg hk']
          exact app _ nw
      | ins l => exact app _ nw
  | new v =>
    unfold ogStep
    cases hg : acc.getLast? with
    | none => exact app _ trivial
    | some q =>
      cases q with
      | kept s e => exact app _ trivial
      | ins l => exact chg _ trivial
theorem ogFold {n : Nat} : ∀ (os : List (Og α)) (acc : List (Pc α)), Fine n acc → OgFine n os → ogsOf (os.foldl ogStep acc) = ogsOf acc ++ os ∧ Fine n (os.foldl ogStep acc)
  | [], acc, h, _ => by simp [h]
  | o :: r, acc, h, ho => by
    have h1 := ogStep_ogs o h
    have h2 : Fine n (ogStep acc o) := ogStep_fine h fun k e => ho k (by rw [e]; exact List.mem_cons_self)
    obtain ⟨h3, h4⟩ := ogFold r _ h2 fun k hk => ho k (List.mem_cons_of_mem _ hk)
    refine ⟨?_, h4⟩
    rw [List.foldl_cons, h3, h1]
    simp
theorem ogs_pcsOf {n : Nat} {os : List (Og α)} (h : OgFine n os) : ogsOf (pcsOf os) = os := by
  have e := (ogFold os [] (fun _ z => nomatch z) h).1
  exact e
theorem pcsOf_fine {n : Nat} {os : List (Og α)} (h : OgFine n os) : Fine n (pcsOf os) := (ogFold os [] (fun _ z => nomatch z) h).2

/-! ### what pieces tell -/
def Og.get? (b : List α) : Og α → Option α
  | .base k => b[k]?
  | .new v => some v
def tellOgs (b : List α) (os : List (Og α)) : List α := os.filterMap (Og.get? b)
theorem take_drop_eq (b : List α) : ∀ (m s : Nat), s + m ≤ b.length → (b.take (s + m)).drop s = ((List.range' s m).map (Og.base (α := α))).filterMap (Og.get? b)
  | 0, s, h => by
    simp
  | m + 1, s, h => by
    rw [List.range'_succ, List.map_cons, List.filterMap_cons]
    have e : (Og.base s : Og α).get? b = some (b[s]'(by omega)) := by
      show b[s]? = _
      exact List.getElem?_eq_getElem (by omega)
    rw [e]
    dsimp only
    rw [← take_drop_eq b m (s + 1) (by omega)]
    rw [List.drop_eq_getElem_cons (by rw [List.length_take]; omega)]
    rw [List.getElem_take]
    congr 3
    omega
theorem Pc.tell_eq {b : List α} {p : Pc α} (h : p.fine b.length) : p.tell b = tellOgs b p.ogs := by
  cases p with
  | kept s e =>
    have := take_drop_eq b (e - s) s (by have := h.1; have := h.2; omega)
    rw [show s + (e - s) = e by have := h.1; omega] at this
    exact this
  | ins l =>
    show l = (l.map Og.new).filterMap (Og.get? b)
    rw [List.filterMap_map]
    show l = l.filterMap (fun v => some v)
    simp
theorem tellOf_eq {b : List α} : ∀ {ps : List (Pc α)}, Fine b.length ps → tellOf b ps = tellOgs b (ogsOf ps)
  | [], _ => rfl
  | p :: r, h => by
    show p.tell b ++ tellOf b r = tellOgs b (p.ogs ++ ogsOf r)
    rw [Pc.tell_eq (h p List.mem_cons_self), tellOf_eq fun q hq => h q (List.mem_cons_of_mem _ hq)]
    simp [tellOgs]
theorem tellOgs_len {b : List α} : ∀ {os : List (Og α)}, OgFine b.length os → (tellOgs b os).length = os.length
  | [], _ => rfl
  | o :: r, h => by
    have ih := tellOgs_len (b := b) (os := r) fun k hk => h k (List.mem_cons_of_mem _ hk)
    unfold tellOgs at *
    rw [List.filterMap_cons]
    cases o with
    | base k =>
      have hk := h k List.mem_cons_self
      have e : (Og.base k : Og α).get? b = some (b[k]'hk) := List.getElem?_eq_getElem hk
      rw [e]
      simp [ih]
    | new v => simp [Og.get?, ih]

/-! ### a new editor, a replacement -/
def baseOgs (n : Nat) : List (Og α) := (List.range n).map .base
theorem baseOgs_fine (n : Nat) : OgFine n (baseOgs n : List (Og α)) := by
  intro k hk
  simp [baseOgs] at hk
  exact hk
theorem tidy_new (n : Nat) : tidyOf [(Pc.kept 0 n : Pc α)] = pcsOf (baseOgs n) := by
  have h : Fine n [(Pc.kept 0 n : Pc α)] := by
    intro p hp
    rw [List.mem_singleton.mp hp]
    exact ⟨Nat.zero_le _, Nat.le_refl _⟩
  rw [tidyOf_eq h]
  simp [ogsOf, Pc.ogs, baseOgs, List.range_eq_range']
def putOgs (os : List (Og α)) (a b : Nat) (l : List α) : List (Og α) := os.take a ++ l.map .new ++ os.drop b
theorem putOgs_fine {n : Nat} {os : List (Og α)} {a b : Nat} {l : List α} (h : OgFine n os) : OgFine n (putOgs os a b l) := by
  intro k hk
  unfold putOgs at hk
  rcases List.mem_append.mp hk with hk | hk
  · rcases List.mem_append.mp hk with hk | hk
    · exact h k (List.mem_of_mem_take hk)
    · simp at hk
  · exact h k (List.mem_of_mem_drop hk)
theorem tidy_put {n : Nat} {os : List (Og α)} (h : OgFine n os) (a b : Nat) (l : List α) :
    tidyOf (partOf (pcsOf os) 0 a ++ [Pc.ins l] ++ partOf (pcsOf os) b os.length) = pcsOf (putOgs os a b l) := by
  have hf := pcsOf_fine h
  have hF : Fine n (partOf (pcsOf os) 0 a ++ [Pc.ins l] ++ partOf (pcsOf os) b os.length) := by
    intro p hp
    rcases List.mem_append.mp hp with hp | hp
    · rcases List.mem_append.mp hp with hp | hp
      · exact partOf_fine hf p hp
      · rw [List.mem_singleton.mp hp]; trivial
    · exact partOf_fine hf p hp
  rw [tidyOf_eq hF, ogsOf_append, ogsOf_append, partOf_ogs, partOf_ogs, ogs_pcsOf h]
  simp [putOgs, ogsOf, Pc.ogs]
theorem tell_pcsOf {b : List α} {os : List (Og α)} (h : OgFine b.length os) : tellOf b (pcsOf os) = tellOgs b os := by
  rw [tellOf_eq (pcsOf_fine h), ogs_pcsOf h]

/-! ### edits -/
def editStep (s : List (Nat × Nat × List α) × Nat × List α) (p : Pc α) : List (Nat × Nat × List α) × Nat × List α :=
  match p with
  | .ins l => (s.1, s.2.1, l)
  | .kept a b => (if s.2.1 < a ∨ s.2.2 ≠ [] then s.1 ++ [(s.2.1, a, s.2.2)] else s.1, b, [])
def editsOf (ps : List (Pc α)) (n : Nat) : List (Nat × Nat × List α) := ((ps ++ [Pc.kept n n]).foldl editStep ([], 0, [])).1
end Ed

/-! More of the mathematics: lengths. -/
namespace Ed
variable {α : Type}
theorem ogs_fine {n : Nat} : ∀ {ps : List (Pc α)}, Fine n ps → OgFine n (ogsOf ps)
  | [], _ => fun k hk => by cases hk
  | p :: r, h => fun k hk => by
    have e : ogsOf (p :: r) = p.ogs ++ ogsOf r := rfl
    rw [e] at hk
    rcases List.mem_append.mp hk with hk | hk
    · cases p with
      | kept s e =>
        have hf := h _ List.mem_cons_self
        simp only [Pc.ogs, List.mem_map, List.mem_range'_1, Og.base.injEq, exists_eq_right] at hk
        have := hf.2
        omega
      | ins l => simp [Pc.ogs] at hk
    · exact ogs_fine (fun q hq => h q (List.mem_cons_of_mem _ hq)) k hk
theorem lenOf_cons (p : Pc α) (r : List (Pc α)) : lenOf (p :: r) = p.len + lenOf r := rfl
theorem lenOf_append (a b : List (Pc α)) : lenOf (a ++ b) = lenOf a + lenOf b := by
  simp [lenOf]
theorem len_mem : ∀ {ps : List (Pc α)} {p : Pc α}, p ∈ ps → p.len ≤ lenOf ps
  | q :: r, p, h => by
    rw [lenOf_cons]
    rcases List.mem_cons.mp h with h | h
    · rw [h]
      omega
    · have := len_mem h
      omega
theorem lenOf_take (ps : List (Pc α)) (i : Nat) : lenOf (ps.take i) ≤ lenOf ps := by
  conv => rhs; rw [← List.take_append_drop i ps]
  rw [lenOf_append]
  omega
theorem fine_take {n : Nat} {ps : List (Pc α)} (h : Fine n ps) (i : Nat) : Fine n (ps.take i) := fun p hp => h p (List.mem_of_mem_take hp)
theorem tidyTake_len {n : Nat} {ps : List (Pc α)} (h : Fine n ps) (i : Nat) : lenOf ((ps.take i).foldl tidyStep []) ≤ lenOf ps := by
  have hf := fine_take h i
  rw [tidyFold (ps.take i) [] hf, ← ogsOf_len, (ogFold _ [] (fun _ z => nomatch z) (ogs_fine hf)).1]
  rw [List.length_append, ogsOf_len, ogsOf_len]
  have := lenOf_take ps i
  show 0 + _ ≤ _
  omega
theorem tidyTake_fine {n : Nat} {ps : List (Pc α)} (h : Fine n ps) (i : Nat) : Fine n ((ps.take i).foldl tidyStep []) := by
  have hf := fine_take h i
  rw [tidyFold (ps.take i) [] hf]
  exact (ogFold _ [] (fun _ z => nomatch z) (ogs_fine hf)).2
theorem tidyStep_len (acc : List (Pc α)) (p : Pc α) : (tidyStep acc p).length ≤ acc.length + 1 := by
  unfold tidyStep
  cases hg : acc.getLast? with
  | none =>
    dsimp only
    split
    · simp
    · omega
  | some q =>
    dsimp only
    split
    · simp
    · split
      · simp
      · omega
theorem tidyFold_len : ∀ (ps acc : List (Pc α)), (ps.foldl tidyStep acc).length ≤ acc.length + ps.length
  | [], acc => by simp
  | p :: r, acc => by
    have h1 := tidyStep_len acc p
    have h2 := tidyFold_len r (tidyStep acc p)
    rw [List.foldl_cons, List.length_cons]
    omega
theorem tellOf_append (b : List α) (x y : List (Pc α)) : tellOf b (x ++ y) = tellOf b x ++ tellOf b y := by
  simp [tellOf]
theorem tellOf_one (b : List α) (p : Pc α) : tellOf b [p] = p.tell b := by
  simp [tellOf]
theorem tellOf_take_len (b : List α) (ps : List (Pc α)) (i : Nat) : (tellOf b (ps.take i)).length ≤ (tellOf b ps).length := by
  conv => rhs; rw [← List.take_append_drop i ps]
  rw [tellOf_append, List.length_append]
  omega
theorem getLast?_none {β : Type} {l : List β} (h : l.getLast? = none) : l = [] := by
  simpa using h
end Ed

set_option Elab.async false
set_option linter.all false
set_option maxRecDepth 100000
set_option maxHeartbeats 4000000
/-! Rules of my own over the layer: extend by a tuple, len of an own instance, a tuple times 2000. -/
namespace L2
open PySem PySem.Spec PyProof.Rows

/-! ### found.extend(a tuple) -/
theorem ext_tupW (l : Addr) (items : Array Value) (n : Nat) (b : Addr) (items2 : Array Value) (n2 : Nat) (dd : Option Addr) (sl : Array (Option Value))
    (k0 : ¬(!items.isEmpty && Builtin.List.listTooLong (items.size + items2.size)) = true) (k1 : items.size ≤ sizeLine) (k2 : items.size + items2.size ≤ sizeLine + 1) :
    Meets (Builtin.«list.extend» ⟨[.ref l, .ref b], []⟩) (fun _ R s => s.heap.get? l = some { cls := .type "list", dict := none, data := .seq items n, slots := #[] } ∧
      s.heap.get? b = some { cls := .type "tuple", dict := dd, data := .seq items2 n2, slots := sl } ∧
      R (.ok (.ret Value.none)) { s with heap := s.heap.update l (Obj.mapSeq fun x => x ++ items2), toks := s.toks }) :=
  .of_wp fun prog w A R s q => by
    obtain ⟨hp, g, d, tk, os⟩ := s
    obtain ⟨ql, qb, q⟩ := q
    have f2 := PySem.AutoSeq1.sub_tuple_tuple
    have f3 := PySem.AutoSeq1.sub_list_list
    have f4 := PySem.AutoSeq1.sub_tuple_list
    have f5 := PySem.AutoSeq1.sub_list_tuple
    have z : (items ++ items2).size ≤ sizeLine + 1 := by rw [Array.size_append]; exact k2
    wp_walk using (wpAny_updateSeq ql rfl (hz := k1) (_hz' := z)), wpAny_loadPart' ql, wpAny_loadPart' qb
    exact ⟨_, rfl, q⟩
section
variable {X : Cx}
def rExtT (K : PySem.W.Frag) : V → List V → Hp → VK → Prop := fun x vs H Q => ∃ l b xs zs, x = .ref l ∧ vs = [.ref b] ∧ H l = some (.lst xs) ∧ SqT K H b zs ∧ xs.length + zs.length ≤ sizeLine ∧ Q .non (upd H l (.lst (xs ++ zs)))
theorem mt_extT : MtM X "list.extend" (rExtT X.K) := by
  intro pins s σ H x vs v us Q I rx rv h
  obtain ⟨l, b, xs, zs, rfl, rfl, hH, hB, hz, q⟩ := h
  cases rx
  obtain ⟨u, rfl, ru⟩ := rv.one
  cases ru
  obtain ⟨z, its, n, r, hl, e⟩ := I.lstM hH
  obtain ⟨its2, r2, ⟨⟨c2, d2, da2, sl2⟩, e2, hc2, n2, hd2⟩, z2⟩ := I.tuple hB
  simp only at hc2 hd2
  subst hc2 hd2
  have len2 : its2.length = zs.length := r2.length.symm
  have both : its.toArray.size + its2.toArray.size ≤ sizeLine := by simp only [List.size_toArray]; omega
  refine call_meets F.slot_list_extend ⟨_, e, rfl⟩ F.entry_list_extend (F.args_list_extend_2 _ _)
    (ext_tupW l its.toArray n b its2.toArray n2 d2 sl2 (by rw [notLongL both, Bool.and_false]; exact Bool.false_ne_true) (by rw [List.size_toArray]; omega) (by omega)) ⟨e, e2, ?_⟩
  exact ⟨.non, _, I.lset (its' := its ++ its2) hH e (by simp) (r.append r2) (by rw [List.length_append]; omega), rfl, q⟩

/-! ### len(an own instance) -/
def rLenO (C : Addr) (sp : Sp) (E : XK) : List V → Hp → VK → Prop := fun xs H Q => ∃ a dx fs, xs = [.ref a] ∧ H a = some (.ins C dx fs) ∧
  sp [.ref a] H (fun v H' => ∃ n : Nat, v = .int n ∧ (n : Int) < 2 ^ 63 ∧ Q (.int n) H') E
theorem call_lenO {CX : CXT} {k : Nat} {C f : Addr} {fd : FuncData} {ps : List Str} {sp : Sp} {E : XK} (hm : PySem.W.findIn X.K (.ref C) "__len__" = some (some (.ref f))) (hf : PySem.W.isFn X.K (.ref f) = true)
    (F : FnOk X.prog X.w X.K X.mg X.base CX k f fd ps sp) (hr : Room (k + 1) X.A) (hb : Binds X.K fd ps []) (hx : Passes CX X E) : CallR X (.builtin "len") (rLenO C sp E) := by
  intro pins s σ H xs us Q I r h
  obtain ⟨a, dx, fs, rfl, ea, q⟩ := h
  obtain ⟨u, rfl, ru⟩ := vals1 r
  cases ru
  obtain ⟨mA, O, _⟩ := ins_get I.hok ea
  obtain ⟨od, J, _⟩ := O.look
  obtain ⟨m, hF⟩ := I.fr
  refine PySem.W.len_K hF I.ok.mod.kin J hm hf ?_
  have hl := F.len _ _ _ _ q
  have bd := hb s [.ref a] I.kIn (by simpa using hl)
  rw [List.append_nil] at bd
  refine wpAny_call (codeAny_mono (F.run X.A.in1 X.stack s H ⟨[.ref a], []⟩ [.ref a] [.ref a] _ E hr.in1 I.env0.in1 bd (.cons rfl .nil) q) fun rr s' hq => ?_)
  cases rr with
  | error e => exact hx pins σ H s e s' I hq
  | ok fl =>
    cases fl with
    | next => exact False.elim hq
    | brk => exact False.elim hq
    | cont => exact False.elim hq
    | ret w =>
      obtain ⟨v, H', I', rv, n, ev, hn, qn⟩ := I.after hq
      subst ev
      obtain ⟨t, rfl⟩ := rv
      exact ⟨⟨by omega, hn⟩, .int n, H', I'.tok _, ⟨_, rfl⟩, qn⟩

/-! ### a tuple of one item, many times -/
def rRepN (K : PySem.W.Frag) : R2 := fun x y H Q => ∃ l k v, x = .ref l ∧ y = .int k ∧ SqT K H l [v] ∧ 2 ≤ k ∧ k ≤ 100000 ∧ ∀ p, H p = none → Q (.ref p) (upd H p (.tup (List.replicate k.toNat v)))
theorem flat_rep {α : Type} (v : α) : ∀ n : Nat, (List.replicate n [v]).flatten = List.replicate n v
  | 0 => rfl
  | n + 1 => by rw [List.replicate_succ, List.flatten_cons, flat_rep v n]; rfl
theorem op_repN : OpR X (binaryOp .Mult) (rRepN X.K) := by
  intro pins s σ H x y v u Q I rx ry h
  obtain ⟨l, k, w, rfl, rfl, hT, k2, kM, q⟩ := h
  cases rx
  obtain ⟨t, rfl⟩ := ry
  obtain ⟨its, r, ⟨⟨cls, dd, data, sl⟩, ho, hc, n, hd⟩, hs⟩ := I.tuple hT
  simp only at hc hd
  subst hc hd
  obtain ⟨u0, rfl, ru⟩ := vals1 r
  have fl : (List.foldl (fun x1 x2 => x1 ++ x2) #[] (List.replicate k.toNat [u0].toArray)) = (List.replicate k.toNat u0).toArray := by rw [size_rep, flat_rep]
  have hz : (List.replicate k.toNat u0).length ≤ sizeLine := by rw [List.length_replicate, sizeLine_eq]; omega
  refine wpAny_binaryOp_repeat_ref (T := "tuple") (U := "int") (by decide) ⟨_, ho, rfl⟩ (fun s' => typeIs_int s' k t) noFill_tuple_mul F.fills_int_mul F.slot_int_rmul repeat_tuple F.slot_int_index.lookup
    (call_meets F.slot_int_rmul (typeIs_int s k t) F.entry_int_rmul (F.args_int_rmul_2 _ _) (int_rmul_tuple k t l [u0].toArray n dd sl)
      ⟨ho, rfl, ⟨_, ho, rfl⟩, call_meets F.slot_tuple_mul ⟨_, ho, rfl⟩ F.entry_tuple_mul (F.args_tuple_mul_2 _ _)
        (tuple_mulW l [u0].toArray n dd sl k t ?c0 ?c1 ?c2 ?c3 ?c4 (by rw [fl, List.size_toArray]; exact hz)) ⟨ho, ?_⟩⟩)
  case c0 => rw [decide_eq_false (by omega), decide_eq_false (by omega)]; rfl
  case c1 =>
    show (false || k == 1) = false
    rw [Bool.false_or]
    exact beq_eq_false_iff_ne.mpr (by omega)
  case c2 =>
    show (decide (k ≤ 0) || false) = false
    rw [Bool.or_false]
    exact decide_eq_false (by omega)
  case c3 =>
    show ¬ (1 : Int) * k > (2 ^ 63 - 1) / 8
    omega
  case c4 =>
    unfold Builtin.Tuple.tupleTooMany
    rw [sizeLine_eq]
    exact decide_eq_false (by show ¬ _; simp only [List.size_toArray, List.length_singleton]; omega)
  rw [fl]
  refine ⟨.ref s.heap.objs.size, _, I.laid (t' := s.toks) (o := .tup (List.replicate k.toNat w)) (fun b ob z => Heap.get?_push_of_some _ z) (Nat.le_refl _) ?_, rfl, q _ (I.hok.fresh (Nat.le_refl _))⟩
  refine ⟨by rw [List.length_replicate] at *; exact hz, List.replicate k.toNat u0, ?_, IsTup.new _ _⟩
  have e : ∀ m : Nat, Vals (List.replicate m w) (List.replicate m u0) := fun m => by
    induction m with
    | zero => exact .nil
    | succ m ih => exact .cons ru ih
  exact e _
end
end L2

set_option Elab.async false
set_option linter.all false
set_option maxRecDepth 100000
set_option maxHeartbeats 4000000
/-! Exceptions of the program whose __init__ says super().__init__("..") and keeps its argument; the class stands below another class of the program over ValueError. -/
namespace PySem
namespace SupE
open PySem.W PySem.Calls PyProof.Rows PySem.HandSPX
/-- what the written part says of the class at C and of its __init__, at fI; x the class's name, f the field (and the parameter) -/
structure SupTxt (P : Program) (K : Frag) (mg : Str → Option Value) (x f : Str) (C fI : Addr) : Prop where
  gC : mg x = some (.ref C)
  nS : mg "super" = none
  cls : ∃ nm q N bs bm sn sub ab col dd k0 k1 k2 k3 k5, K.lookup C = some (excClassObj nm q C N bs bm true sn sub ab col dd k0 k1 k2 k3 k5 "ValueError.__new__") ∧ refsVE bm = true ∧
    alongIn K "__init__" bm = some (some (.builtin "ValueError.__init__"))
  sa : findIn K (.ref C) "__setattr__" = some (some (.builtin "object.__setattr__"))
  noN : findIn K (.ref C) f = some none
  iC : findIn K (.ref C) "__init__" = some (some (.ref fI))
  tC : typeIn K (.ref fI) = some (.type "function")
  kC : keepIn K (.ref C) = true
  exC : subIn K (.ref C) (.type "BaseException") = some true
  veC : subIn K (.ref C) (.type "ValueError") = some true
  tyC : typeIn K (.ref C) = some (.type "type")
  opq : nsIn K cStatics "thirdparty.any" = some none
  htop : (P.main.scope.names.lookup ("super" : Str)).isSome = false
  fn : ∃ (oc : Value) (od : Option Addr) (doc pm : Value) (an : Option Addr) (cda cc : Addr) (ct : Value) (osl : Array (Option Value)) (qual : Str) (sc : Scope) (params : Arguments) (ar : Arg) (msg : Str) (j : Nat) (p0 p1 p2 p3 p4 p5 p6 p7 p8 p9 : Pos)
      (ccl cl : Value) (cdd cld : Option Addr) (ccs csl : Array (Option Value)) (vs : Array Value) (file : Str) (tf : Tok),
    K.lookup fI = some ⟨oc, od, .func (ksFn "__init__" qual params [.Expr (.Call (.Attribute (.Call (.Name "super" p0) [] [] p1) "__init__" p2) [.Constant (.str msg) j p3] [] p4) p5,
      .Assign [.Attribute (.Name "self" p6) f p7] (.Name f p8) p9] sc .none .none doc pm an (.ref cda) ct cc), osl⟩ ∧
    codeIn K (.ref cda) qual = true ∧ K.lookup cda = some ⟨ccl, cdd, .fields vs, ccs⟩ ∧ vs[2]? = some (.str file tf) ∧ ((P.main.file : Str) == file) = true ∧ K.lookup cc = some ⟨cl, cld, .cell (some (.ref C)), csl⟩ ∧
    sc.kind = .function ∧ sc.isCoroutine = false ∧ sc.isGenerator = false ∧ (∀ y ∈ sc.names, y.2 ≠ .cell) ∧
    sc.names.lookup ("super" : Str) = some .globalImplicit ∧ sc.names.lookup ("__class__" : Str) = some .free ∧ sc.names.lookup ("self" : Str) = some .local ∧ sc.names.lookup f = some .local ∧
    p2.endLine = p4.line ∧ (params.posonlyargs ++ params.args).head? = some ar ∧ ar.arg = "self" ∧ f ≠ "self" ∧ (f == ("__debug__" : Str)) = false ∧
    (∀ (u v : Value), bindArgs (ksFn "__init__" qual params [.Expr (.Call (.Attribute (.Call (.Name "super" p0) [] [] p1) "__init__" p2) [.Constant (.str msg) j p3] [] p4) p5,
      .Assign [.Attribute (.Name "self" p6) f p7] (.Name f p8) p9] sc .none .none doc pm an (.ref cda) ct cc) ⟨[u, v], []⟩ = pure [(("self" : Str), u), (f, v)])
theorem call_pos {few : Bool} {o : Expr} {env : Env} {apos pos : Pos} (h : apos.endLine = pos.line) : methodCallPos few o env apos pos = pure pos := by
  unfold methodCallPos
  rw [if_pos]
  rw [h]
  simp
theorem call_form {o : Expr} {env : Env} {apos pos p : Pos} {name msg : Str} {j : Nat} (h : apos.endLine = pos.line) :
    eval (.Call (.Attribute o name apos) [.Constant (.str msg) j p] [] pos) env = (do
      let ov ← attributeBase o name env (eval o env)
      standAt apos.atName
      let (f, first) ← holding [ov] (getMethod ov name (do return (← importBound o env).getD true))
      callWith pos f first (backTo pos (starEach [.Constant (.str msg) j p] env)) []) := by
  rw [arm_eval_Call]
  unfold methodCall
  simp only [call_pos h, pure_bind]
  rfl
/-- what __init__ leaves of a fresh exception at x -/
structure Left (h h' : Heap) (x C dx t1 : Addr) (f : Str) (v : Value) : Prop where
  keep : ∀ b o, b ≠ x → h.get? b = some o → h'.get? b = some o
  obj : h'.get? x = some { cls := .ref C, dict := some dx, data := .fields #[.ref t1, .none, .none, .none, .bool false, .none] }
  dbig : h.objs.size ≤ dx
  dne : dx ≠ x
  ns : h'.Ns1 dx (fun y => if y = f then some v else none)
section
variable {prog : Program} {w : World} {A : Around} {E : Value → Shared → Prop} {R : Result → Shared → Prop} {K : Frag} {mg : Str → Option Value} {x f : Str} {C fI : Addr}
/-- ValueError.__init__ bound to e by super(), called -/
theorem bound_call {nm q : Str} {N u e t0 : Addr} {bs bm : List Value} {sn : List Str} {sub : List Value} {ab : Bool} {col : Option Bool} {dd : Option Addr} {k0 k1 k2 k3 k5 : Option Value} {rest : List Value} {Q : Value → Shared → Prop}
    {h : Heap} {g : Array GenState} {d : Drawn} {t : Nat} {os : OsState} (hC : h.get? C = some (excClassObj nm q C N bs bm true sn sub ab col dd k0 k1 k2 k3 k5 "ValueError.__new__"))
    (he : h.get? e = some (excO C t0)) (hu : h.get? u = some (kxs_mw "ValueError.__init__" e)) (hrest : rest.length ≤ sizeLine)
    (hq : ∀ h' t1, (∀ b o, b ≠ e → h.get? b = some o → h'.get? b = some o) → h'.get? e = some (excO C t1) → Q .none ⟨h', g, d, t, os⟩) :
    wpAny (model prog w) A (call (.ref u) rest) Q E ⟨h, g, d, t, os⟩ := by
  have FB := F.excBase_ValueError
  refine wpAny_call (codeAny_of_tree ?_)
  show wpAny _ A.in1 (callAny (.ref u) ⟨rest, []⟩) _ _ _
  simp only [callAny]
  refine wpAny_bind (wpAny_load hu ?_)
  have c1 : (Value.type "method-wrapper" == Value.type "method" || Value.type "method-wrapper" == Value.type "builtin_function_or_method" || Value.type "method-wrapper" == Value.type "method-wrapper") = true := by decide
  simp only [kxs_mw, c1, if_true]
  refine KFB.if_so (by decide) ?_
  refine wpAny_bind (check_bound_init FB.toExcCallFacts hC he rfl ?_)
  refine wpAny_bind (wpAny_pure (wpAny_pure ?_))
  refine ⟨plainId_quiet FB.init.plain _, codeAny_builtin FB.initEntry ?_⟩
  exact exc_init_tree (cls := .ref C) (t0 := t0) (dv := none) (c2 := .none) (c3 := .none) (b4 := .bool false) he hrest fun h' kk e' _ => hq h' _ kk e'

theorem sup_init (T : SupTxt prog K mg x f C fI) {s : Shared} {e t0 : Addr} {v : Value} (X : K.In s.heap) (G : s.heap.Ns mainGlobals mg) (GB : ∃ mb, s.heap.Ns builtinsNs mb ∧ ∀ y : Str, y ≠ "__name__" → mb y = bootBuiltins y)
    (hlim : s.heap.NoLimit) (he : s.heap.get? e = some (excO C t0)) (hnx : K.lookup e = none) (hroom : A.depth < recursionLimit)
    (hq : ∀ h' tk dx t1, Left s.heap h' e C dx t1 f v → R (.ok (.ret .none)) { s with heap := h', toks := tk }) :
    codeAny (model prog w) A (.call (.ref fI) ⟨[.ref e, v], []⟩) R s := by
  obtain ⟨oc, od, doc, pm, an, cda, cc, ct, osl, qual, sc, params, ar, msg, j, p0, p1, p2, p3, p4, p5, p6, p7, p8, p9, ccl, cl, cdd, cld, ccs, csl, vs, file, tf,
    ho, hcd, hcode, hvs, hfile, hcell, kf, kco, kg, kcell, ks, kc, kse, kfl, hpos, hp, harg, nfs, hdbg, hbind⟩ := T.fn
  obtain ⟨nm, q, N, bs, bm, sn, sub, ab, col, dd, k0, k1, k2, k3, k5, hC, hbm, halong⟩ := T.cls
  obtain ⟨mb, Gb, hGb⟩ := GB
  have hclsD : clsIn K C = some { name := nm, bases := bs, mro := .ref C :: bm, ns := N, qualname := q, hasDict := true, slotNames := sn, subclasses := sub, abstract := ab, collection := col, hasDel := false } := by
    unfold clsIn
    rw [hC] <;> rfl
  have hCs := X _ _ hC
  have neC : e ≠ C := fun z => by
    rw [z] at he
    rw [he] at hCs
    cases hCs
  refine ks_codeAny_call_defAt (binds := [(("self" : Str), .ref e), (f, v)]) hroom (X _ _ ho) rfl hlim (codeRec_of X hcd) rfl (BindsTo.of_eq (hbind _ _)) kcell (fun y hy => ?_) (fun h₁ hns hk => ?_) kco kg kf
  · rcases List.mem_cons.mp hy with rfl | hy
    · exact kse
    · rw [List.mem_singleton.mp hy]
      exact kfl
  have X₁ : K.In h₁ := X.keeps hk
  have he₁ := hk _ _ he
  have hLe : s.heap.objs.size ≠ e := Nat.ne_of_gt (Heap.lt_size he)
  generalize henv : callEnv (ksFn "__init__" qual params [.Expr (.Call (.Attribute (.Call (.Name "super" p0) [] [] p1) "__init__" p2) [.Constant (.str msg) j p3] [] p4) p5,
      .Assign [.Attribute (.Name "self" p6) f p7] (.Name f p8) p9] sc .none .none doc pm an (.ref cda) ct cc) s.heap.objs.size fI = env
  have eSc : env.scope = sc := by rw [← henv]; rfl
  have eL : env.locals = s.heap.objs.size := by rw [← henv]; rfl
  have eF : env.func = some fI := by rw [← henv]; rfl
  have eC : env.code = .ref cda := by rw [← henv]; rfl
  have eG : env.globals = mainGlobals := by rw [← henv]; rfl
  have eB : env.builtins = builtinsNs := by rw [← henv]; rfl
  have eCells : env.cells.lookup ("__class__" : Str) = some cc := by rw [← henv]; rfl
  have kindE : env.scope.kind = .function := by rw [eSc]; exact kf
  have kE : ∀ y : Str, env.kindOf y = sc.names.lookup y := fun y => by
    show env.scope.names.lookup y = _
    rw [eSc]
  have intE : interactive env = false := by simp [interactive, kindE]
  have m_self : List.lookup ("self" : Str) ([(("self" : Str), Value.ref e), (f, v)] : List (Str × Value)).reverse = some (.ref e) := by
    show List.lookup ("self" : Str) [(f, v), (("self" : Str), Value.ref e)] = _
    rw [List.lookup_cons]
    rw [show (("self" : Str) == f) = false from beq_eq_false_iff_ne.mpr fun z => nfs z.symm]
    rfl
  have m_f : List.lookup f ([(("self" : Str), Value.ref e), (f, v)] : List (Str × Value)).reverse = some v := by
    show List.lookup f [(f, v), (("self" : Str), Value.ref e)] = _
    rw [List.lookup_cons, beq_self_eq_true]
  have hns' : h₁.Ns env.locals (fun y => List.lookup y ([(("self" : Str), Value.ref e), (f, v)] : List (Str × Value)).reverse) := by rw [eL]; exact hns
  refine ks_wpAt_execs_cons (ks_wpAt_Expr_any (ks_wpAt_MethodCall ?_ (call_form hpos)) intE)
  refine ks_wpAt_super_base (env := env) (by rw [kE]; exact ks) (by rw [kE]; exact kc) (by decide) eF (X₁ _ _ ho) rfl hp eC (X₁ _ _ hcode) rfl hvs hfile T.htop ?_
  refine ks_loadName_global kindE (by rw [kE]; exact ks) (loadGlobal_builtin (by rw [eG]; exact G.keeps hk) T.nS (by rw [eB]; exact Gb.keeps hk) ((hGb _ (by decide)).trans (by first | boot_by_name | rfl | kernel_rfl)) ⟨rfl, ?_⟩)
  refine wpAny_loadName_free kindE (by rw [kE]; exact kc) eCells ⟨_, X₁ _ _ hcell, rfl⟩ ?_
  rw [harg]
  refine wpAny_loadName_local kindE (by rw [kE]; exact kse) hns' m_self ?_
  have hC₁ := X₁ _ _ hC
  refine ks_wpAny_isType_cls hC₁ rfl ⟨rfl, ?_⟩
  refine ks_wpAny_call_super (C := C) hC₁ rfl he₁ rfl (fun c z => by cases z) (looks_mroIn X₁ ?_) (fun h₂ hso k₂ => ?_)
  · unfold mroIn
    rw [hclsD, Option.bind_some, if_neg (by simp)]
    simp
  have X₂ : K.In h₂ := X₁.keeps k₂
  have hIs : W.Looks (model prog w) h₂ (isInstance (.ref e) (.type "ValueError")) true :=
    (⟨k₂ _ _ he₁, rfl, rfl, trivial⟩ : InstAt h₂ e (excO C t0) C none).type.andThen (looks_subIn X₂ T.veC)
  refine kxs_getMethod kxs_ValueError hso (looks_opaque X₂ T.opq) (l₀ := .ref C :: bm) (fun A' Q' E' s' k' q' => wpAny_bind ((looks_clsIn X₂ hclsD) A' _ E' s' k' (wpAny_pure q'))) (by simp [List.dropWhile_cons]) X₂ halong hIs neC (by decide) ?_
  have hu : (h₂.push (kxs_mw "ValueError.__init__" e)).get? h₂.objs.size = some (kxs_mw "ValueError.__init__" e) := Heap.get?_push_at rfl rfl
  refine kxs_callWith (i := "ValueError.__init__") (x := e) rfl (evalArgs_plain ?_)
  refine Calls.spliced_cons (Calls.Constant_str (k := j) (pos := p3) ?_)
  refine Calls.spliced_nil ?_
  refine ⟨hu, ?_⟩
  have k₃ : ∀ b o, h₁.get? b = some o → (h₂.push (kxs_mw "ValueError.__init__" e)).get? b = some o := fun b o z => Heap.get?_push_of_some _ (k₂ b o z)
  refine bound_call (k₃ _ _ hC₁) (k₃ _ _ he₁) hu (by rw [sizeLine_eq]; show 1 ≤ 16777216; decide) (fun h₄ t1 k₄ he₄ => ?_)
  -- self.f = f
  have k₅ : ∀ b o, b ≠ e → h₁.get? b = some o → h₄.get? b = some o := fun b o z y => k₄ b o z (k₃ b o y)
  have X₄ : K.In h₄ := fun b o z => k₅ b o (fun y => by rw [y, hnx] at z; cases z) (X₁ b o z)
  have hn₄ : h₄.Ns env.locals (fun y => List.lookup y ([(("self" : Str), Value.ref e), (f, v)] : List (Str × Value)).reverse) := by
    obtain ⟨oL, es, ep, a1, a2⟩ := hns'
    exact ⟨oL, es, ep, k₅ _ _ (by rw [eL]; exact hLe) a1, a2⟩
  refine wpAt_of_wpAny (wpAny_execs_cons (plainObj_wpAny_Assign_Attribute ?_ ?_))
  · refine wpAny_Name (wpAny_loadName_local kindE (by rw [kE]; exact kfl) hn₄ m_f ?_) hdbg
    refine wpAny_Name (wpAny_loadName_local kindE (by rw [kE]; exact kse) hn₄ m_self ?_) (by decide)
    refine set_plain X₄ (ox := excO C t1) (od := none) ⟨he₄, rfl, rfl, trivial⟩ T.sa ?_
    refine exc_osa X₄ he₄ hclsD (show refsVE (.ref C :: bm) = true from hbm) rfl T.noN (fun h₆ tk₆ dx k₆ dn dne he₆ hn₆ => ?_)
    refine wpAny_execs_nil (hq h₆ tk₆ dx t1 ⟨fun b o hb z => k₆ b o hb (k₅ b o hb (hk b o z)), he₆, ?_, dne, hn₆⟩)
    have z1 := hn₄.lt
    rw [eL] at z1
    exact Nat.le_of_lt (Nat.lt_of_lt_of_le z1 dn)
  · rfl
/-- an exception made by C(v) -/
structure Made (h h' : Heap) (e C d : Addr) (f : Str) (v : Value) : Prop where
  keep : ∀ b o, h.get? b = some o → h'.get? b = some o
  new : h.objs.size ≤ e
  obj : ∃ oe vs, h'.get? e = some oe ∧ oe.cls = .ref C ∧ oe.dict = some d ∧ oe.data = .fields vs ∧ vs[1]? = some .none
  dbig : h.objs.size ≤ d
  dne : d ≠ e
  ns : h'.Ns1 d (fun y => if y = f then some v else none)
theorem sup_made (T : SupTxt prog K mg x f C fI) {s : Shared} {v : Value} (X : K.In s.heap) (G : s.heap.Ns mainGlobals mg) (GB : ∃ mb, s.heap.Ns builtinsNs mb ∧ ∀ y : Str, y ≠ "__name__" → mb y = bootBuiltins y)
    (hlim : s.heap.NoLimit) (hroom : A.depth + 1 < recursionLimit)
    (hq : ∀ h' tk e d, Made s.heap h' e C d f v → R (.ok (.ret (.ref e))) { s with heap := h', toks := tk }) :
    codeAny (model prog w) A (.call (.ref C) ⟨[v], []⟩) R s := by
  obtain ⟨nm, q, N, bs, bm, sn, sub, ab, col, dd, k0, k1, k2, k3, k5, hC, hbm, _⟩ := T.cls
  obtain ⟨mb, Gb, hGb⟩ := GB
  obtain ⟨hp, g, dr, tk, os⟩ := s
  have up : ∀ b o, hp.get? b = some o → ((hp.push (kdv_tup [v])).push (excO C hp.objs.size)).get? b = some o := fun b o z => Heap.get?_push_of_some _ (Heap.get?_push_of_some _ z)
  have at_ : ((hp.push (kdv_tup [v])).push (excO C hp.objs.size)).get? (hp.objs.size + 1) = some (excO C hp.objs.size) := by heap_get
  have noK : K.lookup (hp.objs.size + 1) = none := by
    cases z : K.lookup (hp.objs.size + 1) with
    | none => rfl
    | some o => exact absurd (Nat.lt_of_succ_lt (Heap.lt_size (show hp.get? (hp.objs.size + 1) = some o from X _ _ z))) (Nat.lt_irrefl _)
  refine call_own F.excBase_ValueError (fun Y => refsVE_contains Y bm hbm) (X _ _ hC) (looks_findIn X T.iC) (fun self => bind_fn X self T.tC) (by rw [sizeLine_eq]; show 1 ≤ 16777216; decide) ?_
  refine sup_init (s := ⟨(hp.push (kdv_tup [v])).push (excO C hp.objs.size), g, dr, tk, os⟩) T (X.keeps up) (G.keeps up) ⟨mb, Gb.keeps up, hGb⟩ (hlim.keeps up) at_ noK ?_ fun h' tk' dx t1 L => ?_
  · show A.depth + 1 < recursionLimit
    exact hroom
  · have old : ∀ b o, hp.get? b = some o → h'.get? b = some o := fun b o z => L.keep b o (Nat.ne_of_lt (Nat.lt_succ_of_lt (Heap.lt_size z))) (up b o z)
    have big : hp.objs.size + 1 + 1 ≤ dx := by
      have z := L.dbig
      first
        | exact z
        | (rw [Heap.size_push, Heap.size_push] at z; exact z)
    exact ⟨rfl, hq h' tk' (hp.objs.size + 1) dx ⟨old, Nat.le_succ _, ⟨_, _, L.obj, rfl, rfl, rfl, rfl⟩, Nat.le_trans (Nat.le_succ _) (Nat.le_trans (Nat.le_succ _) big), L.dne, L.ns⟩⟩
end
end SupE
end PySem
namespace L2
open PySem PySem.Spec PyProof.Rows
theorem relO_one {f : Str} {v : V} {v' : Value} (r : RelV v v') (g : Str) : RelO (List.lookup g [(f, v)]) (if g = f then some v' else none) := relO_put (fs := []) (mA := fun _ => none) r (fun _ => True.intro) g
section
variable {X : Cx} {x f : Str} {C fI : Addr}
/-- C(e): a new exception with the one field f -/
def tMkSup (C : Addr) (f : Str) (ta : TA) : St → Hp → XK → Prop := fun σ H Q => ta σ H fun vs H1 => ∃ v, vs = [v] ∧ ∀ d, H1 d = none → Q (.ref C) (some d) (upd H1 d (.xd [(f, v)]))
theorem pmk_sup {a : Expr} {ta : TA} {p pos : Pos} {k : Nat} (T : PySem.SupE.SupTxt X.prog X.K X.mg x f C fI) (hr : Room k X.A) (ha : PA X [a] ta) (hg : Gl X x := by rfl) (hdb : (x == ("__debug__" : Str)) = false := by decide)
    (he : starEach (a :: []) X.env = (false, eval a X.env) :: starEach [] X.env := by rfl) (hpl : (backTo pos (starEach [] X.env)).any (·.1) = false := by rfl) :
    PMk X (.Call (.Name x p) [a] [] pos) (tMkSup C f ta) := by
  intro pins s σ H Q I h
  refine wpAny_Call_Name_kw (ld_glob I hg T.gC ?_ hdb)
  refine PySem.W.callWith_K (h₀ := X.base) I.ok.mod.kin T.kC (thn (ha.run pos pins s σ H _ I h) fun us s1 hh => ?_) he hpl
  obtain ⟨vs, H1, I1, r1, v, ev, q1⟩ := hh
  subst ev
  refine ⟨I1.kIn, ?_⟩
  obtain ⟨v', rfl, rv⟩ := vals1 r1
  show wpAny _ _ (call (.ref C) [v']) _ _ _
  have hlim := I1.nolimit
  obtain ⟨mb, gb1, gb2⟩ := I1.mod.blt
  have GG := I1.mod.glob.keeps I1.bk
  have GB := gb1.keeps I1.bk
  obtain ⟨hp, g, dr, tk, os⟩ := s1
  refine wpAny_call (PySem.SupE.sup_made T I1.kIn GG ⟨mb, GB, gb2⟩ hlim (by have := hr.dp; omega) fun h' tk' e d M => ?_)
  show MkP X pins σ Q (.ref e) ⟨h', g, dr, tk', os⟩
  obtain ⟨oe, fv, hoe, hc, hd, hdat, h1⟩ := M.obj
  have hns := M.ns
  obtain ⟨B, b1, b2⟩ := restrict h' fun b => decide (b ≠ e)
  have bk : ∀ b, b ≠ e → B.get? b = h'.get? b := fun b hb => b1 b (decide_eq_true hb)
  have be : B.get? e = none := b2 e (by simp)
  have old : ∀ b o, hp.get? b = some o → B.get? b = some o := fun b o z => (bk b (Nat.ne_of_lt (Nat.lt_of_lt_of_le (Heap.lt_size z) M.new))).trans (M.keep b o z)
  have ob : ObjOk X.prog X.w (upd H1 d (.xd [(f, v)])) B d (.xd [(f, v)]) := ⟨_, hns.at (fun o z => (bk d M.dne).trans z), fun y => relO_one rv y⟩
  have J : Inv X pins σ (upd H1 d (.xd [(f, v)])) ⟨B, g, dr, tk', os⟩ := I1.laid (t' := tk') old M.dbig ob
  refine ⟨e, oe, fv, ⟨B, g, dr, tk', os⟩, _, .ref C, some d, rfl, J, fun b o z => ?_, be, hoe, ⟨hc, hd⟩, hdat, h1, ?_, rfl, I1.bare, raises_own T.exC T.tyC, q1 d (I1.hok.fresh M.dbig)⟩
  · by_cases hb : b = e
    · have z' : B.get? b = some o := z
      rw [hb, be] at z'
      cases z'
    · exact (bk b hb).symm.trans z
  · rw [upd_ne (Ne.symm M.dne)]
    exact I1.hok.fresh M.new
end

/-! ### try: .. except A as n: .. except B as n: .. -/
/-- what the clauses «except c as n» (slot i is n's) wish of an exception of the body, one after the other -/
def wAsN (K : PySem.W.Frag) (i : Nat) (Wout : WX) (D : Ends) : List (Value × (Addr → Value → Option Addr → TS)) → WX
  | [] => Wout
  | (c, ts) :: r => fun cls d σ H => ∃ b, PySem.W.exmOne K cls c = some b ∧
      (b = true → ∀ a, H a = none → ts a cls d { nx := fun σ' H' => D.nx (σ'.set i none) H', rt := D.rt, bk := fun σ' H' => D.bk (σ'.set i none) H', ct := fun σ' H' => D.ct (σ'.set i none) H' } (σ.set i (some (.ref a))) H) ∧
      (b = false → wAsN K i Wout D r cls d σ H)
inductive ClsAs (X : Cx) (n : Str) : List ExceptHandler → List (Value × (Addr → Value → Option Addr → TS)) → Prop
  | nil : ClsAs X n [] []
  | cons {x : Str} {c : Value} {ts : Addr → Value → Option Addr → TS} {b₀ : Stmt} {suite : List Stmt} {np pos' : Pos} {hds : List ExceptHandler} {l : List (Value × (Addr → Value → Option Addr → TS))} (hc : Names X x c)
      (hsu : ∀ (a : Addr) (oe : Obj) (cls : Value) (d : Option Addr) (pn : List (Addr × Obj)), Zc cls d oe → (∃ vs, oe.data = .fields vs) → PSs (X.suite a ((a, oe) :: pn)) (b₀ :: suite) (ts a cls d)) (r : ClsAs X n hds l) :
      ClsAs X n (.ExceptHandler (some (.Name x np)) (some n) (b₀ :: suite) pos' :: hds) ((c, ts) :: l)
section
variable {X : Cx} {n : Str} {i : Nat} {body : List Stmt} {h₀ : ExceptHandler} {hds : List ExceptHandler} {l : List (Value × (Addr → Value → Option Addr → TS))} {pos : Pos} {tb : WX → TS} {Wout : WX}
theorem ps_try_asN (hs : X.stack = X.env :: X.outer) (hf : X.env.frame = some X.env.locals) (hN : X.N.Nodup) (hi : X.N[i]? = some n) (hln : X.env.kindOf n = some .local) (tk : Takes X Wout)
    (hb : ∀ (W : WX) (pn : List (Addr × Obj)) (xe : Value → Shared → Prop), Takes (X.tr pn xe) W → PassesOwn (model X.prog X.w) X.A X.env xe → PSs (X.tr pn xe) body (tb W))
    (hh : ClsAs X n (h₀ :: hds) l) : PS X (.Try body (h₀ :: hds) [] [] pos) (fun D σ H => tb (wAsN X.K i Wout D l) D σ H) := by
  refine ⟨fun pins s σ H D I h => ?_⟩
  have ok := I.ok
  have hfr : X.A.frames = some (X.env :: X.outer) := by rw [ok.frames, hs]
  refine wpAny_Try_except ?_
  refine wpAny_mono ((hb (wAsN X.K i Wout D l) (X.pn ++ pins) _ (fun u s' xx => ?_) PassesOwn.looking).run [] s σ H D (I.toTry _) h) (fun f s1 hsp => ?_) (fun e s1 he => he)
  · obtain ⟨a, B, sI, pins', σ', H', cls, d, rfl, J', nb, up, sky, na, os, ag, w⟩ := xx
    have J : Inv X pins σ' H' sI := J'.ofTry ok
    have sky' : Sky B (X.env :: X.outer) a (Zc cls d) X.env.locals s'.heap := by rw [← hs]; exact sky
    show wpAny (model X.prog X.w) X.A (noteFrame (.ref a) X.env) _ _ _
    refine Sky.land Zc.steady hfr hf sky' fun h3 fl3 up3 => ?_
    have J3 : Inv X pins σ' H' { s' with heap := h3 } := J.landed nb fl3.1 (up.trans up3) os ag
    obtain ⟨oe3, vs3, he3, hz3, hd3⟩ := fl3.there
    have apart : a ∉ frs (X.env :: X.outer) := fun hm => by
      obtain ⟨_, o', e', hnf⟩ := fl3.2.2.1.mem hm
      rw [he3] at e'
      cases e'
      exact hnf _ hd3
    have nL : a ≠ X.env.locals := fun z => apart (List.mem_filterMap.mpr ⟨X.env, List.mem_cons_self, by rw [hf, z]⟩)
    have nF : a ∉ X.fs := fun hm => by
      obtain ⟨e, he, q⟩ := List.mem_filterMap.mp hm
      exact apart (List.mem_filterMap.mpr ⟨e, List.mem_cons_of_mem _ he, q⟩)
    have S3 := J3.suite he3 hd3 na nL nF
    have go : ∀ {hds' : List ExceptHandler} {l' : List (Value × (Addr → Value → Option Addr → TS))}, ClsAs X n hds' l' → wAsN X.K i Wout D l' cls d σ' H' →
        wpAny (model X.prog X.w) X.A (handleBy (.ref a) X.env hds') (SP X pins D) X.xe { s' with heap := h3 } := by
      intro hds' l' hk
      induction hk with
      | nil =>
        intro w
        refine wpAny_handleBy_nil ?_
        obtain ⟨k1, k2, k3, oe, vs, T, oT, ts', he, hz, hd, h1, hr⟩ := id fl3
        unfold PySem.passOn
        refine wpAny_bind (wpAny_field he hd h1 ?_)
        rw [if_neg (show ¬ ((Value.ref T == Value.none) = true) from by simp)]
        have fin : wpAny (model X.prog X.w) X.A (setFlight (.ref a) X.env.frame) (fun _ s4 => wpAny (model X.prog X.w) X.A (throw (.ref a) : Sem Flow) (SP X pins D) X.xe s4) X.xe { s' with heap := h3 } := by
          rw [hf]
          refine HandSPX.setFlight_upZ fl3 fun h4 hh4 up4 => wpAny_throw (tk _ _ ?_)
          exact ⟨a, B, sI, pins, σ', H', cls, d, rfl, J, nb, (up.trans up3).trans up4, .inr (.inr (by rw [hs]; exact hh4)), na, os, ag, w⟩
        first
          | exact wpAny_bind (wpAny_pure (wpAny_bind fin))
          | exact wpAny_bind fin
      | @cons x c ts b₀ suite np pos' hds2 l2 hc hsu r ih =>
        intro w
        obtain ⟨b, hb1, hyes, hno⟩ := w
        refine wpAny_handleBy_cons (codeAny_handlers_test ?_) (by intro q; cases q)
        have LT : PySem.W.Looks (model X.prog X.w) h3 (typeOf (.ref a)) cls := fun A Q E s k q => wpAny_typeOf_ref (k _ _ he3) (by rw [hz3.1]; exact q)
        have LM := PySem.W.exm_one (M := model X.prog X.w) (J3.kIn) LT hb1
        have named : ∀ {Q : Value → Shared → Prop} {E : Value → Shared → Prop}, Q c { s' with heap := h3 } → wpAny (model X.prog X.w) (X.A.mark (some (.ref a))) (eval (.Name x np) X.env) Q E { s' with heap := h3 } := fun {Q E} q => by
          obtain ⟨hg, hdbg, hm | ⟨hm, hv, hnn⟩⟩ := hc
          · exact ld_glob (X := X.suite a ((a, oe3) :: (X.pn ++ pins))) S3 hg hm q hdbg
          · exact ld_blt (X := X.suite a ((a, oe3) :: (X.pn ++ pins))) S3 hg hm hv q hnn hdbg
        refine named (LM.here ?_)
        cases b with
        | false =>
          show wpAny _ X.A (handleBy (.ref a) X.env hds2) _ _ _
          exact ih (hno rfl)
        | true =>
          refine codeAny_handlers_suite_as ?_
          refine HandSPX.lands_againZ fl3 fun h4 fl4 up4 => ?_
          have J4 : Inv X pins σ' H' { s' with heap := h4 } := J.landed nb fl4.1 ((up.trans up3).trans up4) os ag
          obtain ⟨oe4, vs4, he4, hz4, hd4⟩ := fl4.there
          have S4 := J4.suite he4 hd4 na nL nF
          refine store_ok (X := X.suite a ((a, oe4) :: (X.pn ++ pins))) (v := .ref a) S4 hN hi (.inl hln) rfl (fun s5 S5 => ?_) (.inr hln)
          refine wpAny_mono ((hsu a oe4 cls d (X.pn ++ pins) hz4 ⟨_, hd4⟩).run [] s5 _ H' _ S5 (hyes rfl a na)) (fun f s6 hsp => ?_) (fun _ _ z => False.elim z)
          have gone : ∀ {σ6 : St} {H6 : Hp} {Q : Shared → Prop}, Inv (X.suite a ((a, oe4) :: (X.pn ++ pins))) [] σ6 H6 s6 → (∀ s7, Inv X pins (σ6.set i none) H6 s7 → Q s7) →
              wpAny (model X.prog X.w) X.A (do bindName X.env n .none; unbindBehindTheSuite X.env n pos') (fun _ s7 => Q s7) X.xe s6 := fun {σ6 H6 Q} S6 hq => gone_ok (S6.unsuite ok) hN hi hln hq
          cases f with
          | next =>
            obtain ⟨σ6, H6, S6, q6⟩ := hsp
            exact gone S6 fun s7 J7 => ⟨_, _, J7, q6⟩
          | brk =>
            obtain ⟨σ6, H6, S6, q6⟩ := hsp
            exact gone S6 fun s7 J7 => ⟨_, _, J7, q6⟩
          | cont =>
            obtain ⟨σ6, H6, S6, q6⟩ := hsp
            exact gone S6 fun s7 J7 => ⟨_, _, J7, q6⟩
          | ret u =>
            obtain ⟨v6, σ6, H6, S6, r6, q6⟩ := hsp
            exact gone S6 fun s7 J7 => ⟨_, _, _, J7, r6, q6⟩
    exact go hh w
  · cases f with
    | next =>
      obtain ⟨σ', H', J', q⟩ := hsp
      exact wpAny_execs_nil ⟨σ', H', J'.ofTry ok, q⟩
    | brk =>
      obtain ⟨σ', H', J', q⟩ := hsp
      exact ⟨σ', H', J'.ofTry ok, q⟩
    | cont =>
      obtain ⟨σ', H', J', q⟩ := hsp
      exact ⟨σ', H', J'.ofTry ok, q⟩
    | ret u =>
      obtain ⟨v, σ', H', J', r, q⟩ := hsp
      exact ⟨v, σ', H', J'.ofTry ok, r, q⟩
end
end L2

set_option Elab.async false
set_option linter.all false
set_option maxRecDepth 100000
set_option maxHeartbeats 4000000
/-! o.m(..) in a try's body: what it may raise is told by the slots. -/
namespace L2
open PySem PySem.Spec PyProof.Rows
section
variable {X : Cx} {CX : CXT} {k : Nat} {f C : Addr} {fd : FuncData} {ps : List Str} {sp : Sp} {E : St → XK} {m : Str} {pos apos : Pos} {e o : Expr} {es : List Expr} {ta : TE} {t : TA}
/-- o.m(..), what it may raise told by the slots -/
def tMethX (C : Addr) (m : Str) (sp : Sp) (E : St → XK) (ta : TE) (t : TA) : TE := fun σ H Q => ta σ H fun x H1 => ∃ a dx fs, x = .ref a ∧ H1 a = some (.ins C dx fs) ∧ fs.lookup m = none ∧ t σ H1 fun vs H2 => sp (x :: vs) H2 Q (E σ)
theorem pe_methX {pl : Sem Bool} (he : PE X o ta) (c : Cls X.K C) (hm : Meth X.K C m f) (F : FnOk X.prog X.w X.K X.mg X.base CX k f fd ps sp) (hr : Room k X.A) (hb : Binds X.K fd ps []) (hx : ∀ σ, PassesAt CX X σ (E σ)) (ha : PA X (e :: es) t)
    (hst : starEach (e :: es) X.env = (false, eval e X.env) :: starEach es X.env := by rfl) (hpl : (backTo pos (starEach es X.env)).any (·.1) = false := by rfl)
    (ht : eval (.Call (.Attribute o m apos) (e :: es) [] pos) X.env = (do
      let ov ← eval o X.env
      standAt apos.atName
      let (f, first) ← holding [ov] (getMethod ov m pl)
      callWith pos f first (backTo pos (starEach (e :: es) X.env)) (backToKw pos (keywordEach [] X.env))) := by rfl) :
    PE X (.Call (.Attribute o m apos) (e :: es) [] pos) (tMethX C m sp E ta t) := by
  refine ⟨fun pins s σ H Q I h => ?_⟩
  refine PySem.W.methodCall_KW (pl := pl) (thn (he.run pins s σ H _ I h) fun u s1 ⟨x, H1, I1, rx, a, dx, fs, ex, ea, l, q⟩ => ?_) ht
  subst ex
  obtain rfl : u = Value.ref a := rx
  refine getmeth_ok I1 ea c hm l ?_
  refine PySem.W.callWith_K (first := [.ref a]) (h₀ := X.base) I.ok.mod.kin hm.kp (thn (ha.run pos pins s1 σ H1 _ I1 q) fun us s2 ⟨vs, H2, I2, r, q2⟩ => ⟨I2.kIn, ?_⟩) hst hpl
  exact run_fnS (us := .ref a :: us) (vs := .ref a :: vs) F hr hb (hx σ) I2 (.cons rfl r) q2
end
end L2

set_option Elab.async false
set_option linter.all false
set_option maxRecDepth 100000
set_option maxHeartbeats 4000000
/-! The words of this proof: the text by places, the heap, what stands in it. -/
namespace K7
open PySem PySem.Spec PyProof.Rows L2 Ed
open C8 (Cal Met Mak pe_c pe_mk pe_mt pe_mt0)

def top (i : Nat) : Stmt := PySem.Challenge.pw_sameshape_k72_whole_editor_undo_and_redo.main.body.getD i (.Pass ⟨0, 0, 0, 0⟩)

/-- a def of the module, as it stands behind the top -/
structure Dn (K : PySem.W.Frag) (mg : Str → Option Value) (x : Str) (st : Stmt) (ps : List Str) : Prop where
  ex : ∃ f fd, L2.Fun K x x st f fd ∧ mg x = some (.ref f) ∧ Binds K fd ps []
/-- a method -/
structure Dm (K : PySem.W.Frag) (C : Addr) (m qual : Str) (st : Stmt) (ps : List Str) : Prop where
  ex : ∃ f fd, L2.Fun K m qual st f fd ∧ Meth K C m f ∧ Binds K fd ps []
/-- the built-in names that the text uses stand for the built-ins -/
structure Blt (mg : Str → Option Value) : Prop where
  b_len : mg "len" = none
  b_max : mg "max" = none
  b_min : mg "min" = none
  b_int : mg "int" = none
  b_abs : mg "abs" = none
  b_list : mg "list" = none
  b_tuple : mg "tuple" = none
  b_range : mg "range" = none
  b_isinstance : mg "isinstance" = none
  b_str : mg "str" = none
  b_bool : mg "bool" = none
section
variable {P : Program} {w : World} {K : PySem.W.Frag} {mg : Str → Option Value} {base : Heap}
theorem cal_of {x : Str} {st : Stmt} {N ps : List Str} {k : Nat} {sp : Sp} (D : Dn K mg x st ps) (S : FnScope N ps (defScope st)) (len : ∀ vs H Q E, sp vs H Q E → vs.length = ps.length)
    (hbody : ∀ (f : Addr) (cdv : Value) (A : Around) (outer : List Env) (s : Shared) (H : Hp) (vs : List V) (Q : VK) (E : XK), Room k (A.deeper (envOfC x (defScope st) s.heap.objs.size f cdv)) → sp vs H Q E →
      ∃ t, PSs (cxOf CX0 P w K mg base N x (defScope st) f cdv A outer s H E).nox (defBody st) t ∧ t { nx := fun _ H' => Q .non H', rt := Q } (start N vs) H) : Cal P w K mg base (k + 1) x sp [] := by
  obtain ⟨f, fd, F, hm, b⟩ := D.ex
  exact ⟨f, fd, ps, [], F.ok S len (fun cdv A outer s H vs Q E hr h => hbody f cdv A outer s H vs Q E hr h), hm, F.kp, b, .nil⟩
theorem met_of {C : Addr} {m qual : Str} {st : Stmt} {N ps : List Str} {k : Nat} {sp : Sp} (c : Cls K C) (D : Dm K C m qual st ps) (S : FnScope N ps (defScope st)) (len : ∀ vs H Q E, sp vs H Q E → vs.length = ps.length)
    (hbody : ∀ (f : Addr) (cdv : Value) (A : Around) (outer : List Env) (s : Shared) (H : Hp) (vs : List V) (Q : VK) (E : XK), Room k (A.deeper (envOfC qual (defScope st) s.heap.objs.size f cdv)) → sp vs H Q E →
      ∃ t, PSs (cxOf CX0 P w K mg base N qual (defScope st) f cdv A outer s H E).nox (defBody st) t ∧ t { nx := fun _ H' => Q .non H', rt := Q } (start N vs) H) : Met P w K mg base (k + 1) C m sp [] := by
  obtain ⟨f, fd, F, hm, b⟩ := D.ex
  exact ⟨f, fd, ps, [], c, hm, F.ok S len (fun cdv A outer s H vs Q E hr h => hbody f cdv A outer s H vs Q E hr h), b, .nil⟩
end

/-! ### the heap -/
theorem lk_new {H : Hp} {a p : Addr} {o u : HO} (n : H p = none) (h : H a = some u) : upd H p o a = some u := by
  rw [upd_ne (ne_of_none h n)]
  exact h
theorem lk_ne {H : Hp} {a p : Addr} {o u : HO} (d : a ≠ p) (h : H a = some u) : upd H p o a = some u := by
  rw [upd_ne d]
  exact h
theorem nn_ne {H : Hp} {a p : Addr} {o : HO} (h : upd H p o a = none) : a ≠ p := fun e => by
  rw [e, upd_same] at h
  cases h
theorem nn_of {H : Hp} {a p : Addr} {o : HO} (h : upd H p o a = none) : H a = none := by
  have e := nn_ne h
  rw [upd_ne e] at h
  exact h
theorem Same_new {H : Hp} {p : Addr} {o : HO} (n : H p = none) : Same H (upd H p o) := fun _ _ h => lk_new n h
theorem Same_put {H0 H : Hp} {p : Addr} {o : HO} (s : Same H0 H) (n : H0 p = none) : Same H0 (upd H p o) := fun b u h => by
  rw [upd_ne (ne_of_none h n)]
  exact s b u h
/-- the tuples stand -/
def Kp (H H' : Hp) : Prop := ∀ a l, H a = some (.tup l) → H' a = some (.tup l)
theorem Kp.refl (H : Hp) : Kp H H := fun _ _ h => h
theorem Kp.trans {H H1 H2 : Hp} (a : Kp H H1) (b : Kp H1 H2) : Kp H H2 := fun c l h => b c l (a c l h)
theorem Kp.of {H H' : Hp} (s : Same H H') : Kp H H' := fun a l h => s a _ h
theorem Kp_lst {H : Hp} {p : Addr} {l : List V} {o : HO} (h : H p = some (.lst l)) : Kp H (upd H p o) := fun a m q => lk_ne (ne_of q h (by intro z; cases z)) q
theorem Kp_new {H : Hp} {p : Addr} {o : HO} (n : H p = none) : Kp H (upd H p o) := fun a m q => lk_new n q

theorem Same.at {H H' : Hp} {a : Addr} {o : HO} (s : Same H H') (h : H a = some o) : H' a = some o := s a o h
theorem Kp.at {H H' : Hp} {a : Addr} {l : List V} (s : Kp H H') (h : H a = some (.tup l)) : H' a = some (.tup l) := s a l h

/-! ### what stands in it -/
def Sc : V → Prop
  | .int _ => True
  | .str _ => True
  | _ => False
/-- an element: an int, a text, a pair of such -/
def El (H : Hp) : V → Prop
  | .int _ => True
  | .str _ => True
  | .ref a => ∃ x y, H a = some (.tup [x, y]) ∧ Sc x ∧ Sc y
  | _ => False
theorem El.kp {H H' : Hp} (k : Kp H H') : ∀ {v : V}, El H v → El H' v
  | .int _, _ => trivial
  | .str _, _ => trivial
  | .ref _, ⟨x, y, h, a, b⟩ => ⟨x, y, k _ _ h, a, b⟩
def Els (H : Hp) (l : List V) : Prop := ∀ v ∈ l, El H v
theorem Els.kp {H H' : Hp} (k : Kp H H') {l : List V} (h : Els H l) : Els H' l := fun v hv => (h v hv).kp k
/-- a piece -/
def PcAt (H : Hp) : V → Pc V → Prop
  | v, .kept s e => ∃ a, v = .ref a ∧ H a = some (.tup [.str "kept", .int s, .int e])
  | v, .ins l => ∃ a b, v = .ref a ∧ H a = some (.tup [.str "inserted", .ref b]) ∧ H b = some (.tup l)
theorem PcAt.kp {H H' : Hp} (k : Kp H H') {v : V} : ∀ {p : Pc V}, PcAt H v p → PcAt H' v p
  | .kept _ _, ⟨a, e, h⟩ => ⟨a, e, k _ _ h⟩
  | .ins _, ⟨a, b, e, h, h'⟩ => ⟨a, b, e, k _ _ h, k _ _ h'⟩
abbrev PcsAt (H : Hp) : List V → List (Pc V) → Prop := Paired (PcAt H)
theorem PcsAt.kp {H H' : Hp} (k : Kp H H') {vs : List V} {ps : List (Pc V)} (h : PcsAt H vs ps) : PcsAt H' vs ps := L2.Paired.mapP h fun _ _ q => PcAt.kp k q
/-- an origin -/
def OgAt (H : Hp) : V → Og V → Prop
  | v, .base k => v = .int k
  | v, .new x => ∃ a, v = .ref a ∧ H a = some (.tup [x])
theorem OgAt.kp {H H' : Hp} (k : Kp H H') {v : V} : ∀ {p : Og V}, OgAt H v p → OgAt H' v p
  | .base _, h => h
  | .new _, ⟨a, e, h⟩ => ⟨a, e, k _ _ h⟩
abbrev OgsAt (H : Hp) : List V → List (Og V) → Prop := Paired (OgAt H)
theorem OgsAt.kp {H H' : Hp} (k : Kp H H') {vs : List V} {ps : List (Og V)} (h : OgsAt H vs ps) : OgsAt H' vs ps := L2.Paired.mapP h fun _ _ q => OgAt.kp k q
/-- an edit -/
def EdAt (H : Hp) (v : V) (d : Nat × Nat × List V) : Prop := ∃ a b, v = .ref a ∧ H a = some (.tup [.int d.1, .int d.2.1, .ref b]) ∧ H b = some (.tup d.2.2)
theorem EdAt.kp {H H' : Hp} (k : Kp H H') {v : V} {d : Nat × Nat × List V} : EdAt H v d → EdAt H' v d
  | ⟨a, b, e, h, h'⟩ => ⟨a, b, e, k _ _ h, k _ _ h'⟩
abbrev EdsAt (H : Hp) : List V → List (Nat × Nat × List V) → Prop := Paired (EdAt H)
theorem EdsAt.kp {H H' : Hp} (k : Kp H H') {vs : List V} {ps : List (Nat × Nat × List V)} (h : EdsAt H vs ps) : EdsAt H' vs ps := L2.Paired.mapP h fun _ _ q => EdAt.kp k q
/-- a tuple of these -/
def TupAt (H : Hp) (v : V) (l : List V) : Prop := ∃ a, v = .ref a ∧ H a = some (.tup l)
theorem TupAt.kp {H H' : Hp} (k : Kp H H') {v : V} {l : List V} : TupAt H v l → TupAt H' v l
  | ⟨a, e, h⟩ => ⟨a, e, k _ _ h⟩
/-- a tuple of pieces -/
def PcsT (H : Hp) (v : V) (ps : List (Pc V)) : Prop := ∃ vs, TupAt H v vs ∧ PcsAt H vs ps
theorem PcsT.kp {H H' : Hp} (k : Kp H H') {v : V} {ps : List (Pc V)} : PcsT H v ps → PcsT H' v ps
  | ⟨vs, h, q⟩ => ⟨vs, h.kp k, q.kp k⟩

theorem Paired.get {α β : Type} {R : α → β → Prop} : ∀ {xs : List α} {ys : List β} {i : Nat} {x : α}, Paired R xs ys → xs[i]? = some x → ∃ y, ys[i]? = some y ∧ R x y
  | _, _, _, _, .nil, e => by simp at e
  | _, _, 0, _, .cons r _, e => by simp at e; subst e; exact ⟨_, rfl, r⟩
  | _, _, i + 1, x, .cons _ t, e => by
    obtain ⟨y, h1, h2⟩ := Paired.get (i := i) (x := x) t (by simpa using e)
    exact ⟨y, by simpa using h1, h2⟩
theorem Paired.app {α β : Type} {R : α → β → Prop} : ∀ {xs xs' : List α} {ys ys' : List β}, Paired R xs ys → Paired R xs' ys' → Paired R (xs ++ xs') (ys ++ ys')
  | _, _, _, _, .nil, s => s
  | _, _, _, _, .cons r t, s => .cons r (Paired.app t s)
theorem Paired.one {α β : Type} {R : α → β → Prop} {x : α} {y : β} (h : R x y) : Paired R [x] [y] := .cons h .nil
theorem take_more {α : Type} : ∀ {l : List α} {i : Nat} {x : α}, l[i]? = some x → l.take (i + 1) = l.take i ++ [x]
  | [], i, x, h => by simp at h
  | a :: l, 0, x, h => by
    have e : a = x := Option.some.inj h
    subst e
    rfl
  | a :: l, i + 1, x, h => by
    have ih := take_more (l := l) (i := i) (x := x) h
    show a :: l.take (i + 1) = a :: l.take i ++ [x]
    rw [ih]
    rfl
theorem fold_more {α β : Type} (f : β → α → β) (b : β) {l : List α} {i : Nat} {x : α} (h : l[i]? = some x) : (l.take (i + 1)).foldl f b = f ((l.take i).foldl f b) x := by
  rw [take_more h, List.foldl_append]
  rfl
theorem sc_nil_lt : (0 : Nat) < sizeLine := by rw [sizeLine_eq]; decide
theorem line_of {n : Nat} (h : n ≤ 100000) : n ≤ sizeLine := by rw [sizeLine_eq]; omega
theorem line_lt {n : Nat} (h : n ≤ 100000) : n < sizeLine := by rw [sizeLine_eq]; omega
end K7
namespace K7
open PySem PySem.Spec PyProof.Rows L2 Ed
theorem iteD {c A B : Prop} [Decidable c] (h : c) (a : A) : if decide c = true then A else B := by
  rw [if_pos (decide_eq_true h)]
  exact a
theorem iteN {c A B : Prop} [Decidable c] (h : ¬ c) (b : B) : if decide c = true then A else B := by
  rw [if_neg (by simpa using h)]
  exact b
theorem iteC {c A B : Prop} [Decidable c] (a : c → A) (b : ¬ c → B) : if decide c = true then A else B := by
  by_cases h : c
  · exact iteD h (a h)
  · exact iteN h (b h)
theorem atI_neg1 {xs : List V} {x : V} (h : xs.getLast? = some x) : atI xs (-1) = some x := by
  have e := snoc_of h
  rw [e]
  exact atI_last _ _
theorem ixN_neg1 {n : Nat} (h : 0 < n) : ixN n (-1) = some (n - 1) := by
  unfold ixN
  rw [if_neg (by omega), if_pos (by omega)]
  congr 1
  omega
theorem set_last {α : Type} {xs : List α} {x y : α} (h : xs.getLast? = some x) : xs.set (xs.length - 1) y = xs.dropLast ++ [y] := by
  have e := snoc_of h
  conv => lhs; rw [e]
  rw [List.set_append_right]
  · have : (xs.dropLast ++ [x]).length - 1 - xs.dropLast.length = 0 := by simp
    rw [this]
    rfl
  · simp
theorem Paired.len {α β : Type} {R : α → β → Prop} {xs : List α} {ys : List β} (h : Paired R xs ys) : xs.length = ys.length := PySem.Paired.length h
theorem Paired.last {α β : Type} {R : α → β → Prop} {xs : List α} {ys : List β} {y : β} (h : Paired R xs ys) (e : ys.getLast? = some y) : ∃ x, xs.getLast? = some x ∧ R x y := by
  rw [List.getLast?_eq_getElem?] at e
  have hl := Paired.len h
  obtain ⟨hi, e2⟩ := List.getElem?_eq_some_iff.mp e
  have hx : xs[ys.length - 1]? = some (xs[ys.length - 1]'(by omega)) := List.getElem?_eq_getElem (by omega)
  obtain ⟨y', e3, r⟩ := Paired.get h hx
  rw [e] at e3
  cases e3
  refine ⟨_, ?_, r⟩
  rw [List.getLast?_eq_getElem?, show xs.length - 1 = ys.length - 1 by omega]
  exact hx
theorem Paired.front {α β : Type} {R : α → β → Prop} : ∀ {xs : List α} {ys : List β}, Paired R xs ys → Paired R xs.dropLast ys.dropLast
  | _, _, .nil => .nil
  | _, _, .cons r .nil => .nil
  | _, _, .cons r (.cons r' t) => .cons r (Paired.front (.cons r' t))
theorem Paired.takeN {α β : Type} {R : α → β → Prop} : ∀ {xs : List α} {ys : List β} (n : Nat), Paired R xs ys → Paired R (xs.take n) (ys.take n)
  | _, _, 0, _ => .nil
  | _, _, _ + 1, .nil => .nil
  | _, _, n + 1, .cons r t => .cons r (Paired.takeN n t)
theorem Paired.dropN {α β : Type} {R : α → β → Prop} : ∀ {xs : List α} {ys : List β} (n : Nat), Paired R xs ys → Paired R (xs.drop n) (ys.drop n)
  | _, _, 0, h => h
  | _, _, _ + 1, .nil => .nil
  | _, _, n + 1, .cons r t => Paired.dropN n t
theorem cutV_nat (l : List V) (a b : Nat) : cutV l (some (a : Int)) (some (b : Int)) = (l.take b).drop a := by
  unfold cutV
  rw [HT.sIx_nat, HT.sIx_nat]
  apply List.ext_getElem?
  intro i
  simp only [List.getElem?_take, List.getElem?_drop]
  by_cases h : a ≤ l.length
  · rw [Nat.min_eq_left h]
    by_cases h2 : i < min b l.length - a
    · rw [if_pos h2, if_pos (by omega)]
    · rw [if_neg h2]
      by_cases h3 : a + i < b
      · rw [if_pos h3]
        exact (List.getElem?_eq_none (by omega)).symm
      · rw [if_neg h3]
  · rw [if_neg (by omega)]
    split
    · exact (List.getElem?_eq_none (by omega)).symm
    · rfl
theorem sl_ok {K : PySem.W.Frag} {H : Hp} {p : Addr} {l : List V} {Q : VK} (a b : Nat) (h : H p = some (.tup l)) (k : ∀ H' q, Same H H' → H' q = some (.tup ((l.take b).drop a)) → Q (.ref q) H') :
    rSlA K (.ref p) (some (a : Int)) (some (b : Int)) H Q := by
  refine ⟨p, l, rfl, SqT.of h, fun w => ?_, fun _ q nq => ?_⟩
  · rw [HT.sIx_nat, HT.sIx_nat] at w
    refine k H p (Same.refl _) ?_
    have e : (l.take b).drop a = l := by
      obtain ⟨w1, w2⟩ := w
      have hb : l.length ≤ b := by omega
      rw [List.take_of_length_le hb]
      rcases Nat.min_eq_zero_iff.mp w1 with z | z
      · rw [z]
        rfl
      · rw [List.eq_nil_of_length_eq_zero z]
        simp
    rw [e]
    exact h
  · refine k _ q (Same_new nq) ?_
    rw [upd_same, cutV_nat]
theorem cat_ok {K : PySem.W.Frag} {H : Hp} {p q : Addr} {l m : List V} {Q : VK} (h : H p = some (.tup l)) (h' : H q = some (.tup m)) (hz : l.length + m.length ≤ 100000) (k : ∀ H' r, Same H H' → H' r = some (.tup (l ++ m)) → Q (.ref r) H') :
    rCatA K (.ref p) (.ref q) H Q := by
  refine ⟨p, q, l, m, rfl, rfl, SqT.of h, SqT.of h', line_of hz, fun e => ?_, fun _ e => ?_, fun _ _ r nr => ?_⟩
  · subst e
    exact k H q (Same.refl _) h'
  · subst e
    exact k H p (Same.refl _) (by rw [List.append_nil]; exact h)
  · exact k _ r (Same_new nr) upd_same
def rLenS (K : PySem.W.Frag) : List V → Hp → VK → Prop := fun xs H Q => ∃ p ys, xs = [.ref p] ∧ (SqL K H p ys ∨ SqT K H p ys) ∧ Q (.int ys.length) H
theorem natAdd (a b : Nat) : ((a : Int) + (b : Int)) = ((a + b : Nat) : Int) := rfl
theorem dec_nat (a b : Nat) : decide (V.int (a : Int) = V.int (b : Int)) = (a == b) := by
  rw [dec_int]
  by_cases h : a = b
  · subst h
    simp
  · rw [beq_eq_false_iff_ne.mpr h]
    exact beq_eq_false_iff_ne.mpr fun z => h (by omega)
theorem kept_ne : ¬ (V.str ("inserted" : Str) = V.str ("kept" : Str)) := by decide +kernel
theorem ins_ne : ¬ (V.str ("kept" : Str) = V.str ("inserted" : Str)) := by decide +kernel
end K7

set_option Elab.async false
set_option linter.all false
set_option maxRecDepth 100000
set_option maxHeartbeats 4000000
namespace K7
open PySem PySem.Spec PyProof.Rows L2 Ed
open C8 (Cal Met Mak pe_c pe_mk pe_mt pe_mt0)
/-! ### small words of the proofs: walk_at "lk" (what stands at an address), "ne" (two addresses differ), "rd" (the plain steps of a reading) -/
local macro_rules | `(tactic| walk_at "ne") => `(tactic| first
  | assumption
  | exact Ne.symm (by assumption)
  | exact ne_of_none (by assumption) (by assumption)
  | exact Ne.symm (ne_of_none (by assumption) (by assumption))
  | exact ne_of (by assumption) (by assumption) (by intro z; cases z)
  | exact ne_of_none (by walk_at "lk") (by assumption)
  | exact Ne.symm (ne_of_none (by walk_at "lk") (by assumption))
  | exact ne_of (by walk_at "lk") (by walk_at "lk") (by intro z; cases z))
local macro_rules | `(tactic| walk_at "lk") => `(tactic| first
  | assumption
  | exact upd_same
  | (refine lk_new (by assumption) ?_; walk_at "lk")
  | (refine Same.at (by assumption) ?_; walk_at "lk")
  | (refine Kp.at (by assumption) ?_; walk_at "lk")
  | (refine lk_ne (by walk_at "ne") ?_; walk_at "lk"))
local macro_rules | `(tactic| walk_at "at") => `(tactic| first
  | rfl
  | exact atI_last _ _
  | exact atI_neg1 (by assumption)
  | exact atI_nat (by first | assumption | rfl))
local macro_rules | `(tactic| walk_at "ix") => `(tactic| first
  | refine ⟨_, _, _, _, rfl, rfl, SqT.of (by walk_at "lk"), by walk_at "at", ?_⟩
  | refine ⟨_, _, _, _, rfl, rfl, SqL.of (by walk_at "lk"), by walk_at "at", ?_⟩)
local macro_rules | `(tactic| walk_at "rd1") => `(tactic| first
  | (with_reducible refine iteN kept_ne ?_)
  | (with_reducible refine iteN ins_ne ?_)
  | refine ⟨_, rfl, ?_⟩
  | refine ⟨_, _, rfl, rfl, ?_⟩
  | walk_at "ix"
  | refine ⟨rfl, ?_⟩
  | refine ⟨_, _, rfl, ?_⟩
  | refine ⟨Nat.le_of_ble_eq_true rfl, ?_⟩
  | refine ⟨.inl ⟨rfl, _, SqL.of (by walk_at "lk")⟩, ?_⟩)
local macro_rules | `(tactic| walk_at "rd") => `(tactic| repeat (walk_at "rd1"))
local macro_rules | `(tactic| walk_at "rq") => `(tactic| ((repeat (walk_at "rd1")); (try dsimp only)))

section
variable {P : Program} {w : World} {K : PySem.W.Frag} {mg : Str → Option Value} {base : Heap}
/-! ### length_of, piece_part, can_join, joined_piece -/
abbrev s_length_of : Stmt := top 8
theorem sc_length_of : FnScope ["piece"] ["piece"] (defScope s_length_of) := ⟨rfl, rfl, rfl, by decide +kernel, rfl, by decide +kernel, by decide +kernel⟩
def spLen : Sp := fun vs H Q _ => ∃ v p n, vs = [v] ∧ PcAt H v p ∧ p.fine n ∧ Q (.int p.len) H
theorem ok_length_of (D : Dn K mg "length_of" s_length_of ["piece"]) (T : Blt mg) : Cal P w K mg base 1 "length_of" spLen [] := by
  refine cal_of D sc_length_of (fun vs H Q E h => ?_) (fun f cdv A outer s H vs Q E hr h => ?_)
  · obtain ⟨v, p, n, rfl, _⟩ := h
    rfl
  · refine ⟨_, (pss_cons (ps_if (pt_cmpR op_eq (pe_ix ix_tup (pv 0) pe_int (fun _ _ => rfl)) pe_str (nomark _)) (pss_one (ps_ret (pe_op op_sub (pe_ix ix_tup (pv 0) pe_int (fun _ _ => rfl)) (pe_ix ix_tup (pv 0) pe_int (fun _ _ => rfl))))) pss_nil)
  (pss_one (ps_ret (pe_callB call_len_seq (by rfl) T.b_len (by decide +kernel) (pa_cons (pe_ix ix_tup (pv 0) pe_int (fun _ _ => rfl)) pa_nil))))), ?_⟩
    obtain ⟨v, p, n, rfl, hp, hf, k⟩ := h
    cases p with
    | kept s e =>
      obtain ⟨a, rfl, ha⟩ := hp
      walk_at "rq"
      have e1 : ((e : Int) - (s : Int)) = ((Pc.kept s e : Pc V).len : Nat) := by
        have := hf.1
        show _ = ((e - s : Nat) : Int)
        omega
      rw [e1]
      exact k
    | ins l =>
      obtain ⟨a, b, rfl, ha, hb⟩ := hp
      walk_at "rq"
      walk_at "rq"
      refine ⟨_, _, rfl, .inr (SqT.of hb), k⟩
abbrev s_piece_part : Stmt := top 9
theorem sc_piece_part : FnScope ["piece", "start", "end"] ["piece", "start", "end"] (defScope s_piece_part) := ⟨rfl, rfl, rfl, by decide +kernel, rfl, by decide +kernel, by decide +kernel⟩
def spPart : Sp := fun vs H Q _ => ∃ (v : V) (p : Pc V) (a b : Nat), vs = [v, .int a, .int b] ∧ PcAt H v p ∧ ∀ H' v', Same H H' → PcAt H' v' (p.part a b) → Q v' H'
theorem ok_piece_part (D : Dn K mg "piece_part" s_piece_part ["piece", "start", "end"]) (T : Blt mg) : Cal P w K mg base 1 "piece_part" spPart [] := by
  refine cal_of D sc_piece_part (fun vs H Q E h => ?_) (fun f cdv A outer s H vs Q E hr h => ?_)
  · obtain ⟨v, p, a, b, rfl, _⟩ := h
    rfl
  · refine ⟨_, (pss_cons (ps_if (pt_cmpR op_eq (pe_ix ix_tup (pv 0) pe_int (fun _ _ => rfl)) pe_str (nomark _)) (pss_one (ps_ret (pe_tup (pa_cons pe_str (pa_cons (pe_op op_add (pe_ix ix_tup (pv 0) pe_int (fun _ _ => rfl)) (pv 1)) (pa_cons (pe_op op_add (pe_ix ix_tup (pv 0) pe_int (fun _ _ => rfl)) (pv 2)) pa_nil)))))) pss_nil)
  (pss_one (ps_ret (pe_tup (pa_cons pe_str (pa_cons (pe_slice sl_tupA (pe_ix ix_tup (pv 0) pe_int (fun _ _ => rfl)) (po_some (pv 1)) (po_some (pv 2))) pa_nil)))))), ?_⟩
    obtain ⟨v, p, a, b, rfl, hp, k⟩ := h
    cases p with
    | kept s e =>
      obtain ⟨q, rfl, ha⟩ := hp
      walk_at "rq"
      intro r nr
      exact k _ _ (Same_new nr) ⟨r, rfl, upd_same⟩
    | ins l =>
      obtain ⟨q, z, rfl, ha, hb⟩ := hp
      walk_at "rq"
      walk_at "rq"
      refine sl_ok a b hb fun H1 y s1 hy => ?_
      walk_at "rq"
      intro r nr
      exact k _ _ (s1.trans (Same_new nr)) ⟨r, y, rfl, upd_same, lk_new nr hy⟩
abbrev s_can_join : Stmt := top 11
theorem sc_can_join : FnScope ["piece", "after"] ["piece", "after"] (defScope s_can_join) := ⟨rfl, rfl, rfl, by decide +kernel, rfl, by decide +kernel, by decide +kernel⟩
def spCan : Sp := fun vs H Q _ => ∃ (v u : V) (p q : Pc V), vs = [v, u] ∧ PcAt H v p ∧ PcAt H u q ∧ Q (.bl (canJoin p q)) H
theorem ok_can_join (D : Dn K mg "can_join" s_can_join ["piece", "after"]) (T : Blt mg) : Cal P w K mg base 1 "can_join" spCan [] := by
  refine cal_of D sc_can_join (fun vs H Q E h => ?_) (fun f cdv A outer s H vs Q E hr h => ?_)
  · obtain ⟨v, u, p, q, rfl, _⟩ := h
    rfl
  · refine ⟨_, (pss_cons (ps_if (pt_cmpR op_eq (pe_ix ix_tup (pv 0) pe_int (fun _ _ => rfl)) pe_str (nomark _)) (pss_one (ps_ret (pe_and (pe_cmpR op_eq (pe_ix ix_tup (pv 1) pe_int (fun _ _ => rfl)) pe_str (nomark _)) (pe_one (pe_cmpR op_eq (pe_ix ix_tup (pv 0) pe_int (fun _ _ => rfl)) (pe_ix ix_tup (pv 1) pe_int (fun _ _ => rfl)) (nomark _)))))) pss_nil)
  (pss_one (ps_ret (pe_cmpR op_eq (pe_ix ix_tup (pv 1) pe_int (fun _ _ => rfl)) pe_str (nomark _))))), ?_⟩
    obtain ⟨v, u, p, q, rfl, hp, hq, k⟩ := h
    cases p with
    | kept s e =>
      obtain ⟨a, rfl, ha⟩ := hp
      cases q with
      | kept s' e' =>
        obtain ⟨b, rfl, hb⟩ := hq
        walk_at "rq"
        rw [dec_nat]
        exact k
      | ins m =>
        obtain ⟨b, c, rfl, hb, hc⟩ := hq
        walk_at "rq"
        exact k
    | ins l =>
      obtain ⟨a, c, rfl, ha, hc⟩ := hp
      cases q with
      | kept s' e' =>
        obtain ⟨b, rfl, hb⟩ := hq
        walk_at "rq"
        walk_at "rq"
        rw [decide_eq_false ins_ne]
        exact k
      | ins m =>
        obtain ⟨b, d, rfl, hb, hd⟩ := hq
        walk_at "rq"
        walk_at "rq"
        rw [decide_eq_true rfl]
        exact k
abbrev s_joined_piece : Stmt := top 12
theorem sc_joined_piece : FnScope ["piece", "after"] ["piece", "after"] (defScope s_joined_piece) := ⟨rfl, rfl, rfl, by decide +kernel, rfl, by decide +kernel, by decide +kernel⟩
def spJoin : Sp := fun vs H Q _ => ∃ (v u : V) (p q : Pc V), vs = [v, u] ∧ PcAt H v p ∧ PcAt H u q ∧ canJoin p q = true ∧ p.len + q.len ≤ 100000 ∧ ∀ H' v', Same H H' → PcAt H' v' (joinP p q) → Q v' H'
theorem ok_joined_piece (D : Dn K mg "joined_piece" s_joined_piece ["piece", "after"]) (T : Blt mg) : Cal P w K mg base 1 "joined_piece" spJoin [] := by
  refine cal_of D sc_joined_piece (fun vs H Q E h => ?_) (fun f cdv A outer s H vs Q E hr h => ?_)
  · obtain ⟨v, u, p, q, rfl, _⟩ := h
    rfl
  · refine ⟨_, (pss_cons (ps_if (pt_cmpR op_eq (pe_ix ix_tup (pv 0) pe_int (fun _ _ => rfl)) pe_str (nomark _)) (pss_one (ps_ret (pe_tup (pa_cons pe_str (pa_cons (pe_ix ix_tup (pv 0) pe_int (fun _ _ => rfl)) (pa_cons (pe_ix ix_tup (pv 1) pe_int (fun _ _ => rfl)) pa_nil)))))) pss_nil)
  (pss_one (ps_ret (pe_tup (pa_cons pe_str (pa_cons (pe_op op_catA (pe_ix ix_tup (pv 0) pe_int (fun _ _ => rfl)) (pe_ix ix_tup (pv 1) pe_int (fun _ _ => rfl))) pa_nil)))))), ?_⟩
    obtain ⟨v, u, p, q, rfl, hp, hq, hj, hz, k⟩ := h
    cases p with
    | kept s e =>
      cases q with
      | ins m => exact Bool.noConfusion hj
      | kept s' e' =>
        obtain ⟨a, rfl, ha⟩ := hp
        obtain ⟨b, rfl, hb⟩ := hq
        walk_at "rq"
        intro r nr
        exact k _ _ (Same_new nr) ⟨r, rfl, upd_same⟩
    | ins l =>
      cases q with
      | kept s e => exact Bool.noConfusion hj
      | ins m =>
        obtain ⟨a, c, rfl, ha, hc⟩ := hp
        obtain ⟨b, d, rfl, hb, hd⟩ := hq
        walk_at "rq"
        walk_at "rq"
        refine cat_ok hc hd hz fun H1 y s1 hy => ?_
        walk_at "rq"
        intro r nr
        exact k _ _ (s1.trans (Same_new nr)) ⟨r, y, rfl, upd_same, lk_new nr hy⟩
end
end K7

set_option Elab.async false
set_option linter.all false
set_option maxRecDepth 100000
set_option maxHeartbeats 4000000
namespace K7
open PySem PySem.Spec PyProof.Rows L2 Ed
open C8 (Cal Met Mak pe_c pe_mk pe_mt pe_mt0)
/-! ### small words of the proofs: walk_at "lk" (what stands at an address), "ne" (two addresses differ), "rd" (the plain steps of a reading) -/
local macro_rules | `(tactic| walk_at "ne") => `(tactic| first
  | assumption
  | exact Ne.symm (by assumption)
  | exact ne_of_none (by assumption) (by assumption)
  | exact Ne.symm (ne_of_none (by assumption) (by assumption))
  | exact ne_of (by assumption) (by assumption) (by intro z; cases z)
  | exact ne_of_none (by walk_at "lk") (by assumption)
  | exact Ne.symm (ne_of_none (by walk_at "lk") (by assumption))
  | exact ne_of (by walk_at "lk") (by walk_at "lk") (by intro z; cases z))
local macro_rules | `(tactic| walk_at "lk") => `(tactic| first
  | assumption
  | exact upd_same
  | (refine lk_new (by assumption) ?_; walk_at "lk")
  | (refine Same.at (by assumption) ?_; walk_at "lk")
  | (refine Kp.at (by assumption) ?_; walk_at "lk")
  | (refine lk_ne (by walk_at "ne") ?_; walk_at "lk"))
local macro_rules | `(tactic| walk_at "at") => `(tactic| first
  | rfl
  | exact atI_last _ _
  | exact atI_neg1 (by assumption)
  | exact atI_nat (by first | assumption | rfl))
local macro_rules | `(tactic| walk_at "ix") => `(tactic| first
  | refine ⟨_, _, _, _, rfl, rfl, SqT.of (by walk_at "lk"), by walk_at "at", ?_⟩
  | refine ⟨_, _, _, _, rfl, rfl, SqL.of (by walk_at "lk"), by walk_at "at", ?_⟩)
local macro_rules | `(tactic| walk_at "rd1") => `(tactic| first
  | (with_reducible refine iteN kept_ne ?_)
  | (with_reducible refine iteN ins_ne ?_)
  | refine ⟨_, rfl, ?_⟩
  | refine ⟨_, _, rfl, rfl, ?_⟩
  | walk_at "ix"
  | refine ⟨rfl, ?_⟩
  | refine ⟨_, _, rfl, ?_⟩
  | refine ⟨Nat.le_of_ble_eq_true rfl, ?_⟩
  | refine ⟨.inl ⟨rfl, _, SqL.of (by walk_at "lk")⟩, ?_⟩)
local macro_rules | `(tactic| walk_at "rd") => `(tactic| repeat (walk_at "rd1"))
local macro_rules | `(tactic| walk_at "rq") => `(tactic| ((repeat (walk_at "rd1")); (try dsimp only)))

section
variable {P : Program} {w : World} {K : PySem.W.Frag} {mg : Str → Option Value} {base : Heap}
theorem mem_get {α : Type} {l : List α} {i : Nat} {x : α} (h : l[i]? = some x) : x ∈ l := List.mem_of_getElem? h
theorem lt_get {α : Type} {l : List α} {i : Nat} {x : α} (h : l[i]? = some x) : i < l.length := (List.getElem?_eq_some_iff.mp h).1
theorem part_len_step (a b : Nat) (s : List (Pc V) × Nat) (p : Pc V) : (partStep a b s p).1.length ≤ s.1.length + 1 := by
  unfold partStep
  dsimp only
  split
  · simp
  · omega
theorem part_len (a b : Nat) : ∀ (ps : List (Pc V)) (s : List (Pc V) × Nat), (ps.foldl (partStep a b) s).1.length ≤ s.1.length + ps.length
  | [], s => by simp
  | p :: r, s => by
    have h1 := part_len_step a b s p
    have h2 := part_len a b r (partStep a b s p)
    rw [List.foldl_cons, List.length_cons]
    omega
/-! ### pieces_part -/
abbrev s_pieces_part : Stmt := top 10
theorem sc_pieces_part : FnScope ["pieces", "start", "end", "found", "place", "piece", "low", "high"] ["pieces", "start", "end"] (defScope s_pieces_part) := ⟨rfl, rfl, rfl, by decide +kernel, rfl, by decide +kernel, by decide +kernel⟩
def spParts : Sp := fun vs H Q _ => ∃ (v : V) (a b n : Nat) (ps : List (Pc V)), vs = [v, .int a, .int b] ∧ PcsT H v ps ∧ Fine n ps ∧ ps.length ≤ 1000 ∧
  ∀ H' q vs', Same H H' → H q = none → H' q = some (.lst vs') → PcsAt H' vs' (partOf ps a b) → Q (.ref q) H'
def ivParts (H : Hp) (t l : Addr) (a b : Nat) (ps : List (Pc V)) (i : Nat) (σ : L2.St) (H' : Hp) : Prop := ∃ (vs' : List V) (x1 x2 x3 : Option V),
  σ = [some (.ref t), some (.int a), some (.int b), some (.ref l), some (.int ((ps.take i).foldl (partStep a b) ([], 0)).2), x1, x2, x3] ∧
  Same H H' ∧ H' l = some (.lst vs') ∧ PcsAt H' vs' ((ps.take i).foldl (partStep a b) ([], 0)).1
theorem ok_pieces_part (D : Dn K mg "pieces_part" s_pieces_part ["pieces", "start", "end"]) (T : Blt mg) (c_length_of : Cal P w K mg base 1 "length_of" spLen []) (c_piece_part : Cal P w K mg base 1 "piece_part" spPart []) :
    Cal P w K mg base 2 "pieces_part" spParts [] := by
  refine cal_of D sc_pieces_part (fun vs H Q E h => ?_) (fun f cdv A outer s H vs Q E hr h => ?_)
  · obtain ⟨v, a, b, n, ps, rfl, _⟩ := h
    rfl
  · refine ⟨_, (pss_cons (ps_set (i := 3) sc_pieces_part.nd rfl (Or.inl rfl) (pe_lst pa_nil))
  (pss_cons (ps_set (i := 4) sc_pieces_part.nd rfl (Or.inl rfl) pe_int)
  (pss_cons (ps_for PassesOwn.never rfl (pi_tup (pv 0)) (pg_name (i := 5) sc_pieces_part.nd rfl (Or.inl rfl))
  (pss_cons (ps_set (i := 6) sc_pieces_part.nd rfl (Or.inl rfl) (pe_callB (call_max2 rfl) (by rfl) T.b_max (by decide +kernel) (pa_cons (pe_op op_sub (pv 1) (pv 4)) (pa_cons pe_int pa_nil))))
  (pss_cons (ps_set (i := 7) sc_pieces_part.nd rfl (Or.inl rfl) (pe_callB (call_min2 rfl) (by rfl) T.b_min (by decide +kernel) (pa_cons (pe_op op_sub (pv 2) (pv 4)) (pa_cons (pe_c c_length_of hr (by decide) (by rfl) (pa_cons (pv 5) pa_nil)) pa_nil))))
  (pss_cons (ps_if (pt_cmpR op_lt (pv 6) (pv 7) (nomark _)) (pss_one (ps_expr (pe_bm PySem.F.plainAttrs_list PySem.F.slot_list_append PySem.F.type_list_append mt_append (pv 3) (pa_cons (pe_c c_piece_part hr (by decide) (by rfl) (pa_cons (pv 5) (pa_cons (pv 6) (pa_cons (pv 7) pa_nil)))) pa_nil)))) pss_nil)
  (pss_one (ps_set (i := 4) sc_pieces_part.nd rfl (Or.inl rfl) (pe_op op_add (pv 4) (pe_c c_length_of hr (by decide) (by rfl) (pa_cons (pv 5) pa_nil)))))))))
  (pss_one (ps_ret (pv 3)))))), ?_⟩
    obtain ⟨v, a, b, n, ps, rfl, ⟨us, ⟨t, rfl, ht⟩, hps⟩, hf, hz, k⟩ := h
    walk_at "rd"
    intro l nl
    walk_at "rd"
    refine ⟨⟨_, SqT.of (lk_new nl ht)⟩, for_tup (K := K) (a := t) (xs := us) (ivParts H t l a b ps) ?_ (fun i σ H' _ ⟨_, _, _, _, _, s5, _⟩ => SqT.of (s5 _ _ ht)) ?_ ?_⟩
    · exact ⟨[], none, none, none, rfl, Same_new nl, upd_same, .nil⟩
    · rintro i x σ H' hi ⟨vs', x1, x2, x3, rfl, s5, hl, hv⟩
      obtain ⟨p, hp, hx⟩ := Paired.get hps hi
      have hx' : PcAt H' x p := hx.kp (Kp.of s5)
      have fp : p.fine n := hf p (mem_get hp)
      have step := fold_more (partStep a b) ([], 0) hp
      have bnd := part_len a b (ps.take i) ([], 0)
      have hil : i < ps.length := lt_get hp
      rw [List.length_take] at bnd
      have vl : vs'.length ≤ 1000 := by
        rw [Paired.len hv]
        simp only [List.length_nil] at bnd
        omega
      generalize hg : (ps.take i).foldl (partStep a b) ([], 0) = g at *
      obtain ⟨ac, pl⟩ := g
      dsimp only at *
      walk_at "rd"
      have e1 : (if (0 : Int) > (a : Int) - (pl : Int) then 0 else (a : Int) - (pl : Int)) = ((a - pl : Nat) : Int) := by split <;> omega
      rw [e1]
      refine ⟨x, p, n, rfl, hx', fp, ?_⟩
      walk_at "rd"
      refine iteC (fun c => ?_) (fun c => ?_)
      · have e2 : (if ((p.len : Nat) : Int) < (b : Int) - (pl : Int) then ((p.len : Nat) : Int) else (b : Int) - (pl : Int)) = ((min (b - pl) p.len : Nat) : Int) := by
          split at c <;> split <;> omega
        rw [e2] at c ⊢
        walk_at "rd"
        refine ⟨x, p, a - pl, min (b - pl) p.len, rfl, hx', fun H2 v2 s2 hv2 => ?_⟩
        walk_at "rd"
        refine ⟨_, _, _, rfl, rfl, s2 _ _ hl, line_lt (by omega), ?_⟩
        walk_at "rd"
        refine ⟨x, p, n, rfl, (hx'.kp (Kp.of s2)).kp (Kp_lst (s2 _ _ hl)), fp, ?_⟩
        walk_at "rd"
        have kk : Kp H' (upd H2 l (.lst (vs' ++ [v2]))) := (Kp.of s2).trans (Kp_lst (s2 _ _ hl))
        have e3 : partStep a b (ac, pl) p = (ac ++ [p.part (a - pl) (min (b - pl) p.len)], pl + p.len) := by
          show ((if a - pl < min (b - pl) p.len then ac ++ [p.part (a - pl) (min (b - pl) p.len)] else ac), pl + p.len) = _
          rw [if_pos (by omega)]
        show ivParts H t l a b ps (i + 1) _ _
        unfold ivParts
        rw [step, e3]
        exact ⟨_, _, _, _, rfl, Same_put (s5.trans s2) nl, upd_same, Paired.app (hv.kp kk) (Paired.one (hv2.kp (Kp_lst (s2 _ _ hl))))⟩
      · walk_at "rd"
        refine ⟨x, p, n, rfl, hx', fp, ?_⟩
        walk_at "rd"
        have e3 : partStep a b (ac, pl) p = (ac, pl + p.len) := by
          show ((if a - pl < min (b - pl) p.len then ac ++ [p.part (a - pl) (min (b - pl) p.len)] else ac), pl + p.len) = _
          rw [if_neg ?_]
          split at c <;> omega
        show ivParts H t l a b ps (i + 1) _ _
        unfold ivParts
        rw [step, e3]
        exact ⟨_, _, _, _, rfl, s5, hl, hv⟩
    · rintro σ H' ⟨vs', x1, x2, x3, rfl, s5, hl, hv⟩
      walk_at "rq"
      refine k _ _ _ s5 nl hl ?_
      rw [List.take_of_length_le (by rw [Paired.len hps]; exact Nat.le_refl _)] at hv
      exact hv
end
end K7

set_option Elab.async false
set_option linter.all false
set_option maxRecDepth 100000
set_option maxHeartbeats 4000000
namespace K7
open PySem PySem.Spec PyProof.Rows L2 Ed
open C8 (Cal Met Mak pe_c pe_mk pe_mt pe_mt0)
/-! ### small words of the proofs: walk_at "lk" (what stands at an address), "ne" (two addresses differ), "rd" (the plain steps of a reading) -/
local macro_rules | `(tactic| walk_at "ne") => `(tactic| first
  | assumption
  | exact Ne.symm (by assumption)
  | exact ne_of_none (by assumption) (by assumption)
  | exact Ne.symm (ne_of_none (by assumption) (by assumption))
  | exact ne_of (by assumption) (by assumption) (by intro z; cases z)
  | exact ne_of_none (by walk_at "lk") (by assumption)
  | exact Ne.symm (ne_of_none (by walk_at "lk") (by assumption))
  | exact ne_of (by walk_at "lk") (by walk_at "lk") (by intro z; cases z))
local macro_rules | `(tactic| walk_at "lk") => `(tactic| first
  | assumption
  | exact upd_same
  | (refine lk_new (by assumption) ?_; walk_at "lk")
  | (refine Same.at (by assumption) ?_; walk_at "lk")
  | (refine Kp.at (by assumption) ?_; walk_at "lk")
  | (refine lk_ne (by walk_at "ne") ?_; walk_at "lk"))
local macro_rules | `(tactic| walk_at "at") => `(tactic| first
  | rfl
  | exact atI_last _ _
  | exact atI_neg1 (by assumption)
  | exact atI_nat (by first | assumption | rfl))
local macro_rules | `(tactic| walk_at "ix") => `(tactic| first
  | refine ⟨_, _, _, _, rfl, rfl, SqT.of (by walk_at "lk"), by walk_at "at", ?_⟩
  | refine ⟨_, _, _, _, rfl, rfl, SqL.of (by walk_at "lk"), by walk_at "at", ?_⟩)
local macro_rules | `(tactic| walk_at "rd1") => `(tactic| first
  | (with_reducible refine iteN kept_ne ?_)
  | (with_reducible refine iteN ins_ne ?_)
  | refine ⟨_, rfl, ?_⟩
  | refine ⟨_, _, rfl, rfl, ?_⟩
  | walk_at "ix"
  | refine ⟨rfl, ?_⟩
  | refine ⟨_, _, rfl, ?_⟩
  | refine ⟨Nat.le_of_ble_eq_true rfl, ?_⟩
  | refine ⟨.inl ⟨rfl, _, SqL.of (by walk_at "lk")⟩, ?_⟩)
local macro_rules | `(tactic| walk_at "rd") => `(tactic| repeat (walk_at "rd1"))
local macro_rules | `(tactic| walk_at "rq") => `(tactic| ((repeat (walk_at "rd1")); (try dsimp only)))

section
variable {P : Program} {w : World} {K : PySem.W.Frag} {mg : Str → Option Value} {base : Heap}
/-! ### tidied -/
abbrev s_tidied : Stmt := top 13
theorem sc_tidied : FnScope ["pieces", "found", "piece"] ["pieces"] (defScope s_tidied) := ⟨rfl, rfl, rfl, by decide +kernel, rfl, by decide +kernel, by decide +kernel⟩
def spTidy : Sp := fun vs H Q _ => ∃ (a : Addr) (us : List V) (n : Nat) (ps : List (Pc V)), vs = [.ref a] ∧ H a = some (.lst us) ∧ PcsAt H us ps ∧ Fine n ps ∧ ps.length ≤ 3000 ∧ lenOf ps ≤ 40000 ∧
  ∀ H' v', Same H H' → PcsT H' v' (tidyOf ps) → Q v' H'
def ivTidy (H : Hp) (a l : Addr) (ps : List (Pc V)) (i : Nat) (σ : L2.St) (H' : Hp) : Prop := ∃ (vs' : List V) (x1 : Option V),
  σ = [some (.ref a), some (.ref l), x1] ∧ Same H H' ∧ H' l = some (.lst vs') ∧ PcsAt H' vs' ((ps.take i).foldl tidyStep [])
theorem ok_tidied (D : Dn K mg "tidied" s_tidied ["pieces"]) (T : Blt mg) (c_length_of : Cal P w K mg base 1 "length_of" spLen []) (c_can_join : Cal P w K mg base 1 "can_join" spCan [])
    (c_joined_piece : Cal P w K mg base 1 "joined_piece" spJoin []) : Cal P w K mg base 2 "tidied" spTidy [] := by
  refine cal_of D sc_tidied (fun vs H Q E h => ?_) (fun f cdv A outer s H vs Q E hr h => ?_)
  · obtain ⟨a, us, n, ps, rfl, _⟩ := h
    rfl
  · refine ⟨_, (pss_cons (ps_set (i := 1) sc_tidied.nd rfl (Or.inl rfl) (pe_lst pa_nil))
  (pss_cons (ps_for PassesOwn.never rfl (pi_list (pv 0)) (pg_name (i := 2) sc_tidied.nd rfl (Or.inl rfl))
  (pss_one (ps_if (PW.pt (pw_and (pt_truth (pv 1) (by intro _; rfl)) (pw_and1 (pt_val (pe_c c_can_join hr (by decide) (by rfl) (pa_cons (pe_ix ix_list (pv 1) (pe_un un_neg pe_int) (fun _ _ => rfl)) (pa_cons (pv 2) pa_nil))))))) (pss_one (ps_asg (pe_c c_joined_piece hr (by decide) (by rfl) (pa_cons (pe_ix ix_list (pv 1) (pe_un un_neg pe_int) (fun _ _ => rfl)) (pa_cons (pv 2) pa_nil))) (pg_sub (pv 1) (pe_un un_neg pe_int) set_list))) (pss_one (ps_if (pt_cmpR op_gt (pe_c c_length_of hr (by decide) (by rfl) (pa_cons (pv 2) pa_nil)) pe_int (nomark _)) (pss_one (ps_expr (pe_bm PySem.F.plainAttrs_list PySem.F.slot_list_append PySem.F.type_list_append mt_append (pv 1) (pa_cons (pv 2) pa_nil)))) pss_nil)))))
  (pss_one (ps_ret (pe_callTy call_tuple_of (by rfl) T.b_tuple (by decide +kernel) (pa_cons (pv 1) pa_nil)))))), ?_⟩
    obtain ⟨a, us, n, ps, rfl, ha, hps, hf, hz, hL, k⟩ := h
    walk_at "rd"
    intro l nl
    walk_at "rd"
    refine ⟨⟨_, SqL.of (lk_new nl ha)⟩, for_list (K := K) (a := a) (xs := us) (ivTidy H a l ps) ?_ (fun i σ H' _ ⟨_, _, _, s5, _⟩ => SqL.of (s5 _ _ ha)) ?_ ?_⟩
    · exact ⟨[], none, rfl, Same_new nl, upd_same, .nil⟩
    · rintro i x σ H' hi ⟨vs', x1, rfl, s5, hl, hv⟩
      obtain ⟨p, hp, hx⟩ := Paired.get hps hi
      have hx' : PcAt H' x p := hx.kp (Kp.of s5)
      have fp : p.fine n := hf p (mem_get hp)
      have step := fold_more tidyStep [] hp
      have bnd := tidyFold_len (ps.take i) []
      have tl := tidyTake_len hf i
      have pl := len_mem (mem_get hp)
      have hil : i < ps.length := lt_get hp
      rw [List.length_take] at bnd
      have vl : vs'.length ≤ 3000 := by
        rw [Paired.len hv]
        simp only [List.length_nil] at bnd
        omega
      generalize hg : (ps.take i).foldl tidyStep [] = ac at *
      have long : 0 < p.len → tidyStep ac p = ac ++ [p] → ivTidy H a l ps (i + 1) [some (.ref a), some (.ref l), some x] (upd H' l (.lst (vs' ++ [x]))) := by
        intro c e
        unfold ivTidy
        rw [step, e]
        exact ⟨_, _, rfl, Same_put s5 nl, upd_same, Paired.app (hv.kp (Kp_lst hl)) (Paired.one (hx'.kp (Kp_lst hl)))⟩
      have same : tidyStep ac p = ac → ivTidy H a l ps (i + 1) [some (.ref a), some (.ref l), some x] H' := by
        intro e
        unfold ivTidy
        rw [step, e]
        exact ⟨_, _, rfl, s5, hl, hv⟩
      walk_at "rd"
      cases hq : ac.getLast? with
      | none =>
        have e0 : tidyStep ac p = if 0 < p.len then ac ++ [p] else ac := by
          unfold tidyStep
          rw [hq]
        have e1 := getLast?_none hq
        subst e1
        have e2 : vs' = [] := List.eq_nil_of_length_eq_zero (Paired.len hv)
        subst e2
        refine ⟨_, .inl ⟨_, SqL.of hl, rfl⟩, ?_⟩
        walk_at "rd"
        refine ⟨x, p, n, rfl, hx', fp, ?_⟩
        walk_at "rd"
        refine iteC (fun c => ?_) (fun c => ?_)
        · walk_at "rd"
          exact ⟨_, _, _, rfl, rfl, hl, line_lt (by simp), long (by omega) (by rw [e0, if_pos (by omega)])⟩
        · exact same (by rw [e0, if_neg (by omega)])
      | some q =>
        obtain ⟨u, hu, huq⟩ := Paired.last hv hq
        have e0 : tidyStep ac p = if canJoin q p = true then ac.dropLast ++ [joinP q p] else if 0 < p.len then ac ++ [p] else ac := by
          unfold tidyStep
          rw [hq]
        have ne : (!vs'.isEmpty) = true := by
          cases vs' with
          | nil => cases hu
          | cons y r => rfl
        have qa : q ∈ ac := List.mem_of_getLast? hq
        have ql := len_mem qa
        refine ⟨true, .inl ⟨_, SqL.of hl, ne.symm⟩, ?_⟩
        walk_at "rd"
        refine ⟨u, x, q, p, rfl, huq, hx', ?_⟩
        walk_at "rd"
        refine ite2 (fun hj => ?_) (fun hj => ?_)
        · walk_at "rd"
          refine ⟨u, x, q, p, rfl, huq, hx', hj, by omega, fun H2 v2 s2 hv2 => ?_⟩
          walk_at "rd"
          refine ⟨_, _, _, _, rfl, rfl, s2 _ _ hl, ixN_neg1 (by cases vs' with | nil => cases hu | cons y r => exact Nat.succ_pos _), ?_⟩
          show ivTidy H a l ps (i + 1) _ _
          unfold ivTidy
          rw [step, e0, if_pos hj, set_last hu]
          exact ⟨_, _, rfl, Same_put (s5.trans s2) nl, upd_same, Paired.app (Paired.front ((hv.kp (Kp.of s2)).kp (Kp_lst (s2 _ _ hl)))) (Paired.one (hv2.kp (Kp_lst (s2 _ _ hl))))⟩
        · walk_at "rd"
          refine ⟨x, p, n, rfl, hx', fp, ?_⟩
          walk_at "rd"
          refine iteC (fun c => ?_) (fun c => ?_)
          · walk_at "rd"
            exact ⟨_, _, _, rfl, rfl, hl, line_lt (by omega), long (by omega) (by rw [e0, if_neg hj, if_pos (by omega)])⟩
          · exact same (by rw [e0, if_neg hj, if_neg (by omega)])
    · rintro σ H' ⟨vs', x1, rfl, s5, hl, hv⟩
      rw [List.take_of_length_le (by rw [Paired.len hps]; exact Nat.le_refl _)] at hv
      walk_at "rd"
      refine ⟨_, _, rfl, .inl ⟨SqL.of hl, fun q nq => ?_⟩⟩
      exact k _ _ (s5.trans (Same_new nq)) ⟨_, ⟨q, rfl, upd_same⟩, hv.kp (Kp_new nq)⟩
end
end K7

set_option Elab.async false
set_option linter.all false
set_option maxRecDepth 100000
set_option maxHeartbeats 4000000
namespace K7
open PySem PySem.Spec PyProof.Rows L2 Ed
open C8 (Cal Met Mak pe_c pe_mk pe_mt pe_mt0)
/-! ### small words of the proofs: walk_at "lk" (what stands at an address), "ne" (two addresses differ), "rd" (the plain steps of a reading) -/
local macro_rules | `(tactic| walk_at "ne") => `(tactic| first
  | assumption
  | exact Ne.symm (by assumption)
  | exact ne_of_none (by assumption) (by assumption)
  | exact Ne.symm (ne_of_none (by assumption) (by assumption))
  | exact ne_of (by assumption) (by assumption) (by intro z; cases z)
  | exact ne_of_none (by walk_at "lk") (by assumption)
  | exact Ne.symm (ne_of_none (by walk_at "lk") (by assumption))
  | exact ne_of (by walk_at "lk") (by walk_at "lk") (by intro z; cases z))
local macro_rules | `(tactic| walk_at "lk") => `(tactic| first
  | assumption
  | exact upd_same
  | (refine lk_new (by assumption) ?_; walk_at "lk")
  | (refine Same.at (by assumption) ?_; walk_at "lk")
  | (refine Kp.at (by assumption) ?_; walk_at "lk")
  | (refine lk_ne (by walk_at "ne") ?_; walk_at "lk"))
local macro_rules | `(tactic| walk_at "at") => `(tactic| first
  | rfl
  | exact atI_last _ _
  | exact atI_neg1 (by assumption)
  | exact atI_nat (by first | assumption | rfl))
local macro_rules | `(tactic| walk_at "ix") => `(tactic| first
  | refine ⟨_, _, _, _, rfl, rfl, SqT.of (by walk_at "lk"), by walk_at "at", ?_⟩
  | refine ⟨_, _, _, _, rfl, rfl, SqL.of (by walk_at "lk"), by walk_at "at", ?_⟩)
local macro_rules | `(tactic| walk_at "rd1") => `(tactic| first
  | (with_reducible refine iteN kept_ne ?_)
  | (with_reducible refine iteN ins_ne ?_)
  | refine ⟨_, rfl, ?_⟩
  | refine ⟨_, _, rfl, rfl, ?_⟩
  | walk_at "ix"
  | refine ⟨rfl, ?_⟩
  | refine ⟨_, _, rfl, ?_⟩
  | refine ⟨Nat.le_of_ble_eq_true rfl, ?_⟩
  | refine ⟨.inl ⟨rfl, _, SqL.of (by walk_at "lk")⟩, ?_⟩)
local macro_rules | `(tactic| walk_at "rd") => `(tactic| repeat (walk_at "rd1"))
local macro_rules | `(tactic| walk_at "rq") => `(tactic| ((repeat (walk_at "rd1")); (try dsimp only)))

section
variable {P : Program} {w : World} {K : PySem.W.Frag} {mg : Str → Option Value} {base : Heap}
/-! ### described -/
abbrev s_described : Stmt := top 14
theorem sc_described : FnScope ["pieces", "base", "found", "piece"] ["pieces", "base"] (defScope s_described) := ⟨rfl, rfl, rfl, by decide +kernel, rfl, by decide +kernel, by decide +kernel⟩
def spDesc : Sp := fun vs H Q _ => ∃ (v b : V) (bs : List V) (ps : List (Pc V)), vs = [v, b] ∧ PcsT H v ps ∧ TupAt H b bs ∧ (tellOf bs ps).length ≤ 40000 ∧
  ∀ H' v', Same H H' → TupAt H' v' (tellOf bs ps) → Q v' H'
def ivDesc (H : Hp) (t c l : Addr) (bs : List V) (ps : List (Pc V)) (i : Nat) (σ : L2.St) (H' : Hp) : Prop := ∃ (x1 : Option V),
  σ = [some (.ref t), some (.ref c), some (.ref l), x1] ∧ Same H H' ∧ H' l = some (.lst (tellOf bs (ps.take i)))
theorem ok_described (D : Dn K mg "described" s_described ["pieces", "base"]) (T : Blt mg) : Cal P w K mg base 1 "described" spDesc [] := by
  refine cal_of D sc_described (fun vs H Q E h => ?_) (fun f cdv A outer s H vs Q E hr h => ?_)
  · obtain ⟨v, b, bs, ps, rfl, _⟩ := h
    rfl
  · refine ⟨_, (pss_cons (ps_set (i := 2) sc_described.nd rfl (Or.inl rfl) (pe_lst pa_nil))
  (pss_cons (ps_for PassesOwn.never rfl (pi_tup (pv 0)) (pg_name (i := 3) sc_described.nd rfl (Or.inl rfl))
  (pss_one (ps_if (pt_cmpR op_eq (pe_ix ix_tup (pv 3) pe_int (fun _ _ => rfl)) pe_str (nomark _)) (pss_one (ps_expr (pe_bm PySem.F.plainAttrs_list PySem.F.slot_list_extend PySem.F.type_list_extend mt_extT (pv 2) (pa_cons (pe_slice sl_tupA (pv 1) (po_some (pe_ix ix_tup (pv 3) pe_int (fun _ _ => rfl))) (po_some (pe_ix ix_tup (pv 3) pe_int (fun _ _ => rfl)))) pa_nil)))) (pss_one (ps_expr (pe_bm PySem.F.plainAttrs_list PySem.F.slot_list_extend PySem.F.type_list_extend mt_extT (pv 2) (pa_cons (pe_ix ix_tup (pv 3) pe_int (fun _ _ => rfl)) pa_nil)))))))
  (pss_one (ps_ret (pe_callTy call_tuple_of (by rfl) T.b_tuple (by decide +kernel) (pa_cons (pv 2) pa_nil)))))), ?_⟩
    obtain ⟨v, b, bs, ps, rfl, ⟨us, ⟨t, rfl, ht⟩, hps⟩, ⟨c, rfl, hc⟩, hL, k⟩ := h
    walk_at "rd"
    intro l nl
    walk_at "rd"
    refine ⟨⟨_, SqT.of (lk_new nl ht)⟩, for_tup (K := K) (a := t) (xs := us) (ivDesc H t c l bs ps) ?_ (fun i σ H' _ ⟨_, _, s5, _⟩ => SqT.of (s5 _ _ ht)) ?_ ?_⟩
    · exact ⟨none, rfl, Same_new nl, upd_same⟩
    · rintro i x σ H' hi ⟨x1, rfl, s5, hl⟩
      obtain ⟨p, hp, hx⟩ := Paired.get hps hi
      have hx' : PcAt H' x p := hx.kp (Kp.of s5)
      have e1 : tellOf bs (ps.take (i + 1)) = tellOf bs (ps.take i) ++ p.tell bs := by rw [take_more hp, tellOf_append, tellOf_one]
      have bnd := tellOf_take_len bs ps (i + 1)
      rw [e1, List.length_append] at bnd
      cases p with
      | kept s e =>
        obtain ⟨y, rfl, hy⟩ := hx'
        walk_at "rd"
        refine sl_ok s e (s5 _ _ hc) fun H2 q s2 hq => ?_
        walk_at "rd"
        refine ⟨_, _, _, _, rfl, rfl, s2 _ _ hl, SqT.of hq, line_of (by exact Nat.le_trans bnd (by omega)), ?_⟩
        show ivDesc H t c l bs ps (i + 1) _ _
        unfold ivDesc
        rw [e1]
        exact ⟨_, rfl, Same_put (s5.trans s2) nl, upd_same⟩
      | ins m =>
        obtain ⟨y, z, rfl, hy, hz⟩ := hx'
        walk_at "rd"
        refine ⟨_, _, _, _, rfl, rfl, hl, SqT.of hz, line_of (by exact Nat.le_trans bnd (by omega)), ?_⟩
        show ivDesc H t c l bs ps (i + 1) _ _
        unfold ivDesc
        rw [e1]
        exact ⟨_, rfl, Same_put s5 nl, upd_same⟩
    · rintro σ H' ⟨x1, rfl, s5, hl⟩
      rw [List.take_of_length_le (by rw [Paired.len hps]; exact Nat.le_refl _)] at hl
      walk_at "rd"
      refine ⟨_, _, rfl, .inl ⟨SqL.of hl, fun q nq => ?_⟩⟩
      exact k _ _ (s5.trans (Same_new nq)) ⟨q, rfl, upd_same⟩
/-! ### edits_of -/
theorem editFold_len : ∀ (ps : List (Pc V)) (s : List (Nat × Nat × List V) × Nat × List V), (ps.foldl editStep s).1.length ≤ s.1.length + ps.length
  | [], s => by simp
  | p :: r, s => by
    have h1 : (editStep s p).1.length ≤ s.1.length + 1 := by
      cases p with
      | kept a b =>
        unfold editStep
        dsimp only
        split
        · simp
        · omega
      | ins l => exact Nat.le_succ _
    have h2 := editFold_len r (editStep s p)
    rw [List.foldl_cons, List.length_cons]
    omega
abbrev s_edits_of : Stmt := top 15
theorem sc_edits_of : FnScope ["pieces", "length", "found", "place", "inserted", "piece"] ["pieces", "length"] (defScope s_edits_of) := ⟨rfl, rfl, rfl, by decide +kernel, rfl, by decide +kernel, by decide +kernel⟩
def spEdits : Sp := fun vs H Q _ => ∃ (v : V) (n : Nat) (ps : List (Pc V)), vs = [v, .int n] ∧ PcsT H v ps ∧ ps.length ≤ 1000 ∧
  ∀ H' v' us, Same H H' → TupAt H' v' us → EdsAt H' us (editsOf ps n) → Q v' H'
def ivEdits (H H1 : Hp) (t : V) (n : Nat) (l : Addr) (ps : List (Pc V)) (i : Nat) (σ : L2.St) (H' : Hp) : Prop := ∃ (vs' : List V) (z : Addr) (x1 : Option V),
  σ = [some t, some (.int n), some (.ref l), some (.int ((ps.take i).foldl editStep ([], 0, [])).2.1), some (.ref z), x1] ∧ Kp H1 H' ∧ Same H H' ∧ H' l = some (.lst vs') ∧
  EdsAt H' vs' ((ps.take i).foldl editStep ([], 0, [])).1 ∧ H' z = some (.tup ((ps.take i).foldl editStep ([], 0, [])).2.2)
theorem ok_edits_of (D : Dn K mg "edits_of" s_edits_of ["pieces", "length"]) (T : Blt mg) : Cal P w K mg base 1 "edits_of" spEdits [] := by
  refine cal_of D sc_edits_of (fun vs H Q E h => ?_) (fun f cdv A outer s H vs Q E hr h => ?_)
  · obtain ⟨v, n, ps, rfl, _⟩ := h
    rfl
  · refine ⟨_, (pss_cons (ps_set (i := 2) sc_edits_of.nd rfl (Or.inl rfl) (pe_lst pa_nil))
  (pss_cons (ps_set (i := 3) sc_edits_of.nd rfl (Or.inl rfl) pe_int)
  (pss_cons (ps_set (i := 4) sc_edits_of.nd rfl (Or.inl rfl) (pe_tup pa_nil))
  (pss_cons (ps_for PassesOwn.never rfl (pi_tup (pe_op op_catA (pv 0) (pe_tup (pa_cons (pe_tup (pa_cons pe_str (pa_cons (pv 1) (pa_cons (pv 1) pa_nil)))) pa_nil)))) (pg_name (i := 5) sc_edits_of.nd rfl (Or.inl rfl))
  (pss_one (ps_if (pt_cmpR op_eq (pe_ix ix_tup (pv 5) pe_int (fun _ _ => rfl)) pe_str (nomark _)) (pss_one (ps_set (i := 4) sc_edits_of.nd rfl (Or.inl rfl) (pe_ix ix_tup (pv 5) pe_int (fun _ _ => rfl)))) (pss_cons (ps_if (PW.pt (pw_or (pt_cmpR op_lt (pv 3) (pe_ix ix_tup (pv 5) pe_int (fun _ _ => rfl)) (nomark _)) (pw_or1 (pt_truth (pv 4) (by intro _; rfl))))) (pss_one (ps_expr (pe_bm PySem.F.plainAttrs_list PySem.F.slot_list_append PySem.F.type_list_append mt_append (pv 2) (pa_cons (pe_tup (pa_cons (pv 3) (pa_cons (pe_ix ix_tup (pv 5) pe_int (fun _ _ => rfl)) (pa_cons (pv 4) pa_nil)))) pa_nil)))) pss_nil)
  (pss_cons (ps_set (i := 3) sc_edits_of.nd rfl (Or.inl rfl) (pe_ix ix_tup (pv 5) pe_int (fun _ _ => rfl)))
  (pss_one (ps_set (i := 4) sc_edits_of.nd rfl (Or.inl rfl) (pe_tup pa_nil))))))))
  (pss_one (ps_ret (pe_callTy call_tuple_of (by rfl) T.b_tuple (by decide +kernel) (pa_cons (pv 2) pa_nil)))))))), ?_⟩
    obtain ⟨v, n, ps, rfl, ⟨us, ⟨t, rfl, ht⟩, hps⟩, hz, k⟩ := h
    walk_at "rd"
    intro l nl
    walk_at "rd"
    intro z nz
    walk_at "rd"
    intro y ny
    walk_at "rd"
    intro u nu
    walk_at "rd"
    have lus : us.length ≤ 1000 := by
      rw [Paired.len hps]
      exact hz
    refine cat_ok (lk_new nu (lk_new ny (lk_new nz (lk_new nl ht)))) upd_same (by simp; omega) fun H1 r s1 hr' => ?_
    have nz' := nn_of nz
    have ny' := nn_of (nn_of ny)
    have nu' := nn_of (nn_of (nn_of nu))
    have sA : Same (upd H l (.lst [])) H1 := (Same_new nz).trans ((Same_new ny).trans ((Same_new nu).trans s1))
    have s0 : Same H H1 := (Same_new nl).trans sA
    have hl1 : H1 l = some (.lst []) := sA _ _ upd_same
    have hz1 : H1 z = some (.tup []) := s1 _ _ (lk_new nu (lk_new ny upd_same))
    have hy1 : H1 y = some (.tup [.str "kept", .int n, .int n]) := s1 _ _ (lk_new nu upd_same)
    have hps1 : PcsAt H1 (us ++ [.ref y]) (ps ++ [.kept n n]) := Paired.app (hps.kp (Kp.of s0)) (Paired.one ⟨y, rfl, hy1⟩)
    refine ⟨r, rfl, ⟨_, SqT.of hr'⟩, for_tup (K := K) (a := r) (xs := us ++ [.ref y]) (ivEdits H H1 (.ref t) n l (ps ++ [.kept n n])) ?_ (fun i σ H' _ ⟨_, _, _, _, k5, _⟩ => SqT.of (k5 _ _ hr')) ?_ ?_⟩
    · exact ⟨[], z, none, rfl, Kp.refl _, s0, hl1, .nil, hz1⟩
    · rintro i x σ H' hi ⟨vs', z', x1, rfl, k5, s5, hl, hv, hz'⟩
      obtain ⟨p, hp, hx⟩ := Paired.get hps1 hi
      have hx' : PcAt H' x p := hx.kp k5
      have step := fold_more editStep ([], 0, []) hp
      have bnd := editFold_len ((ps ++ [Pc.kept n n]).take i) ([], 0, [])
      have hil := lt_get hp
      rw [List.length_append] at hil
      rw [List.length_take] at bnd
      have vl : vs'.length ≤ 2000 := by
        rw [Paired.len hv]
        simp only [List.length_nil, List.length_cons] at bnd hil
        omega
      generalize hg : ((ps ++ [Pc.kept n n]).take i).foldl editStep ([], 0, []) = g at *
      obtain ⟨ed, pl, il⟩ := g
      dsimp only at *
      cases p with
      | ins m =>
        obtain ⟨y', q, rfl, hy', hq⟩ := hx'
        walk_at "rd"
        show ivEdits H H1 _ n l _ (i + 1) _ _
        unfold ivEdits
        rw [step]
        exact ⟨_, _, _, rfl, k5, s5, hl, hv, hq⟩
      | kept a b =>
        obtain ⟨y', rfl, hy'⟩ := hx'
        -- the end of the turn
        have fin : ∀ (H2 : Hp) (ws : List V) (q : Addr), Kp H' H2 → Same H H2 → H2 l = some (.lst ws) → EdsAt H2 ws (editStep (ed, pl, il) (.kept a b)).1 → H2 q = none →
            ivEdits H H1 (.ref t) n l (ps ++ [.kept n n]) (i + 1) [some (.ref t), some (.int n), some (.ref l), some (.int b), some (.ref q), some (.ref y')] (upd H2 q (.tup [])) := by
          intro H2 ws q kk ss hw he nq
          unfold ivEdits
          rw [step]
          exact ⟨ws, q, _, rfl, (k5.trans kk).trans (Kp_new nq), ss.trans (Same_new nq), lk_new nq hw, he.kp (Kp_new nq), upd_same⟩
        have grow : ∀ q, H' q = none → (pl < a ∨ il ≠ []) → EdsAt (upd (upd H' q (.tup [.int pl, .int a, .ref z'])) l (.lst (vs' ++ [.ref q]))) (vs' ++ [.ref q]) (editStep (ed, pl, il) (.kept a b)).1 := by
          intro q nq c
          have e : (editStep (ed, pl, il) (.kept a b)).1 = ed ++ [(pl, a, il)] := by
            show (if pl < a ∨ il ≠ [] then ed ++ [(pl, a, il)] else ed) = _
            rw [if_pos c]
          rw [e]
          have k1 : Kp H' (upd (upd H' q (.tup [.int pl, .int a, .ref z'])) l (.lst (vs' ++ [.ref q]))) := (Kp_new nq).trans (Kp_lst (lk_new nq hl))
          refine Paired.app (hv.kp k1) (Paired.one ⟨q, z', rfl, ?_, k1 _ _ hz'⟩)
          exact Kp_lst (lk_new nq hl) _ _ upd_same
        walk_at "rd"
        refine iteC (fun c => ?_) (fun c => ?_)
        · walk_at "rd"
          intro q nq
          walk_at "rd"
          refine ⟨_, _, _, rfl, rfl, lk_new nq hl, line_lt (by omega), ?_⟩
          walk_at "rd"
          intro q2 nq2
          exact fin _ _ q2 ((Kp_new nq).trans (Kp_lst (lk_new nq hl))) (Same_put (s5.trans (Same_new nq)) nl) upd_same (grow q nq (.inl (by omega))) nq2
        · walk_at "rd"
          refine ⟨!il.isEmpty, .inr (.inl ⟨_, SqT.of hz', rfl⟩), ?_⟩
          cases il with
          | nil =>
            walk_at "rd"
            intro q2 nq2
            refine fin _ _ q2 (Kp.refl _) s5 hl ?_ nq2
            have e : (editStep (ed, pl, ([] : List V)) (.kept a b)).1 = ed := by
              show (if pl < a ∨ ([] : List V) ≠ [] then ed ++ [(pl, a, [])] else ed) = _
              rw [if_neg]
              intro z
              rcases z with z | z
              · omega
              · exact z rfl
            rw [e]
            exact hv
          | cons e0 il =>
            walk_at "rd"
            intro q nq
            walk_at "rd"
            refine ⟨_, _, _, rfl, rfl, lk_new nq hl, line_lt (by omega), ?_⟩
            walk_at "rd"
            intro q2 nq2
            exact fin _ _ q2 ((Kp_new nq).trans (Kp_lst (lk_new nq hl))) (Same_put (s5.trans (Same_new nq)) nl) upd_same (grow q nq (.inr (List.cons_ne_nil _ _))) nq2
    · rintro σ H' ⟨vs', z', x1, rfl, k5, s5, hl, hv, hz'⟩
      rw [List.take_of_length_le (by rw [Paired.len hps1]; exact Nat.le_refl _)] at hv
      walk_at "rd"
      refine ⟨_, _, rfl, .inl ⟨SqL.of hl, fun q nq => ?_⟩⟩
      exact k _ _ _ (s5.trans (Same_new nq)) ⟨q, rfl, upd_same⟩ (hv.kp (Kp_new nq))
end
end K7

set_option Elab.async false
set_option linter.all false
set_option maxRecDepth 100000
set_option maxHeartbeats 4000000
namespace K7
open PySem PySem.Spec PyProof.Rows L2 Ed
open C8 (Cal Met Mak pe_c pe_mk pe_mt pe_mt0)
/-! ### small words of the proofs: walk_at "lk" (what stands at an address), "ne" (two addresses differ), "rd" (the plain steps of a reading) -/
local macro_rules | `(tactic| walk_at "ne") => `(tactic| first
  | assumption
  | exact Ne.symm (by assumption)
  | exact ne_of_none (by assumption) (by assumption)
  | exact Ne.symm (ne_of_none (by assumption) (by assumption))
  | exact ne_of (by assumption) (by assumption) (by intro z; cases z)
  | exact ne_of_none (by walk_at "lk") (by assumption)
  | exact Ne.symm (ne_of_none (by walk_at "lk") (by assumption))
  | exact ne_of (by walk_at "lk") (by walk_at "lk") (by intro z; cases z))
local macro_rules | `(tactic| walk_at "lk") => `(tactic| first
  | assumption
  | exact upd_same
  | (refine lk_new (by assumption) ?_; walk_at "lk")
  | (refine Same.at (by assumption) ?_; walk_at "lk")
  | (refine Kp.at (by assumption) ?_; walk_at "lk")
  | (refine lk_ne (by walk_at "ne") ?_; walk_at "lk"))
local macro_rules | `(tactic| walk_at "at") => `(tactic| first
  | rfl
  | exact atI_last _ _
  | exact atI_neg1 (by assumption)
  | exact atI_nat (by first | assumption | rfl))
local macro_rules | `(tactic| walk_at "ix") => `(tactic| first
  | refine ⟨_, _, _, _, rfl, rfl, SqT.of (by walk_at "lk"), by walk_at "at", ?_⟩
  | refine ⟨_, _, _, _, rfl, rfl, SqL.of (by walk_at "lk"), by walk_at "at", ?_⟩)
local macro_rules | `(tactic| walk_at "rd1") => `(tactic| first
  | (with_reducible refine iteN kept_ne ?_)
  | (with_reducible refine iteN ins_ne ?_)
  | refine ⟨_, rfl, ?_⟩
  | refine ⟨_, _, rfl, rfl, ?_⟩
  | walk_at "ix"
  | refine ⟨rfl, ?_⟩
  | refine ⟨_, _, rfl, ?_⟩
  | refine ⟨Nat.le_of_ble_eq_true rfl, ?_⟩
  | refine ⟨.inl ⟨rfl, _, SqL.of (by walk_at "lk")⟩, ?_⟩)
local macro_rules | `(tactic| walk_at "rd") => `(tactic| repeat (walk_at "rd1"))
local macro_rules | `(tactic| walk_at "rq") => `(tactic| ((repeat (walk_at "rd1")); (try dsimp only)))

/-! ### the fields of an editor -/
def ef (b c p u r : V) : List (Str × V) := [("_base", b), ("_contents", c), ("_pieces", p), ("_undoable", u), ("_redoable", r)]
theorem ef_b (b c p u r : V) : (ef b c p u r).lookup ("_base" : Str) = some b := by rfl
theorem ef_c (b c p u r : V) : (ef b c p u r).lookup ("_contents" : Str) = some c := by rfl
theorem ef_p (b c p u r : V) : (ef b c p u r).lookup ("_pieces" : Str) = some p := by rfl
theorem ef_u (b c p u r : V) : (ef b c p u r).lookup ("_undoable" : Str) = some u := by rfl
theorem ef_r (b c p u r : V) : (ef b c p u r).lookup ("_redoable" : Str) = some r := by rfl
theorem pf_c (b c p u r x : V) : putF "_contents" x (ef b c p u r) = ef b x p u r := by rfl
theorem pf_p (b c p u r x : V) : putF "_pieces" x (ef b c p u r) = ef b c x u r := by rfl
theorem pf_r (b c p u r x : V) : putF "_redoable" x (ef b c p u r) = ef b c p u x := by rfl
theorem pf_5 (b c p u r : V) : putF "_redoable" r (putF "_undoable" u (putF "_pieces" p (putF "_contents" c (putF "_base" b [])))) = ef b c p u r := by rfl
theorem ef_len (b c p u r : V) : (ef b c p u r).length < 1000 := by
  show 5 < 1000
  decide
/-- what of the text the class Editor must have -/
structure EdC (K : PySem.W.Frag) (C : Addr) : Prop where
  cl : Cls K C
  n_b : NoAttr K C "_base"
  n_c : NoAttr K C "_contents"
  n_p : NoAttr K C "_pieces"
  n_u : NoAttr K C "_undoable"
  n_r : NoAttr K C "_redoable"
/-- the histories of an editor: each a tuple of the pieces of these origins -/
abbrev Hist (H : Hp) : List V → List (List (Og V)) → Prop := Paired fun v os => PcsT H v (pcsOf os)
theorem Hist.kp {H H' : Hp} (k : Kp H H') {vs : List V} {l : List (List (Og V))} (h : Hist H vs l) : Hist H' vs l := L2.Paired.mapP h fun _ _ q => PcsT.kp k q
/-- an editor at e: u, r its two lists; b its base (the tuple bv); what can be undone, the present origins, what can be redone -/
structure EdO (C : Addr) (H : Hp) (e u r : Addr) (bv : V) (b : List V) (und : List (List (Og V))) (cur : List (Og V)) (red : List (List (Og V))) : Prop where
  ne : u ≠ r
  bs : TupAt H bv b
  ex : ∃ dx cv pv us rs, H e = some (.ins C dx (ef bv cv pv (.ref u) (.ref r))) ∧ TupAt H cv (tellOgs b cur) ∧ PcsT H pv (pcsOf cur) ∧ H u = some (.lst us) ∧ Hist H us und ∧ H r = some (.lst rs) ∧ Hist H rs red
/-- all but what stands at these three -/
def But3 (e u r : Addr) (H H' : Hp) : Prop := ∀ a o, a ≠ e → a ≠ u → a ≠ r → H a = some o → H' a = some o
theorem pcsOf_len (os : List (Og V)) : (pcsOf os).length ≤ os.length := by
  have key : ∀ (os : List (Og V)) (acc : List (Pc V)), (os.foldl ogStep acc).length ≤ acc.length + os.length := by
    intro os
    induction os with
    | nil => intro acc; simp
    | cons o r ih =>
      intro acc
      have h1 : (ogStep acc o).length ≤ acc.length + 1 := by
        unfold ogStep
        cases o with
        | base k =>
          cases hg : acc.getLast? with
          | none => simp
          | some q =>
            cases q with
            | kept s e =>
              dsimp only
              split
              · simp
              · simp
            | ins l => simp
        | new v =>
          cases hg : acc.getLast? with
          | none => simp
          | some q =>
            cases q with
            | kept s e => simp
            | ins l => simp
      have h2 := ih (ogStep acc o)
      rw [List.foldl_cons, List.length_cons]
      omega
  have := key os []
  simpa [pcsOf] using this
theorem tell_len {b : List V} {os : List (Og V)} (h : OgFine b.length os) : (tellOf b (pcsOf os)).length = os.length := by
  rw [tell_pcsOf h, tellOgs_len h]
section
variable {P : Program} {w : World} {K : PySem.W.Frag} {mg : Str → Option Value} {base : Heap} {C : Addr}
/-! ### _become -/
abbrev s_Editor__become : Stmt := inClass (top 17) 6
theorem sc_Editor__become : FnScope ["self", "pieces"] ["self", "pieces"] (defScope s_Editor__become) := ⟨rfl, rfl, rfl, by decide +kernel, rfl, by decide +kernel, by decide +kernel⟩
def spBecome (C : Addr) : Sp := fun vs H Q _ => ∃ (e dx : Addr) (bv cv pv u r pv' : V) (b : List V) (ps : List (Pc V)), vs = [.ref e, pv'] ∧ H e = some (.ins C dx (ef bv cv pv u r)) ∧ PcsT H pv' ps ∧ TupAt H bv b ∧ (tellOf b ps).length ≤ 40000 ∧
  ∀ H' cv', (∀ a o, a ≠ e → H a = some o → H' a = some o) → H' e = some (.ins C dx (ef bv cv' pv' u r)) → TupAt H' cv' (tellOf b ps) → Q .non H'
theorem Kp_ins {H : Hp} {p C dx : Addr} {fs : List (Str × V)} {o : HO} (h : H p = some (.ins C dx fs)) : Kp H (upd H p o) := fun a m q => lk_ne (ne_of q h (by intro z; cases z)) q
theorem ok_become (D : Dm K C "_become" "Editor._become" s_Editor__become ["self", "pieces"]) (T : Blt mg) (TC : EdC K C) (c_described : Cal P w K mg base 1 "described" spDesc []) : Met P w K mg base 2 C "_become" (spBecome C) [] := by
  refine met_of TC.cl D sc_Editor__become (fun vs H Q E h => ?_) (fun f cdv A outer s H vs Q E hr h => ?_)
  · obtain ⟨e, dx, bv, cv, pv, u, r, pv', b, ps, rfl, _⟩ := h
    rfl
  · refine ⟨_, (pss_cons (ps_fld (pv 0) (pv 1) rfl)
  (pss_one (ps_fld (pv 0) (pe_c c_described hr (by decide) (by rfl) (pa_cons (pv 1) (pa_cons (pe_fld (pv 0) rfl) pa_nil))) rfl))), ?_⟩
    obtain ⟨e, dx, bv, cv, pv, u, r, pv', b, ps, rfl, he, hp, hb, hz, k⟩ := h
    refine ⟨_, rfl, _, rfl, e, C, dx, _, rfl, he, TC.cl, TC.n_p, ef_len .., ?_⟩
    rw [pf_p]
    have kk := Kp_ins (o := .ins C dx (ef bv cv pv' u r)) he
    refine ⟨_, rfl, _, rfl, e, C, dx, _, _, rfl, upd_same, TC.cl, TC.n_b, ef_b .., ?_⟩
    refine ⟨_, _, b, ps, rfl, hp.kp kk, hb.kp kk, hz, fun H1 v1 s1 hv1 => ?_⟩
    have he1 := s1 _ _ (upd_same (H := H) (a := e) (o := .ins C dx (ef bv cv pv' u r)))
    refine ⟨_, rfl, e, C, dx, _, rfl, he1, TC.cl, TC.n_c, ef_len .., ?_⟩
    rw [pf_c]
    refine k _ v1 (fun a o na q => ?_) upd_same (hv1.kp (Kp_ins he1))
    rw [upd_ne na]
    refine s1 _ _ ?_
    rw [upd_ne na]
    exact q
/-! ### the properties, len -/
abbrev s_Editor_pieces : Stmt := inClass (top 17) 1
theorem sc_Editor_pieces : FnScope ["self"] ["self"] (defScope s_Editor_pieces) := ⟨rfl, rfl, rfl, by decide +kernel, rfl, by decide +kernel, by decide +kernel⟩
abbrev s_Editor_contents : Stmt := inClass (top 17) 2
theorem sc_Editor_contents : FnScope ["self"] ["self"] (defScope s_Editor_contents) := ⟨rfl, rfl, rfl, by decide +kernel, rfl, by decide +kernel, by decide +kernel⟩
abbrev s_Editor_edits : Stmt := inClass (top 17) 3
theorem sc_Editor_edits : FnScope ["self"] ["self"] (defScope s_Editor_edits) := ⟨rfl, rfl, rfl, by decide +kernel, rfl, by decide +kernel, by decide +kernel⟩
abbrev s_Editor___len__ : Stmt := inClass (top 17) 4
theorem sc_Editor___len__ : FnScope ["self"] ["self"] (defScope s_Editor___len__) := ⟨rfl, rfl, rfl, by decide +kernel, rfl, by decide +kernel, by decide +kernel⟩
end
end K7

set_option Elab.async false
set_option linter.all false
set_option maxRecDepth 100000
set_option maxHeartbeats 4000000
namespace K7
open PySem PySem.Spec PyProof.Rows L2 Ed
open C8 (Cal Met Mak pe_c pe_mk pe_mt pe_mt0)
/-! ### small words of the proofs: walk_at "lk" (what stands at an address), "ne" (two addresses differ), "rd" (the plain steps of a reading) -/
local macro_rules | `(tactic| walk_at "ne") => `(tactic| first
  | assumption
  | exact Ne.symm (by assumption)
  | exact ne_of_none (by assumption) (by assumption)
  | exact Ne.symm (ne_of_none (by assumption) (by assumption))
  | exact ne_of (by assumption) (by assumption) (by intro z; cases z)
  | exact ne_of_none (by walk_at "lk") (by assumption)
  | exact Ne.symm (ne_of_none (by walk_at "lk") (by assumption))
  | exact ne_of (by walk_at "lk") (by walk_at "lk") (by intro z; cases z))
local macro_rules | `(tactic| walk_at "lk") => `(tactic| first
  | assumption
  | exact upd_same
  | (refine lk_new (by assumption) ?_; walk_at "lk")
  | (refine Same.at (by assumption) ?_; walk_at "lk")
  | (refine Kp.at (by assumption) ?_; walk_at "lk")
  | (refine lk_ne (by walk_at "ne") ?_; walk_at "lk"))
local macro_rules | `(tactic| walk_at "at") => `(tactic| first
  | rfl
  | exact atI_last _ _
  | exact atI_neg1 (by assumption)
  | exact atI_nat (by first | assumption | rfl))
local macro_rules | `(tactic| walk_at "ix") => `(tactic| first
  | refine ⟨_, _, _, _, rfl, rfl, SqT.of (by walk_at "lk"), by walk_at "at", ?_⟩
  | refine ⟨_, _, _, _, rfl, rfl, SqL.of (by walk_at "lk"), by walk_at "at", ?_⟩)
local macro_rules | `(tactic| walk_at "na") => `(tactic| first
  | exact EdC.n_b (by assumption)
  | exact EdC.n_c (by assumption)
  | exact EdC.n_p (by assumption)
  | exact EdC.n_u (by assumption)
  | exact EdC.n_r (by assumption))
local macro_rules | `(tactic| walk_at "ef") => `(tactic| first
  | exact ef_b ..
  | exact ef_c ..
  | exact ef_p ..
  | exact ef_u ..
  | exact ef_r ..)
local macro_rules | `(tactic| walk_at "fld") => `(tactic| first
  | refine ⟨_, _, _, _, _, rfl, (by walk_at "lk"), EdC.cl (by assumption), (by walk_at "na"), (by walk_at "ef"), ?_⟩
  | refine ⟨_, _, _, _, rfl, (by walk_at "lk"), EdC.cl (by assumption), (by walk_at "na"), ef_len .., ?_⟩)
local macro_rules | `(tactic| walk_at "rd1") => `(tactic| first
  | (with_reducible refine iteN kept_ne ?_)
  | (with_reducible refine iteN ins_ne ?_)
  | refine ⟨_, rfl, ?_⟩
  | refine ⟨_, _, rfl, rfl, ?_⟩
  | walk_at "ix"
  | walk_at "fld"
  | refine ⟨rfl, ?_⟩
  | refine ⟨_, _, rfl, ?_⟩
  | refine ⟨Nat.le_of_ble_eq_true rfl, ?_⟩
  | refine ⟨.inl ⟨rfl, _, SqL.of (by walk_at "lk")⟩, ?_⟩)
local macro_rules | `(tactic| walk_at "rd") => `(tactic| repeat (walk_at "rd1"))
local macro_rules | `(tactic| walk_at "rq") => `(tactic| ((repeat (walk_at "rd1")); (try dsimp only)))

/-- a property -/
structure Prp (P : Program) (w : World) (K : PySem.W.Frag) (mg : Str → Option Value) (base : Heap) (k : Nat) (C : Addr) (f : Str) (sp : Sp) : Prop where
  ex : ∃ p g fd, PropOf K C f p g ∧ FnOk P w K mg base CX0 k g fd ["self"] sp ∧ Binds K fd ["self"] []
structure Dp (K : PySem.W.Frag) (C : Addr) (f qual : Str) (st : Stmt) : Prop where
  ex : ∃ p g fd, PropOf K C f p g ∧ L2.Fun K f qual st g fd ∧ Binds K fd ["self"] []
theorem pe_pr {X : Cx} {k j : Nat} {C : Addr} {f : Str} {sp : Sp} {e : Expr} {ta : TE} {pos : Pos} (h : Prp X.prog X.w X.K X.mg X.base k C f sp) (c : Cls X.K C) (hr : Room j X.A) (hk : k + 1 ≤ j) (he : PE X e ta)
    (hab : attributeBase e f X.env (eval e X.env) = eval e X.env := by rfl) : PE X (.Attribute e f pos) (tProp C sp [] L2.E0 ta) := by
  obtain ⟨p, g, fd, hp, F, b⟩ := h.ex
  exact pe_prop he c hp F (hr.mono hk) b .nil pass0 hab
/-- len by the class's own def -/
structure Lno (P : Program) (w : World) (K : PySem.W.Frag) (mg : Str → Option Value) (base : Heap) (k : Nat) (C : Addr) (sp : Sp) : Prop where
  ex : ∃ f fd, PySem.W.findIn K (.ref C) "__len__" = some (some (.ref f)) ∧ PySem.W.isFn K (.ref f) = true ∧ FnOk P w K mg base CX0 k f fd ["self"] sp ∧ Binds K fd ["self"] []
theorem call_lno {X : Cx} {k j : Nat} {C : Addr} {sp : Sp} (h : Lno X.prog X.w X.K X.mg X.base k C sp) (hr : Room j X.A) (hk : k + 1 ≤ j) : CallR X (.builtin "len") (rLenO C sp L2.E0) := by
  obtain ⟨f, fd, h1, h2, F, b⟩ := h.ex
  exact call_lenO h1 h2 F (hr.mono hk) b pass0
/-- the class's __init__ -/
structure Di (K : PySem.W.Frag) (C : Addr) (qual : Str) (st : Stmt) (ps : List Str) : Prop where
  ex : ∃ f fd, L2.Fun K "__init__" qual st f fd ∧ Mk K C f ∧ Binds K fd ps []
section
variable {P : Program} {w : World} {K : PySem.W.Frag} {mg : Str → Option Value} {base : Heap} {C : Addr}
/-! ### the properties, len -/
def spPcs (C : Addr) : Sp := fun vs H Q _ => ∃ e dx b c p u r, vs = [.ref e] ∧ H e = some (.ins C dx (ef b c p u r)) ∧ Q p H
theorem ok_pieces (D : Dp K C "pieces" "Editor.pieces" s_Editor_pieces) (TC : EdC K C) : Prp P w K mg base 1 C "pieces" (spPcs C) := by
  obtain ⟨p, g, fd, hp, F, b⟩ := D.ex
  refine ⟨p, g, fd, hp, F.ok sc_Editor_pieces (fun vs H Q E h => ?_) (fun cdv A outer s H vs Q E hr h => ?_), b⟩
  · obtain ⟨e, dx, b, c, p, u, r, rfl, _⟩ := h
    rfl
  · refine ⟨_, (pss_one (ps_ret (pe_fld (pv 0) rfl))), ?_⟩
    obtain ⟨e, dx, b, c, p, u, r, rfl, he, k⟩ := h
    walk_at "rq"
    exact k
def spCon (C : Addr) : Sp := fun vs H Q _ => ∃ e dx b c p u r, vs = [.ref e] ∧ H e = some (.ins C dx (ef b c p u r)) ∧ Q c H
theorem ok_contents (D : Dp K C "contents" "Editor.contents" s_Editor_contents) (TC : EdC K C) : Prp P w K mg base 1 C "contents" (spCon C) := by
  obtain ⟨p, g, fd, hp, F, b⟩ := D.ex
  refine ⟨p, g, fd, hp, F.ok sc_Editor_contents (fun vs H Q E h => ?_) (fun cdv A outer s H vs Q E hr h => ?_), b⟩
  · obtain ⟨e, dx, b, c, p, u, r, rfl, _⟩ := h
    rfl
  · refine ⟨_, (pss_one (ps_ret (pe_fld (pv 0) rfl))), ?_⟩
    obtain ⟨e, dx, b, c, p, u, r, rfl, he, k⟩ := h
    walk_at "rq"
    exact k
def spEdi (C : Addr) : Sp := fun vs H Q _ => ∃ (e dx : Addr) (b c p u r : V) (bs : List V) (ps : List (Pc V)), vs = [.ref e] ∧ H e = some (.ins C dx (ef b c p u r)) ∧ TupAt H b bs ∧ PcsT H p ps ∧ ps.length ≤ 1000 ∧
  ∀ H' v' us, Same H H' → TupAt H' v' us → EdsAt H' us (editsOf ps bs.length) → Q v' H'
theorem ok_edits (D : Dp K C "edits" "Editor.edits" s_Editor_edits) (T : Blt mg) (TC : EdC K C) (c_edits_of : Cal P w K mg base 1 "edits_of" spEdits []) : Prp P w K mg base 2 C "edits" (spEdi C) := by
  obtain ⟨p, g, fd, hp, F, b⟩ := D.ex
  refine ⟨p, g, fd, hp, F.ok sc_Editor_edits (fun vs H Q E h => ?_) (fun cdv A outer s H vs Q E hr h => ?_), b⟩
  · obtain ⟨e, dx, b, c, p, u, r, bs, ps, rfl, _⟩ := h
    rfl
  · refine ⟨_, (pss_one (ps_ret (pe_c c_edits_of hr (by decide) (by rfl) (pa_cons (pe_fld (pv 0) rfl) (pa_cons (pe_callB call_len_seq (by rfl) T.b_len (by decide +kernel) (pa_cons (pe_fld (pv 0) rfl) pa_nil)) pa_nil))))), ?_⟩
    obtain ⟨e, dx, b, c, p, u, r, bs, ps, rfl, he, ⟨ba, rfl, hb⟩, hp, hz, k⟩ := h
    walk_at "rd"
    refine ⟨_, _, rfl, .inr (SqT.of hb), ?_⟩
    exact ⟨p, bs.length, ps, rfl, hp, hz, k⟩
def spLenE (C : Addr) : Sp := fun vs H Q _ => ∃ (e dx : Addr) (b c p u r : V) (cs : List V), vs = [.ref e] ∧ H e = some (.ins C dx (ef b c p u r)) ∧ TupAt H c cs ∧ Q (.int cs.length) H
theorem ok_len (D : Dm K C "__len__" "Editor.__len__" s_Editor___len__ ["self"]) (T : Blt mg) (TC : EdC K C) : Lno P w K mg base 1 C (spLenE C) := by
  obtain ⟨f, fd, F, me, b⟩ := D.ex
  refine ⟨f, fd, me.at_, me.fn, F.ok sc_Editor___len__ (fun vs H Q E h => ?_) (fun cdv A outer s H vs Q E hr h => ?_), b⟩
  · obtain ⟨e, dx, b, c, p, u, r, cs, rfl, _⟩ := h
    rfl
  · refine ⟨_, (pss_one (ps_ret (pe_callB call_len_seq (by rfl) T.b_len (by decide +kernel) (pa_cons (pe_fld (pv 0) rfl) pa_nil)))), ?_⟩
    obtain ⟨e, dx, b, c, p, u, r, cs, rfl, he, ⟨ca, rfl, hc⟩, k⟩ := h
    walk_at "rd"
    exact ⟨_, _, rfl, .inr (SqT.of hc), k⟩
/-! ### __init__ -/
abbrev s_Editor___init__ : Stmt := inClass (top 17) 0
theorem sc_Editor___init__ : FnScope ["self", "contents"] ["self", "contents"] (defScope s_Editor___init__) := ⟨rfl, rfl, rfl, by decide +kernel, rfl, by decide +kernel, by decide +kernel⟩
def spInit (C : Addr) : Sp := fun vs H Q _ => ∃ (e dx : Addr) (bv : V) (b : List V) (H0 : Hp), vs = [.ref e, bv] ∧ H e = some (.ins C dx []) ∧ TupAt H0 bv b ∧ b.length ≤ 1000 ∧ Same H0 H ∧ H0 e = none ∧
  ∀ H' u r, Same H0 H' → H0 u = none → H0 r = none → EdO C H' e u r bv b [] (baseOgs b.length) [] → Q .non H'
theorem tellOgs_base (b : List V) : tellOgs b (baseOgs b.length) = b := by
  have h : Fine b.length [(Pc.kept 0 b.length : Pc V)] := by
    intro p hp
    rw [List.mem_singleton.mp hp]
    exact ⟨Nat.zero_le _, Nat.le_refl _⟩
  have e := tellOf_eq h
  have e2 : ogsOf [(Pc.kept 0 b.length : Pc V)] = baseOgs b.length := by
    simp [ogsOf, Pc.ogs, baseOgs, List.range_eq_range']
  rw [e2] at e
  rw [← e, tellOf_one]
  show (b.take b.length).drop 0 = b
  simp
theorem ok_init (D : Di K C "Editor.__init__" s_Editor___init__ ["self", "contents"]) (gC : mg "Editor" = some (.ref C)) (T : Blt mg) (TC : EdC K C) (c_tidied : Cal P w K mg base 2 "tidied" spTidy []) : Mak P w K mg base 3 "Editor" C (spInit C) [] := by
  obtain ⟨f, fd, F, M, b⟩ := D.ex
  refine ⟨f, fd, _, [], M, F.ok sc_Editor___init__ (fun vs H Q E h => ?_) (fun cdv A outer s H vs Q E hr h => ?_), gC, b, .nil⟩
  · obtain ⟨e, dx, bv, b, H0, rfl, _⟩ := h
    rfl
  · refine ⟨_, (pss_cons (ps_fld (pv 0) (pv 1) rfl)
  (pss_cons (ps_fld (pv 0) (pv 1) rfl)
  (pss_cons (ps_fld (pv 0) (pe_c c_tidied hr (by decide) (by rfl) (pa_cons (pe_lst (pa_cons (pe_tup (pa_cons pe_str (pa_cons pe_int (pa_cons (pe_callB call_len_seq (by rfl) T.b_len (by decide +kernel) (pa_cons (pv 1) pa_nil)) pa_nil)))) pa_nil)) pa_nil)) rfl)
  (pss_cons (ps_fld (pv 0) (pe_lst pa_nil) rfl)
  (pss_one (ps_fld (pv 0) (pe_lst pa_nil) rfl)))))), ?_⟩
    obtain ⟨e, dx, bv, b, H0, rfl, he, ⟨ba, rfl, hb⟩, hz, s0, ne0, k⟩ := h
    refine ⟨_, rfl, _, rfl, e, C, dx, _, rfl, he, TC.cl, TC.n_b, (by show 0 < 1000; decide), ?_⟩
    refine ⟨_, rfl, _, rfl, e, C, dx, _, rfl, upd_same, TC.cl, TC.n_c, (by show 1 < 1000; decide), ?_⟩
    rw [upd_upd]
    have nbe : ba ≠ e := ne_of_none hb ne0
    walk_at "rd"
    refine ⟨_, _, rfl, .inr (SqT.of (lk_ne nbe (s0 _ _ hb))), ?_⟩
    walk_at "rd"
    intro p1 n1
    walk_at "rd"
    intro p2 n2
    walk_at "rd"
    have fine1 : Fine b.length [(Pc.kept 0 b.length : Pc V)] := by
      intro p hp
      rw [List.mem_singleton.mp hp]
      exact ⟨Nat.zero_le _, Nat.le_refl _⟩
    refine ⟨p2, [.ref p1], b.length, [.kept 0 b.length], rfl, upd_same, Paired.one ⟨p1, rfl, lk_new n2 upd_same⟩, fine1, by simp, ?_, fun H1 v1 s1 hv1 => ?_⟩
    · show b.length - 0 + 0 ≤ 40000
      omega
    rw [tidy_new] at hv1
    have S1 := Same_put (o := .ins C dx (putF "_contents" (.ref ba) (putF "_base" (.ref ba) []))) s0 ne0
    have S2 := S1.trans ((Same_new n1).trans ((Same_new n2).trans s1))
    have he1 := s1 _ _ (lk_new n2 (lk_new n1 upd_same))
    refine ⟨_, rfl, e, C, dx, _, rfl, he1, TC.cl, TC.n_p, (by show 2 < 1000; decide), ?_⟩
    have S3 := Same_put (o := .ins C dx (putF "_pieces" v1 (putF "_contents" (.ref ba) (putF "_base" (.ref ba) [])))) S2 ne0
    walk_at "rd"
    intro u nu
    have u0 := S3.free nu
    have neu : u ≠ e := (ne_of_none upd_same nu).symm
    refine ⟨_, rfl, e, C, dx, _, rfl, lk_new nu upd_same, TC.cl, TC.n_u, (by show 3 < 1000; decide), ?_⟩
    have S4 := S3.trans (Same_new (o := .lst []) nu)
    have S5 := Same_put (o := .ins C dx (putF "_undoable" (.ref u) (putF "_pieces" v1 (putF "_contents" (.ref ba) (putF "_base" (.ref ba) []))))) S4 ne0
    walk_at "rd"
    intro r nr
    have r0 := S5.free nr
    have ner : r ≠ e := (ne_of_none upd_same nr).symm
    have nur : u ≠ r := ne_of_none (lk_ne neu upd_same) nr
    refine ⟨_, rfl, e, C, dx, _, rfl, lk_new nr upd_same, TC.cl, TC.n_r, (by show 4 < 1000; decide), ?_⟩
    have S6 := S5.trans (Same_new (o := .lst []) nr)
    have S7 := Same_put (o := .ins C dx (putF "_redoable" (.ref r) (putF "_undoable" (.ref u) (putF "_pieces" v1 (putF "_contents" (.ref ba) (putF "_base" (.ref ba) [])))))) S6 ne0
    refine k _ u r S7 u0 r0 ⟨nur, ⟨ba, rfl, S7 _ _ hb⟩, dx, .ref ba, v1, [], [], by rw [← pf_5]; exact upd_same, ?_, ?_, ?_, .nil, lk_ne ner upd_same, .nil⟩
    · rw [tellOgs_base]
      exact ⟨ba, rfl, S7 _ _ hb⟩
    · refine hv1.kp ((Kp_ins he1).trans ((Kp_new nu).trans ((Kp_ins (lk_new nu upd_same)).trans ((Kp_new nr).trans (Kp_ins (lk_new nr upd_same))))))
    · exact lk_ne neu (lk_new nr (lk_ne neu upd_same))
end
end K7

set_option Elab.async false
set_option linter.all false
set_option maxRecDepth 100000
set_option maxHeartbeats 4000000
namespace K7
open PySem PySem.Spec PyProof.Rows L2 Ed
open C8 (Cal Met Mak pe_c pe_mk pe_mt pe_mt0)
/-! ### small words of the proofs: walk_at "lk" (what stands at an address), "ne" (two addresses differ), "rd" (the plain steps of a reading) -/
local macro_rules | `(tactic| walk_at "ne") => `(tactic| first
  | assumption
  | exact Ne.symm (by assumption)
  | exact ne_of_none (by assumption) (by assumption)
  | exact Ne.symm (ne_of_none (by assumption) (by assumption))
  | exact ne_of (by assumption) (by assumption) (by intro z; cases z)
  | exact ne_of_none (by walk_at "lk") (by assumption)
  | exact Ne.symm (ne_of_none (by walk_at "lk") (by assumption))
  | exact ne_of (by walk_at "lk") (by walk_at "lk") (by intro z; cases z))
local macro_rules | `(tactic| walk_at "lk") => `(tactic| first
  | assumption
  | exact upd_same
  | (refine lk_new (by assumption) ?_; walk_at "lk")
  | (refine Same.at (by assumption) ?_; walk_at "lk")
  | (refine Kp.at (by assumption) ?_; walk_at "lk")
  | (refine lk_ne (by walk_at "ne") ?_; walk_at "lk"))
local macro_rules | `(tactic| walk_at "at") => `(tactic| first
  | rfl
  | exact atI_last _ _
  | exact atI_neg1 (by assumption)
  | exact atI_nat (by first | assumption | rfl))
local macro_rules | `(tactic| walk_at "ix") => `(tactic| first
  | refine ⟨_, _, _, _, rfl, rfl, SqT.of (by walk_at "lk"), by walk_at "at", ?_⟩
  | refine ⟨_, _, _, _, rfl, rfl, SqL.of (by walk_at "lk"), by walk_at "at", ?_⟩)
local macro_rules | `(tactic| walk_at "na") => `(tactic| first
  | exact EdC.n_b (by assumption)
  | exact EdC.n_c (by assumption)
  | exact EdC.n_p (by assumption)
  | exact EdC.n_u (by assumption)
  | exact EdC.n_r (by assumption))
local macro_rules | `(tactic| walk_at "ef") => `(tactic| first
  | exact ef_b ..
  | exact ef_c ..
  | exact ef_p ..
  | exact ef_u ..
  | exact ef_r ..)
local macro_rules | `(tactic| walk_at "fld") => `(tactic| first
  | refine ⟨_, _, _, _, _, rfl, (by walk_at "lk"), EdC.cl (by assumption), (by walk_at "na"), (by walk_at "ef"), ?_⟩
  | refine ⟨_, _, _, _, rfl, (by walk_at "lk"), EdC.cl (by assumption), (by walk_at "na"), ef_len .., ?_⟩)
local macro_rules | `(tactic| walk_at "rd1") => `(tactic| first
  | (with_reducible refine iteN kept_ne ?_)
  | (with_reducible refine iteN ins_ne ?_)
  | refine ⟨_, rfl, ?_⟩
  | refine ⟨_, _, rfl, rfl, ?_⟩
  | walk_at "ix"
  | walk_at "fld"
  | refine ⟨rfl, ?_⟩
  | refine ⟨_, _, rfl, ?_⟩
  | refine ⟨Nat.le_of_ble_eq_true rfl, ?_⟩
  | refine ⟨.inl ⟨rfl, _, SqL.of (by walk_at "lk")⟩, ?_⟩)
local macro_rules | `(tactic| walk_at "rd") => `(tactic| repeat (walk_at "rd1"))
local macro_rules | `(tactic| walk_at "rq") => `(tactic| ((repeat (walk_at "rd1")); (try dsimp only)))

section
variable {P : Program} {w : World} {K : PySem.W.Frag} {mg : Str → Option Value} {base : Heap} {C : Addr}
theorem ef_no (b c p u r : V) {m : Str} (h1 : ¬ m = "_base") (h2 : ¬ m = "_contents") (h3 : ¬ m = "_pieces") (h4 : ¬ m = "_undoable") (h5 : ¬ m = "_redoable") : (ef b c p u r).lookup m = none := by
  unfold ef
  rw [lookup_put, if_neg h1, lookup_put, if_neg h2, lookup_put, if_neg h3, lookup_put, if_neg h4, lookup_put, if_neg h5]
  rfl
theorem ef_become (b c p u r : V) : (ef b c p u r).lookup ("_become" : Str) = none := ef_no b c p u r (by decide +kernel) (by decide +kernel) (by decide +kernel) (by decide +kernel) (by decide +kernel)
theorem last_ix {α : Type} {l : List α} {x : α} (h : l.getLast? = some x) : l[l.length - 1]? = some x := by
  rw [← List.getLast?_eq_getElem?]
  exact h
theorem last_snoc {α : Type} (l : List α) (x : α) : (l ++ [x]).getLast? = some x := by simp
theorem not_nil_of_last {α : Type} {l : List α} {x : α} (h : l.getLast? = some x) : (!l.isEmpty) = true := by
  cases l with
  | nil => cases h
  | cons y r => rfl
/-! ### undo, redo -/
abbrev s_Editor_undo : Stmt := inClass (top 17) 8
theorem sc_Editor_undo : FnScope ["self"] ["self"] (defScope s_Editor_undo) := ⟨rfl, rfl, rfl, by decide +kernel, rfl, by decide +kernel, by decide +kernel⟩
abbrev s_Editor_redo : Stmt := inClass (top 17) 9
theorem sc_Editor_redo : FnScope ["self"] ["self"] (defScope s_Editor_redo) := ⟨rfl, rfl, rfl, by decide +kernel, rfl, by decide +kernel, by decide +kernel⟩
def spUndo (C : Addr) : Sp := fun vs H Q _ => ∃ (e u r : Addr) (bv : V) (b : List V) (und : List (List (Og V))) (cur : List (Og V)) (red : List (List (Og V))), vs = [.ref e] ∧ EdO C H e u r bv b und cur red ∧
  (∀ os ∈ und, OgFine b.length os ∧ os.length ≤ 1000) ∧ red.length ≤ 1000 ∧ (und = [] → Q (.bl false) H) ∧
  ∀ und' o, und = und' ++ [o] → ∀ H', But3 e u r H H' → EdO C H' e u r bv b und' o (red ++ [cur]) → Q (.bl true) H'
theorem ok_undo (D : Dm K C "undo" "Editor.undo" s_Editor_undo ["self"]) (T : Blt mg) (TC : EdC K C) (m__become : Met P w K mg base 2 C "_become" (spBecome C) []) : Met P w K mg base 3 C "undo" (spUndo C) [] := by
  refine met_of TC.cl D sc_Editor_undo (fun vs H Q E h => ?_) (fun f cdv A outer s H vs Q E hr h => ?_)
  · obtain ⟨e, u, r, bv, b, und, cur, red, rfl, _⟩ := h
    rfl
  · refine ⟨_, (pss_cons (ps_if (pt_not (pt_truth (pe_fld (pv 0) rfl) (by intro _; rfl))) (pss_one (ps_ret pe_bl)) pss_nil)
  (pss_cons (ps_expr (pe_bm PySem.F.plainAttrs_list PySem.F.slot_list_append PySem.F.type_list_append mt_append (pe_fld (pv 0) rfl) (pa_cons (pe_fld (pv 0) rfl) pa_nil)))
  (pss_cons (ps_expr (pe_mt m__become hr (by decide) (pv 0) (pa_cons (pe_bm0 PySem.F.plainAttrs_list PySem.F.slot_list_pop PySem.F.type_list_pop mt_pop (pe_fld (pv 0) rfl)) pa_nil)))
  (pss_one (ps_ret pe_bl))))), ?_⟩
    obtain ⟨e, u, r, bv, b, und, cur, red, rfl, ⟨nur, hb, dx, cv, pv, us, rs, he, hcv, hpv, hu, hus, hrr, hrs⟩, hfu, hzr, k0, k1⟩ := h
    have neu : e ≠ u := ne_of he hu (by intro z; cases z)
    have ner : e ≠ r := ne_of he hrr (by intro z; cases z)
    walk_at "rd"
    rcases List.eq_nil_or_concat und with hn | ⟨und', o, hn⟩
    · have e1 : us = [] := by
        rw [hn] at hus
        exact List.eq_nil_of_length_eq_zero (Paired.len hus)
      subst e1
      refine ⟨_, .inl ⟨_, SqL.of hu, rfl⟩, ?_⟩
      walk_at "rq"
      exact k0 hn
    · rw [List.concat_eq_append] at hn
      subst hn
      obtain ⟨y, hy, hyp⟩ := Paired.last hus (last_snoc und' o)
      obtain ⟨fo, zo⟩ := hfu o (by simp)
      refine ⟨true, .inl ⟨_, SqL.of hu, (not_nil_of_last hy).symm⟩, ?_⟩
      walk_at "rd"
      refine ⟨_, _, _, rfl, rfl, hrr, line_lt (by rw [Paired.len hrs]; omega), ?_⟩
      have hea : upd H r (.lst (rs ++ [pv])) e = some (.ins C dx (ef bv cv pv (.ref u) (.ref r))) := lk_ne ner he
      have hua : upd H r (.lst (rs ++ [pv])) u = some (.lst us) := lk_ne nur hu
      refine ⟨_, rfl, e, dx, _, rfl, hea, ef_become .., ?_⟩
      walk_at "rd"
      refine ⟨_, _, _, rfl, rfl, hua, last_ix hy, ?_⟩
      have ka := Kp_lst (o := .lst (rs ++ [pv])) hrr
      have kb := Kp_lst (o := .lst us.dropLast) hua
      refine ⟨e, dx, bv, cv, pv, .ref u, .ref r, y, b, pcsOf o, rfl, lk_ne neu hea, hyp.kp (ka.trans kb), hb.kp (ka.trans kb), by rw [tell_len fo]; omega, fun H1 cv1 f1 he1 hcv1 => ?_⟩
      walk_at "rq"
      have kk : Kp H H1 := fun a l q => f1 a _ (ne_of q he (by intro z; cases z)) ((ka.trans kb) a l q)
      refine k1 und' o rfl H1 (fun a x n1 n2 n3 q => f1 a x n1 (lk_ne n2 (lk_ne n3 q))) ⟨nur, hb.kp kk, dx, cv1, y, us.dropLast, rs ++ [pv], he1, ?_, hyp.kp kk, f1 _ _ neu.symm upd_same, ?_, f1 _ _ ner.symm (lk_ne nur.symm upd_same), ?_⟩
      · rw [tell_pcsOf fo] at hcv1
        exact hcv1
      · have q := Paired.front hus
        rw [dropLast_snoc] at q
        exact Hist.kp kk q
      · exact Paired.app (Hist.kp kk hrs) (Paired.one (hpv.kp kk))
def spRedo (C : Addr) : Sp := fun vs H Q _ => ∃ (e u r : Addr) (bv : V) (b : List V) (und : List (List (Og V))) (cur : List (Og V)) (red : List (List (Og V))), vs = [.ref e] ∧ EdO C H e u r bv b und cur red ∧
  (∀ os ∈ red, OgFine b.length os ∧ os.length ≤ 1000) ∧ und.length ≤ 1000 ∧ (red = [] → Q (.bl false) H) ∧
  ∀ red' o, red = red' ++ [o] → ∀ H', But3 e u r H H' → EdO C H' e u r bv b (und ++ [cur]) o red' → Q (.bl true) H'
theorem ok_redo (D : Dm K C "redo" "Editor.redo" s_Editor_redo ["self"]) (T : Blt mg) (TC : EdC K C) (m__become : Met P w K mg base 2 C "_become" (spBecome C) []) : Met P w K mg base 3 C "redo" (spRedo C) [] := by
  refine met_of TC.cl D sc_Editor_redo (fun vs H Q E h => ?_) (fun f cdv A outer s H vs Q E hr h => ?_)
  · obtain ⟨e, u, r, bv, b, und, cur, red, rfl, _⟩ := h
    rfl
  · refine ⟨_, (pss_cons (ps_if (pt_not (pt_truth (pe_fld (pv 0) rfl) (by intro _; rfl))) (pss_one (ps_ret pe_bl)) pss_nil)
  (pss_cons (ps_expr (pe_bm PySem.F.plainAttrs_list PySem.F.slot_list_append PySem.F.type_list_append mt_append (pe_fld (pv 0) rfl) (pa_cons (pe_fld (pv 0) rfl) pa_nil)))
  (pss_cons (ps_expr (pe_mt m__become hr (by decide) (pv 0) (pa_cons (pe_bm0 PySem.F.plainAttrs_list PySem.F.slot_list_pop PySem.F.type_list_pop mt_pop (pe_fld (pv 0) rfl)) pa_nil)))
  (pss_one (ps_ret pe_bl))))), ?_⟩
    obtain ⟨e, u, r, bv, b, und, cur, red, rfl, ⟨nur, hb, dx, cv, pv, us, rs, he, hcv, hpv, hu, hus, hrr, hrs⟩, hfu, hzr, k0, k1⟩ := h
    have neu : e ≠ u := ne_of he hu (by intro z; cases z)
    have ner : e ≠ r := ne_of he hrr (by intro z; cases z)
    walk_at "rd"
    rcases List.eq_nil_or_concat red with hn | ⟨red', o, hn⟩
    · have e1 : rs = [] := by
        rw [hn] at hrs
        exact List.eq_nil_of_length_eq_zero (Paired.len hrs)
      subst e1
      refine ⟨_, .inl ⟨_, SqL.of hrr, rfl⟩, ?_⟩
      walk_at "rq"
      exact k0 hn
    · rw [List.concat_eq_append] at hn
      subst hn
      obtain ⟨y, hy, hyp⟩ := Paired.last hrs (last_snoc red' o)
      obtain ⟨fo, zo⟩ := hfu o (by simp)
      refine ⟨true, .inl ⟨_, SqL.of hrr, (not_nil_of_last hy).symm⟩, ?_⟩
      walk_at "rd"
      refine ⟨_, _, _, rfl, rfl, hu, line_lt (by rw [Paired.len hus]; omega), ?_⟩
      have hea : upd H u (.lst (us ++ [pv])) e = some (.ins C dx (ef bv cv pv (.ref u) (.ref r))) := lk_ne neu he
      have hra : upd H u (.lst (us ++ [pv])) r = some (.lst rs) := lk_ne nur.symm hrr
      refine ⟨_, rfl, e, dx, _, rfl, hea, ef_become .., ?_⟩
      walk_at "rd"
      refine ⟨_, _, _, rfl, rfl, hra, last_ix hy, ?_⟩
      have ka := Kp_lst (o := .lst (us ++ [pv])) hu
      have kb := Kp_lst (o := .lst rs.dropLast) hra
      refine ⟨e, dx, bv, cv, pv, .ref u, .ref r, y, b, pcsOf o, rfl, lk_ne ner hea, hyp.kp (ka.trans kb), hb.kp (ka.trans kb), by rw [tell_len fo]; omega, fun H1 cv1 f1 he1 hcv1 => ?_⟩
      walk_at "rq"
      have kk : Kp H H1 := fun a l q => f1 a _ (ne_of q he (by intro z; cases z)) ((ka.trans kb) a l q)
      refine k1 red' o rfl H1 (fun a x n1 n2 n3 q => f1 a x n1 (lk_ne n3 (lk_ne n2 q))) ⟨nur, hb.kp kk, dx, cv1, y, us ++ [pv], rs.dropLast, he1, ?_, hyp.kp kk, f1 _ _ neu.symm (lk_ne nur upd_same), ?_, f1 _ _ ner.symm upd_same, ?_⟩
      · rw [tell_pcsOf fo] at hcv1
        exact hcv1
      · exact Paired.app (Hist.kp kk hus) (Paired.one (hpv.kp kk))
      · have q := Paired.front hrs
        rw [dropLast_snoc] at q
        exact Hist.kp kk q
end
end K7

set_option Elab.async false
set_option linter.all false
set_option maxRecDepth 100000
set_option maxHeartbeats 4000000
namespace K7
open PySem PySem.Spec PyProof.Rows L2 Ed
open C8 (Cal Met Mak pe_c pe_mk pe_mt pe_mt0)
/-! ### small words of the proofs: walk_at "lk" (what stands at an address), "ne" (two addresses differ), "rd" (the plain steps of a reading) -/
local macro_rules | `(tactic| walk_at "ne") => `(tactic| first
  | assumption
  | exact Ne.symm (by assumption)
  | exact ne_of_none (by assumption) (by assumption)
  | exact Ne.symm (ne_of_none (by assumption) (by assumption))
  | exact ne_of (by assumption) (by assumption) (by intro z; cases z)
  | exact ne_of_none (by walk_at "lk") (by assumption)
  | exact Ne.symm (ne_of_none (by walk_at "lk") (by assumption))
  | exact ne_of (by walk_at "lk") (by walk_at "lk") (by intro z; cases z))
local macro_rules | `(tactic| walk_at "lk") => `(tactic| first
  | assumption
  | exact upd_same
  | (refine lk_new (by assumption) ?_; walk_at "lk")
  | (refine Same.at (by assumption) ?_; walk_at "lk")
  | (refine Kp.at (by assumption) ?_; walk_at "lk")
  | (refine lk_ne (by walk_at "ne") ?_; walk_at "lk"))
local macro_rules | `(tactic| walk_at "at") => `(tactic| first
  | rfl
  | exact atI_last _ _
  | exact atI_neg1 (by assumption)
  | exact atI_nat (by first | assumption | rfl))
local macro_rules | `(tactic| walk_at "ix") => `(tactic| first
  | refine ⟨_, _, _, _, rfl, rfl, SqT.of (by walk_at "lk"), by walk_at "at", ?_⟩
  | refine ⟨_, _, _, _, rfl, rfl, SqL.of (by walk_at "lk"), by walk_at "at", ?_⟩)
local macro_rules | `(tactic| walk_at "na") => `(tactic| first
  | exact EdC.n_b (by assumption)
  | exact EdC.n_c (by assumption)
  | exact EdC.n_p (by assumption)
  | exact EdC.n_u (by assumption)
  | exact EdC.n_r (by assumption))
local macro_rules | `(tactic| walk_at "ef") => `(tactic| first
  | exact ef_b ..
  | exact ef_c ..
  | exact ef_p ..
  | exact ef_u ..
  | exact ef_r ..)
local macro_rules | `(tactic| walk_at "fld") => `(tactic| first
  | refine ⟨_, _, _, _, _, rfl, (by walk_at "lk"), EdC.cl (by assumption), (by walk_at "na"), (by walk_at "ef"), ?_⟩
  | refine ⟨_, _, _, _, rfl, (by walk_at "lk"), EdC.cl (by assumption), (by walk_at "na"), ef_len .., ?_⟩)
local macro_rules | `(tactic| walk_at "rd1") => `(tactic| first
  | (with_reducible refine iteN kept_ne ?_)
  | (with_reducible refine iteN ins_ne ?_)
  | refine ⟨_, rfl, ?_⟩
  | refine ⟨_, _, rfl, rfl, ?_⟩
  | walk_at "ix"
  | walk_at "fld"
  | refine ⟨rfl, ?_⟩
  | refine ⟨_, _, rfl, ?_⟩
  | refine ⟨Nat.le_of_ble_eq_true rfl, ?_⟩
  | refine ⟨.inl ⟨rfl, _, SqL.of (by walk_at "lk")⟩, ?_⟩)
local macro_rules | `(tactic| walk_at "rd") => `(tactic| repeat (walk_at "rd1"))
local macro_rules | `(tactic| walk_at "rq") => `(tactic| ((repeat (walk_at "rd1")); (try dsimp only)))

/-- a def that may raise -/
structure Clx (P : Program) (w : World) (K : PySem.W.Frag) (mg : Str → Option Value) (base : Heap) (k : Nat) (x : Str) (ps : List Str) (sp : Sp) : Prop where
  ex : ∃ f fd, FnOk P w K mg base (L2.CX P w) k f fd ps sp ∧ mg x = some (.ref f) ∧ PySem.W.keepIn K (.ref f) = true ∧ Binds K fd ps []
structure Mlx (P : Program) (w : World) (K : PySem.W.Frag) (mg : Str → Option Value) (base : Heap) (k : Nat) (C : Addr) (m : Str) (ps : List Str) (sp : Sp) : Prop where
  ex : ∃ f fd, FnOk P w K mg base (L2.CX P w) k f fd ps sp ∧ Meth K C m f ∧ Binds K fd ps []
section
variable {P : Program} {w : World} {K : PySem.W.Frag} {mg : Str → Option Value} {base : Heap} {C CI CT fI fT : Addr}
/-! ### check_count -/
abbrev s_check_count : Stmt := top 6
theorem sc_check_count : FnScope ["count"] ["count"] (defScope s_check_count) := ⟨rfl, rfl, rfl, by decide +kernel, rfl, by decide +kernel, by decide +kernel⟩
def spCheck (CT : Addr) : Sp := fun vs H Q E => ∃ n : Int, vs = [.int n] ∧ (2000 < n → ∀ d, H d = none → E (.ref CT) (some d) (upd H d (.xd [("count", .int n)]))) ∧ (¬ 2000 < n → Q .non H)
theorem ok_check_count (D : Dn K mg "check_count" s_check_count ["count"]) (gM : ∃ t, mg "MOST_ELEMENTS" = some (.int 2000 t)) (X_TooManyElements : PySem.SupE.SupTxt P K mg "TooManyElements" "count" CT fT) :
    Clx P w K mg base 1 "check_count" ["count"] (spCheck CT) := by
  obtain ⟨f, fd, F, hm, b⟩ := D.ex
  obtain ⟨tM, gM⟩ := gM
  refine ⟨f, fd, F.okX sc_check_count (fun vs H Q E h => ?_) (fun cdv A outer s H vs Q E hr h => ?_), hm, F.kp, b⟩
  · obtain ⟨n, rfl, _⟩ := h
    rfl
  · refine ⟨_, (pss_one (ps_if (pt_cmpR op_gt (pv 0) (pe_glob (v := .int 2000) (by rfl) gM ⟨_, rfl⟩) (nomark _)) (pss_one (ps_raise rfl (takes_of rfl rfl rfl rfl) (pmk_sup X_TooManyElements hr (pa_cons (pv 0) pa_nil)))) pss_nil)), ?_⟩
    obtain ⟨n, rfl, k1, k2⟩ := h
    walk_at "rd"
    refine iteC (fun c => ?_) (fun c => ?_)
    · walk_at "rd"
      exact fun d nd => k1 c d nd
    · exact k2 c
/-! ### replace_range -/
abbrev s_Editor_replace_range : Stmt := inClass (top 17) 7
theorem sc_Editor_replace_range : FnScope ["self", "start", "end", "inserted", "count", "before", "behind"] ["self", "start", "end", "inserted"] (defScope s_Editor_replace_range) := ⟨rfl, rfl, rfl, by decide +kernel, rfl, by decide +kernel, by decide +kernel⟩
def spRepl (C CI CT : Addr) : Sp := fun vs H Q E => ∃ (e u r : Addr) (bv iv : V) (b l : List V) (und : List (List (Og V))) (cur : List (Og V)) (red : List (List (Og V))) (a z : Nat), vs = [.ref e, .int a, .int z, iv] ∧ EdO C H e u r bv b und cur red ∧
  TupAt H iv l ∧ a ≤ z ∧ OgFine b.length cur ∧ cur.length ≤ 900 ∧ l.length ≤ 3000 ∧ und.length ≤ 1000 ∧
  (cur.length < z → ∀ d, H d = none → E (.ref CI) (some d) (upd H d (.xd [("place", .int z)]))) ∧
  (z ≤ cur.length → 2000 < cur.length - (z - a) + l.length → ∀ d, H d = none → E (.ref CT) (some d) (upd H d (.xd [("count", .int (cur.length - (z - a) + l.length : Nat))]))) ∧
  (z ≤ cur.length → cur.length - (z - a) + l.length ≤ 2000 → ∀ H' r', But3 e u r H H' → H r' = none → EdO C H' e u r' bv b (und ++ [cur]) (putOgs cur a z l) [] → Q (.int (cur.length - (z - a) + l.length : Nat)) H')
theorem ok_replace_range (D : Dm K C "replace_range" "Editor.replace_range" s_Editor_replace_range ["self", "start", "end", "inserted"]) (T : Blt mg) (TC : EdC K C) (m__become : Met P w K mg base 2 C "_become" (spBecome C) [])
    (X_IndexOutOfRange : PySem.SupE.SupTxt P K mg "IndexOutOfRange" "place" CI fI) (cc : Clx P w K mg base 1 "check_count" ["count"] (spCheck CT)) (c_pieces_part : Cal P w K mg base 2 "pieces_part" spParts []) (c_tidied : Cal P w K mg base 2 "tidied" spTidy []) :
    Mlx P w K mg base 3 C "replace_range" ["self", "start", "end", "inserted"] (spRepl C CI CT) := by
  obtain ⟨f, fd, F, me, bnd⟩ := D.ex
  obtain ⟨f_check, fd_check, F_check, g_check, k_check, b_check⟩ := cc.ex
  refine ⟨f, fd, F.okX sc_Editor_replace_range (fun vs H Q E h => ?_) (fun cdv A outer s H vs Q E hr h => ?_), me, bnd⟩
  · obtain ⟨e, u, r, bv, iv, b, l, und, cur, red, a, z, rfl, _⟩ := h
    rfl
  · refine ⟨_, (pss_cons (ps_set (i := 4) sc_Editor_replace_range.nd rfl (Or.inl rfl) (pe_callB call_len_seq (by rfl) T.b_len (by decide +kernel) (pa_cons (pe_fld (pv 0) rfl) pa_nil)))
  (pss_cons (ps_if (pt_cmpR op_gt (pv 2) (pv 4) (nomark _)) (pss_one (ps_raise rfl (takes_of rfl rfl rfl rfl) (pmk_sup X_IndexOutOfRange hr (pa_cons (pv 2) pa_nil)))) pss_nil)
  (pss_cons (ps_if (pt_cmpR op_gt (pv 1) (pv 2) (nomark _)) (pss_one (ps_raise rfl (takes_of rfl rfl rfl rfl) (pmk_sup X_IndexOutOfRange hr (pa_cons (pv 1) pa_nil)))) pss_nil)
  (pss_cons (ps_expr (pe_call F_check (hr.mono (by decide)) (by rfl) g_check k_check b_check .nil (passes_call (W := fun cls d _ H => E cls d H) (takes_of rfl rfl rfl rfl) (fun _ _ _ _ h => h)) (pa_cons (pe_op op_add (pe_op op_sub (pv 4) (pe_op op_sub (pv 2) (pv 1))) (pe_callB call_len_seq (by rfl) T.b_len (by decide +kernel) (pa_cons (pv 3) pa_nil))) pa_nil)))
  (pss_cons (ps_set (i := 5) sc_Editor_replace_range.nd rfl (Or.inl rfl) (pe_c c_pieces_part hr (by decide) (by rfl) (pa_cons (pe_fld (pv 0) rfl) (pa_cons pe_int (pa_cons (pv 1) pa_nil)))))
  (pss_cons (ps_set (i := 6) sc_Editor_replace_range.nd rfl (Or.inl rfl) (pe_c c_pieces_part hr (by decide) (by rfl) (pa_cons (pe_fld (pv 0) rfl) (pa_cons (pv 2) (pa_cons (pv 4) pa_nil)))))
  (pss_cons (ps_expr (pe_bm PySem.F.plainAttrs_list PySem.F.slot_list_append PySem.F.type_list_append mt_append (pe_fld (pv 0) rfl) (pa_cons (pe_fld (pv 0) rfl) pa_nil)))
  (pss_cons (ps_fld (pv 0) (pe_lst pa_nil) rfl)
  (pss_cons (ps_expr (pe_mt m__become hr (by decide) (pv 0) (pa_cons (pe_c c_tidied hr (by decide) (by rfl) (pa_cons (pe_op op_cat (pe_op op_cat (pv 5) (pe_lst (pa_cons (pe_tup (pa_cons pe_str (pa_cons (pv 3) pa_nil))) pa_nil))) (pv 6)) pa_nil)) pa_nil)))
  (pss_one (ps_ret (pe_callB call_len_seq (by rfl) T.b_len (by decide +kernel) (pa_cons (pe_fld (pv 0) rfl) pa_nil))))))))))))), ?_⟩
    obtain ⟨e, u, r, bv, iv, b, l, und, cur, red, a, z, rfl, ⟨nur, hb, dx, cv, pv, us, rs, he, ⟨ca, rfl, hcv⟩, hpv, hu, hus, hrr, hrs⟩, ⟨ia, rfl, hi⟩, haz, fo, zc, zl, zu, k1, k2, k3⟩ := h
    have neu : e ≠ u := ne_of he hu (by intro z; cases z)
    have ner : e ≠ r := ne_of he hrr (by intro z; cases z)
    have lc : (tellOgs b cur).length = cur.length := tellOgs_len fo
    walk_at "rd"
    refine ⟨_, _, rfl, .inr (SqT.of hcv), ?_⟩
    rw [lc]
    walk_at "rd"
    refine iteC (fun c => ?_) (fun c => ?_)
    · walk_at "rd"
      exact fun d nd => k1 (by omega) d nd
    walk_at "rd"
    refine iteN (by omega) ?_
    walk_at "rd"
    refine ⟨_, _, rfl, .inr (SqT.of hi), ?_⟩
    walk_at "rd"
    refine ⟨fun g d nd => ?_, fun g => ?_⟩
    · have q := k2 (by omega) (by omega) d nd
      have e1 : ((cur.length - (z - a) + l.length : Nat) : Int) = (cur.length : Int) - ((z : Int) - (a : Int)) + (l.length : Int) := by omega
      rw [e1] at q
      exact q
    have zle : z ≤ cur.length := by omega
    have k3' := k3 zle (by omega)
    have fine0 := pcsOf_fine fo
    have len0 : (pcsOf cur).length ≤ 1000 := Nat.le_trans (pcsOf_len cur) (by omega)
    -- before
    walk_at "rd"
    refine ⟨pv, 0, a, b.length, pcsOf cur, rfl, hpv, fine0, len0, fun H1 q1 vs1 s1 nq1 hq1 hv1 => ?_⟩
    -- behind
    have he1 := s1 _ _ he
    walk_at "rd"
    refine ⟨pv, z, cur.length, b.length, pcsOf cur, rfl, hpv.kp (Kp.of s1), fine0, len0, fun H2 q2 vs2 s2 nq2 hq2 hv2 => ?_⟩
    have s02 := s1.trans s2
    have he2 := s02 _ _ he
    have hu2 := s02 _ _ hu
    have hr2 := s02 _ _ hrr
    -- self._undoable.append(self._pieces)
    walk_at "rd"
    refine ⟨_, _, _, rfl, rfl, hu2, line_lt (by rw [Paired.len hus]; omega), ?_⟩
    -- self._redoable = []
    walk_at "rd"
    intro r' nr'
    have he3 : upd H2 u (.lst (us ++ [pv])) e = some (.ins C dx (ef bv (.ref ca) pv (.ref u) (.ref r))) := lk_ne neu he2
    refine ⟨_, rfl, e, C, dx, _, rfl, lk_new nr' he3, TC.cl, TC.n_r, ef_len .., ?_⟩
    rw [pf_r]
    have nr'2 : H2 r' = none := nn_of nr'
    have nr'0 : H r' = none := s02.free nr'2
    have ner' : e ≠ r' := ne_of_none he3 nr'
    have nur' : u ≠ r' := (nn_ne nr').symm
    generalize hH4 : upd (upd (upd H2 u (.lst (us ++ [pv]))) r' (.lst [])) e (.ins C dx (ef bv (.ref ca) pv (.ref u) (.ref r'))) = H4
    have he4 : H4 e = some (.ins C dx (ef bv (.ref ca) pv (.ref u) (.ref r'))) := by rw [← hH4]; exact upd_same
    have hu4 : H4 u = some (.lst (us ++ [pv])) := by rw [← hH4]; exact lk_ne neu.symm (lk_new nr' upd_same)
    have hr4 : H4 r' = some (.lst []) := by rw [← hH4]; exact lk_ne ner'.symm upd_same
    have f4 : ∀ x o, x ≠ e → x ≠ u → H2 x = some o → H4 x = some o := fun x o n1 n2 q => by
      rw [← hH4]
      exact lk_ne n1 (lk_new nr' (lk_ne n2 q))
    have k24 : Kp H2 H4 := fun x m q => f4 x _ (ne_of q he2 (by intro y; cases y)) (ne_of q hu2 (by intro y; cases y)) q
    have k04 := (Kp.of s02).trans k24
    have hq14 : H4 q1 = some (.lst vs1) := f4 q1 _ (ne_of (s2 _ _ hq1) he2 (by intro y; cases y)) (ne_of_none hu nq1).symm (s2 _ _ hq1)
    have hq24 : H4 q2 = some (.lst vs2) := f4 q2 _ (ne_of hq2 he2 (by intro y; cases y)) (ne_of_none (s1 _ _ hu) nq2).symm hq2
    -- self._become(tidied(..))
    refine ⟨_, rfl, e, dx, _, rfl, he4, ef_become .., ?_⟩
    walk_at "rd"
    intro p3 n3
    walk_at "rd"
    intro p4 n4
    have l1 : vs1.length ≤ 1000 := by
      rw [Paired.len hv1]
      have := part_len 0 a (pcsOf cur) ([], 0)
      simp only [List.length_nil] at this
      unfold partOf
      omega
    have l2 : vs2.length ≤ 1000 := by
      rw [Paired.len hv2]
      have := part_len z cur.length (pcsOf cur) ([], 0)
      simp only [List.length_nil] at this
      unfold partOf
      omega
    refine ⟨_, _, _, _, rfl, rfl, lk_new n4 (lk_new n3 hq14), upd_same, line_of (by simp; omega), fun p5 n5 => ?_⟩
    walk_at "rd"
    refine ⟨_, _, _, _, rfl, rfl, upd_same, lk_new n5 (lk_new n4 (lk_new n3 hq24)), line_of (by simp; omega), fun p6 n6 => ?_⟩
    walk_at "rd"
    generalize hH6 : upd (upd (upd (upd H4 p3 (.tup [.str "inserted", .ref ia])) p4 (.lst [.ref p3])) p5 (.lst (vs1 ++ [.ref p3]))) p6 (.lst (vs1 ++ [.ref p3] ++ vs2)) = H6
    have s46 : Same H4 H6 := by
      rw [← hH6]
      exact (Same_new n3).trans ((Same_new n4).trans ((Same_new n5).trans (Same_new n6)))
    have hp6 : H6 p6 = some (.lst (vs1 ++ [.ref p3] ++ vs2)) := by rw [← hH6]; exact upd_same
    have hp3 : H6 p3 = some (.tup [.str "inserted", .ref ia]) := by rw [← hH6]; exact lk_new n6 (lk_new n5 (lk_new n4 upd_same))
    have k06 := k04.trans (Kp.of s46)
    have k26 := k24.trans (Kp.of s46)
    have fpart : ∀ x y, Fine b.length (partOf (pcsOf cur) x y) := fun x y => partOf_fine fine0
    have fall : Fine b.length (partOf (pcsOf cur) 0 a ++ [Pc.ins l] ++ partOf (pcsOf cur) z cur.length) := by
      intro p hp
      rcases List.mem_append.mp hp with hp | hp
      · rcases List.mem_append.mp hp with hp | hp
        · exact fpart _ _ p hp
        · rw [List.mem_singleton.mp hp]
          trivial
      · exact fpart _ _ p hp
    have plen : ∀ x y, lenOf (partOf (pcsOf cur) x y) ≤ cur.length := by
      intro x y
      rw [← ogsOf_len, partOf_ogs, ogs_pcsOf fo, List.length_drop, List.length_take]
      omega
    refine ⟨p6, _, b.length, _, rfl, hp6, Paired.app (Paired.app (hv1.kp ((Kp.of s2).trans k26)) (Paired.one (y := Pc.ins l) ⟨p3, ia, rfl, hp3, k06 _ _ hi⟩)) (hv2.kp k26), fall, ?_, ?_, fun H7 v7 s7 hv7 => ?_⟩
    · have q1' := Paired.len hv1
      have q2' := Paired.len hv2
      simp only [List.length_append, List.length_singleton]
      omega
    · have q1' := plen 0 a
      have q2' := plen z cur.length
      rw [lenOf_append, lenOf_append]
      have q3' : lenOf [(Pc.ins l : Pc V)] = l.length := by simp [lenOf, Pc.len]
      omega
    rw [tidy_put fo] at hv7
    have fo' : OgFine b.length (putOgs cur a z l) := putOgs_fine fo
    have zo' : (putOgs cur a z l).length = cur.length - (z - a) + l.length := by
      unfold putOgs
      simp only [List.length_append, List.length_take, List.length_map, List.length_drop]
      omega
    have s47 := s46.trans s7
    have k07 := k04.trans (Kp.of s47)
    walk_at "rd"
    refine ⟨e, dx, bv, .ref ca, pv, .ref u, .ref r', v7, b, pcsOf (putOgs cur a z l), rfl, s47 _ _ he4, hv7, hb.kp k07, by rw [tell_len fo', zo']; omega, fun H8 cv8 f8 he8 hcv8 => ?_⟩
    rw [tell_pcsOf fo'] at hcv8
    have kk : Kp H H8 := fun x m q => f8 x _ (ne_of q he (by intro y; cases y)) (k07 x m q)
    have k78 : Kp H7 H8 := fun x m q => f8 x _ (ne_of q (s47 _ _ he4) (by intro y; cases y)) q
    obtain ⟨ca8, rfl, hca8⟩ := id hcv8
    walk_at "rd"
    refine ⟨_, _, rfl, .inr (SqT.of hca8), ?_⟩
    rw [tellOgs_len fo', zo']
    refine k3' H8 r' (fun x o n1 n2 n3 q => f8 x o n1 (s47 _ _ (f4 x o n1 n2 (s02 _ _ q)))) nr'0 ⟨nur', hb.kp kk, dx, .ref ca8, v7, us ++ [pv], [], he8, hcv8, hv7.kp k78, f8 _ _ neu.symm (s47 _ _ hu4), ?_, f8 _ _ ner'.symm (s47 _ _ hr4), .nil⟩
    exact Paired.app (Hist.kp kk hus) (Paired.one (hpv.kp kk))
end
end K7

set_option Elab.async false
set_option linter.all false
set_option maxRecDepth 100000
set_option maxHeartbeats 4000000
namespace K7
open PySem PySem.Spec PyProof.Rows L2 Ed
open C8 (Cal Met Mak pe_c pe_mk pe_mt pe_mt0)
/-! ### small words of the proofs: walk_at "lk" (what stands at an address), "ne" (two addresses differ), "rd" (the plain steps of a reading) -/
local macro_rules | `(tactic| walk_at "ne") => `(tactic| first
  | assumption
  | exact Ne.symm (by assumption)
  | exact ne_of_none (by assumption) (by assumption)
  | exact Ne.symm (ne_of_none (by assumption) (by assumption))
  | exact ne_of (by assumption) (by assumption) (by intro z; cases z)
  | exact ne_of_none (by walk_at "lk") (by assumption)
  | exact Ne.symm (ne_of_none (by walk_at "lk") (by assumption))
  | exact ne_of (by walk_at "lk") (by walk_at "lk") (by intro z; cases z))
local macro_rules | `(tactic| walk_at "lk") => `(tactic| first
  | assumption
  | exact upd_same
  | (refine lk_new (by assumption) ?_; walk_at "lk")
  | (refine Same.at (by assumption) ?_; walk_at "lk")
  | (refine Kp.at (by assumption) ?_; walk_at "lk")
  | (refine lk_ne (by walk_at "ne") ?_; walk_at "lk"))
local macro_rules | `(tactic| walk_at "at") => `(tactic| first
  | rfl
  | exact atI_last _ _
  | exact atI_neg1 (by assumption)
  | exact atI_nat (by first | assumption | rfl))
local macro_rules | `(tactic| walk_at "ix") => `(tactic| first
  | refine ⟨_, _, _, _, rfl, rfl, SqT.of (by walk_at "lk"), by walk_at "at", ?_⟩
  | refine ⟨_, _, _, _, rfl, rfl, SqL.of (by walk_at "lk"), by walk_at "at", ?_⟩)
local macro_rules | `(tactic| walk_at "ty") => `(tactic| first
  | exact TyOf.int _
  | exact TyOf.str _
  | exact TyOf.bl _
  | exact TyOf.tup (by walk_at "lk"))
local macro_rules | `(tactic| walk_at "isi") => `(tactic| first
  | refine ⟨_, _, _, _, true, rfl, .ty _, .base (by walk_at "ty"), kit_ty (by decide +kernel), ?_⟩
  | refine ⟨_, _, _, _, false, rfl, .ty _, .base (by walk_at "ty"), kit_ty (by decide +kernel), ?_⟩)
local macro_rules | `(tactic| walk_at "rd1") => `(tactic| first
  | (with_reducible refine iteN kept_ne ?_)
  | (with_reducible refine iteN ins_ne ?_)
  | refine ⟨_, rfl, ?_⟩
  | refine ⟨_, _, rfl, rfl, ?_⟩
  | walk_at "ix"
  | refine ⟨rfl, ?_⟩
  | refine ⟨_, _, rfl, ?_⟩
  | refine ⟨Nat.le_of_ble_eq_true rfl, ?_⟩
  | walk_at "isi"
  | refine ⟨.inl ⟨rfl, _, SqL.of (by walk_at "lk")⟩, ?_⟩)
local macro_rules | `(tactic| walk_at "rd") => `(tactic| repeat (walk_at "rd1"))
local macro_rules | `(tactic| walk_at "rq") => `(tactic| ((repeat (walk_at "rd1")); (try dsimp only)))
local macro_rules | `(tactic| walk_at "ln") => `(tactic| first
  | refine ⟨_, _, rfl, .inr (SqT.of (by walk_at "lk")), ?_⟩
  | refine ⟨_, _, rfl, .inl (SqL.of (by walk_at "lk")), ?_⟩)
local macro_rules | `(tactic| walk_at "rl") => `(tactic| repeat (first | walk_at "rd1" | walk_at "ln"))
local macro_rules | `(tactic| walk_at "rlq") => `(tactic| ((repeat (first | walk_at "rd1" | walk_at "ln")); (try dsimp only)))

/-- u and v are data of the same form and the same contents, less than n deep -/
def Alk (H : Hp) : Nat → V → V → Prop
  | 0, _, _ => False
  | n + 1, u, v => (u = v ∧ Sc u) ∨ ∃ a b us vs, u = .ref a ∧ v = .ref b ∧ H a = some (.tup us) ∧ H b = some (.tup vs) ∧ us.length ≤ 100000 ∧ Paired (Alk H n) us vs
theorem Alk.kp {H H' : Hp} (k : Kp H H') : ∀ {n : Nat} {u v : V}, Alk H n u v → Alk H' n u v
  | 0, _, _, h => h.elim
  | n + 1, u, v, h => by
    rcases h with h | ⟨a, b, us, vs, e1, e2, h1, h2, hz, p⟩
    · exact .inl h
    · exact .inr ⟨a, b, us, vs, e1, e2, k _ _ h1, k _ _ h2, hz, L2.Paired.mapP p fun _ _ q => Alk.kp k q⟩
theorem Alk.up {H : Hp} : ∀ {n : Nat} {u v : V}, Alk H n u v → Alk H (n + 1) u v
  | 0, _, _, h => h.elim
  | n + 1, u, v, h => by
    rcases h with h | ⟨a, b, us, vs, e1, e2, h1, h2, hz, p⟩
    · exact .inl h
    · exact .inr ⟨a, b, us, vs, e1, e2, h1, h2, hz, L2.Paired.mapP p fun _ _ q => Alk.up q⟩
section
variable {P : Program} {w : World} {K : PySem.W.Frag} {mg : Str → Option Value} {base : Heap}
abbrev s__law_alike : Stmt := top 21
theorem sc__law_alike : FnScope ["_law_told", "_law_due", "_law_k"] ["_law_told", "_law_due"] (defScope s__law_alike) := ⟨rfl, rfl, rfl, by decide +kernel, rfl, by decide +kernel, by decide +kernel⟩
def spAlike (n : Nat) : Sp := fun vs H Q _ => ∃ u v, vs = [u, v] ∧ Alk H n u v ∧ ∀ H', Same H H' → Q (.bl true) H'
theorem ok_alike_step (n : Nat) (D : Dn K mg "_law_alike" s__law_alike ["_law_told", "_law_due"]) (T : Blt mg) (c__law_alike : Cal P w K mg base n "_law_alike" (spAlike n) []) : Cal P w K mg base (n + 1) "_law_alike" (spAlike (n + 1)) [] := by
  refine cal_of D sc__law_alike (fun vs H Q E h => ?_) (fun f cdv A outer s H vs Q E hr h => ?_)
  · obtain ⟨u, v, rfl, _⟩ := h
    rfl
  · refine ⟨_, (pss_cons (ps_if (pt_val (pe_callB call_isi (by rfl) T.b_isinstance (by decide +kernel) (pa_cons (pv 1) (pa_cons (pe_bltn (v := .ty "tuple") (by rfl) T.b_tuple (by decide +kernel) rfl) pa_nil)))) (pss_cons (ps_if (PW.pt (pw_or (pt_not (pt_val (pe_callB call_isi (by rfl) T.b_isinstance (by decide +kernel) (pa_cons (pv 0) (pa_cons (pe_bltn (v := .ty "tuple") (by rfl) T.b_tuple (by decide +kernel) rfl) pa_nil))))) (pw_or1 (pt_cmpR op_ne (pe_callB call_len_seq (by rfl) T.b_len (by decide +kernel) (pa_cons (pv 0) pa_nil)) (pe_callB call_len_seq (by rfl) T.b_len (by decide +kernel) (pa_cons (pv 1) pa_nil)) (nomark _))))) (pss_one (ps_ret pe_bl)) pss_nil)
  (pss_one (ps_ret (pe_cmpR op_eq (pe_callB call_len_seq (by rfl) T.b_len (by decide +kernel) (pa_cons (pe_lc (own := [("_law_k", 2)]) (g := gName 2) rfl sc__law_alike.nd (pi_range1 (by rfl) T.b_range (pa_cons (pe_callB call_len_seq (by rfl) T.b_len (by decide +kernel) (pa_cons (pv 1) pa_nil)) pa_nil)) (blkOk_by (own := [("_law_k", 2)]) (N := ["_law_told", "_law_due", "_law_k"]) (sc := defScope s__law_alike) (by decide +kernel)) (fun _ _ _ _ _ => pg_name (i := 2) sc__law_alike.nd rfl (Or.inl rfl)) (fun _ _ _ _ _ => (pts_one (pt_not (pt_val (pe_c c__law_alike hr (Nat.le_refl _) (by rfl) (pa_cons (pe_ix (show IxR _ (rIxT K) from ix_tup) (pv 0) (pv 2) (fun _ _ => rfl)) (pa_cons (pe_ix (show IxR _ (rIxT K) from ix_tup) (pv 1) (pv 2) (fun _ _ => rfl)) pa_nil))))))) (fun _ _ _ _ _ => (pv 2))) pa_nil)) pe_int (nomark _))))) pss_nil)
  (pss_cons (ps_if (pt_cmpR op_isN (pv 1) pe_non (nomark _)) (pss_one (ps_ret (pe_cmpR op_isN (pv 0) pe_non (nomark _)))) pss_nil)
  (pss_cons (ps_if (pt_val (pe_callB call_isi (by rfl) T.b_isinstance (by decide +kernel) (pa_cons (pv 1) (pa_cons (pe_bltn (v := .ty "str") (by rfl) T.b_str (by decide +kernel) rfl) pa_nil)))) (pss_one (ps_ret (pe_and (pe_callB call_isi (by rfl) T.b_isinstance (by decide +kernel) (pa_cons (pv 0) (pa_cons (pe_bltn (v := .ty "str") (by rfl) T.b_str (by decide +kernel) rfl) pa_nil))) (pe_one (pe_cmpR op_eq (pv 0) (pv 1) (nomark _)))))) pss_nil)
  (pss_one (ps_ret (pe_and (pe_callB call_isi (by rfl) T.b_isinstance (by decide +kernel) (pa_cons (pv 0) (pa_cons (pe_bltn (v := .ty "int") (by rfl) T.b_int (by decide +kernel) rfl) pa_nil))) (pe_and (pe_cmpR op_eq (pe_callB call_isi (by rfl) T.b_isinstance (by decide +kernel) (pa_cons (pv 0) (pa_cons (pe_bltn (v := .ty "bool") (by rfl) T.b_bool (by decide +kernel) rfl) pa_nil))) (pe_callB call_isi (by rfl) T.b_isinstance (by decide +kernel) (pa_cons (pv 1) (pa_cons (pe_bltn (v := .ty "bool") (by rfl) T.b_bool (by decide +kernel) rfl) pa_nil))) (nomark _)) (pe_one (pe_cmpR op_eq (pv 0) (pv 1) (nomark _)))))))))), ?_⟩
    obtain ⟨u, v, rfl, hA, k⟩ := h
    rcases hA with ⟨rfl, hs⟩ | ⟨a, b, us, vs, rfl, rfl, ha, hb, hz, hp⟩
    · cases u with
      | int i =>
        walk_at "rd"
        have q := k H (Same.refl _)
        rw [← decide_eq_true (Eq.refl (V.int i))] at q
        exact q
      | str x =>
        walk_at "rd"
        have q := k H (Same.refl _)
        rw [← decide_eq_true (Eq.refl (V.str x))] at q
        exact q
      | _ => exact hs.elim
    · walk_at "rl"
      have el : us.length = vs.length := Paired.len hp
      rw [el]
      refine iteNS (Eq.refl (V.int (vs.length : Int))) ?_
      walk_at "rl"
      refine ⟨by omega, by omega, fun F nF => lc_range (lo := 0) (n := (vs.length : Int).toNat) (fun i H' => Same H H' ∧ H' F = some (.lst [])) ⟨Same_new nF, upd_same⟩ ?_ ?_⟩
      · rintro i H' hi ⟨s5, hF⟩
        have hi' : i < vs.length := by simpa using hi
        have gx : us[i]? = some (us[i]'(by omega)) := List.getElem?_eq_getElem (by omega)
        obtain ⟨y, gy, hxy⟩ := Paired.get hp gx
        refine ⟨rfl, _, rfl, _, rfl, _, _, _, _, rfl, rfl, SqT.of (s5 _ _ ha), by rw [Int.zero_add]; exact atI_nat gx, ?_⟩
        refine ⟨_, rfl, _, rfl, _, _, _, _, rfl, rfl, SqT.of (s5 _ _ hb), by rw [Int.zero_add]; exact atI_nat gy, ?_⟩
        refine ⟨_, y, rfl, Alk.kp (Kp.of s5) hxy, fun H2 s2 => ⟨true, rfl, iteF ⟨s5.trans s2, s2 _ _ hF⟩⟩⟩
      · rintro H' ⟨s5, hF⟩
        walk_at "rl"
        have q := k H' s5
        have e : decide (V.int (([] : List V).length : Int) = V.int 0) = true := by decide
        rw [← e] at q
        exact q
theorem ok_alike (D : Dn K mg "_law_alike" s__law_alike ["_law_told", "_law_due"]) (T : Blt mg) : ∀ n : Nat, Cal P w K mg base n "_law_alike" (spAlike n) []
  | 0 => by
    obtain ⟨f, fd, F, hm, b⟩ := D.ex
    refine ⟨f, fd, ["_law_told", "_law_due"], [], ⟨?_, ?_⟩, hm, F.kp, b, .nil⟩
    · rintro vs H Q E ⟨u, v, rfl, _⟩
      rfl
    · rintro A outer s H args us vs Q E _ _ _ _ ⟨u, v, rfl, h, _⟩
      exact h.elim
  | n + 1 => ok_alike_step n D T (ok_alike D T n)
end
end K7

set_option Elab.async false
set_option linter.all false
set_option maxRecDepth 100000
set_option maxHeartbeats 4000000
namespace K7
open PySem PySem.Spec PyProof.Rows L2 Ed
open C8 (Cal Met Mak pe_c pe_mk pe_mt pe_mt0)
/-! ### small words of the proofs: walk_at "lk" (what stands at an address), "ne" (two addresses differ), "rd" (the plain steps of a reading) -/
local macro_rules | `(tactic| walk_at "ne") => `(tactic| first
  | assumption
  | exact Ne.symm (by assumption)
  | exact ne_of_none (by assumption) (by assumption)
  | exact Ne.symm (ne_of_none (by assumption) (by assumption))
  | exact ne_of (by assumption) (by assumption) (by intro z; cases z)
  | exact ne_of_none (by walk_at "lk") (by assumption)
  | exact Ne.symm (ne_of_none (by walk_at "lk") (by assumption))
  | exact ne_of (by walk_at "lk") (by walk_at "lk") (by intro z; cases z))
local macro_rules | `(tactic| walk_at "lk") => `(tactic| first
  | assumption
  | exact upd_same
  | (refine lk_new (by assumption) ?_; walk_at "lk")
  | (refine Same.at (by assumption) ?_; walk_at "lk")
  | (refine Kp.at (by assumption) ?_; walk_at "lk")
  | (refine lk_ne (by walk_at "ne") ?_; walk_at "lk"))
local macro_rules | `(tactic| walk_at "at") => `(tactic| first
  | rfl
  | exact atI_last _ _
  | exact atI_neg1 (by assumption)
  | exact atI_nat (by first | assumption | rfl))
local macro_rules | `(tactic| walk_at "ix") => `(tactic| first
  | refine ⟨_, _, _, _, rfl, rfl, SqT.of (by walk_at "lk"), by walk_at "at", ?_⟩
  | refine ⟨_, _, _, _, rfl, rfl, SqL.of (by walk_at "lk"), by walk_at "at", ?_⟩)
local macro_rules | `(tactic| walk_at "ty") => `(tactic| first
  | exact TyOf.int _
  | exact TyOf.str _
  | exact TyOf.bl _
  | exact TyOf.tup (by walk_at "lk"))
local macro_rules | `(tactic| walk_at "isi") => `(tactic| first
  | refine ⟨_, _, _, _, true, rfl, .ty _, .base (by walk_at "ty"), kit_ty (by decide +kernel), ?_⟩
  | refine ⟨_, _, _, _, false, rfl, .ty _, .base (by walk_at "ty"), kit_ty (by decide +kernel), ?_⟩)
local macro_rules | `(tactic| walk_at "cnd") => `(tactic| first
  | exact ⟨by decide, by decide, by decide⟩
  | exact Or.inr ⟨by decide, by decide⟩
  | (show (0 : Int) < _; decide))
local macro_rules | `(tactic| walk_at "rd1") => `(tactic| first
  | (with_reducible refine iteN kept_ne ?_)
  | (with_reducible refine iteN ins_ne ?_)
  | refine ⟨_, rfl, ?_⟩
  | refine ⟨_, _, rfl, rfl, ?_⟩
  | walk_at "ix"
  | refine ⟨rfl, ?_⟩
  | refine ⟨_, _, rfl, ?_⟩
  | refine ⟨Nat.le_of_ble_eq_true rfl, ?_⟩
  | walk_at "isi"
  | refine .inl ⟨_, rfl, ?_⟩
  | refine ⟨_, _, _, _, rfl, rfl, (by walk_at "lk"), rfl, ?_⟩
  | refine ⟨(by walk_at "cnd"), ?_⟩
  | refine ⟨.inl ⟨rfl, _, SqL.of (by walk_at "lk")⟩, ?_⟩)
local macro_rules | `(tactic| walk_at "rd") => `(tactic| repeat (walk_at "rd1"))
local macro_rules | `(tactic| walk_at "rq") => `(tactic| ((repeat (walk_at "rd1")); (try dsimp only)))
local macro_rules | `(tactic| walk_at "ln") => `(tactic| first
  | refine ⟨_, _, rfl, .inr (SqT.of (by walk_at "lk")), ?_⟩
  | refine ⟨_, _, rfl, .inl (SqL.of (by walk_at "lk")), ?_⟩)
local macro_rules | `(tactic| walk_at "rl") => `(tactic| repeat (first | walk_at "rd1" | walk_at "ln"))
local macro_rules | `(tactic| walk_at "rlq") => `(tactic| ((repeat (first | walk_at "rd1" | walk_at "ln")); (try dsimp only)))

/-- a tape: the script's numbers, a place, two more numbers -/
def TapeAt (H : Hp) (a c : Addr) : Prop := ∃ (ns : List Int) (p n t : Int), H a = some (.lst [.ref c, .int p, .int n, .int t]) ∧ 0 ≤ p ∧ H c = some (.lst (ns.map V.int))
/-- all but what stands at a -/
def But1 (a : Addr) (H H' : Hp) : Prop := ∀ x o, x ≠ a → H x = some o → H' x = some o
theorem But1.refl {a : Addr} {H : Hp} : But1 a H H := fun _ _ _ h => h
theorem But1.trans {a : Addr} {H H1 H2 : Hp} (x : But1 a H H1) (y : But1 a H1 H2) : But1 a H H2 := fun c o n h => y c o n (x c o n h)
theorem But1.put {a : Addr} {H H1 : Hp} {o : HO} (x : But1 a H H1) : But1 a H (upd H1 a o) := fun c u n h => lk_ne n (x c u n h)
theorem But1.kp {a : Addr} {H H' : Hp} {l : List V} (x : But1 a H H') (h : H a = some (.lst l)) : Kp H H' := fun c m q => x c _ (ne_of q h (by intro z; cases z)) q
theorem TapeAt.lst {H : Hp} {a c : Addr} (h : TapeAt H a c) : ∃ l, H a = some (.lst l) := let ⟨_, _, _, _, e, _⟩ := h; ⟨_, e⟩
theorem tape_ne {H : Hp} {a c : Addr} {ns : List Int} {p n t : Int} (h : H a = some (.lst [.ref c, .int p, .int n, .int t])) (h' : H c = some (.lst (ns.map V.int))) : c ≠ a := fun e => by
  rw [e, h] at h'
  cases ns with
  | nil => cases h'
  | cons z r =>
    simp only [List.map_cons, Option.some.injEq, HO.lst.injEq, List.cons.injEq] at h'
    exact V.noConfusion h'.1
theorem cdiv_ok {i m : Int} (h1 : 1 ≤ m) (h2 : m ≤ 10000000) : CDivW i (if (2 : Int) > m then 2 else m) := by
  have a : (if (2 : Int) > m then 2 else m) ≤ 10000000 ∧ 2 ≤ (if (2 : Int) > m then 2 else m) := by split <;> omega
  refine ⟨by omega, ?_⟩
  have b : (if (2 : Int) > m then 2 else m).natAbs < 2 ^ 9000 := by
    refine Nat.lt_of_lt_of_le (show (if (2 : Int) > m then 2 else m).natAbs < 2 ^ 24 by omega) (Nat.pow_le_pow_right (by decide) (by decide))
  exact (Nat.log2_lt (by omega)).mpr b
section
variable {P : Program} {w : World} {K : PySem.W.Frag} {mg : Str → Option Value} {base : Heap}
abbrev s__law_draw : Stmt := top 20
theorem sc__law_draw : FnScope ["_law_tape_here", "_law_many", "_law_place", "_law_number"] ["_law_tape_here", "_law_many"] (defScope s__law_draw) := ⟨rfl, rfl, rfl, by decide +kernel, rfl, by decide +kernel, by decide +kernel⟩
def spDraw : Sp := fun vs H Q _ => ∃ (a : Addr) (m : Int), vs = [.ref a, .int m] ∧ ∃ c, TapeAt H a c ∧ 1 ≤ m ∧ m ≤ 10000000 ∧ ∀ (d : Int) H', 0 ≤ d → d < m → But1 a H H' → TapeAt H' a c → Q (.int d) H'
theorem ok_draw (D : Dn K mg "_law_draw" s__law_draw ["_law_tape_here", "_law_many"]) (T : Blt mg) : Cal P w K mg base 1 "_law_draw" spDraw [] := by
  refine cal_of D sc__law_draw (fun vs H Q E h => ?_) (fun f cdv A outer s H vs Q E hr h => ?_)
  · obtain ⟨a, m, rfl, _⟩ := h
    rfl
  · refine ⟨_, (pss_cons (ps_if (pt_cmpR op_eq (pe_ix ix_list (pv 0) pe_int (fun _ _ => rfl)) pe_int (nomark _)) (pss_cons (ps_set (i := 2) sc__law_draw.nd rfl (Or.inl rfl) (pe_ix ix_list (pv 0) pe_int (fun _ _ => rfl)))
  (pss_cons (ps_set (i := 3) sc__law_draw.nd rfl (Or.inl rfl) pe_int)
  (pss_cons (ps_if (pt_cmpR op_lt (pv 2) (pe_callB call_len_seq (by rfl) T.b_len (by decide +kernel) (pa_cons (pe_ix ix_list (pv 0) pe_int (fun _ _ => rfl)) pa_nil)) (nomark _)) (pss_one (ps_set (i := 3) sc__law_draw.nd rfl (Or.inl rfl) (pe_callB call_abs (by rfl) T.b_abs (by decide +kernel) (pa_cons (pe_callTy call_int1 (by rfl) T.b_int (by decide +kernel) (pa_cons (pe_ix ix_list (pe_ix ix_list (pv 0) pe_int (fun _ _ => rfl)) (pv 2) (fun _ _ => rfl)) pa_nil)) pa_nil)))) (pss_cons (ps_asg (pe_op op_mod (pe_callTy call_int1 (by rfl) T.b_int (by decide +kernel) (pa_cons (pe_op op_add (pe_op op_add (pe_op op_mul (pe_ix ix_list (pv 0) pe_int (fun _ _ => rfl)) pe_int) (pv 2)) pe_int) pa_nil)) pe_int) (pg_sub (pv 0) pe_int set_list))
  (pss_one (ps_set (i := 3) sc__law_draw.nd rfl (Or.inl rfl) (pe_ix ix_list (pv 0) pe_int (fun _ _ => rfl))))))
  (pss_cons (ps_asg (pe_op op_add (pv 2) pe_int) (pg_sub (pv 0) pe_int set_list))
  (pss_cons (ps_if (pt_cmpR op_lt (pv 3) (pe_op op_pow pe_int pe_int) (nomark _)) (pss_cons (ps_set (i := 3) sc__law_draw.nd rfl (Or.inl rfl) (pe_op op_mod (pe_callTy call_int1 (by rfl) T.b_int (by decide +kernel) (pa_cons (pe_op op_add (pe_op op_add (pe_op op_mul (pv 3) pe_int) (pe_op op_mul (pv 2) pe_int)) pe_int) pa_nil)) pe_int))
  (pss_cons (ps_set (i := 3) sc__law_draw.nd rfl (Or.inl rfl) (pe_op op_mod (pe_callTy call_int1 (by rfl) T.b_int (by decide +kernel) (pa_cons (pe_op op_mul (pv 3) pe_int) pa_nil)) pe_int))
  (pss_one (ps_ret (pe_op op_mod (pe_callTy call_int1 (by rfl) T.b_int (by decide +kernel) (pa_cons (pv 3) pa_nil)) (pe_callB (call_max2 rfl) (by rfl) T.b_max (by decide +kernel) (pa_cons (pv 1) (pa_cons pe_int pa_nil)))))))) pss_nil)
  (pss_one (ps_asg (pv 3) (pg_sub (pv 0) pe_int set_list)))))))) pss_nil)
  (pss_cons (ps_set (i := 3) sc__law_draw.nd rfl (Or.inl rfl) (pe_ix ix_list (pv 0) pe_int (fun _ _ => rfl)))
  (pss_cons (ps_asg (pe_op op_fdivW (pv 3) (pe_callB (call_max2 rfl) (by rfl) T.b_max (by decide +kernel) (pa_cons (pv 1) (pa_cons pe_int pa_nil)))) (pg_sub (pv 0) pe_int set_list))
  (pss_one (ps_ret (pe_op op_mod (pe_callTy call_int1 (by rfl) T.b_int (by decide +kernel) (pa_cons (pv 3) pa_nil)) (pe_callB (call_max2 rfl) (by rfl) T.b_max (by decide +kernel) (pa_cons (pv 1) (pa_cons pe_int pa_nil))))))))), ?_⟩
    obtain ⟨a, m, rfl, c, ⟨ns, p, n, t, ha, hp, hc⟩, m1, m2, k⟩ := h
    have nca := tape_ne ha hc
    have e1 : (if (1 : Int) > m then 1 else m) = m := by rw [if_neg (by omega)]
    have fin : ∀ (z : Int) (H' : Hp) (p' n' t' : Int), 0 ≤ p' → But1 a H H' → H' a = some (.lst [.ref c, .int p', .int n', .int t']) → Q (.int (z % m)) H' := fun z H' p' n' t' h0 b h =>
      k _ H' (Int.emod_nonneg _ (by omega)) (Int.emod_lt_of_pos _ (by omega)) b ⟨ns, p', n', t', h, h0, b c _ nca hc⟩
    walk_at "rl"
    refine iteC (fun c1 => ?_) (fun c1 => ?_)
    · walk_at "rl"
      refine iteC (fun c2 => ?_) (fun c2 => ?_)
      · -- the script's number
        rw [List.length_map] at c2
        obtain ⟨p', rfl⟩ : ∃ p' : Nat, p = (p' : Int) := ⟨p.toNat, by omega⟩
        have gz : ns[p']? = some (ns[p']'(by omega)) := List.getElem?_eq_getElem (by omega)
        have gv : (ns.map V.int)[p']? = some (.int (ns[p']'(by omega))) := by rw [List.getElem?_map, gz]; rfl
        walk_at "rl"
        refine iteC (fun c3 => ?_) (fun c3 => ?_)
        · walk_at "rl"
          rw [e1]
          refine ⟨by omega, ?_⟩
          dsimp only
          exact fin _ _ _ _ _ (by omega) (But1.put But1.refl) upd_same
        · walk_at "rl"
          refine ⟨cdiv_ok m1 m2, ?_⟩
          walk_at "rl"
          rw [e1]
          refine ⟨by omega, ?_⟩
          dsimp only
          exact fin _ _ _ _ _ (by omega) (But1.put (But1.put (But1.put But1.refl))) upd_same
      · walk_at "rl"
        refine iteC (fun c3 => ?_) (fun c3 => ?_)
        · walk_at "rl"
          rw [e1]
          refine ⟨by omega, ?_⟩
          dsimp only
          exact fin _ _ _ _ _ (by omega) (But1.put (But1.put But1.refl)) upd_same
        · walk_at "rl"
          refine ⟨cdiv_ok m1 m2, ?_⟩
          walk_at "rl"
          rw [e1]
          refine ⟨by omega, ?_⟩
          dsimp only
          exact fin _ _ _ _ _ (by omega) (But1.put (But1.put (But1.put (But1.put But1.refl)))) upd_same
    · walk_at "rl"
      refine ⟨cdiv_ok m1 m2, ?_⟩
      walk_at "rl"
      rw [e1]
      refine ⟨by omega, ?_⟩
      dsimp only
      exact fin _ _ _ _ _ hp (But1.put But1.refl) upd_same
end
end K7

set_option Elab.async false
set_option linter.all false
set_option maxRecDepth 100000
set_option maxHeartbeats 4000000
namespace K7
open PySem PySem.Spec PyProof.Rows L2 Ed
open C8 (Cal Met Mak pe_c pe_mk pe_mt pe_mt0)
/-! ### small words of the proofs: walk_at "lk" (what stands at an address), "ne" (two addresses differ), "rd" (the plain steps of a reading) -/
local macro_rules | `(tactic| walk_at "ne") => `(tactic| first
  | assumption
  | exact Ne.symm (by assumption)
  | exact ne_of_none (by assumption) (by assumption)
  | exact Ne.symm (ne_of_none (by assumption) (by assumption))
  | exact ne_of (by assumption) (by assumption) (by intro z; cases z)
  | exact ne_of_none (by walk_at "lk") (by assumption)
  | exact Ne.symm (ne_of_none (by walk_at "lk") (by assumption))
  | exact ne_of (by walk_at "lk") (by walk_at "lk") (by intro z; cases z))
local macro_rules | `(tactic| walk_at "lk") => `(tactic| first
  | assumption
  | exact upd_same
  | (refine lk_new (by assumption) ?_; walk_at "lk")
  | (refine Same.at (by assumption) ?_; walk_at "lk")
  | (refine Kp.at (by assumption) ?_; walk_at "lk")
  | (refine lk_ne (by walk_at "ne") ?_; walk_at "lk"))
local macro_rules | `(tactic| walk_at "at") => `(tactic| first
  | rfl
  | exact atI_last _ _
  | exact atI_neg1 (by assumption)
  | exact atI_nat (by first | assumption | rfl))
local macro_rules | `(tactic| walk_at "ix") => `(tactic| first
  | refine ⟨_, _, _, _, rfl, rfl, SqT.of (by walk_at "lk"), by walk_at "at", ?_⟩
  | refine ⟨_, _, _, _, rfl, rfl, SqL.of (by walk_at "lk"), by walk_at "at", ?_⟩)
local macro_rules | `(tactic| walk_at "ty") => `(tactic| first
  | exact TyOf.int _
  | exact TyOf.str _
  | exact TyOf.bl _
  | exact TyOf.tup (by walk_at "lk"))
local macro_rules | `(tactic| walk_at "isi") => `(tactic| first
  | refine ⟨_, _, _, _, true, rfl, .ty _, .base (by walk_at "ty"), kit_ty (by decide +kernel), ?_⟩
  | refine ⟨_, _, _, _, false, rfl, .ty _, .base (by walk_at "ty"), kit_ty (by decide +kernel), ?_⟩)
local macro_rules | `(tactic| walk_at "cnd") => `(tactic| first
  | exact ⟨by decide, by decide, by decide⟩
  | exact Or.inr ⟨by decide, by decide⟩
  | (show (0 : Int) < _; decide))
local macro_rules | `(tactic| walk_at "rd1") => `(tactic| first
  | (with_reducible refine iteN kept_ne ?_)
  | (with_reducible refine iteN ins_ne ?_)
  | refine ⟨_, rfl, ?_⟩
  | refine ⟨_, _, rfl, rfl, ?_⟩
  | walk_at "ix"
  | refine ⟨rfl, ?_⟩
  | refine ⟨_, _, rfl, ?_⟩
  | refine ⟨Nat.le_of_ble_eq_true rfl, ?_⟩
  | walk_at "isi"
  | refine .inl ⟨_, rfl, ?_⟩
  | refine ⟨_, _, _, _, rfl, rfl, (by walk_at "lk"), rfl, ?_⟩
  | refine ⟨(by walk_at "cnd"), ?_⟩
  | refine ⟨.inl ⟨rfl, _, SqL.of (by walk_at "lk")⟩, ?_⟩)
local macro_rules | `(tactic| walk_at "rd") => `(tactic| repeat (walk_at "rd1"))
local macro_rules | `(tactic| walk_at "rq") => `(tactic| ((repeat (walk_at "rd1")); (try dsimp only)))
local macro_rules | `(tactic| walk_at "ln") => `(tactic| first
  | refine ⟨_, _, rfl, .inr (SqT.of (by walk_at "lk")), ?_⟩
  | refine ⟨_, _, rfl, .inl (SqL.of (by walk_at "lk")), ?_⟩)
local macro_rules | `(tactic| walk_at "rl") => `(tactic| repeat (first | walk_at "rd1" | walk_at "ln"))
local macro_rules | `(tactic| walk_at "rlq") => `(tactic| ((repeat (first | walk_at "rd1" | walk_at "ln")); (try dsimp only)))

theorem atI_in {α : Type} {xs : List α} {d : Int} (h0 : 0 ≤ d) (h1 : d < (xs.length : Int)) : ∃ v, atI xs d = some v ∧ v ∈ xs := by
  obtain ⟨n, rfl⟩ : ∃ n : Nat, d = (n : Int) := ⟨d.toNat, by omega⟩
  have e : xs[n]? = some (xs[n]'(by omega)) := List.getElem?_eq_getElem (by omega)
  exact ⟨_, atI_nat e, List.getElem_mem _⟩
section
variable {P : Program} {w : World} {K : PySem.W.Frag} {mg : Str → Option Value} {base : Heap}
/-! ### _law_tape -/
abbrev s__law_tape : Stmt := top 19
theorem sc__law_tape : FnScope ["_law_script", "_law_total", "_law_cell"] ["_law_script"] (defScope s__law_tape) := ⟨rfl, rfl, rfl, by decide +kernel, rfl, by decide +kernel, by decide +kernel⟩
def spTape (K : PySem.W.Frag) : Sp := fun vs H Q _ => ∃ (s : Addr) (ns : List Int), vs = [.ref s] ∧ SqL K H s (ns.map V.int) ∧ ∀ H' a c, Same H H' → H a = none → H c = none → TapeAt H' a c → Q (.ref a) H'
theorem ok_tape (D : Dn K mg "_law_tape" s__law_tape ["_law_script"]) (T : Blt mg) : Cal P w K mg base 1 "_law_tape" (spTape K) [] := by
  refine cal_of D sc__law_tape (fun vs H Q E h => ?_) (fun f cdv A outer s H vs Q E hr h => ?_)
  · obtain ⟨s, ns, rfl, _⟩ := h
    rfl
  · refine ⟨_, (pss_cons (ps_set (i := 1) sc__law_tape.nd rfl (Or.inl rfl) pe_int)
  (pss_cons (ps_for PassesOwn.never rfl (pi_list (pv 0)) (pg_name (i := 2) sc__law_tape.nd rfl (Or.inl rfl))
  (pss_one (ps_set (i := 1) sc__law_tape.nd rfl (Or.inl rfl) (pe_op op_mod (pe_callTy call_int1 (by rfl) T.b_int (by decide +kernel) (pa_cons (pe_op op_add (pe_op op_mul (pv 1) pe_int) (pe_callB call_abs (by rfl) T.b_abs (by decide +kernel) (pa_cons (pe_callTy call_int1 (by rfl) T.b_int (by decide +kernel) (pa_cons (pv 2) pa_nil)) pa_nil))) pa_nil)) pe_int))))
  (pss_one (ps_ret (pe_lst (pa_cons (pe_callTy call_list_of (by rfl) T.b_list (by decide +kernel) (pa_cons (pv 0) pa_nil)) (pa_cons pe_int (pa_cons pe_int (pa_cons (pv 1) pa_nil))))))))), ?_⟩
    obtain ⟨s, ns, rfl, hs, k⟩ := h
    walk_at "rd"
    refine ⟨⟨_, hs⟩, for_list (K := K) (a := s) (xs := ns.map V.int) (fun i σ H' => ∃ (t : Int) (x1 : Option V), σ = [some (.ref s), some (.int t), x1] ∧ H' = H) ⟨7, none, rfl, rfl⟩ (fun i σ H' _ ⟨_, _, _, e⟩ => e ▸ hs) ?_ ?_⟩
    · rintro i y σ H' hi ⟨t, x1, rfl, rfl⟩
      obtain ⟨z, rfl⟩ : ∃ z, y = V.int z := by
        rw [List.getElem?_map] at hi
        cases e : ns[i]? with
        | none =>
          rw [e] at hi
          cases hi
        | some z =>
          rw [e] at hi
          exact ⟨z, (Option.some.inj hi).symm⟩
      walk_at "rd"
      rfl
    · rintro σ H' ⟨t, x1, rfl, rfl⟩
      walk_at "rd"
      refine ⟨_, _, rfl, .inl hs, fun l nl => ?_⟩
      walk_at "rd"
      intro a na
      exact k _ a l ((Same_new nl).trans (Same_new na)) (nn_of na) nl ⟨ns, 0, 0, t, upd_same, Int.le_refl _, lk_new na upd_same⟩
/-! ### _law_scalar -/
theorem TapeAt.put {H : Hp} {a c p : Addr} {o : HO} (h : TapeAt H a c) (n : H p = none) : TapeAt (upd H p o) a c := by
  obtain ⟨ns, q, m, t, ha, hq, hc⟩ := h
  exact ⟨ns, q, m, t, lk_new n ha, hq, lk_new n hc⟩
theorem But1.new {a p : Addr} {H H1 : Hp} {o : HO} (x : But1 a H H1) (n : H1 p = none) : But1 a H (upd H1 p o) := fun c u nc h => lk_new n (x c u nc h)
theorem TapeAt.nn {H : Hp} {a c p : Addr} (h : TapeAt H a c) (n : H p = none) : p ≠ a := fun e => by
  obtain ⟨l, q⟩ := h.lst
  rw [e, q] at n
  cases n
def signs : Str := "abcdefghijklmnopqrstuvwxyzABCDEFGHIJKLMNOPQRSTUVWXYZ0123456789 !\"#$&'()*+,-./:;<=>?\x40[\\]^_`{|}~"
def ivScalar (a c : Addr) (H : Hp) (i : Nat) (σ : L2.St) (H' : Hp) : Prop := ∃ (x : Str) (y z : Option V), σ = [some (.ref a), some (.str signs), y, none, some (.str x), z] ∧ x.length ≤ 14 + i ∧ But1 a H H' ∧ TapeAt H' a c
abbrev s__law_scalar : Stmt := top 22
theorem sc__law_scalar : FnScope ["_law_tape_here", "_law_signs", "_law_share", "_law_number", "_law_text", "_law_k"] ["_law_tape_here"] (defScope s__law_scalar) := ⟨rfl, rfl, rfl, by decide +kernel, rfl, by decide +kernel, by decide +kernel⟩
def spScalar : Sp := fun vs H Q _ => ∃ (a : Addr), vs = [.ref a] ∧ ∃ c, TapeAt H a c ∧ ∀ v H', Sc v → But1 a H H' → TapeAt H' a c → Q v H'
theorem ok_scalar (D : Dn K mg "_law_scalar" s__law_scalar ["_law_tape_here"]) (T : Blt mg) (c__law_draw : Cal P w K mg base 1 "_law_draw" spDraw []) : Cal P w K mg base 2 "_law_scalar" spScalar [] := by
  refine cal_of D sc__law_scalar (fun vs H Q E h => ?_) (fun f cdv A outer s H vs Q E hr h => ?_)
  · obtain ⟨a, rfl, _⟩ := h
    rfl
  · refine ⟨_, (pss_cons (ps_set (i := 1) sc__law_scalar.nd rfl (Or.inl rfl) pe_str)
  (pss_cons (ps_set (i := 2) sc__law_scalar.nd rfl (Or.inl rfl) (pe_c c__law_draw hr (by decide) (by rfl) (pa_cons (pv 0) (pa_cons pe_int pa_nil))))
  (pss_cons (ps_if (pt_cmpR op_lt (pv 2) pe_int (nomark _)) (pss_one (ps_ret (pe_op op_sub (pe_c c__law_draw hr (by decide) (by rfl) (pa_cons (pv 0) (pa_cons pe_int pa_nil))) pe_int))) pss_nil)
  (pss_cons (ps_if (pt_cmpR op_eq (pv 2) pe_int (nomark _)) (pss_cons (ps_set (i := 3) sc__law_scalar.nd rfl (Or.inl rfl) (pe_op op_sub (pe_c c__law_draw hr (by decide) (by rfl) (pa_cons (pv 0) (pa_cons pe_int pa_nil))) pe_int))
  (pss_one (ps_ret (pe_ix ix_list (pe_lst (pa_cons (pv 3) (pa_cons (pv 3) (pa_cons (pe_op op_mul (pv 3) (pe_op op_pow pe_int pe_int)) (pa_cons (pe_op op_pow pe_int pe_int) (pa_cons (pe_un un_neg (pe_op op_pow pe_int pe_int)) pa_nil)))))) (pe_c c__law_draw hr (by decide) (by rfl) (pa_cons (pv 0) (pa_cons pe_int pa_nil))) (fun _ _ => rfl))))) pss_nil)
  (pss_cons (ps_set (i := 4) sc__law_scalar.nd rfl (Or.inl rfl) (pe_ix ix_list (pe_lst (pa_cons pe_str (pa_cons pe_str (pa_cons pe_str (pa_cons pe_str pa_nil))))) (pe_c c__law_draw hr (by decide) (by rfl) (pa_cons (pv 0) (pa_cons pe_int pa_nil))) (fun _ _ => rfl)))
  (pss_cons (ps_for PassesOwn.never rfl (pi_range1 (by rfl) T.b_range (pa_cons (pe_ix ix_list (pe_lst (pa_cons pe_int (pa_cons pe_int (pa_cons pe_int (pa_cons pe_int (pa_cons pe_int (pa_cons pe_int pa_nil))))))) (pe_c c__law_draw hr (by decide) (by rfl) (pa_cons (pv 0) (pa_cons pe_int pa_nil))) (fun _ _ => rfl)) pa_nil)) (pg_name (i := 5) sc__law_scalar.nd rfl (Or.inl rfl))
  (pss_one (ps_set (i := 4) sc__law_scalar.nd rfl (Or.inl rfl) (pe_op op_add_str (pv 4) (pe_ix ix_str (pv 1) (pe_c c__law_draw hr (by decide) (by rfl) (pa_cons (pv 0) (pa_cons pe_int pa_nil))) (fun _ _ => rfl))))))
  (pss_one (ps_ret (pv 4))))))))), ?_⟩
    obtain ⟨a, rfl, c, ht, k⟩ := h
    walk_at "rd"
    refine ⟨_, ht, by decide, by decide, fun d H1 d0 d1 b1 t1 => ?_⟩
    walk_at "rd"
    refine iteC (fun c1 => ?_) (fun c1 => ?_)
    · walk_at "rd"
      refine ⟨_, t1, by decide, by decide, fun d H2 _ _ b2 t2 => ?_⟩
      walk_at "rq"
      exact k _ _ trivial (b1.trans b2) t2
    · walk_at "rd"
      refine iteC (fun c2 => ?_) (fun c2 => ?_)
      · walk_at "rd"
        refine ⟨_, t1, by decide, by decide, fun d2 H2 _ _ b2 t2 => ?_⟩
        walk_at "rd"
        intro p np
        walk_at "rd"
        refine ⟨_, t2.put np, by decide, by decide, fun d H3 f0 f1 b3 t3 => ?_⟩
        obtain ⟨v, e, mv⟩ := atI_in (xs := [V.int (d2 - 1000000), V.int (d2 - 1000000), V.int ((d2 - 1000000) * 10 ^ 9), V.int (10 ^ 15), V.int (-(10 ^ 15))]) f0 f1
        refine ⟨p, _, d, v, rfl, rfl, SqL.of (b3 _ _ (t2.nn np) upd_same), e, ?_⟩
        obtain ⟨x, rfl⟩ : ∃ x : Int, v = .int x := by
          simp only [List.mem_cons, List.not_mem_nil, or_false] at mv
          rcases mv with rfl | rfl | rfl | rfl | rfl <;> exact ⟨_, rfl⟩
        walk_at "rq"
        exact k _ _ trivial ((b1.trans b2).new np |>.trans b3) t3
      · walk_at "rd"
        intro p np
        walk_at "rd"
        refine ⟨_, t1.put np, by decide, by decide, fun d H3 f0 f1 b3 t3 => ?_⟩
        obtain ⟨v, e, mv⟩ := atI_in (xs := [V.str "", V.str "", V.str "9", V.str "same beginning"]) f0 f1
        refine ⟨p, _, d, v, rfl, rfl, SqL.of (b3 _ _ (t1.nn np) upd_same), e, ?_⟩
        obtain ⟨x, rfl, hx⟩ : ∃ x : Str, v = .str x ∧ x.length ≤ 14 := by
          simp only [List.mem_cons, List.not_mem_nil, or_false] at mv
          rcases mv with rfl | rfl | rfl | rfl <;> exact ⟨_, rfl, by decide⟩
        walk_at "rd"
        intro p2 np2
        walk_at "rd"
        refine ⟨_, t3.put np2, by decide, by decide, fun d H4 f0 f1 b4 t4 => ?_⟩
        obtain ⟨v, e, mv⟩ := atI_in (xs := [V.int 0, V.int 1, V.int 1, V.int 2, V.int 3, V.int 6]) f0 f1
        refine ⟨p2, _, d, v, rfl, rfl, SqL.of (b4 _ _ (t3.nn np2) upd_same), e, ?_⟩
        obtain ⟨n, rfl, hn⟩ : ∃ n : Nat, v = .int n ∧ n ≤ 6 := by
          simp only [List.mem_cons, List.not_mem_nil, or_false] at mv
          rcases mv with rfl | rfl | rfl | rfl | rfl | rfl <;> exact ⟨_, rfl, by decide⟩
        walk_at "rd"
        refine ⟨by omega, by omega, ?_⟩
        have hb : But1 a H H4 := (((b1.new np).trans b3).new np2).trans b4
        refine for_range (ivScalar a c H) ⟨x, _, _, rfl, by omega, hb, t4⟩ ?_ ?_
        · rintro i σ H5 hi ⟨y, y1, y2, rfl, hy, b5, t5⟩
          walk_at "rd"
          refine ⟨_, t5, by decide, by decide, fun d H6 g0 g1 b6 t6 => ?_⟩
          obtain ⟨d, rfl⟩ : ∃ n : Nat, d = (n : Int) := ⟨d.toNat, by omega⟩
          have hd : d < signs.length := by
            have e : signs.length = 94 := by decide +kernel
            omega
          have e : signs.cps.toList[d]? = some (signs.cps.toList[d]'(by have e : signs.cps.toList.length = 94 := by decide +kernel
                                                                        omega)) := List.getElem?_eq_getElem _
          refine ⟨_, _, _, rfl, rfl, Nat.le_of_ble_eq_true rfl, atI_nat e, ?_⟩
          walk_at "rd"
          refine ⟨line_of ?_, ?_⟩
          · show y.length + 1 ≤ 100000
            omega
          refine ⟨_, _, _, rfl, ?_, b5.trans b6, t6⟩
          rw [PySem.Str.length_append]
          show y.length + 1 ≤ _
          omega
        · rintro σ H5 ⟨y, y1, y2, rfl, hy, b5, t5⟩
          walk_at "rq"
          exact k _ _ trivial b5 t5
end
end K7

set_option Elab.async false
set_option linter.all false
set_option maxRecDepth 100000
set_option maxHeartbeats 4000000
namespace K7
open PySem PySem.Spec PyProof.Rows L2 Ed
open C8 (Cal Met Mak pe_c pe_mk pe_mt pe_mt0)
/-! ### small words of the proofs: walk_at "lk" (what stands at an address), "ne" (two addresses differ), "rd" (the plain steps of a reading) -/
local macro_rules | `(tactic| walk_at "ne") => `(tactic| first
  | assumption
  | exact Ne.symm (by assumption)
  | exact ne_of_none (by assumption) (by assumption)
  | exact Ne.symm (ne_of_none (by assumption) (by assumption))
  | exact ne_of (by assumption) (by assumption) (by intro z; cases z)
  | exact ne_of_none (by walk_at "lk") (by assumption)
  | exact Ne.symm (ne_of_none (by walk_at "lk") (by assumption))
  | exact ne_of (by walk_at "lk") (by walk_at "lk") (by intro z; cases z))
local macro_rules | `(tactic| walk_at "lk") => `(tactic| first
  | assumption
  | exact upd_same
  | (refine lk_new (by assumption) ?_; walk_at "lk")
  | (refine Same.at (by assumption) ?_; walk_at "lk")
  | (refine Kp.at (by assumption) ?_; walk_at "lk")
  | (refine lk_ne (by walk_at "ne") ?_; walk_at "lk"))
local macro_rules | `(tactic| walk_at "at") => `(tactic| first
  | rfl
  | exact atI_last _ _
  | exact atI_neg1 (by assumption)
  | exact atI_nat (by first | assumption | rfl))
local macro_rules | `(tactic| walk_at "ix") => `(tactic| first
  | refine ⟨_, _, _, _, rfl, rfl, SqT.of (by walk_at "lk"), by walk_at "at", ?_⟩
  | refine ⟨_, _, _, _, rfl, rfl, SqL.of (by walk_at "lk"), by walk_at "at", ?_⟩)
local macro_rules | `(tactic| walk_at "ty") => `(tactic| first
  | exact TyOf.int _
  | exact TyOf.str _
  | exact TyOf.bl _
  | exact TyOf.tup (by walk_at "lk"))
local macro_rules | `(tactic| walk_at "isi") => `(tactic| first
  | refine ⟨_, _, _, _, true, rfl, .ty _, .base (by walk_at "ty"), kit_ty (by decide +kernel), ?_⟩
  | refine ⟨_, _, _, _, false, rfl, .ty _, .base (by walk_at "ty"), kit_ty (by decide +kernel), ?_⟩)
local macro_rules | `(tactic| walk_at "cnd") => `(tactic| first
  | exact ⟨by decide, by decide, by decide⟩
  | exact Or.inr ⟨by decide, by decide⟩
  | (show (0 : Int) < _; decide))
local macro_rules | `(tactic| walk_at "rd1") => `(tactic| first
  | (with_reducible refine iteN kept_ne ?_)
  | (with_reducible refine iteN ins_ne ?_)
  | refine ⟨_, rfl, ?_⟩
  | refine ⟨_, _, rfl, rfl, ?_⟩
  | walk_at "ix"
  | refine ⟨rfl, ?_⟩
  | refine ⟨_, _, rfl, ?_⟩
  | refine ⟨Nat.le_of_ble_eq_true rfl, ?_⟩
  | walk_at "isi"
  | refine .inl ⟨_, rfl, ?_⟩
  | refine ⟨_, _, _, _, rfl, rfl, (by walk_at "lk"), rfl, ?_⟩
  | refine ⟨(by walk_at "cnd"), ?_⟩
  | refine ⟨.inl ⟨rfl, _, SqL.of (by walk_at "lk")⟩, ?_⟩)
local macro_rules | `(tactic| walk_at "rd") => `(tactic| repeat (walk_at "rd1"))
local macro_rules | `(tactic| walk_at "rq") => `(tactic| ((repeat (walk_at "rd1")); (try dsimp only)))
local macro_rules | `(tactic| walk_at "ln") => `(tactic| first
  | refine ⟨_, _, rfl, .inr (SqT.of (by walk_at "lk")), ?_⟩
  | refine ⟨_, _, rfl, .inl (SqL.of (by walk_at "lk")), ?_⟩)
local macro_rules | `(tactic| walk_at "rl") => `(tactic| repeat (first | walk_at "rd1" | walk_at "ln"))
local macro_rules | `(tactic| walk_at "rlq") => `(tactic| ((repeat (first | walk_at "rd1" | walk_at "ln")); (try dsimp only)))

theorem But1.put_new {a p : Addr} {H H1 : Hp} {o : HO} (x : But1 a H H1) (n : H p = none) : But1 a H (upd H1 p o) := fun c u nc h => lk_ne (ne_of_none h n) (x c u nc h)
theorem TapeAt.kp {a c : Addr} {H H1 : Hp} (h : TapeAt H a c) (b : But1 a H H1) : Kp H H1 := let ⟨_, e⟩ := h.lst; b.kp e
theorem But1.of_same {a : Addr} {H H1 : Hp} (x : Same H H1) : But1 a H H1 := fun c u _ h => x c u h
theorem TapeAt.same {H H1 : Hp} {a c : Addr} (h : TapeAt H a c) (s : Same H H1) : TapeAt H1 a c := by
  obtain ⟨ns, q, m, t, ha, hq, hc⟩ := h
  exact ⟨ns, q, m, t, s _ _ ha, hq, s _ _ hc⟩
/-- a write into another list -/
theorem TapeAt.putNe {H : Hp} {a c p : Addr} {o : HO} (h : TapeAt H a c) (n : p ≠ a) (e : p ≠ c) : TapeAt (upd H p o) a c := by
  obtain ⟨ns, q, m, t, ha, hq, hc⟩ := h
  exact ⟨ns, q, m, t, lk_ne (Ne.symm n) ha, hq, lk_ne (Ne.symm e) hc⟩
theorem TapeAt.nc {H : Hp} {a c p : Addr} (h : TapeAt H a c) (n : H p = none) : p ≠ c := fun e => by
  obtain ⟨ns, q, m, t, ha, hq, hc⟩ := h
  rw [e, hc] at n
  cases n
theorem But1.nn {a c p : Addr} {H H1 : Hp} (b : But1 a H H1) (t : TapeAt H1 a c) (n : H1 p = none) : H p = none := by
  cases e : H p with
  | none => rfl
  | some o =>
    have := b p o (t.nn n) e
    rw [n] at this
    cases this
section
variable {P : Program} {w : World} {K : PySem.W.Frag} {mg : Str → Option Value} {base : Heap}
/-! ### _law_element -/
abbrev s__law_element : Stmt := top 23
theorem sc__law_element : FnScope ["_law_tape_here", "_law_first"] ["_law_tape_here"] (defScope s__law_element) := ⟨rfl, rfl, rfl, by decide +kernel, rfl, by decide +kernel, by decide +kernel⟩
def spElement : Sp := fun vs H Q _ => ∃ (a : Addr), vs = [.ref a] ∧ ∃ c, TapeAt H a c ∧ ∀ v H', El H' v → But1 a H H' → TapeAt H' a c → Q v H'
theorem El.sc {H : Hp} {v : V} (h : Sc v) : El H v := by
  cases v with
  | int i => trivial
  | str x => trivial
  | _ => exact h.elim
theorem ok_element (D : Dn K mg "_law_element" s__law_element ["_law_tape_here"]) (T : Blt mg) (c__law_draw : Cal P w K mg base 1 "_law_draw" spDraw []) (c__law_scalar : Cal P w K mg base 2 "_law_scalar" spScalar []) : Cal P w K mg base 3 "_law_element" spElement [] := by
  refine cal_of D sc__law_element (fun vs H Q E h => ?_) (fun f cdv A outer s H vs Q E hr h => ?_)
  · obtain ⟨a, rfl, _⟩ := h
    rfl
  · refine ⟨_, (pss_cons (ps_if (pt_cmpR op_eq (pe_c c__law_draw hr (by decide) (by rfl) (pa_cons (pv 0) (pa_cons pe_int pa_nil))) pe_int (nomark _)) (pss_cons (ps_set (i := 1) sc__law_element.nd rfl (Or.inl rfl) (pe_c c__law_scalar hr (by decide) (by rfl) (pa_cons (pv 0) pa_nil)))
  (pss_one (ps_ret (pe_tup (pa_cons (pv 1) (pa_cons (pe_c c__law_scalar hr (by decide) (by rfl) (pa_cons (pv 0) pa_nil)) pa_nil)))))) pss_nil)
  (pss_one (ps_ret (pe_c c__law_scalar hr (by decide) (by rfl) (pa_cons (pv 0) pa_nil))))), ?_⟩
    obtain ⟨a, rfl, c, ht, k⟩ := h
    walk_at "rd"
    refine ⟨_, ht, by decide, by decide, fun d H1 d0 d1 b1 t1 => ?_⟩
    walk_at "rd"
    refine iteC (fun c1 => ?_) (fun c1 => ?_)
    · walk_at "rd"
      refine ⟨_, t1, fun v2 H2 s2 b2 t2 => ?_⟩
      walk_at "rd"
      refine ⟨_, t2, fun v3 H3 s3 b3 t3 => ?_⟩
      walk_at "rd"
      intro p np
      exact k _ _ ⟨_, _, upd_same, s2, s3⟩ (((b1.trans b2).trans b3).new np) (t3.put np)
    · walk_at "rd"
      refine ⟨_, t1, fun v2 H2 s2 b2 t2 => ?_⟩
      walk_at "rq"
      exact k _ _ (El.sc s2) (b1.trans b2) t2
/-! ### _law_pool -/
abbrev s__law_pool : Stmt := top 24
theorem sc__law_pool : FnScope ["_law_tape_here", "_law_k"] ["_law_tape_here"] (defScope s__law_pool) := ⟨rfl, rfl, rfl, by decide +kernel, rfl, by decide +kernel, by decide +kernel⟩
def spPool : Sp := fun vs H Q _ => ∃ (a : Addr), vs = [.ref a] ∧ ∃ c, TapeAt H a c ∧ ∀ (p : Addr) (l : List V) H', H p = none → H' p = some (.lst l) → 1 ≤ l.length → l.length ≤ 6 → Els H' l → But1 a H H' → TapeAt H' a c → Q (.ref p) H'
def ivPool (a c D : Addr) (H : Hp) (i : Nat) (H' : Hp) : Prop := ∃ l, H' D = some (.lst l) ∧ l.length = i ∧ Els H' l ∧ But1 a H H' ∧ TapeAt H' a c
theorem ok_pool (D : Dn K mg "_law_pool" s__law_pool ["_law_tape_here"]) (T : Blt mg) (c__law_draw : Cal P w K mg base 1 "_law_draw" spDraw []) (c__law_element : Cal P w K mg base 3 "_law_element" spElement []) : Cal P w K mg base 4 "_law_pool" spPool [] := by
  refine cal_of D sc__law_pool (fun vs H Q E h => ?_) (fun f cdv A outer s H vs Q E hr h => ?_)
  · obtain ⟨a, rfl, _⟩ := h
    rfl
  · refine ⟨_, (pss_one (ps_ret (pe_lc (own := [("_law_k", 1)]) (g := gName 1) (tt := tYes) rfl sc__law_pool.nd (pi_range1 (by rfl) T.b_range (pa_cons (pe_op op_add pe_int (pe_c c__law_draw hr (by decide) (by rfl) (pa_cons (pv 0) (pa_cons pe_int pa_nil)))) pa_nil)) (blkOk_by (own := [("_law_k", 1)]) (N := ["_law_tape_here", "_law_k"]) (sc := defScope s__law_pool) (by decide +kernel)) (fun _ _ _ _ _ => pg_name (i := 1) sc__law_pool.nd rfl (Or.inl rfl)) (fun _ _ _ _ _ => pts_nil) (fun _ _ _ _ _ => (pe_c c__law_element hr (by decide) (by rfl) (pa_cons (pv 0) pa_nil)))))), ?_⟩
    obtain ⟨a, rfl, c, ht, k⟩ := h
    walk_at "rd"
    refine ⟨_, ht, by decide, by decide, fun d H1 d0 d1 b1 t1 => ?_⟩
    walk_at "rd"
    refine ⟨by omega, by omega, fun F nF => ?_⟩
    have nF0 := b1.nn t1 nF
    refine lc_range (lo := 0) (n := (1 + d).toNat) (ivPool a c F H) ⟨[], upd_same, rfl, (fun _ h => by cases h), b1.new nF, t1.put nF⟩ ?_ ?_
    · rintro i H' hi ⟨l, hl, le, hel, b5, t5⟩
      walk_at "rd"
      refine ⟨_, t5, fun v H6 ev b6 t6 => ?_⟩
      have hF := b6 _ _ (t1.nn nF) hl
      refine ⟨l, hF, line_lt (by omega), ?_⟩
      refine ⟨l ++ [v], upd_same, by simp [le], ?_, (b5.trans b6).put_new nF0, t6.putNe (t1.nn nF) (t1.nc nF)⟩
      intro z hz
      rcases List.mem_append.mp hz with hz | hz
      · exact ((hel z hz).kp (t5.kp b6)).kp (Kp_lst hF)
      · rw [List.mem_singleton.mp hz]
        exact ev.kp (Kp_lst hF)
    · rintro H' ⟨l, hl, le, hel, b5, t5⟩
      walk_at "rq"
      exact k _ _ _ nF0 hl (by omega) (by omega) hel b5 t5
end
end K7

set_option Elab.async false
set_option linter.all false
set_option maxRecDepth 100000
set_option maxHeartbeats 4000000
namespace K7
open PySem PySem.Spec PyProof.Rows L2 Ed
open C8 (Cal Met Mak pe_c pe_mk pe_mt pe_mt0)
/-! ### small words of the proofs: walk_at "lk" (what stands at an address), "ne" (two addresses differ), "rd" (the plain steps of a reading) -/
local macro_rules | `(tactic| walk_at "ne") => `(tactic| first
  | assumption
  | exact Ne.symm (by assumption)
  | exact ne_of_none (by assumption) (by assumption)
  | exact Ne.symm (ne_of_none (by assumption) (by assumption))
  | exact ne_of (by assumption) (by assumption) (by intro z; cases z)
  | exact ne_of_none (by walk_at "lk") (by assumption)
  | exact Ne.symm (ne_of_none (by walk_at "lk") (by assumption))
  | exact ne_of (by walk_at "lk") (by walk_at "lk") (by intro z; cases z))
local macro_rules | `(tactic| walk_at "lk") => `(tactic| first
  | assumption
  | exact upd_same
  | (refine lk_new (by assumption) ?_; walk_at "lk")
  | (refine Same.at (by assumption) ?_; walk_at "lk")
  | (refine Kp.at (by assumption) ?_; walk_at "lk")
  | (refine lk_ne (by walk_at "ne") ?_; walk_at "lk"))
local macro_rules | `(tactic| walk_at "at") => `(tactic| first
  | rfl
  | exact atI_last _ _
  | exact atI_neg1 (by assumption)
  | exact atI_nat (by first | assumption | rfl))
local macro_rules | `(tactic| walk_at "ix") => `(tactic| first
  | refine ⟨_, _, _, _, rfl, rfl, SqT.of (by walk_at "lk"), by walk_at "at", ?_⟩
  | refine ⟨_, _, _, _, rfl, rfl, SqL.of (by walk_at "lk"), by walk_at "at", ?_⟩)
local macro_rules | `(tactic| walk_at "ty") => `(tactic| first
  | exact TyOf.int _
  | exact TyOf.str _
  | exact TyOf.bl _
  | exact TyOf.tup (by walk_at "lk"))
local macro_rules | `(tactic| walk_at "isi") => `(tactic| first
  | refine ⟨_, _, _, _, true, rfl, .ty _, .base (by walk_at "ty"), kit_ty (by decide +kernel), ?_⟩
  | refine ⟨_, _, _, _, false, rfl, .ty _, .base (by walk_at "ty"), kit_ty (by decide +kernel), ?_⟩)
local macro_rules | `(tactic| walk_at "cnd") => `(tactic| first
  | exact ⟨by decide, by decide, by decide⟩
  | exact Or.inr ⟨by decide, by decide⟩
  | (show (0 : Int) < _; decide))
local macro_rules | `(tactic| walk_at "rd1") => `(tactic| first
  | (with_reducible refine iteN kept_ne ?_)
  | (with_reducible refine iteN ins_ne ?_)
  | refine ⟨_, rfl, ?_⟩
  | refine ⟨_, _, rfl, rfl, ?_⟩
  | walk_at "ix"
  | refine ⟨rfl, ?_⟩
  | refine ⟨_, _, rfl, ?_⟩
  | refine ⟨Nat.le_of_ble_eq_true rfl, ?_⟩
  | walk_at "isi"
  | refine .inl ⟨_, rfl, ?_⟩
  | refine ⟨_, _, _, _, rfl, rfl, (by walk_at "lk"), rfl, ?_⟩
  | refine ⟨(by walk_at "cnd"), ?_⟩
  | refine ⟨.inl ⟨rfl, _, SqL.of (by walk_at "lk")⟩, ?_⟩)
local macro_rules | `(tactic| walk_at "rd") => `(tactic| repeat (walk_at "rd1"))
local macro_rules | `(tactic| walk_at "rq") => `(tactic| ((repeat (walk_at "rd1")); (try dsimp only)))
local macro_rules | `(tactic| walk_at "ln") => `(tactic| first
  | refine ⟨_, _, rfl, .inr (SqT.of (by walk_at "lk")), ?_⟩
  | refine ⟨_, _, rfl, .inl (SqL.of (by walk_at "lk")), ?_⟩)
local macro_rules | `(tactic| walk_at "rl") => `(tactic| repeat (first | walk_at "rd1" | walk_at "ln"))
local macro_rules | `(tactic| walk_at "rlq") => `(tactic| ((repeat (first | walk_at "rd1" | walk_at "ln")); (try dsimp only)))

section
variable {P : Program} {w : World} {K : PySem.W.Frag} {mg : Str → Option Value} {base : Heap}
/-! ### _law_contents -/
abbrev s__law_contents : Stmt := top 25
theorem sc__law_contents : FnScope ["_law_tape_here", "_law_pool_here", "_law_most", "_law_size", "_law_shape", "_law_first", "_law_k", "_law_part", "_law_found", "_law_many", "_law_element_here"] ["_law_tape_here", "_law_pool_here", "_law_most"] (defScope s__law_contents) := ⟨rfl, rfl, rfl, by decide +kernel, rfl, by decide +kernel, by decide +kernel⟩
def spLcontents : Sp := fun vs H Q _ => ∃ (a p : Addr) (m : Nat), vs = [.ref a, .ref p, .int m] ∧ ∃ (c : Addr) (l : List V), TapeAt H a c ∧ H p = some (.lst l) ∧ p ≠ a ∧ Els H l ∧ 1 ≤ l.length ∧ l.length ≤ 6 ∧ m ≤ 8 ∧
  ∀ v l' H', TupAt H' v l' → l'.length ≤ 8 → Els H' l' → But1 a H H' → TapeAt H' a c → Q v H'
def ivCo (a c D : Addr) (H : Hp) (i : Nat) (H' : Hp) : Prop := ∃ l, H' D = some (.lst l) ∧ l.length = i ∧ Els H' l ∧ But1 a H H' ∧ TapeAt H' a c
theorem ivCo.more {a c D : Addr} {H H' : Hp} {l : List V} {i : Nat} {v : V} (le : l.length = i) (hl : H' D = some (.lst l)) (he : Els H' l) (b : But1 a H H') (t : TapeAt H' a c) (n : H D = none) (na : D ≠ a) (nc : D ≠ c) (ev : El H' v) :
    ivCo a c D H (i + 1) (upd H' D (.lst (l ++ [v]))) := by
  refine ⟨l ++ [v], upd_same, by simp [le], ?_, b.put_new n, t.putNe na nc⟩
  intro z hz
  rcases List.mem_append.mp hz with hz | hz
  · exact (he z hz).kp (Kp_lst hl)
  · rw [List.mem_singleton.mp hz]
    exact ev.kp (Kp_lst hl)
theorem cutV_to (l : List V) (b : Nat) : cutV l none (some (b : Int)) = l.take b := cutV_nat l 0 b
theorem cutV_from (l : List V) (a : Nat) : cutV l (some (a : Int)) none = l.drop a := by
  unfold cutV
  rw [HT.sIx_nat, HT.sIx_none]
  by_cases h : a ≤ l.length
  · rw [Nat.min_eq_left h, List.take_of_length_le (by simp)]
  · rw [Nat.min_eq_right (by omega), List.drop_of_length_le (Nat.le_refl _), List.drop_of_length_le (by omega)]
    simp
theorem flat_len {v : V} : ∀ {n : Nat}, (List.replicate n [v]).flatten.length = n
  | 0 => rfl
  | n + 1 => by
    rw [List.replicate_succ, List.flatten_cons, List.length_append, flat_len]
    show 1 + n = n + 1
    omega
theorem flat_mem {v z : V} {n : Nat} (h : z ∈ (List.replicate n [v]).flatten) : z = v := by
  obtain ⟨l, hl, hz⟩ := List.mem_flatten.mp h
  rw [(List.mem_replicate.mp hl).2] at hz
  exact List.mem_singleton.mp hz
def ivCoL (a c p : Addr) (H : Hp) (m n : Nat) (d3 d4 : Int) (l : List V) (i : Nat) (σ : L2.St) (H' : Hp) : Prop := ∃ (fa : Addr) (l' : List V) (x6 x9 x10 : Option V),
  σ = [some (.ref a), some (.ref p), some (.int m), some (.int n), some (.int d3), some (.int d4), x6, none, some (.ref fa), x9, x10] ∧ H' fa = some (.lst l') ∧ Els H' l' ∧ l'.length ≤ 20 ∧ But1 a H H' ∧ TapeAt H' a c ∧ H' p = some (.lst l) ∧ fa ≠ a
theorem ok_lcontents (D : Dn K mg "_law_contents" s__law_contents ["_law_tape_here", "_law_pool_here", "_law_most"]) (T : Blt mg) (c__law_draw : Cal P w K mg base 1 "_law_draw" spDraw []) : Cal P w K mg base 2 "_law_contents" spLcontents [] := by
  refine cal_of D sc__law_contents (fun vs H Q E h => ?_) (fun f cdv A outer s H vs Q E hr h => ?_)
  · obtain ⟨a, p, m, rfl, _⟩ := h
    rfl
  · refine ⟨_, (pss_cons (ps_set (i := 3) sc__law_contents.nd rfl (Or.inl rfl) (pe_c c__law_draw hr (by decide) (by rfl) (pa_cons (pv 0) (pa_cons (pe_op op_add (pv 2) pe_int) pa_nil))))
  (pss_cons (ps_if (pt_cmpR op_eq (pe_c c__law_draw hr (by decide) (by rfl) (pa_cons (pv 0) (pa_cons pe_int pa_nil))) pe_int (nomark _)) (pss_one (ps_set (i := 3) sc__law_contents.nd rfl (Or.inl rfl) (pe_ix ix_list (pe_lst (pa_cons pe_int (pa_cons pe_int (pa_cons pe_int (pa_cons (pv 2) pa_nil))))) (pe_c c__law_draw hr (by decide) (by rfl) (pa_cons (pv 0) (pa_cons pe_int pa_nil))) (fun _ _ => rfl)))) pss_nil)
  (pss_cons (ps_set (i := 4) sc__law_contents.nd rfl (Or.inl rfl) (pe_c c__law_draw hr (by decide) (by rfl) (pa_cons (pv 0) (pa_cons pe_int pa_nil))))
  (pss_cons (ps_set (i := 5) sc__law_contents.nd rfl (Or.inr rfl) (pe_c c__law_draw hr (by decide) (by rfl) (pa_cons (pv 0) (pa_cons pe_int pa_nil))))
  (pss_cons (ps_if (pt_cmpR op_eq (pv 4) pe_int (nomark _)) (pss_one (ps_ret (pe_callTy call_tuple_of (by rfl) T.b_tuple (by decide +kernel) (pa_cons (pe_lc (own := [("_law_k", 6)]) (g := gName 6) (tt := tYes) rfl sc__law_contents.nd (pi_range1 (by rfl) T.b_range (pa_cons (pv 3) pa_nil)) (blkOk_by (own := [("_law_k", 6)]) (N := ["_law_tape_here", "_law_pool_here", "_law_most", "_law_size", "_law_shape", "_law_first", "_law_k", "_law_part", "_law_found", "_law_many", "_law_element_here"]) (sc := defScope s__law_contents) (by decide +kernel)) (fun _ _ _ _ _ => pg_name (i := 6) sc__law_contents.nd rfl (Or.inl rfl)) (fun _ _ _ _ _ => pts_nil) (fun _ _ _ _ _ => (pe_op op_add (pv 5) (pv 6)))) pa_nil)))) pss_nil)
  (pss_cons (ps_if (pt_cmpR op_eq (pv 4) pe_int (nomark _)) (pss_cons (ps_set (i := 7) sc__law_contents.nd rfl (Or.inr rfl) (pe_lc (own := [("_law_k", 6)]) (g := gName 6) (tt := tYes) rfl sc__law_contents.nd (pi_range1 (by rfl) T.b_range (pa_cons (pe_op op_add pe_int (pe_op op_mod (pe_callTy call_int1 (by rfl) T.b_int (by decide +kernel) (pa_cons (pv 5) pa_nil)) pe_int)) pa_nil)) (blkOk_by (own := [("_law_k", 6)]) (N := ["_law_tape_here", "_law_pool_here", "_law_most", "_law_size", "_law_shape", "_law_first", "_law_k", "_law_part", "_law_found", "_law_many", "_law_element_here"]) (sc := defScope s__law_contents) (by decide +kernel)) (fun _ _ _ _ _ => pg_name (i := 6) sc__law_contents.nd rfl (Or.inl rfl)) (fun _ _ _ _ _ => pts_nil) (fun _ _ _ _ _ => (pe_ix (show IxR _ (rIxL K) from ix_list) (pv 1) (pe_c c__law_draw hr (by decide) (by rfl) (pa_cons (pv 0) (pa_cons (pe_callB (show CallR _ (.builtin "len") (rLenS K) from call_len_seq) (by rfl) T.b_len (by decide +kernel) (pa_cons (pv 1) pa_nil)) pa_nil))) (fun _ _ => rfl)))))
  (pss_one (ps_ret (pe_callTy call_tuple_of (by rfl) T.b_tuple (by decide +kernel) (pa_cons (pe_lc (own := [("_law_k", 6)]) (g := gName 6) (tt := tYes) rfl sc__law_contents.nd (pi_range1 (by rfl) T.b_range (pa_cons (pv 3) pa_nil)) (blkOk_by (own := [("_law_k", 6)]) (N := ["_law_tape_here", "_law_pool_here", "_law_most", "_law_size", "_law_shape", "_law_first", "_law_k", "_law_part", "_law_found", "_law_many", "_law_element_here"]) (sc := defScope s__law_contents) (by decide +kernel)) (fun _ _ _ _ _ => pg_name (i := 6) sc__law_contents.nd rfl (Or.inl rfl)) (fun _ _ _ _ _ => pts_nil) (fun _ _ _ _ _ => (pe_ix (show IxR _ (rIxL K) from ix_list) (pv 7) (pe_op op_mod (pe_callTy call_int1 (by rfl) T.b_int (by decide +kernel) (pa_cons (pv 6) pa_nil)) (pe_callB (show CallR _ (.builtin "len") (rLenS K) from call_len_seq) (by rfl) T.b_len (by decide +kernel) (pa_cons (pv 7) pa_nil))) (fun _ _ => rfl)))) pa_nil))))) pss_nil)
  (pss_cons (ps_set (i := 8) sc__law_contents.nd rfl (Or.inl rfl) (pe_lst pa_nil))
  (pss_cons (ps_for PassesOwn.never rfl (pi_range1 (by rfl) T.b_range (pa_cons (pv 3) pa_nil)) (pg_name (i := 6) sc__law_contents.nd rfl (Or.inl rfl))
  (pss_one (ps_if (pt_cmpR op_lt (pe_callB call_len_seq (by rfl) T.b_len (by decide +kernel) (pa_cons (pv 8) pa_nil)) (pv 3) (nomark _)) (pss_cons (ps_set (i := 9) sc__law_contents.nd rfl (Or.inl rfl) pe_int)
  (pss_cons (ps_if (pt_cmpR op_eq (pv 4) pe_int (nomark _)) (pss_one (ps_set (i := 9) sc__law_contents.nd rfl (Or.inl rfl) (pe_op op_add pe_int (pe_c c__law_draw hr (by decide) (by rfl) (pa_cons (pv 0) (pa_cons pe_int pa_nil)))))) pss_nil)
  (pss_cons (ps_set (i := 10) sc__law_contents.nd rfl (Or.inl rfl) (pe_ix ix_list (pv 1) (pe_c c__law_draw hr (by decide) (by rfl) (pa_cons (pv 0) (pa_cons (pe_callB call_len_seq (by rfl) T.b_len (by decide +kernel) (pa_cons (pv 1) pa_nil)) pa_nil))) (fun _ _ => rfl)))
  (pss_one (ps_set (i := 8) sc__law_contents.nd rfl (Or.inl rfl) (pe_op op_cat (pv 8) (pe_op op_rep (pe_lst (pa_cons (pv 10) pa_nil)) (pv 9)))))))) pss_nil)))
  (pss_one (ps_ret (pe_callTy call_tuple_of (by rfl) T.b_tuple (by decide +kernel) (pa_cons (pe_slice sl_list (pv 8) po_none (po_some (pv 3))) pa_nil)))))))))))), ?_⟩
    obtain ⟨a, p, m, rfl, c, l, ht, hp, npa, hel, l1, l6, m8, k⟩ := h
    walk_at "rd"
    refine ⟨_, ht, by omega, by omega, fun d1 H1 _ _ b1 t1 => ?_⟩
    walk_at "rd"
    refine ⟨_, t1, by decide, by decide, fun d2 H2 _ _ b2 t2 => ?_⟩
    walk_at "rd"
    refine iteC (fun c1 => ?_) (fun c1 => ?_)
    walk_at "rd"
    intro q nq
    walk_at "rd"
    refine ⟨_, t2.put nq, by decide, by decide, fun d H3 f0 f1 b3 t3 => ?_⟩
    obtain ⟨v, e, mv⟩ := atI_in (xs := [V.int 0, V.int 1, V.int 2, V.int m]) f0 f1
    refine ⟨q, _, d, v, rfl, rfl, SqL.of (b3 _ _ (t2.nn nq) upd_same), e, ?_⟩
    obtain ⟨n, rfl, hn⟩ : ∃ n : Nat, v = .int n ∧ n ≤ 8 := by
      simp only [List.mem_cons, List.not_mem_nil, or_false] at mv
      rcases mv with rfl | rfl | rfl | rfl
      · exact ⟨0, rfl, by omega⟩
      · exact ⟨1, rfl, by omega⟩
      · exact ⟨2, rfl, by omega⟩
      · exact ⟨m, rfl, by omega⟩
    have b0 : But1 a H H3 := ((b1.trans b2).new nq).trans b3
    clear b3
    rotate_left
    obtain ⟨n, rfl⟩ : ∃ n : Nat, d1 = (n : Int) := ⟨d1.toNat, by omega⟩
    have hn : n ≤ 8 := by omega
    have b0 : But1 a H H2 := b1.trans b2
    have t3 := t2
    rotate_left
    all_goals
      walk_at "rd"
      refine ⟨_, t3, by decide, by decide, fun d3 H4 _ _ b4 t4 => ?_⟩
      walk_at "rd"
      refine ⟨_, t4, by decide, by decide, fun d4 H5 f0 f1 b5 t5 => ?_⟩
      have b6 : But1 a H H5 := (b0.trans b4).trans b5
      have hp5 := b6 _ _ npa hp
      have hel5 : Els H5 l := hel.kp (ht.kp b6)
      walk_at "rd"
      refine iteC (fun c2 => ?_) (fun c2 => ?_)
      · -- numbers in a row
        walk_at "rd"
        refine ⟨by omega, by omega, fun F nF => ?_⟩
        have nF0 := b6.nn t5 nF
        refine lc_range (lo := 0) (n := ((n : Nat) : Int).toNat) (ivCo a c F H) ⟨[], upd_same, rfl, (fun _ h => by cases h), b6.new nF, t5.put nF⟩ ?_ ?_
        · rintro i H' hi ⟨l', hl, le, he', b7, t7⟩
          have hi' : i < n := hi
          walk_at "rd"
          refine ⟨l', hl, line_lt (by omega), ?_⟩
          exact ivCo.more le hl he' b7 t7 nF0 (t5.nn nF) (t5.nc nF) trivial
        · rintro H' ⟨l', hl, le, he', b7, t7⟩
          have le' : l'.length = n := le
          walk_at "rd"
          refine ⟨_, _, rfl, .inl ⟨SqL.of hl, fun q nq => ?_⟩⟩
          exact k _ l' _ ⟨q, rfl, upd_same⟩ (by omega) (he'.kp (Kp_new nq)) (b7.new nq) (t7.put nq)
      · walk_at "rd"
        refine iteC (fun c3 => ?_) (fun c3 => ?_)
        · -- a part again and again
          walk_at "rd"
          refine ⟨by omega, by omega, fun F nF => ?_⟩
          have nF0 := b6.nn t5 nF
          have nFp : p ≠ F := ne_of_none hp5 nF
          refine lc_range (lo := 0) (n := (1 + d4 % 4).toNat) (fun i H' => ivCo a c F H i H' ∧ H' p = some (.lst l)) ⟨⟨[], upd_same, rfl, (fun _ h => by cases h), b6.new nF, t5.put nF⟩, lk_ne nFp hp5⟩ ?_ ?_
          · rintro i H' hi ⟨⟨l', hl, le, he', b7, t7⟩, hp7⟩
            walk_at "rl"
            refine ⟨_, t7, by omega, by omega, fun d H6 g0 g1 b8 t8 => ?_⟩
            have hp8 := b8 _ _ npa hp7
            have hl8 := b8 _ _ (t5.nn nF) hl
            obtain ⟨v, ev, mv⟩ := atI_in (xs := l) g0 g1
            refine ⟨p, _, d, v, rfl, rfl, SqL.of hp8, ev, ?_⟩
            refine ⟨l', hl8, line_lt (by omega), ?_⟩
            exact ⟨ivCo.more le hl8 (he'.kp (t7.kp b8)) (b7.trans b8) t8 nF0 (t5.nn nF) (t5.nc nF) ((hel v mv).kp (ht.kp (b7.trans b8))), lk_ne nFp hp8⟩
          · rintro H' ⟨⟨l', hl, le, he', b7, t7⟩, hp7⟩
            walk_at "rd"
            refine ⟨by omega, by omega, fun G nG => ?_⟩
            have nG0 := b7.nn t7 nG
            have nGF : F ≠ G := ne_of_none hl nG
            refine lc_range (lo := 0) (n := ((n : Nat) : Int).toNat) (fun i H' => ivCo a c G H i H' ∧ H' F = some (.lst l') ∧ Els H' l') ⟨⟨[], upd_same, rfl, (fun _ h => by cases h), b7.new nG, t7.put nG⟩, lk_ne nGF hl, he'.kp (Kp_new nG)⟩ ?_ ?_
            · rintro i H' hi ⟨⟨m', hm, le2, he2, b8, t8⟩, hl8, he8⟩
              have hi' : i < n := hi
              walk_at "rl"
              refine ⟨by omega, ?_⟩
              obtain ⟨v, ev, mv⟩ := atI_in (xs := l') (d := (0 + (i : Int)) % (l'.length : Int)) (Int.emod_nonneg _ (by omega)) (Int.emod_lt_of_pos _ (by omega))
              refine ⟨F, _, _, v, rfl, rfl, SqL.of hl8, ev, ?_⟩
              refine ⟨m', hm, line_lt (by omega), ?_⟩
              exact ⟨ivCo.more le2 hm he2 b8 t8 nG0 (t7.nn nG) (t7.nc nG) (he8 v mv), lk_ne nGF hl8, he8.kp (Kp_lst hm)⟩
            · rintro H' ⟨⟨m', hm, le2, he2, b8, t8⟩, hl8, he8⟩
              have le' : m'.length = n := le2
              walk_at "rd"
              refine ⟨_, _, rfl, .inl ⟨SqL.of hm, fun q nq => ?_⟩⟩
              exact k _ m' _ ⟨q, rfl, upd_same⟩ (by omega) (he2.kp (Kp_new nq)) (b8.new nq) (t8.put nq)
        · -- one after the other
          walk_at "rd"
          intro fa nfa
          walk_at "rd"
          refine ⟨by omega, by omega, ?_⟩
          refine for_range (n := ((n : Nat) : Int).toNat) (ivCoL a c p H m n d3 d4 l) ⟨fa, [], none, none, none, rfl, upd_same, (fun _ h => by cases h), by simp, b6.new nfa, t5.put nfa, lk_new nfa hp5, t5.nn nfa⟩ ?_ ?_
          · rintro i σ H6 hi ⟨fa, l', x6, x9, x10, rfl, hl, he', le, b7, t7, hp7, nfa'⟩
            walk_at "rl"
            refine iteC (fun c4 => ?_) (fun c4 => ?_)
            · walk_at "rd"
              refine iteC (fun c5 => ?_) (fun c5 => ?_)
              walk_at "rd"
              refine ⟨_, t7, by omega, by omega, fun e5 H7 g0 g1 b8' t8 => ?_⟩
              have b8 := b7.trans b8'
              have hl8 := b8' _ _ nfa' hl
              have hp8 := b8' _ _ npa hp7
              have he8 : Els H7 l' := he'.kp (t7.kp b8')
              rotate_left
              have b8 := b7
              have hl8 := hl
              have hp8 := hp7
              have he8 := he'
              have t8 := t7
              rotate_left
              all_goals
                walk_at "rl"
                refine ⟨_, t8, by omega, by omega, fun e6 H8 g2 g3 b9' t9 => ?_⟩
                have b9 := b8.trans b9'
                have hl9 := b9' _ _ nfa' hl8
                have hp9 := b9' _ _ npa hp8
                have he9 : Els H8 l' := he8.kp (t8.kp b9')
                obtain ⟨v, ev, mv⟩ := atI_in (xs := l) g2 g3
                have elv : El H8 v := (hel v mv).kp (ht.kp b9)
                refine ⟨p, _, _, v, rfl, rfl, SqL.of hp9, ev, ?_⟩
                walk_at "rd"
                intro q nq
                walk_at "rd"
                refine ⟨q, _, [v], rfl, rfl, upd_same, by omega, by omega, line_of (by show 1 * _ ≤ _; omega), fun r nr => ?_⟩
                walk_at "rd"
                refine ⟨fa, r, l', _, rfl, rfl, lk_new nr (lk_new nq hl9), upd_same, line_of (by rw [flat_len]; omega), fun r2 nr2 => ?_⟩
                walk_at "rd"
                refine ⟨r2, _, _, _, _, rfl, upd_same, ?_, ?_, ((b9.new nq).new nr).new nr2, ((t9.put nq).put nr).put nr2, lk_new nr2 (lk_new nr (lk_new nq hp9)), ((t9.put nq).put nr).nn nr2⟩
                · intro z hz
                  refine El.kp (((Kp_new nq).trans (Kp_new nr)).trans (Kp_new nr2)) ?_
                  rcases List.mem_append.mp hz with hz | hz
                  · exact he9 z hz
                  · rw [flat_mem hz]
                    exact elv
                · rw [List.length_append, flat_len]
                  omega
            · walk_at "rq"
              exact ⟨fa, l', _, _, _, rfl, hl, he', le, b7, t7, hp7, nfa'⟩
          · rintro σ H' ⟨fa, l', x6, x9, x10, rfl, hl, he', le, b7, t7, hp7, nfa'⟩
            walk_at "rd"
            refine ⟨_, _, rfl, SqL.of hl, fun q nq => ?_⟩
            walk_at "rd"
            refine ⟨_, _, rfl, .inl ⟨SqL.of upd_same, fun q2 nq2 => ?_⟩⟩
            refine k _ _ _ ⟨q2, rfl, upd_same⟩ ?_ ?_ ((b7.new nq).new nq2) ((t7.put nq).put nq2)
            · rw [cutV_to, List.length_take]
              omega
            · intro z hz
              rw [cutV_to] at hz
              exact ((he' z (List.mem_of_mem_take hz)).kp (Kp_new nq)).kp (Kp_new nq2)
end
end K7

set_option Elab.async false
set_option linter.all false
set_option maxRecDepth 100000
set_option maxHeartbeats 4000000
namespace K7
open PySem PySem.Spec PyProof.Rows L2 Ed
open C8 (Cal Met Mak pe_c pe_mk pe_mt pe_mt0)
/-! ### small words of the proofs: walk_at "lk" (what stands at an address), "ne" (two addresses differ), "rd" (the plain steps of a reading) -/
local macro_rules | `(tactic| walk_at "ne") => `(tactic| first
  | assumption
  | exact Ne.symm (by assumption)
  | exact ne_of_none (by assumption) (by assumption)
  | exact Ne.symm (ne_of_none (by assumption) (by assumption))
  | exact ne_of (by assumption) (by assumption) (by intro z; cases z)
  | exact ne_of_none (by walk_at "lk") (by assumption)
  | exact Ne.symm (ne_of_none (by walk_at "lk") (by assumption))
  | exact ne_of (by walk_at "lk") (by walk_at "lk") (by intro z; cases z))
local macro_rules | `(tactic| walk_at "lk") => `(tactic| first
  | assumption
  | exact upd_same
  | (refine lk_new (by assumption) ?_; walk_at "lk")
  | (refine Same.at (by assumption) ?_; walk_at "lk")
  | (refine Kp.at (by assumption) ?_; walk_at "lk")
  | (refine lk_ne (by walk_at "ne") ?_; walk_at "lk"))
local macro_rules | `(tactic| walk_at "at") => `(tactic| first
  | rfl
  | exact atI_last _ _
  | exact atI_neg1 (by assumption)
  | exact atI_nat (by first | assumption | rfl))
local macro_rules | `(tactic| walk_at "ix") => `(tactic| first
  | refine ⟨_, _, _, _, rfl, rfl, SqT.of (by walk_at "lk"), by walk_at "at", ?_⟩
  | refine ⟨_, _, _, _, rfl, rfl, SqL.of (by walk_at "lk"), by walk_at "at", ?_⟩)
local macro_rules | `(tactic| walk_at "ty") => `(tactic| first
  | exact TyOf.int _
  | exact TyOf.str _
  | exact TyOf.bl _
  | exact TyOf.tup (by walk_at "lk"))
local macro_rules | `(tactic| walk_at "isi") => `(tactic| first
  | refine ⟨_, _, _, _, true, rfl, .ty _, .base (by walk_at "ty"), kit_ty (by decide +kernel), ?_⟩
  | refine ⟨_, _, _, _, false, rfl, .ty _, .base (by walk_at "ty"), kit_ty (by decide +kernel), ?_⟩)
local macro_rules | `(tactic| walk_at "cnd") => `(tactic| first
  | exact ⟨by decide, by decide, by decide⟩
  | exact Or.inr ⟨by decide, by decide⟩
  | (show (0 : Int) < _; decide))
local macro_rules | `(tactic| walk_at "rd1") => `(tactic| first
  | (with_reducible refine iteN kept_ne ?_)
  | (with_reducible refine iteN ins_ne ?_)
  | refine ⟨_, rfl, ?_⟩
  | refine ⟨_, _, rfl, rfl, ?_⟩
  | walk_at "ix"
  | refine ⟨rfl, ?_⟩
  | refine ⟨_, _, rfl, ?_⟩
  | refine ⟨Nat.le_of_ble_eq_true rfl, ?_⟩
  | walk_at "isi"
  | refine .inl ⟨_, rfl, ?_⟩
  | refine ⟨_, _, _, _, rfl, rfl, (by walk_at "lk"), rfl, ?_⟩
  | refine ⟨(by walk_at "cnd"), ?_⟩
  | refine ⟨.inl ⟨rfl, _, SqL.of (by walk_at "lk")⟩, ?_⟩)
local macro_rules | `(tactic| walk_at "rd") => `(tactic| repeat (walk_at "rd1"))
local macro_rules | `(tactic| walk_at "rq") => `(tactic| ((repeat (walk_at "rd1")); (try dsimp only)))
local macro_rules | `(tactic| walk_at "ln") => `(tactic| first
  | refine ⟨_, _, rfl, .inr (SqT.of (by walk_at "lk")), ?_⟩
  | refine ⟨_, _, rfl, .inl (SqL.of (by walk_at "lk")), ?_⟩)
local macro_rules | `(tactic| walk_at "rl") => `(tactic| repeat (first | walk_at "rd1" | walk_at "ln"))
local macro_rules | `(tactic| walk_at "rlq") => `(tactic| ((repeat (first | walk_at "rd1" | walk_at "ln")); (try dsimp only)))

section
variable {P : Program} {w : World} {K : PySem.W.Frag} {mg : Str → Option Value} {base : Heap}
/-! ### _law_pieces -/
abbrev s__law_pieces : Stmt := top 26
theorem sc__law_pieces : FnScope ["_law_origins", "_law_pieces_here", "_law_origin", "_law_last"] ["_law_origins"] (defScope s__law_pieces) := ⟨rfl, rfl, rfl, by decide +kernel, rfl, by decide +kernel, by decide +kernel⟩
def spLpieces : Sp := fun vs H Q _ => ∃ (s : Addr) (ovs : List V) (os : List (Og V)), vs = [.ref s] ∧ H s = some (.lst ovs) ∧ OgsAt H ovs os ∧ os.length ≤ 1000 ∧ (∃ n, OgFine n os) ∧ ∀ H' v, Same H H' → PcsT H' v (pcsOf os) → Q v H'
def ivLp (H : Hp) (s l : Addr) (os : List (Og V)) (i : Nat) (σ : L2.St) (H' : Hp) : Prop := ∃ (vs' : List V) (x2 x3 : Option V),
  σ = [some (.ref s), some (.ref l), x2, x3] ∧ Same H H' ∧ H' l = some (.lst vs') ∧ PcsAt H' vs' ((os.take i).foldl ogStep [])
theorem og_take {n : Nat} {os : List (Og V)} (h : OgFine n os) (i : Nat) : OgFine n (os.take i) := fun k hk => h k (List.mem_of_mem_take hk)
theorem ok_lpieces (D : Dn K mg "_law_pieces" s__law_pieces ["_law_origins"]) (T : Blt mg) : Cal P w K mg base 1 "_law_pieces" spLpieces [] := by
  refine cal_of D sc__law_pieces (fun vs H Q E h => ?_) (fun f cdv A outer s H vs Q E hr h => ?_)
  · obtain ⟨s, ovs, os, rfl, _⟩ := h
    rfl
  · refine ⟨_, (pss_cons (ps_set (i := 1) sc__law_pieces.nd rfl (Or.inl rfl) (pe_lst pa_nil))
  (pss_cons (ps_for PassesOwn.never rfl (pi_list (pv 0)) (pg_name (i := 2) sc__law_pieces.nd rfl (Or.inl rfl))
  (pss_cons (ps_set (i := 3) sc__law_pieces.nd rfl (Or.inl rfl) (pe_tup (pa_cons pe_str (pa_cons pe_int (pa_cons pe_int pa_nil)))))
  (pss_cons (ps_if (pt_cmpR op_gt (pe_callB call_len_seq (by rfl) T.b_len (by decide +kernel) (pa_cons (pv 1) pa_nil)) pe_int (nomark _)) (pss_one (ps_set (i := 3) sc__law_pieces.nd rfl (Or.inl rfl) (pe_ix ix_list (pv 1) (pe_un un_neg pe_int) (fun _ _ => rfl)))) pss_nil)
  (pss_one (ps_if (PW.pt (pw_and (pt_val (pe_callB call_isi (by rfl) T.b_isinstance (by decide +kernel) (pa_cons (pv 2) (pa_cons (pe_bltn (v := .ty "int") (by rfl) T.b_int (by decide +kernel) rfl) pa_nil)))) (pw_and (pt_cmpR op_eq (pe_ix ix_tup (pv 3) pe_int (fun _ _ => rfl)) pe_str (nomark _)) (pw_and1 (pt_cmpR op_eq (pe_ix ix_tup (pv 3) pe_int (fun _ _ => rfl)) (pv 2) (nomark _)))))) (pss_one (ps_asg (pe_tup (pa_cons pe_str (pa_cons (pe_ix ix_tup (pv 3) pe_int (fun _ _ => rfl)) (pa_cons (pe_op op_add (pv 2) pe_int) pa_nil)))) (pg_sub (pv 1) (pe_un un_neg pe_int) set_list))) (pss_one (ps_if (pt_val (pe_callB call_isi (by rfl) T.b_isinstance (by decide +kernel) (pa_cons (pv 2) (pa_cons (pe_bltn (v := .ty "int") (by rfl) T.b_int (by decide +kernel) rfl) pa_nil)))) (pss_one (ps_expr (pe_bm PySem.F.plainAttrs_list PySem.F.slot_list_append PySem.F.type_list_append mt_append (pv 1) (pa_cons (pe_tup (pa_cons pe_str (pa_cons (pv 2) (pa_cons (pe_op op_add (pv 2) pe_int) pa_nil)))) pa_nil)))) (pss_one (ps_if (pt_cmpR op_eq (pe_ix ix_tup (pv 3) pe_int (fun _ _ => rfl)) pe_str (nomark _)) (pss_one (ps_asg (pe_tup (pa_cons pe_str (pa_cons (pe_op op_catA (pe_ix ix_tup (pv 3) pe_int (fun _ _ => rfl)) (pv 2)) pa_nil))) (pg_sub (pv 1) (pe_un un_neg pe_int) set_list))) (pss_one (ps_expr (pe_bm PySem.F.plainAttrs_list PySem.F.slot_list_append PySem.F.type_list_append mt_append (pv 1) (pa_cons (pe_tup (pa_cons pe_str (pa_cons (pv 2) pa_nil))) pa_nil)))))))))))))
  (pss_one (ps_ret (pe_callTy call_tuple_of (by rfl) T.b_tuple (by decide +kernel) (pa_cons (pv 1) pa_nil)))))), ?_⟩
    obtain ⟨s, ovs, os, rfl, hs, hos, hz, ⟨n, hfn⟩, k⟩ := h
    walk_at "rd"
    intro l nl
    walk_at "rd"
    refine ⟨⟨_, SqL.of (lk_new nl hs)⟩, for_list (K := K) (a := s) (xs := ovs) (ivLp H s l os) ?_ (fun i σ H' _ ⟨_, _, _, _, s5, _⟩ => SqL.of (s5 _ _ hs)) ?_ ?_⟩
    · exact ⟨[], none, none, rfl, Same_new nl, upd_same, .nil⟩
    · rintro i x σ H' hi ⟨vs', x2, x3, rfl, s5, hl, hv⟩
      obtain ⟨o, ho, hx⟩ := Paired.get hos hi
      have step := fold_more ogStep [] ho
      have hil : i < os.length := lt_get ho
      have vl : vs'.length ≤ 1000 := by
        rw [Paired.len hv]
        have := pcsOf_len (os.take i)
        rw [List.length_take] at this
        unfold pcsOf at this
        omega
      generalize hg : (os.take i).foldl ogStep [] = ac at *
      have app : ∀ (H2 : Hp) (u : V) (q : Pc V) (y2 y3 : Option V), Same H' H2 → PcAt H2 u q → ogStep ac o = ac ++ [q] → ivLp H s l os (i + 1) [some (.ref s), some (.ref l), y2, y3] (upd H2 l (.lst (vs' ++ [u]))) := by
        intro H2 u q y2 y3 s2 hq e
        unfold ivLp
        rw [step, e]
        have kk := Kp_lst (o := .lst (vs' ++ [u])) (s2 _ _ hl)
        exact ⟨_, _, _, rfl, Same_put (s5.trans s2) nl, upd_same, Paired.app ((hv.kp (Kp.of s2)).kp kk) (Paired.one (hq.kp kk))⟩
      have sub : ∀ (H2 : Hp) (u : V) (q : Pc V) (y2 y3 : Option V), Same H' H2 → PcAt H2 u q → ogStep ac o = ac.dropLast ++ [q] → ivLp H s l os (i + 1) [some (.ref s), some (.ref l), y2, y3] (upd H2 l (.lst (vs'.dropLast ++ [u]))) := by
        intro H2 u q y2 y3 s2 hq e
        unfold ivLp
        rw [step, e]
        have kk := Kp_lst (o := .lst (vs'.dropLast ++ [u])) (s2 _ _ hl)
        exact ⟨_, _, _, rfl, Same_put (s5.trans s2) nl, upd_same, Paired.app (Paired.front ((hv.kp (Kp.of s2)).kp kk)) (Paired.one (hq.kp kk))⟩
      cases hq : ac.getLast? with
      | none =>
        have e1 := getLast?_none hq
        subst e1
        have e2 : vs' = [] := List.eq_nil_of_length_eq_zero (Paired.len hv)
        subst e2
        cases o with
        | base k =>
          obtain rfl := hx
          walk_at "rd"
          intro t nt
          walk_at "rl"
          intro p np
          walk_at "rl"
          have sp := fun {o : HO} => (Same_new (o := .tup [.str "", .int 0, .int 0]) nt).trans (Same_new (o := o) np)
          exact ⟨_, _, _, rfl, rfl, sp _ _ hl, line_lt (by simp), app _ _ (.kept k (k + 1)) _ _ sp ⟨p, rfl, upd_same⟩ (by unfold ogStep; rfl)⟩
        | new v =>
          obtain ⟨b, rfl, hb⟩ := hx.kp (Kp.of s5)
          walk_at "rd"
          intro t nt
          have st := Same_new (o := .tup [.str "", .int 0, .int 0]) nt
          walk_at "rl"
          intro p np
          walk_at "rl"
          have sp := fun {o : HO} => st.trans (Same_new (o := o) np)
          exact ⟨_, _, _, rfl, rfl, sp _ _ hl, line_lt (by simp), app _ _ (.ins [v]) _ _ sp ⟨p, b, rfl, upd_same, sp _ _ hb⟩ (by unfold ogStep; rfl)⟩
      | some q =>
        obtain ⟨u, hu, huq⟩ := Paired.last hv hq
        have ne : 0 < vs'.length := by
          cases vs' with
          | nil => cases hu
          | cons y r => exact Nat.succ_pos _
        have qa : q ∈ ac := List.mem_of_getLast? hq
        have ql := len_mem qa
        cases q with
        | kept a b =>
          obtain ⟨y, rfl, hy⟩ := huq
          cases o with
          | base k =>
            obtain rfl := hx
            walk_at "rd"
            intro t nt
            have st := Same_new (o := .tup [.str "", .int 0, .int 0]) nt
            walk_at "rl"
            refine iteC (fun c => ?_) (fun c => absurd c (by omega))
            walk_at "rl"
            refine iteC (fun c => ?_) (fun c => ?_)
            · walk_at "rl"
              intro p np
              walk_at "rl"
              have sp := fun {o : HO} => st.trans (Same_new (o := o) np)
              refine ⟨_, _, _, _, rfl, rfl, sp _ _ hl, ixN_neg1 ne, ?_⟩
              rw [set_last hu]
              refine sub _ _ (.kept a (k + 1)) _ _ sp ⟨p, rfl, upd_same⟩ ?_
              unfold ogStep
              rw [hq]
              dsimp only
              rw [if_pos (by injection c with c; omega)]
            · walk_at "rl"
              intro p np
              walk_at "rl"
              have sp := fun {o : HO} => st.trans (Same_new (o := o) np)
              refine ⟨_, _, _, rfl, rfl, sp _ _ hl, line_lt (by omega), app _ _ (.kept k (k + 1)) _ _ sp ⟨p, rfl, upd_same⟩ ?_⟩
              unfold ogStep
              rw [hq]
              dsimp only
              rw [if_neg (fun e => c (by rw [e]))]
          | new v =>
            obtain ⟨z, rfl, hz⟩ := hx.kp (Kp.of s5)
            walk_at "rd"
            intro t nt
            have st := Same_new (o := .tup [.str "", .int 0, .int 0]) nt
            walk_at "rl"
            refine iteC (fun c => ?_) (fun c => absurd c (by omega))
            walk_at "rl"
            intro p np
            walk_at "rl"
            have sp := fun {o : HO} => st.trans (Same_new (o := o) np)
            refine ⟨_, _, _, rfl, rfl, sp _ _ hl, line_lt (by omega), app _ _ (.ins [v]) _ _ sp ⟨p, z, rfl, upd_same, sp _ _ hz⟩ ?_⟩
            unfold ogStep
            rw [hq]
        | ins m =>
          obtain ⟨y, z, rfl, hy, hz⟩ := huq
          cases o with
          | base k =>
            obtain rfl := hx
            walk_at "rd"
            intro t nt
            have st := Same_new (o := .tup [.str "", .int 0, .int 0]) nt
            walk_at "rl"
            refine iteC (fun c => ?_) (fun c => absurd c (by omega))
            walk_at "rl"
            intro p np
            walk_at "rl"
            have sp := fun {o : HO} => st.trans (Same_new (o := o) np)
            refine ⟨_, _, _, rfl, rfl, sp _ _ hl, line_lt (by omega), app _ _ (.kept k (k + 1)) _ _ sp ⟨p, rfl, upd_same⟩ ?_⟩
            unfold ogStep
            rw [hq]
          | new v =>
            obtain ⟨b, rfl, hb⟩ := hx.kp (Kp.of s5)
            walk_at "rd"
            intro t nt
            have st := Same_new (o := .tup [.str "", .int 0, .int 0]) nt
            walk_at "rl"
            refine iteC (fun c => ?_) (fun c => absurd c (by omega))
            walk_at "rl"
            have ml : m.length ≤ 1000 := by
              have e : lenOf ac ≤ i := by
                rw [← ogsOf_len, ← hg, (ogFold _ [] (fun _ z => nomatch z) (og_take hfn i)).1]
                show ([] ++ os.take i).length ≤ i
                rw [List.nil_append, List.length_take]
                exact Nat.min_le_left _ _
              have e2 : (Pc.ins m : Pc V).len = m.length := rfl
              omega
            refine cat_ok (st _ _ hz) (st _ _ hb) (by simp; omega) fun H2 q s2 hq2 => ?_
            walk_at "rl"
            intro p np
            walk_at "rl"
            have sp := fun {o : HO} => (st.trans s2).trans (Same_new (o := o) np)
            refine ⟨_, _, _, _, rfl, rfl, sp _ _ hl, ixN_neg1 ne, ?_⟩
            rw [set_last hu]
            refine sub _ _ (.ins (m ++ [v])) _ _ sp ⟨p, q, rfl, upd_same, lk_new np hq2⟩ ?_
            unfold ogStep
            rw [hq]
    · rintro σ H' ⟨vs', x2, x3, rfl, s5, hl, hv⟩
      rw [List.take_of_length_le (by rw [Paired.len hos]; exact Nat.le_refl _)] at hv
      walk_at "rd"
      refine ⟨_, _, rfl, .inl ⟨SqL.of hl, fun q nq => ?_⟩⟩
      exact k _ _ (s5.trans (Same_new nq)) ⟨_, ⟨q, rfl, upd_same⟩, hv.kp (Kp_new nq)⟩
end
end K7

set_option Elab.async false
set_option linter.all false
set_option maxRecDepth 100000
set_option maxHeartbeats 4000000
namespace K7
open PySem PySem.Spec PyProof.Rows L2 Ed
open C8 (Cal Met Mak pe_c pe_mk pe_mt pe_mt0)
/-! ### small words of the proofs: walk_at "lk" (what stands at an address), "ne" (two addresses differ), "rd" (the plain steps of a reading) -/
local macro_rules | `(tactic| walk_at "ne") => `(tactic| first
  | assumption
  | exact Ne.symm (by assumption)
  | exact ne_of_none (by assumption) (by assumption)
  | exact Ne.symm (ne_of_none (by assumption) (by assumption))
  | exact ne_of (by assumption) (by assumption) (by intro z; cases z)
  | exact ne_of_none (by walk_at "lk") (by assumption)
  | exact Ne.symm (ne_of_none (by walk_at "lk") (by assumption))
  | exact ne_of (by walk_at "lk") (by walk_at "lk") (by intro z; cases z))
local macro_rules | `(tactic| walk_at "lk") => `(tactic| first
  | assumption
  | exact upd_same
  | (refine lk_new (by assumption) ?_; walk_at "lk")
  | (refine Same.at (by assumption) ?_; walk_at "lk")
  | (refine Kp.at (by assumption) ?_; walk_at "lk")
  | (refine lk_ne (by walk_at "ne") ?_; walk_at "lk"))
local macro_rules | `(tactic| walk_at "at") => `(tactic| first
  | rfl
  | exact atI_last _ _
  | exact atI_neg1 (by assumption)
  | exact atI_nat (by first | assumption | rfl))
local macro_rules | `(tactic| walk_at "ix") => `(tactic| first
  | refine ⟨_, _, _, _, rfl, rfl, SqT.of (by walk_at "lk"), by walk_at "at", ?_⟩
  | refine ⟨_, _, _, _, rfl, rfl, SqL.of (by walk_at "lk"), by walk_at "at", ?_⟩)
local macro_rules | `(tactic| walk_at "ty") => `(tactic| first
  | exact TyOf.int _
  | exact TyOf.str _
  | exact TyOf.bl _
  | exact TyOf.tup (by walk_at "lk"))
local macro_rules | `(tactic| walk_at "isi") => `(tactic| first
  | refine ⟨_, _, _, _, true, rfl, .ty _, .base (by walk_at "ty"), kit_ty (by decide +kernel), ?_⟩
  | refine ⟨_, _, _, _, false, rfl, .ty _, .base (by walk_at "ty"), kit_ty (by decide +kernel), ?_⟩)
local macro_rules | `(tactic| walk_at "cnd") => `(tactic| first
  | exact ⟨by decide, by decide, by decide⟩
  | exact Or.inr ⟨by decide, by decide⟩
  | (show (0 : Int) < _; decide))
local macro_rules | `(tactic| walk_at "rd1") => `(tactic| first
  | (with_reducible refine iteN kept_ne ?_)
  | (with_reducible refine iteN ins_ne ?_)
  | refine ⟨_, rfl, ?_⟩
  | refine ⟨_, _, rfl, rfl, ?_⟩
  | walk_at "ix"
  | refine ⟨rfl, ?_⟩
  | refine ⟨_, _, rfl, ?_⟩
  | refine ⟨Nat.le_of_ble_eq_true rfl, ?_⟩
  | walk_at "isi"
  | refine .inl ⟨_, rfl, ?_⟩
  | refine ⟨_, _, _, _, rfl, rfl, (by walk_at "lk"), rfl, ?_⟩
  | refine ⟨(by walk_at "cnd"), ?_⟩
  | refine ⟨.inl ⟨rfl, _, SqL.of (by walk_at "lk")⟩, ?_⟩)
local macro_rules | `(tactic| walk_at "rd") => `(tactic| repeat (walk_at "rd1"))
local macro_rules | `(tactic| walk_at "rq") => `(tactic| ((repeat (walk_at "rd1")); (try dsimp only)))
local macro_rules | `(tactic| walk_at "ln") => `(tactic| first
  | refine ⟨_, _, rfl, .inr (SqT.of (by walk_at "lk")), ?_⟩
  | refine ⟨_, _, rfl, .inl (SqL.of (by walk_at "lk")), ?_⟩)
local macro_rules | `(tactic| walk_at "rl") => `(tactic| repeat (first | walk_at "rd1" | walk_at "ln"))
local macro_rules | `(tactic| walk_at "rlq") => `(tactic| ((repeat (first | walk_at "rd1" | walk_at "ln")); (try dsimp only)))

section
variable {P : Program} {w : World} {K : PySem.W.Frag} {mg : Str → Option Value} {base : Heap}
/-! ### _law_of_origins -/
abbrev s__law_of_origins : Stmt := top 27
theorem sc__law_of_origins : FnScope ["_law_base", "_law_origins", "_law_found", "_law_origin"] ["_law_base", "_law_origins"] (defScope s__law_of_origins) := ⟨rfl, rfl, rfl, by decide +kernel, rfl, by decide +kernel, by decide +kernel⟩
def spLof : Sp := fun vs H Q _ => ∃ (ba s : Addr) (bs ovs : List V) (os : List (Og V)), vs = [.ref ba, .ref s] ∧ H ba = some (.tup bs) ∧ H s = some (.lst ovs) ∧ OgsAt H ovs os ∧ os.length ≤ 1000 ∧ OgFine bs.length os ∧ ∀ H' v, Same H H' → TupAt H' v (tellOgs bs os) → Q v H'
def ivLof (H : Hp) (ba s l : Addr) (bs : List V) (os : List (Og V)) (i : Nat) (σ : L2.St) (H' : Hp) : Prop := ∃ (x3 : Option V),
  σ = [some (.ref ba), some (.ref s), some (.ref l), x3] ∧ Same H H' ∧ H' l = some (.lst (tellOgs bs (os.take i)))
theorem tellOgs_snoc {b : List V} {os : List (Og V)} {o : Og V} {v : V} (h : Og.get? b o = some v) : tellOgs b (os ++ [o]) = tellOgs b os ++ [v] := by
  unfold tellOgs
  rw [List.filterMap_append]
  simp [h]
theorem ok_lof (D : Dn K mg "_law_of_origins" s__law_of_origins ["_law_base", "_law_origins"]) (T : Blt mg) : Cal P w K mg base 1 "_law_of_origins" spLof [] := by
  refine cal_of D sc__law_of_origins (fun vs H Q E h => ?_) (fun f cdv A outer s H vs Q E hr h => ?_)
  · obtain ⟨ba, s, bs, ovs, os, rfl, _⟩ := h
    rfl
  · refine ⟨_, (pss_cons (ps_set (i := 2) sc__law_of_origins.nd rfl (Or.inl rfl) (pe_lst pa_nil))
  (pss_cons (ps_for PassesOwn.never rfl (pi_list (pv 1)) (pg_name (i := 3) sc__law_of_origins.nd rfl (Or.inl rfl))
  (pss_one (ps_if (pt_val (pe_callB call_isi (by rfl) T.b_isinstance (by decide +kernel) (pa_cons (pv 3) (pa_cons (pe_bltn (v := .ty "int") (by rfl) T.b_int (by decide +kernel) rfl) pa_nil)))) (pss_one (ps_expr (pe_bm PySem.F.plainAttrs_list PySem.F.slot_list_append PySem.F.type_list_append mt_append (pv 2) (pa_cons (pe_ix ix_tup (pv 0) (pv 3) (fun _ _ => rfl)) pa_nil)))) (pss_one (ps_expr (pe_bm PySem.F.plainAttrs_list PySem.F.slot_list_append PySem.F.type_list_append mt_append (pv 2) (pa_cons (pe_ix ix_tup (pv 3) pe_int (fun _ _ => rfl)) pa_nil)))))))
  (pss_one (ps_ret (pe_callTy call_tuple_of (by rfl) T.b_tuple (by decide +kernel) (pa_cons (pv 2) pa_nil)))))), ?_⟩
    obtain ⟨ba, s, bs, ovs, os, rfl, hb, hs, hos, hz, hfn, k⟩ := h
    walk_at "rd"
    intro l nl
    walk_at "rd"
    refine ⟨⟨_, SqL.of (lk_new nl hs)⟩, for_list (K := K) (a := s) (xs := ovs) (ivLof H ba s l bs os) ?_ (fun i σ H' _ ⟨_, _, s5, _⟩ => SqL.of (s5 _ _ hs)) ?_ ?_⟩
    · exact ⟨none, rfl, Same_new nl, upd_same⟩
    · rintro i x σ H' hi ⟨x3, rfl, s5, hl⟩
      obtain ⟨o, ho, hx⟩ := Paired.get hos hi
      have hil : i < os.length := lt_get ho
      have tl : (tellOgs bs (os.take i)).length = i := by
        rw [tellOgs_len (og_take hfn i), List.length_take]
        omega
      have hb' := s5 _ _ hb
      have tk := take_more ho
      cases o with
      | base k =>
        obtain rfl := hx
        have kb : k < bs.length := hfn k (mem_get ho)
        have gk : bs[k]? = some (bs[k]'kb) := List.getElem?_eq_getElem kb
        walk_at "rd"
        refine ⟨_, _, _, rfl, rfl, hl, line_lt (by omega), ?_⟩
        refine ⟨_, rfl, Same_put s5 nl, ?_⟩
        rw [upd_same, tk, tellOgs_snoc (b := bs) (o := .base k) gk]
      | new v =>
        obtain ⟨a, rfl, ha⟩ := hx.kp (Kp.of s5)
        walk_at "rd"
        refine ⟨_, _, _, rfl, rfl, hl, line_lt (by omega), ?_⟩
        refine ⟨_, rfl, Same_put s5 nl, ?_⟩
        rw [upd_same, tk, tellOgs_snoc (b := bs) (o := .new v) (v := v) rfl]
    · rintro σ H' ⟨x3, rfl, s5, hl⟩
      rw [List.take_of_length_le (by rw [Paired.len hos]; exact Nat.le_refl _)] at hl
      walk_at "rd"
      refine ⟨_, _, rfl, .inl ⟨SqL.of hl, fun q nq => ?_⟩⟩
      exact k _ _ (s5.trans (Same_new nq)) ⟨q, rfl, upd_same⟩
/-! ### _law_edits_of -/
abbrev s__law_edits_of : Stmt := top 28
theorem sc__law_edits_of : FnScope ["_law_base", "_law_pieces_here", "_law_edits", "_law_place", "_law_inserted", "_law_piece"] ["_law_base", "_law_pieces_here"] (defScope s__law_edits_of) := ⟨rfl, rfl, rfl, by decide +kernel, rfl, by decide +kernel, by decide +kernel⟩
def spLed : Sp := fun vs H Q _ => ∃ (b v : V) (bs : List V) (ps : List (Pc V)), vs = [b, v] ∧ TupAt H b bs ∧ PcsT H v ps ∧ ps.length ≤ 1000 ∧
  ∀ H' v' us, Same H H' → TupAt H' v' us → EdsAt H' us (editsOf ps bs.length) → Q v' H'
def ivLed (H H1 : Hp) (b t : V) (l : Addr) (ps : List (Pc V)) (i : Nat) (σ : L2.St) (H' : Hp) : Prop := ∃ (vs' : List V) (z : Addr) (x1 : Option V),
  σ = [some b, some t, some (.ref l), some (.int ((ps.take i).foldl editStep ([], 0, [])).2.1), some (.ref z), x1] ∧ Kp H1 H' ∧ Same H H' ∧ H' l = some (.lst vs') ∧
  EdsAt H' vs' ((ps.take i).foldl editStep ([], 0, [])).1 ∧ H' z = some (.tup ((ps.take i).foldl editStep ([], 0, [])).2.2)
theorem ok_led (D : Dn K mg "_law_edits_of" s__law_edits_of ["_law_base", "_law_pieces_here"]) (T : Blt mg) : Cal P w K mg base 1 "_law_edits_of" spLed [] := by
  refine cal_of D sc__law_edits_of (fun vs H Q E h => ?_) (fun f cdv A outer s H vs Q E hr h => ?_)
  · obtain ⟨b, v, bs, ps, rfl, _⟩ := h
    rfl
  · refine ⟨_, (pss_cons (ps_set (i := 2) sc__law_edits_of.nd rfl (Or.inl rfl) (pe_lst pa_nil))
  (pss_cons (ps_set (i := 3) sc__law_edits_of.nd rfl (Or.inl rfl) pe_int)
  (pss_cons (ps_set (i := 4) sc__law_edits_of.nd rfl (Or.inl rfl) (pe_tup pa_nil))
  (pss_cons (ps_for PassesOwn.never rfl (pi_tup (pe_op op_catA (pv 1) (pe_tup (pa_cons (pe_tup (pa_cons pe_str (pa_cons (pe_callB call_len_seq (by rfl) T.b_len (by decide +kernel) (pa_cons (pv 0) pa_nil)) (pa_cons (pe_callB call_len_seq (by rfl) T.b_len (by decide +kernel) (pa_cons (pv 0) pa_nil)) pa_nil)))) pa_nil)))) (pg_name (i := 5) sc__law_edits_of.nd rfl (Or.inl rfl))
  (pss_one (ps_if (pt_cmpR op_eq (pe_ix ix_tup (pv 5) pe_int (fun _ _ => rfl)) pe_str (nomark _)) (pss_one (ps_set (i := 4) sc__law_edits_of.nd rfl (Or.inl rfl) (pe_ix ix_tup (pv 5) pe_int (fun _ _ => rfl)))) (pss_cons (ps_if (PW.pt (pw_or (pt_cmpR op_gt (pe_ix ix_tup (pv 5) pe_int (fun _ _ => rfl)) (pv 3) (nomark _)) (pw_or1 (pt_cmpR op_gt (pe_callB call_len_seq (by rfl) T.b_len (by decide +kernel) (pa_cons (pv 4) pa_nil)) pe_int (nomark _))))) (pss_one (ps_expr (pe_bm PySem.F.plainAttrs_list PySem.F.slot_list_append PySem.F.type_list_append mt_append (pv 2) (pa_cons (pe_tup (pa_cons (pv 3) (pa_cons (pe_ix ix_tup (pv 5) pe_int (fun _ _ => rfl)) (pa_cons (pv 4) pa_nil)))) pa_nil)))) pss_nil)
  (pss_cons (ps_set (i := 3) sc__law_edits_of.nd rfl (Or.inl rfl) (pe_ix ix_tup (pv 5) pe_int (fun _ _ => rfl)))
  (pss_one (ps_set (i := 4) sc__law_edits_of.nd rfl (Or.inl rfl) (pe_tup pa_nil))))))))
  (pss_one (ps_ret (pe_callTy call_tuple_of (by rfl) T.b_tuple (by decide +kernel) (pa_cons (pv 2) pa_nil)))))))), ?_⟩
    obtain ⟨b, v, bs, ps, rfl, ⟨ba, rfl, hb⟩, ⟨us, ⟨t, rfl, ht⟩, hps⟩, hz, k⟩ := h
    obtain ⟨n, hn⟩ : ∃ n, n = bs.length := ⟨_, rfl⟩
    walk_at "rd"
    intro l nl
    walk_at "rd"
    intro z nz
    walk_at "rl"
    intro y ny
    walk_at "rd"
    intro u nu
    walk_at "rd"
    rw [← hn] at nu k ⊢
    have lus : us.length ≤ 1000 := by
      rw [Paired.len hps]
      exact hz
    refine cat_ok (lk_new nu (lk_new ny (lk_new nz (lk_new nl ht)))) upd_same (by simp; omega) fun H1 r s1 hr' => ?_
    have nz' := nn_of nz
    have ny' := nn_of (nn_of ny)
    have nu' := nn_of (nn_of (nn_of nu))
    have sA : Same (upd H l (.lst [])) H1 := (Same_new nz).trans ((Same_new ny).trans ((Same_new nu).trans s1))
    have s0 : Same H H1 := (Same_new nl).trans sA
    have hl1 : H1 l = some (.lst []) := sA _ _ upd_same
    have hz1 : H1 z = some (.tup []) := s1 _ _ (lk_new nu (lk_new ny upd_same))
    have hy1 : H1 y = some (.tup [.str "kept", .int n, .int n]) := s1 _ _ (lk_new nu upd_same)
    have hps1 : PcsAt H1 (us ++ [.ref y]) (ps ++ [.kept n n]) := Paired.app (hps.kp (Kp.of s0)) (Paired.one ⟨y, rfl, hy1⟩)
    refine ⟨r, rfl, ⟨_, SqT.of hr'⟩, for_tup (K := K) (a := r) (xs := us ++ [.ref y]) (ivLed H H1 (.ref ba) (.ref t) l (ps ++ [.kept n n])) ?_ (fun i σ H' _ ⟨_, _, _, _, k5, _⟩ => SqT.of (k5 _ _ hr')) ?_ ?_⟩
    · exact ⟨[], z, none, rfl, Kp.refl _, s0, hl1, .nil, hz1⟩
    · rintro i x σ H' hi ⟨vs', z', x1, rfl, k5, s5, hl, hv, hz'⟩
      obtain ⟨p, hp, hx⟩ := Paired.get hps1 hi
      have hx' : PcAt H' x p := hx.kp k5
      have step := fold_more editStep ([], 0, []) hp
      have bnd := editFold_len ((ps ++ [Pc.kept n n]).take i) ([], 0, [])
      have hil := lt_get hp
      rw [List.length_append] at hil
      rw [List.length_take] at bnd
      have vl : vs'.length ≤ 2000 := by
        rw [Paired.len hv]
        simp only [List.length_nil, List.length_cons] at bnd hil
        omega
      generalize hg : ((ps ++ [Pc.kept n n]).take i).foldl editStep ([], 0, []) = g at *
      obtain ⟨ed, pl, il⟩ := g
      dsimp only at *
      cases p with
      | ins m =>
        obtain ⟨y', q, rfl, hy', hq⟩ := hx'
        walk_at "rd"
        show ivLed H H1 _ _ l _ (i + 1) _ _
        unfold ivLed
        rw [step]
        exact ⟨_, _, _, rfl, k5, s5, hl, hv, hq⟩
      | kept a b =>
        obtain ⟨y', rfl, hy'⟩ := hx'
        have fin : ∀ (H2 : Hp) (ws : List V) (q : Addr), Kp H' H2 → Same H H2 → H2 l = some (.lst ws) → EdsAt H2 ws (editStep (ed, pl, il) (.kept a b)).1 → H2 q = none →
            ivLed H H1 (.ref ba) (.ref t) l (ps ++ [.kept n n]) (i + 1) [some (.ref ba), some (.ref t), some (.ref l), some (.int b), some (.ref q), some (.ref y')] (upd H2 q (.tup [])) := by
          intro H2 ws q kk ss hw he nq
          unfold ivLed
          rw [step]
          exact ⟨ws, q, _, rfl, (k5.trans kk).trans (Kp_new nq), ss.trans (Same_new nq), lk_new nq hw, he.kp (Kp_new nq), upd_same⟩
        have grow : ∀ q, H' q = none → (pl < a ∨ il ≠ []) → EdsAt (upd (upd H' q (.tup [.int pl, .int a, .ref z'])) l (.lst (vs' ++ [.ref q]))) (vs' ++ [.ref q]) (editStep (ed, pl, il) (.kept a b)).1 := by
          intro q nq c
          have e : (editStep (ed, pl, il) (.kept a b)).1 = ed ++ [(pl, a, il)] := by
            show (if pl < a ∨ il ≠ [] then ed ++ [(pl, a, il)] else ed) = _
            rw [if_pos c]
          rw [e]
          have k1 : Kp H' (upd (upd H' q (.tup [.int pl, .int a, .ref z'])) l (.lst (vs' ++ [.ref q]))) := (Kp_new nq).trans (Kp_lst (lk_new nq hl))
          refine Paired.app (hv.kp k1) (Paired.one ⟨q, z', rfl, ?_, k1 _ _ hz'⟩)
          exact Kp_lst (lk_new nq hl) _ _ upd_same
        have keep : ¬ (pl < a ∨ il ≠ []) → EdsAt H' vs' (editStep (ed, pl, il) (.kept a b)).1 := by
          intro c
          have e : (editStep (ed, pl, il) (.kept a b)).1 = ed := by
            show (if pl < a ∨ il ≠ [] then ed ++ [(pl, a, il)] else ed) = _
            rw [if_neg c]
          rw [e]
          exact hv
        walk_at "rd"
        refine iteC (fun c => ?_) (fun c => ?_)
        · walk_at "rd"
          intro q nq
          walk_at "rd"
          refine ⟨_, _, _, rfl, rfl, lk_new nq hl, line_lt (by omega), ?_⟩
          walk_at "rd"
          intro q2 nq2
          exact fin _ _ q2 ((Kp_new nq).trans (Kp_lst (lk_new nq hl))) (Same_put (s5.trans (Same_new nq)) nl) upd_same (grow q nq (.inl (by omega))) nq2
        · walk_at "rl"
          refine iteC (fun c2 => ?_) (fun c2 => ?_)
          · walk_at "rd"
            intro q nq
            walk_at "rd"
            refine ⟨_, _, _, rfl, rfl, lk_new nq hl, line_lt (by omega), ?_⟩
            walk_at "rd"
            intro q2 nq2
            exact fin _ _ q2 ((Kp_new nq).trans (Kp_lst (lk_new nq hl))) (Same_put (s5.trans (Same_new nq)) nl) upd_same (grow q nq (.inr (fun e => by rw [e] at c2; exact absurd c2 (by decide)))) nq2
          · walk_at "rd"
            intro q2 nq2
            refine fin _ _ q2 (Kp.refl _) s5 hl (keep ?_) nq2
            rintro (c3 | c3)
            · omega
            · cases il with
              | nil => exact c3 rfl
              | cons e0 r0 =>
                rw [List.length_cons] at c2
                omega
    · rintro σ H' ⟨vs', z', x1, rfl, k5, s5, hl, hv, hz'⟩
      rw [List.take_of_length_le (by rw [Paired.len hps1]; exact Nat.le_refl _)] at hv
      walk_at "rd"
      refine ⟨_, _, rfl, .inl ⟨SqL.of hl, fun q nq => ?_⟩⟩
      exact k _ _ _ (s5.trans (Same_new nq)) ⟨q, rfl, upd_same⟩ (hv.kp (Kp_new nq))
end
end K7

set_option Elab.async false
set_option linter.all false
set_option maxRecDepth 100000
set_option maxHeartbeats 4000000
namespace K7
open PySem PySem.Spec PyProof.Rows L2 Ed
open C8 (Cal Met Mak pe_c pe_mk pe_mt pe_mt0)
/-! ### small words of the proofs: walk_at "lk" (what stands at an address), "ne" (two addresses differ), "rd" (the plain steps of a reading) -/
local macro_rules | `(tactic| walk_at "ne") => `(tactic| first
  | assumption
  | exact Ne.symm (by assumption)
  | exact ne_of_none (by assumption) (by assumption)
  | exact Ne.symm (ne_of_none (by assumption) (by assumption))
  | exact ne_of (by assumption) (by assumption) (by intro z; cases z)
  | exact ne_of_none (by walk_at "lk") (by assumption)
  | exact Ne.symm (ne_of_none (by walk_at "lk") (by assumption))
  | exact ne_of (by walk_at "lk") (by walk_at "lk") (by intro z; cases z))
local macro_rules | `(tactic| walk_at "lk") => `(tactic| first
  | assumption
  | exact upd_same
  | (refine lk_new (by assumption) ?_; walk_at "lk")
  | (refine Same.at (by assumption) ?_; walk_at "lk")
  | (refine Kp.at (by assumption) ?_; walk_at "lk")
  | (refine lk_ne (by walk_at "ne") ?_; walk_at "lk"))
local macro_rules | `(tactic| walk_at "at") => `(tactic| first
  | rfl
  | exact atI_last _ _
  | exact atI_neg1 (by assumption)
  | exact atI_nat (by first | assumption | rfl))
local macro_rules | `(tactic| walk_at "ix") => `(tactic| first
  | refine ⟨_, _, _, _, rfl, rfl, SqT.of (by walk_at "lk"), by walk_at "at", ?_⟩
  | refine ⟨_, _, _, _, rfl, rfl, SqL.of (by walk_at "lk"), by walk_at "at", ?_⟩)
local macro_rules | `(tactic| walk_at "ty") => `(tactic| first
  | exact TyOf.int _
  | exact TyOf.str _
  | exact TyOf.bl _
  | exact TyOf.tup (by walk_at "lk"))
local macro_rules | `(tactic| walk_at "isi") => `(tactic| first
  | refine ⟨_, _, _, _, true, rfl, .ty _, .base (by walk_at "ty"), kit_ty (by decide +kernel), ?_⟩
  | refine ⟨_, _, _, _, false, rfl, .ty _, .base (by walk_at "ty"), kit_ty (by decide +kernel), ?_⟩)
local macro_rules | `(tactic| walk_at "cnd") => `(tactic| first
  | exact ⟨by decide, by decide, by decide⟩
  | exact Or.inr ⟨by decide, by decide⟩
  | (show (0 : Int) < _; decide))
local macro_rules | `(tactic| walk_at "rd1") => `(tactic| first
  | (with_reducible refine iteN kept_ne ?_)
  | (with_reducible refine iteN ins_ne ?_)
  | refine ⟨_, rfl, ?_⟩
  | refine ⟨_, _, rfl, rfl, ?_⟩
  | walk_at "ix"
  | refine ⟨rfl, ?_⟩
  | refine ⟨_, _, rfl, ?_⟩
  | refine ⟨Nat.le_of_ble_eq_true rfl, ?_⟩
  | walk_at "isi"
  | refine .inl ⟨_, rfl, ?_⟩
  | refine ⟨_, _, _, _, rfl, rfl, (by walk_at "lk"), rfl, ?_⟩
  | refine ⟨(by walk_at "cnd"), ?_⟩
  | refine ⟨.inl ⟨rfl, _, SqL.of (by walk_at "lk")⟩, ?_⟩)
local macro_rules | `(tactic| walk_at "rd") => `(tactic| repeat (walk_at "rd1"))
local macro_rules | `(tactic| walk_at "rq") => `(tactic| ((repeat (walk_at "rd1")); (try dsimp only)))
local macro_rules | `(tactic| walk_at "ln") => `(tactic| first
  | refine ⟨_, _, rfl, .inr (SqT.of (by walk_at "lk")), ?_⟩
  | refine ⟨_, _, rfl, .inl (SqL.of (by walk_at "lk")), ?_⟩)
local macro_rules | `(tactic| walk_at "rl") => `(tactic| repeat (first | walk_at "rd1" | walk_at "ln"))
local macro_rules | `(tactic| walk_at "rlq") => `(tactic| ((repeat (first | walk_at "rd1" | walk_at "ln")); (try dsimp only)))

/-- what the except clauses need of the two classes of errors -/
structure ExC (K : PySem.W.Frag) (CI CT : Addr) : Prop where
  xI : XfC K CI
  xT : XfC K CT
  eII : PySem.W.exmOne K (.ref CI) (.ref CI) = some true
  eTI : PySem.W.exmOne K (.ref CT) (.ref CI) = some false
  eTT : PySem.W.exmOne K (.ref CT) (.ref CT) = some true
section
variable {P : Program} {w : World} {K : PySem.W.Frag} {mg : Str → Option Value} {base : Heap} {C CI CT fI fT : Addr}
theorem ef_repl (b c p u r : V) : (ef b c p u r).lookup ("replace_range" : Str) = none := ef_no b c p u r (by decide +kernel) (by decide +kernel) (by decide +kernel) (by decide +kernel) (by decide +kernel)
theorem EdO.same {H H' : Hp} {e u r : Addr} {bv : V} {b : List V} {und : List (List (Og V))} {cur : List (Og V)} {red : List (List (Og V))} (h : EdO C H e u r bv b und cur red) (s : Same H H') : EdO C H' e u r bv b und cur red := by
  obtain ⟨nur, hb, dx, cv, pv, us, rs, he, hcv, hpv, hu, hus, hrr, hrs⟩ := h
  exact ⟨nur, hb.kp (Kp.of s), dx, cv, pv, us, rs, s _ _ he, hcv.kp (Kp.of s), hpv.kp (Kp.of s), s _ _ hu, Hist.kp (Kp.of s) hus, s _ _ hrr, Hist.kp (Kp.of s) hrs⟩
/-! ### _law_replace -/
abbrev s__law_replace : Stmt := top 29
theorem sc__law_replace : FnScope ["_law_editor", "_law_start", "_law_end", "_law_inserted", "e"] ["_law_editor", "_law_start", "_law_end", "_law_inserted"] (defScope s__law_replace) := ⟨rfl, rfl, rfl, by decide +kernel, rfl, by decide +kernel, by decide +kernel⟩
def spLrep (C : Addr) : Sp := fun vs H Q _ => ∃ (e u r : Addr) (bv iv : V) (b l : List V) (und : List (List (Og V))) (cur : List (Og V)) (red : List (List (Og V))) (a z : Nat), vs = [.ref e, .int a, .int z, iv] ∧ EdO C H e u r bv b und cur red ∧
  TupAt H iv l ∧ a ≤ z ∧ OgFine b.length cur ∧ cur.length ≤ 900 ∧ l.length ≤ 3000 ∧ und.length ≤ 1000 ∧
  (cur.length < z → ∀ H' v, Same H H' → TupAt H' v [.str "out of range", .int z] → Q v H') ∧
  (z ≤ cur.length → 2000 < cur.length - (z - a) + l.length → ∀ H' v, Same H H' → TupAt H' v [.str "too many", .int (cur.length - (z - a) + l.length : Nat)] → Q v H') ∧
  (z ≤ cur.length → cur.length - (z - a) + l.length ≤ 2000 → ∀ H' v r', But3 e u r H H' → H r' = none → EdO C H' e u r' bv b (und ++ [cur]) (putOgs cur a z l) [] → TupAt H' v [.str "told", .int (cur.length - (z - a) + l.length : Nat)] → Q v H')
theorem ok_lrep (D : Dn K mg "_law_replace" s__law_replace ["_law_editor", "_law_start", "_law_end", "_law_inserted"]) (TC : EdC K C) (XI : PySem.SupE.SupTxt P K mg "IndexOutOfRange" "place" CI fI) (XT : PySem.SupE.SupTxt P K mg "TooManyElements" "count" CT fT) (EX : ExC K CI CT)
    (mr : Mlx P w K mg base 3 C "replace_range" ["self", "start", "end", "inserted"] (spRepl C CI CT)) : Cal P w K mg base 4 "_law_replace" (spLrep C) [] := by
  obtain ⟨g, gd, F, me, bd⟩ := mr.ex
  refine cal_of D sc__law_replace (fun vs H Q E h => ?_) (fun f cdv A outer s H vs Q E hr h => ?_)
  · obtain ⟨e, u, r, bv, iv, b, l, und, cur, red, a, z, rfl, _⟩ := h
    rfl
  · refine ⟨_, pss_one (ps_try_asN (i := 4) (tb := fun W => tRet (tTup (tCons (tC (.str "told")) (tCons (tMethX C "replace_range" (spRepl C CI CT) (WE W) (tVar 0) (tCons (tVar 1) (tCons (tVar 2) (tCons (tVar 3) tNil)))) tNil))))
        (Wout := fun _ _ _ _ => False) (l := [(.ref CI, fun a cls d => tRet (tTup (tCons (tC (.str "out of range")) (tCons (tXf a cls d CI "place" (tVar 4)) tNil)))), (.ref CT, fun a cls d => tRet (tTup (tCons (tC (.str "too many")) (tCons (tXf a cls d CT "count" (tVar 4)) tNil))))])
        rfl rfl sc__law_replace.nd rfl rfl takes0
        (fun W pn xe tk _ => pss_one (ps_ret (pe_tup (pa_cons pe_str (pa_cons (by exact (pe_methX (pv 0) TC.cl me F hr bd (fun σ => passAt tk σ) (pa_cons (pv 1) (pa_cons (pv 2) (pa_cons (pv 3) pa_nil))))) pa_nil)))))
        (.cons ⟨rfl, by decide, Or.inl XI.gC⟩ (fun a oe cls d pn hz hf => pss_one (ps_ret (pe_tup (pa_cons pe_str (pa_cons (by exact (pe_xf EX.xI XI.noN hz hf (pv 4))) pa_nil)))))
          (.cons ⟨rfl, by decide, Or.inl XT.gC⟩ (fun a oe cls d pn hz hf => pss_one (ps_ret (pe_tup (pa_cons pe_str (pa_cons (by exact (pe_xf EX.xT XT.noN hz hf (pv 4))) pa_nil))))) .nil))), ?_⟩
    obtain ⟨e, u, r, bv, iv, b, l, und, cur, red, a, z, rfl, he, hi, haz, fo, zc, zl, zu, k1, k2, k3⟩ := h
    obtain ⟨nur, hb, dx, cv, pv, us, rs, hee, hrest⟩ := id he
    refine ⟨_, rfl, e, dx, _, rfl, hee, ef_repl .., _, rfl, _, rfl, _, rfl, ?_⟩
    refine ⟨e, u, r, bv, iv, b, l, und, cur, red, a, z, rfl, he, hi, haz, fo, zc, zl, zu, fun c d nd => ?_, fun c c2 d nd => ?_, fun c c2 H' r' f3 nr' he' => ?_⟩
    · refine ⟨true, EX.eII, fun _ x nx => ?_, fun q => Bool.noConfusion q⟩
      refine ⟨_, rfl, rfl, rfl, d, _, _, rfl, upd_same, rfl, ?_⟩
      walk_at "rd"
      intro p np
      exact k1 c _ _ ((Same_new nd).trans (Same_new np)) ⟨p, rfl, upd_same⟩
    · refine ⟨false, EX.eTI, (fun q => Bool.noConfusion q), fun _ => ⟨true, EX.eTT, fun _ x nx => ?_, fun q => Bool.noConfusion q⟩⟩
      refine ⟨_, rfl, rfl, rfl, d, _, _, rfl, upd_same, rfl, ?_⟩
      walk_at "rd"
      intro p np
      exact k2 c c2 _ _ ((Same_new nd).trans (Same_new np)) ⟨p, rfl, upd_same⟩
    · walk_at "rd"
      intro p np
      refine k3 c c2 _ _ r' (fun x o n1 n2 n3 q => lk_new np (f3 x o n1 n2 n3 q)) nr' (he'.same (Same_new np)) ⟨p, rfl, upd_same⟩
end
end K7

set_option Elab.async false
set_option linter.all false
set_option maxRecDepth 100000
set_option maxHeartbeats 4000000
namespace K7
open PySem PySem.Spec PyProof.Rows L2 Ed
open C8 (Cal Met Mak pe_c pe_mk pe_mt pe_mt0)
/-! ### small words of the proofs: walk_at "lk" (what stands at an address), "ne" (two addresses differ), "rd" (the plain steps of a reading) -/
local macro_rules | `(tactic| walk_at "ne") => `(tactic| first
  | assumption
  | exact Ne.symm (by assumption)
  | exact ne_of_none (by assumption) (by assumption)
  | exact Ne.symm (ne_of_none (by assumption) (by assumption))
  | exact ne_of (by assumption) (by assumption) (by intro z; cases z)
  | exact ne_of_none (by walk_at "lk") (by assumption)
  | exact Ne.symm (ne_of_none (by walk_at "lk") (by assumption))
  | exact ne_of (by walk_at "lk") (by walk_at "lk") (by intro z; cases z))
local macro_rules | `(tactic| walk_at "lk") => `(tactic| first
  | assumption
  | exact upd_same
  | (refine lk_new (by assumption) ?_; walk_at "lk")
  | (refine Same.at (by assumption) ?_; walk_at "lk")
  | (refine Kp.at (by assumption) ?_; walk_at "lk")
  | (refine lk_ne (by walk_at "ne") ?_; walk_at "lk"))
local macro_rules | `(tactic| walk_at "at") => `(tactic| first
  | rfl
  | exact atI_last _ _
  | exact atI_neg1 (by assumption)
  | exact atI_nat (by first | assumption | rfl))
local macro_rules | `(tactic| walk_at "ix") => `(tactic| first
  | refine ⟨_, _, _, _, rfl, rfl, SqT.of (by walk_at "lk"), by walk_at "at", ?_⟩
  | refine ⟨_, _, _, _, rfl, rfl, SqL.of (by walk_at "lk"), by walk_at "at", ?_⟩)
local macro_rules | `(tactic| walk_at "ty") => `(tactic| first
  | exact TyOf.int _
  | exact TyOf.str _
  | exact TyOf.bl _
  | exact TyOf.tup (by walk_at "lk"))
local macro_rules | `(tactic| walk_at "isi") => `(tactic| first
  | refine ⟨_, _, _, _, true, rfl, .ty _, .base (by walk_at "ty"), kit_ty (by decide +kernel), ?_⟩
  | refine ⟨_, _, _, _, false, rfl, .ty _, .base (by walk_at "ty"), kit_ty (by decide +kernel), ?_⟩)
local macro_rules | `(tactic| walk_at "cnd") => `(tactic| first
  | exact ⟨by decide, by decide, by decide⟩
  | exact Or.inr ⟨by decide, by decide⟩
  | (show (0 : Int) < _; decide))
local macro_rules | `(tactic| walk_at "rd1") => `(tactic| first
  | (with_reducible refine iteN kept_ne ?_)
  | (with_reducible refine iteN ins_ne ?_)
  | refine ⟨_, rfl, ?_⟩
  | refine ⟨_, _, rfl, rfl, ?_⟩
  | walk_at "ix"
  | refine ⟨rfl, ?_⟩
  | refine ⟨_, _, rfl, ?_⟩
  | refine ⟨Nat.le_of_ble_eq_true rfl, ?_⟩
  | walk_at "isi"
  | refine .inl ⟨_, rfl, ?_⟩
  | refine ⟨_, _, _, _, rfl, rfl, (by walk_at "lk"), rfl, ?_⟩
  | refine ⟨(by walk_at "cnd"), ?_⟩
  | refine ⟨.inl ⟨rfl, _, SqL.of (by walk_at "lk")⟩, ?_⟩)
local macro_rules | `(tactic| walk_at "rd") => `(tactic| repeat (walk_at "rd1"))
local macro_rules | `(tactic| walk_at "rq") => `(tactic| ((repeat (walk_at "rd1")); (try dsimp only)))
local macro_rules | `(tactic| walk_at "ln") => `(tactic| first
  | refine ⟨_, _, rfl, .inr (SqT.of (by walk_at "lk")), ?_⟩
  | refine ⟨_, _, rfl, .inl (SqL.of (by walk_at "lk")), ?_⟩)
local macro_rules | `(tactic| walk_at "rl") => `(tactic| repeat (first | walk_at "rd1" | walk_at "ln"))
local macro_rules | `(tactic| walk_at "rlq") => `(tactic| ((repeat (first | walk_at "rd1" | walk_at "ln")); (try dsimp only)))

/-! ### frames -/
/-- all but what stands at these -/
def FrL (F : List Addr) (H H' : Hp) : Prop := ∀ x o, x ∉ F → H x = some o → H' x = some o
theorem FrL.refl {F : List Addr} {H : Hp} : FrL F H H := fun _ _ _ h => h
theorem FrL.trans {F : List Addr} {H H1 H2 : Hp} (a : FrL F H H1) (b : FrL F H1 H2) : FrL F H H2 := fun x o n h => b x o n (a x o n h)
theorem FrL.same {F : List Addr} {H H1 H2 : Hp} (a : FrL F H H1) (b : Same H1 H2) : FrL F H H2 := fun x o n h => b x o (a x o n h)
theorem FrL.put {F : List Addr} {H H1 : Hp} {g : Addr} {o : HO} (a : FrL F H H1) (m : g ∈ F) : FrL F H (upd H1 g o) := fun x u n h => lk_ne (fun e => n (e ▸ m)) (a x u n h)
theorem FrL.new {F : List Addr} {H H1 : Hp} {p : Addr} {o : HO} (a : FrL F H H1) (n : H1 p = none) : FrL F H (upd H1 p o) := fun x u m h => lk_new n (a x u m h)
theorem FrL.put_new {F : List Addr} {H H1 : Hp} {p : Addr} {o : HO} (a : FrL F H H1) (n : H p = none) : FrL F H (upd H1 p o) := fun x u m h => lk_ne (ne_of_none h n) (a x u m h)
theorem FrL.but1 {F : List Addr} {H H1 H2 : Hp} {g : Addr} (a : FrL F H H1) (m : g ∈ F) (b : But1 g H1 H2) : FrL F H H2 := fun x o n h => b x o (fun e => n (e ▸ m)) (a x o n h)
theorem FrL.but3 {F : List Addr} {H H1 H2 : Hp} {e u r : Addr} (a : FrL F H H1) (m1 : e ∈ F) (m2 : u ∈ F) (m3 : r ∈ F) (b : But3 e u r H1 H2) : FrL F H H2 := fun x o n h => b x o (fun z => n (z ▸ m1)) (fun z => n (z ▸ m2)) (fun z => n (z ▸ m3)) (a x o n h)
/-- the mutable lists live -/
def Liv (G : List Addr) (H : Hp) : Prop := ∀ g ∈ G, ∃ l, H g = some (.lst l)
/-- what lies behind a frame: the lists outside G, and the tuples -/
structure FrG (G : List Addr) (H H' : Hp) : Prop where
  ls : ∀ x l, x ∉ G → H x = some (.lst l) → H' x = some (.lst l)
  kp : Kp H H'
theorem FrG.trans {G : List Addr} {H H1 H2 : Hp} (a : FrG G H H1) (b : FrG G H1 H2) : FrG G H H2 := ⟨fun x l n h => b.ls x l n (a.ls x l n h), a.kp.trans b.kp⟩
theorem FrG.of_same {G : List Addr} {H H1 : Hp} (a : Same H H1) : FrG G H H1 := ⟨fun x l _ h => a x _ h, Kp.of a⟩
theorem FrL.frg {F G : List Addr} {H H' : Hp} (f : FrL F H H') (h : ∀ x ∈ F, (x ∈ G ∧ ∃ l, H x = some (.lst l)) ∨ ∃ C dx fs, H x = some (.ins C dx fs)) : FrG G H H' := by
  refine ⟨fun x l n hx => f x _ (fun m => ?_) hx, fun x l hx => f x _ (fun m => ?_) hx⟩
  · rcases h x m with ⟨g, _⟩ | ⟨C, dx, fs, e⟩
    · exact n g
    · rw [hx] at e
      cases e
  · rcases h x m with ⟨_, l', e⟩ | ⟨C, dx, fs, e⟩
    · rw [hx] at e
      cases e
    · rw [hx] at e
      cases e
/-- a list of origins, not one of the mutable lists -/
def OgL (G : List Addr) (H : Hp) (v : V) (os : List (Og V)) : Prop := ∃ a ovs, v = .ref a ∧ a ∉ G ∧ H a = some (.lst ovs) ∧ OgsAt H ovs os
theorem OgL.fr {G : List Addr} {H H' : Hp} {v : V} {os : List (Og V)} (f : FrG G H H') : OgL G H v os → OgL G H' v os
  | ⟨a, ovs, e, n, h, p⟩ => ⟨a, ovs, e, n, f.ls a _ n h, p.kp f.kp⟩
theorem nin_of {G G' : List Addr} {H : Hp} {a : Addr} {o : HO} (s : ∀ g ∈ G', g ∈ G ∨ H g = none) (n : a ∉ G) (h : H a = some o) : a ∉ G' := fun m => by
  rcases s a m with q | q
  · exact n q
  · rw [h] at q
    cases q
theorem OgL.sub {G G' : List Addr} {H : Hp} {v : V} {os : List (Og V)} (s : ∀ g ∈ G', g ∈ G ∨ H g = none) : OgL G H v os → OgL G' H v os
  | ⟨a, ovs, e, n, h, p⟩ => ⟨a, ovs, e, nin_of s n h, h, p⟩
/-- the law's own histories of an editor -/
def StO (G : List Addr) (H : Hp) (st s1 s2 : Addr) (und : List (List (Og V))) (cur : List (Og V)) (red : List (List (Og V))) : Prop := ∃ (c0 : V) (us rs : List V),
  H st = some (.lst [c0, .ref s1, .ref s2]) ∧ OgL G H c0 cur ∧ H s1 = some (.lst us) ∧ Paired (OgL G H) us und ∧ H s2 = some (.lst rs) ∧ Paired (OgL G H) rs red
theorem StO.fr {G G' : List Addr} {H H' : Hp} {st s1 s2 : Addr} {und : List (List (Og V))} {cur : List (Og V)} {red : List (List (Og V))} (f : FrG G H H') (s : ∀ g ∈ G', g ∈ G ∨ H g = none) (h1 : ∀ l, H st = some (.lst l) → H' st = some (.lst l)) (h2 : ∀ l, H s1 = some (.lst l) → H' s1 = some (.lst l)) (h3 : ∀ l, H s2 = some (.lst l) → H' s2 = some (.lst l)) :
    StO G H st s1 s2 und cur red → StO G' H' st s1 s2 und cur red := by
  rintro ⟨c0, us, rs, a, b, c, d, e, g⟩
  have k : ∀ {v : V} {os : List (Og V)}, OgL G H v os → OgL G' H' v os := by
    rintro v os ⟨x, ovs, e, n, h, p⟩
    exact ⟨x, ovs, e, nin_of s n h, f.ls x _ n h, p.kp f.kp⟩
  exact ⟨c0, us, rs, h1 _ a, k b, h2 _ c, L2.Paired.mapP d fun _ _ q => k q, h3 _ e, L2.Paired.mapP g fun _ _ q => k q⟩
theorem EdO.fr {C : Addr} {H H' : Hp} {e u r : Addr} {bv : V} {b : List V} {und : List (List (Og V))} {cur : List (Og V)} {red : List (List (Og V))} (k : Kp H H') (h1 : ∀ o, H e = some o → H' e = some o) (h2 : ∀ o, H u = some o → H' u = some o) (h3 : ∀ o, H r = some o → H' r = some o) :
    EdO C H e u r bv b und cur red → EdO C H' e u r bv b und cur red := by
  rintro ⟨nur, hb, dx, cv, pv, us, rs, he, hcv, hpv, hu, hus, hrr, hrs⟩
  exact ⟨nur, hb.kp k, dx, cv, pv, us, rs, h1 _ he, hcv.kp k, hpv.kp k, h2 _ hu, Hist.kp k hus, h3 _ hrr, Hist.kp k hrs⟩
/-- an editor and its state: the lists u, r, st, s1, s2 among the mutable ones G -/
structure Sd (C : Addr) (G : List Addr) (H : Hp) (e u r st s1 s2 : Addr) (bv : V) (b : List V) (und : List (List (Og V))) (cur : List (Og V)) (red : List (List (Og V))) : Prop where
  ed : EdO C H e u r bv b und cur red
  so : StO G H st s1 s2 und cur red
  iu : u ∈ G
  ir : r ∈ G
  it : st ∈ G
  i1 : s1 ∈ G
  i2 : s2 ∈ G
  nd : [u, r, st, s1, s2].Nodup
/-- the sizes of the histories, what lies undermost -/
structure Bnd (b : List V) (k : Nat) (und : List (List (Og V))) (cur : List (Og V)) (red : List (List (Og V))) : Prop where
  b8 : b.length ≤ 8
  k30 : k ≤ 30
  fu : ∀ os ∈ und, OgFine b.length os ∧ os.length ≤ 8 + 3 * k
  fc : OgFine b.length cur ∧ cur.length ≤ 8 + 3 * k
  fr : ∀ os ∈ red, OgFine b.length os ∧ os.length ≤ 8 + 3 * k
  nm : und.length + red.length ≤ k
  bt : (und ++ [cur]).head? = some (baseOgs b.length)
theorem Bnd.up {b : List V} {k : Nat} {und : List (List (Og V))} {cur : List (Og V)} {red : List (List (Og V))} (h : Bnd b k und cur red) (hk : k < 30) : Bnd b (k + 1) und cur red :=
  ⟨h.b8, hk, fun os m => ⟨(h.fu os m).1, by have := (h.fu os m).2; omega⟩, ⟨h.fc.1, by have := h.fc.2; omega⟩, fun os m => ⟨(h.fr os m).1, by have := (h.fr os m).2; omega⟩, by have := h.nm; omega, h.bt⟩
theorem head_app {α : Type} : ∀ (l : List α) (x y : α), (l ++ [x] ++ [y]).head? = (l ++ [x]).head?
  | [], _, _ => rfl
  | _ :: _, _, _ => rfl
theorem Bnd.undo {b : List V} {k : Nat} {und und' : List (List (Og V))} {cur o : List (Og V)} {red : List (List (Og V))} (h : Bnd b k und cur red) (hk : k < 30) (e : und = und' ++ [o]) : Bnd b (k + 1) und' o (red ++ [cur]) := by
  subst e
  have h := h.up hk
  refine ⟨h.b8, h.k30, fun os m => h.fu os (by simp [m]), h.fu o (by simp), fun os m => ?_, ?_, ?_⟩
  · rcases List.mem_append.mp m with m | m
    · exact h.fr os m
    · rw [List.mem_singleton.mp m]
      exact h.fc
  · have := h.nm
    simp only [List.length_append, List.length_singleton] at this ⊢
    omega
  · have := h.bt
    rw [head_app] at this
    exact this
theorem Bnd.redo {b : List V} {k : Nat} {und red' : List (List (Og V))} {cur o : List (Og V)} {red : List (List (Og V))} (h : Bnd b k und cur red) (hk : k < 30) (e : red = red' ++ [o]) : Bnd b (k + 1) (und ++ [cur]) o red' := by
  subst e
  have h := h.up hk
  refine ⟨h.b8, h.k30, fun os m => ?_, h.fr o (by simp), fun os m => h.fr os (by simp [m]), ?_, ?_⟩
  · rcases List.mem_append.mp m with m | m
    · exact h.fu os m
    · rw [List.mem_singleton.mp m]
      exact h.fc
  · have := h.nm
    simp only [List.length_append, List.length_singleton] at this ⊢
    omega
  · rw [head_app]
    exact h.bt
theorem putOgs_len {os : List (Og V)} {a z : Nat} {l : List V} (haz : a ≤ z) (hz : z ≤ os.length) : (putOgs os a z l).length = os.length - (z - a) + l.length := by
  unfold putOgs
  simp only [List.length_append, List.length_take, List.length_map, List.length_drop]
  omega
theorem Bnd.rep {b : List V} {k : Nat} {und : List (List (Og V))} {cur : List (Og V)} {red : List (List (Og V))} {a z : Nat} {l : List V} (h : Bnd b k und cur red) (hk : k < 30) (haz : a ≤ z) (hz : z ≤ cur.length) (hl : l.length ≤ 3) : Bnd b (k + 1) (und ++ [cur]) (putOgs cur a z l) [] := by
  have g := h.up hk
  refine ⟨h.b8, g.k30, fun os m => ?_, ⟨putOgs_fine h.fc.1, ?_⟩, (by intro os m; cases m), ?_, ?_⟩
  · rcases List.mem_append.mp m with m | m
    · exact g.fu os m
    · rw [List.mem_singleton.mp m]
      exact g.fc
  · have := h.fc.2
    rw [putOgs_len haz hz]
    omega
  · have := h.nm
    simp only [List.length_append, List.length_singleton, List.length_nil] at this ⊢
    omega
  · rw [head_app]
    exact h.bt
theorem EdO.put {C : Addr} {H : Hp} {e u r x : Addr} {bv : V} {b l l' : List V} {und : List (List (Og V))} {cur : List (Og V)} {red : List (List (Og V))} (h : EdO C H e u r bv b und cur red) (hx : H x = some (.lst l)) (n1 : x ≠ u) (n2 : x ≠ r) : EdO C (upd H x (.lst l')) e u r bv b und cur red := by
  obtain ⟨_, _, dx, cv, pv, us, rs, he, _⟩ := id h
  exact h.fr (Kp_lst hx) (fun o q => lk_ne (ne_of he hx (by intro z; cases z)) q) (fun o q => lk_ne (Ne.symm n1) q) (fun o q => lk_ne (Ne.symm n2) q)
theorem EdO.ls {C : Addr} {H : Hp} {e u r : Addr} {bv : V} {b : List V} {und : List (List (Og V))} {cur : List (Og V)} {red : List (List (Og V))} (h : EdO C H e u r bv b und cur red) : (∃ l, H u = some (.lst l)) ∧ ∃ l, H r = some (.lst l) := by
  obtain ⟨_, _, dx, cv, pv, us, rs, he, _, _, hu, _, hr, _⟩ := h
  exact ⟨⟨_, hu⟩, ⟨_, hr⟩⟩
theorem TapeAt.but3 {H H' : Hp} {a c e u r : Addr} (h : TapeAt H a c) (f : But3 e u r H H') (n1 : a ≠ e) (n2 : a ≠ u) (n3 : a ≠ r) (m1 : c ≠ e) (m2 : c ≠ u) (m3 : c ≠ r) : TapeAt H' a c := by
  obtain ⟨ns, q, m, t, ha, hq, hc⟩ := h
  exact ⟨ns, q, m, t, f _ _ n1 n2 n3 ha, hq, f _ _ m1 m2 m3 hc⟩
section
variable {P : Program} {w : World} {K : PySem.W.Frag} {mg : Str → Option Value} {base : Heap} {C : Addr}
theorem ef_undo (b c p u r : V) : (ef b c p u r).lookup ("undo" : Str) = none := ef_no b c p u r (by decide +kernel) (by decide +kernel) (by decide +kernel) (by decide +kernel) (by decide +kernel)
theorem ef_redo (b c p u r : V) : (ef b c p u r).lookup ("redo" : Str) = none := ef_no b c p u r (by decide +kernel) (by decide +kernel) (by decide +kernel) (by decide +kernel) (by decide +kernel)
theorem alk2 {H : Hp} {a b : Addr} {x : Str} {i j : Int} (ha : H a = some (.tup [.str x, .int i])) (hb : H b = some (.tup [.str x, .int j])) (e : i = j) : Alk H 2 (.ref a) (.ref b) := by
  subst e
  exact .inr ⟨a, b, _, _, rfl, rfl, ha, hb, (by simp), .cons (.inl ⟨rfl, trivial⟩) (.cons (.inl ⟨rfl, trivial⟩) .nil)⟩
theorem StO.same {G : List Addr} {H H' : Hp} {st s1 s2 : Addr} {und : List (List (Og V))} {cur : List (Og V)} {red : List (List (Og V))} (h : StO G H st s1 s2 und cur red) (s : Same H H') : StO G H' st s1 s2 und cur red :=
  h.fr (FrG.of_same s) (fun g hg => .inl hg) (fun l q => s _ _ q) (fun l q => s _ _ q) (fun l q => s _ _ q)
def ivNew (A4 : Hp) (D : Addr) (lx : List V) (i : Nat) (H' : Hp) : Prop := ∃ ovs, H' D = some (.lst ovs) ∧ OgsAt H' ovs ((lx.take i).map .new) ∧ Same A4 H'
theorem pin {H A : Hp} {x y q : Addr} {o o' : HO} (s : ∀ o, Same H (upd A x o)) (n : upd (upd A x o) y o' q = none) : Same H (upd A x o) := s o
theorem OgL.up {G G' : List Addr} {H H' : Hp} {v : V} {os : List (Og V)} (f : FrG G H H') (s : ∀ g ∈ G', g ∈ G ∨ H g = none) : OgL G H v os → OgL G' H' v os
  | ⟨a, ovs, e, n, h, p⟩ => ⟨a, ovs, e, nin_of s n h, f.ls a _ n h, p.kp f.kp⟩
theorem But3.kp {C : Addr} {H H' : Hp} {e u r : Addr} {bv : V} {b : List V} {und : List (List (Og V))} {cur : List (Og V)} {red : List (List (Og V))} (h : EdO C H e u r bv b und cur red) (f : But3 e u r H H') : Kp H H' := by
  obtain ⟨_, _, dx, cv, pv, us, rs, he, _, _, hu, _, hr, _⟩ := h
  exact fun x l q => f x _ (ne_of q he (by intro z; cases z)) (ne_of q hu (by intro z; cases z)) (ne_of q hr (by intro z; cases z)) q
/-- the new ones of these origins are elements -/
def OgEl (H : Hp) (os : List (Og V)) : Prop := ∀ x, Og.new x ∈ os → El H x
def AllEl (H : Hp) (und : List (List (Og V))) (cur : List (Og V)) (red : List (List (Og V))) : Prop := ∀ os, os ∈ und ∨ os = cur ∨ os ∈ red → OgEl H os
theorem pm_undo {und und' : List (List (Og V))} {o cur : List (Og V)} {red : List (List (Og V))} (e : und = und' ++ [o]) (os : List (Og V)) (h : os ∈ und' ∨ os = o ∨ os ∈ red ++ [cur]) : os ∈ und ∨ os = cur ∨ os ∈ red := by
  subst e
  rcases h with h | h | h
  · exact .inl (List.mem_append_left _ h)
  · exact .inl (List.mem_append_right _ (by rw [h]; exact List.mem_singleton_self _))
  · rcases List.mem_append.mp h with h | h
    · exact .inr (.inr h)
    · exact .inr (.inl (List.mem_singleton.mp h))
theorem pm_redo {und red' : List (List (Og V))} {o cur : List (Og V)} {red : List (List (Og V))} (e : red = red' ++ [o]) (os : List (Og V)) (h : os ∈ und ++ [cur] ∨ os = o ∨ os ∈ red') : os ∈ und ∨ os = cur ∨ os ∈ red := by
  subst e
  rcases h with h | h | h
  · rcases List.mem_append.mp h with h | h
    · exact .inl h
    · exact .inr (.inl (List.mem_singleton.mp h))
  · exact .inr (.inr (List.mem_append_right _ (by rw [h]; exact List.mem_singleton_self _)))
  · exact .inr (.inr (List.mem_append_left _ h))
theorem ael_rep {H H' : Hp} {und : List (List (Og V))} {cur : List (Og V)} {red : List (List (Og V))} {a z : Nat} {l : List V} (h : AllEl H und cur red) (k : Kp H H') (hl : Els H' l) : AllEl H' (und ++ [cur]) (putOgs cur a z l) [] := by
  intro os m x hx
  rcases m with m | m | m
  · rcases List.mem_append.mp m with m | m
    · exact (h os (.inl m) x hx).kp k
    · exact (h os (.inr (.inl (List.mem_singleton.mp m))) x hx).kp k
  · subst m
    unfold putOgs at hx
    rcases List.mem_append.mp hx with hx | hx
    · rcases List.mem_append.mp hx with hx | hx
      · exact (h cur (.inr (.inl rfl)) x (List.mem_of_mem_take hx)).kp k
      · obtain ⟨y, hy, e⟩ := List.mem_map.mp hx
        injection e with e
        rw [← e]
        exact hl y hy
    · exact (h cur (.inr (.inl rfl)) x (List.mem_of_mem_drop hx)).kp k
  · cases m
/-! ### _law_deed -/
abbrev s__law_deed : Stmt := top 30
theorem sc__law_deed : FnScope ["_law_tape_here", "_law_pool_here", "_law_editor", "_law_state", "_law_choice", "_law_size", "_law_told", "_law_due", "_law_end", "_law_start", "_law_inserted", "_law_i", "_law_element_here"] ["_law_tape_here", "_law_pool_here", "_law_editor", "_law_state"] (defScope s__law_deed) := ⟨rfl, rfl, rfl, by decide +kernel, rfl, by decide +kernel, by decide +kernel⟩
def spDeed (C : Addr) : Sp := fun vs H Q _ => ∃ (a p e st : Addr), vs = [.ref a, .ref p, .ref e, .ref st] ∧ ∃ (c : Addr) (l : List V) (G : List Addr) (u r s1 s2 : Addr) (bv : V) (b : List V) (und : List (List (Og V))) (cur : List (Og V)) (red : List (List (Og V))) (k : Nat),
  TapeAt H a c ∧ a ∈ G ∧ c ∉ G ∧ p ∉ G ∧ H p = some (.lst l) ∧ Els H l ∧ 1 ≤ l.length ∧ l.length ≤ 6 ∧ Liv G H ∧ Sd C G H e u r st s1 s2 bv b und cur red ∧ a ∉ [u, r, st, s1, s2] ∧ Bnd b k und cur red ∧ AllEl H und cur red ∧ k < 30 ∧
  ∀ H' G' r' s2' und' cur' red', FrL [a, e, u, r, st, s1, s2] H H' → Liv G' H' → (∀ g ∈ G, g ∉ [u, r, st, s1, s2] → g ∈ G') → (∀ g ∈ G', g ∈ G ∨ H g = none) → TapeAt H' a c → Sd C G' H' e u r' st s1 s2' bv b und' cur' red' → (r' = r ∨ H r' = none) → (s2' = s2 ∨ H s2' = none) → Bnd b (k + 1) und' cur' red' → AllEl H' und' cur' red' → Q (.bl true) H'
theorem ok_deed (D : Dn K mg "_law_deed" s__law_deed ["_law_tape_here", "_law_pool_here", "_law_editor", "_law_state"]) (T : Blt mg) (c__law_draw : Cal P w K mg base 1 "_law_draw" spDraw []) (c__law_alike : Cal P w K mg base 2 "_law_alike" (spAlike 2) [])
    (c__law_replace : Cal P w K mg base 4 "_law_replace" (spLrep C) []) (m_undo : Met P w K mg base 3 C "undo" (spUndo C) []) (m_redo : Met P w K mg base 3 C "redo" (spRedo C) []) : Cal P w K mg base 5 "_law_deed" (spDeed C) [] := by
  refine cal_of D sc__law_deed (fun vs H Q E h => ?_) (fun f cdv A outer s H vs Q E hr h => ?_)
  · obtain ⟨a, p, e, st, rfl, _⟩ := h
    rfl
  · refine ⟨_, (pss_cons (ps_set (i := 4) sc__law_deed.nd rfl (Or.inl rfl) (pe_c c__law_draw hr (by decide) (by rfl) (pa_cons (pv 0) (pa_cons pe_int pa_nil))))
  (pss_cons (ps_set (i := 5) sc__law_deed.nd rfl (Or.inl rfl) (pe_callB call_len_seq (by rfl) T.b_len (by decide +kernel) (pa_cons (pe_ix ix_list (pv 3) pe_int (fun _ _ => rfl)) pa_nil)))
  (pss_cons (ps_if (pt_cmpR op_lt (pv 4) pe_int (nomark _)) (pss_cons (ps_set (i := 6) sc__law_deed.nd rfl (Or.inl rfl) (pe_mt0 m_undo hr (by decide) (pv 2)))
  (pss_cons (ps_set (i := 7) sc__law_deed.nd rfl (Or.inl rfl) (pe_cmpR op_gt (pe_callB call_len_seq (by rfl) T.b_len (by decide +kernel) (pa_cons (pe_ix ix_list (pv 3) pe_int (fun _ _ => rfl)) pa_nil)) pe_int (nomark _)))
  (pss_cons (ps_if (pt_truth (pv 7) (by intro _; rfl)) (pss_cons (ps_expr (pe_bm PySem.F.plainAttrs_list PySem.F.slot_list_append PySem.F.type_list_append mt_append (pe_ix ix_list (pv 3) pe_int (fun _ _ => rfl)) (pa_cons (pe_ix ix_list (pv 3) pe_int (fun _ _ => rfl)) pa_nil)))
  (pss_one (ps_asg (pe_bm0 PySem.F.plainAttrs_list PySem.F.slot_list_pop PySem.F.type_list_pop mt_pop (pe_ix ix_list (pv 3) pe_int (fun _ _ => rfl))) (pg_sub (pv 3) pe_int set_list)))) pss_nil)
  (pss_one (ps_ret (pe_and (pe_callB call_isi (by rfl) T.b_isinstance (by decide +kernel) (pa_cons (pv 6) (pa_cons (pe_bltn (v := .ty "bool") (by rfl) T.b_bool (by decide +kernel) rfl) pa_nil))) (pe_one (pe_cmpR op_eq (pv 6) (pv 7) (nomark _))))))))) pss_nil)
  (pss_cons (ps_if (pt_cmpR op_lt (pv 4) pe_int (nomark _)) (pss_cons (ps_set (i := 6) sc__law_deed.nd rfl (Or.inl rfl) (pe_mt0 m_redo hr (by decide) (pv 2)))
  (pss_cons (ps_set (i := 7) sc__law_deed.nd rfl (Or.inl rfl) (pe_cmpR op_gt (pe_callB call_len_seq (by rfl) T.b_len (by decide +kernel) (pa_cons (pe_ix ix_list (pv 3) pe_int (fun _ _ => rfl)) pa_nil)) pe_int (nomark _)))
  (pss_cons (ps_if (pt_truth (pv 7) (by intro _; rfl)) (pss_cons (ps_expr (pe_bm PySem.F.plainAttrs_list PySem.F.slot_list_append PySem.F.type_list_append mt_append (pe_ix ix_list (pv 3) pe_int (fun _ _ => rfl)) (pa_cons (pe_ix ix_list (pv 3) pe_int (fun _ _ => rfl)) pa_nil)))
  (pss_one (ps_asg (pe_bm0 PySem.F.plainAttrs_list PySem.F.slot_list_pop PySem.F.type_list_pop mt_pop (pe_ix ix_list (pv 3) pe_int (fun _ _ => rfl))) (pg_sub (pv 3) pe_int set_list)))) pss_nil)
  (pss_one (ps_ret (pe_and (pe_callB call_isi (by rfl) T.b_isinstance (by decide +kernel) (pa_cons (pv 6) (pa_cons (pe_bltn (v := .ty "bool") (by rfl) T.b_bool (by decide +kernel) rfl) pa_nil))) (pe_one (pe_cmpR op_eq (pv 6) (pv 7) (nomark _))))))))) pss_nil)
  (pss_cons (ps_set (i := 8) sc__law_deed.nd rfl (Or.inl rfl) (pe_c c__law_draw hr (by decide) (by rfl) (pa_cons (pv 0) (pa_cons (pe_op op_add (pv 5) pe_int) pa_nil))))
  (pss_cons (ps_set (i := 9) sc__law_deed.nd rfl (Or.inl rfl) (pe_c c__law_draw hr (by decide) (by rfl) (pa_cons (pv 0) (pa_cons (pe_op op_add (pv 8) pe_int) pa_nil))))
  (pss_cons (ps_setLc (i := 10) (own := [("_law_i", 11)]) (g := gName 11) (tt := tYes) rfl sc__law_deed.nd rfl rfl (sw_true rfl rfl rfl (by decide +kernel)) (pi_range1 (by rfl) T.b_range (pa_cons (pe_c c__law_draw hr (by decide) (by rfl) (pa_cons (pv 0) (pa_cons pe_int pa_nil))) pa_nil)) (blkOk_by (own := [("_law_i", 11)]) (N := ["_law_tape_here", "_law_pool_here", "_law_editor", "_law_state", "_law_choice", "_law_size", "_law_told", "_law_due", "_law_end", "_law_start", "_law_inserted", "_law_i", "_law_element_here"]) (sc := defScope s__law_deed) (by decide +kernel)) (fun _ _ _ _ _ => pg_name (i := 11) sc__law_deed.nd rfl (Or.inl rfl)) (fun _ _ _ _ _ => pts_nil) (fun _ _ _ _ _ => (pe_ix (show IxR _ (rIxL K) from ix_list) (pv 1) (pe_c c__law_draw hr (by decide) (by rfl) (pa_cons (pv 0) (pa_cons (pe_callB (show CallR _ (.builtin "len") (rLenS K) from call_len_seq) (by rfl) T.b_len (by decide +kernel) (pa_cons (pv 1) pa_nil)) pa_nil))) (fun _ _ => rfl))))
  (pss_cons (ps_if (PW.pt (pw_and (pt_cmpR op_eq (pv 4) pe_int (nomark _)) (pw_and (pt_cmpR op_gt (pv 5) pe_int (nomark _)) (pw_and1 (pt_cmpR op_eq (pe_c c__law_draw hr (by decide) (by rfl) (pa_cons (pv 0) (pa_cons pe_int pa_nil))) pe_int (nomark _)))))) (pss_one (ps_ret (pe_c c__law_alike hr (by decide) (by rfl) (pa_cons (pe_c c__law_replace hr (by decide) (by rfl) (pa_cons (pv 2) (pa_cons (pv 9) (pa_cons (pv 9) (pa_cons (pe_op op_repN (pe_tup (pa_cons pe_int pa_nil)) pe_int) pa_nil))))) (pa_cons (pe_tup (pa_cons pe_str (pa_cons (pe_op op_add pe_int (pv 5)) pa_nil))) pa_nil))))) pss_nil)
  (pss_cons (ps_if (pt_cmpR op_eq (pv 4) pe_int (nomark _)) (pss_one (ps_ret (pe_c c__law_alike hr (by decide) (by rfl) (pa_cons (pe_c c__law_replace hr (by decide) (by rfl) (pa_cons (pv 2) (pa_cons (pv 9) (pa_cons (pe_op op_add (pe_op op_add (pv 5) pe_int) (pv 8)) (pa_cons (pe_callTy call_tuple_of (by rfl) T.b_tuple (by decide +kernel) (pa_cons (pv 10) pa_nil)) pa_nil))))) (pa_cons (pe_tup (pa_cons pe_str (pa_cons (pe_op op_add (pe_op op_add (pv 5) pe_int) (pv 8)) pa_nil))) pa_nil))))) pss_nil)
  (pss_cons (ps_if (pt_cmpR op_eq (pv 4) pe_int (nomark _)) (pss_cons (ps_set (i := 9) sc__law_deed.nd rfl (Or.inl rfl) (pv 8))
  (pss_one (ps_set (i := 10) sc__law_deed.nd rfl (Or.inl rfl) (pe_lst pa_nil)))) pss_nil)
  (pss_cons (ps_expr (pe_bm PySem.F.plainAttrs_list PySem.F.slot_list_append PySem.F.type_list_append mt_append (pe_ix ix_list (pv 3) pe_int (fun _ _ => rfl)) (pa_cons (pe_ix ix_list (pv 3) pe_int (fun _ _ => rfl)) pa_nil)))
  (pss_cons (ps_asg (pe_lst pa_nil) (pg_sub (pv 3) pe_int set_list))
  (pss_cons (ps_asg (pe_op op_cat (pe_op op_cat (pe_slice sl_list (pe_ix ix_list (pv 3) pe_int (fun _ _ => rfl)) po_none (po_some (pv 9))) (pe_lc (own := [("_law_element_here", 12)]) (g := gName 12) (tt := tYes) rfl sc__law_deed.nd (pi_list (pv 10)) (blkOk_by (own := [("_law_element_here", 12)]) (N := ["_law_tape_here", "_law_pool_here", "_law_editor", "_law_state", "_law_choice", "_law_size", "_law_told", "_law_due", "_law_end", "_law_start", "_law_inserted", "_law_i", "_law_element_here"]) (sc := defScope s__law_deed) (by decide +kernel)) (fun _ _ _ _ _ => pg_name (i := 12) sc__law_deed.nd rfl (Or.inl rfl)) (fun _ _ _ _ _ => pts_nil) (fun _ _ _ _ _ => (pe_tup (pa_cons (pv 12) pa_nil))))) (pe_slice sl_list (pe_ix ix_list (pv 3) pe_int (fun _ _ => rfl)) (po_some (pv 8)) po_none)) (pg_sub (pv 3) pe_int set_list))
  (pss_one (ps_ret (pe_c c__law_alike hr (by decide) (by rfl) (pa_cons (pe_c c__law_replace hr (by decide) (by rfl) (pa_cons (pv 2) (pa_cons (pv 9) (pa_cons (pv 8) (pa_cons (pe_callTy call_tuple_of (by rfl) T.b_tuple (by decide +kernel) (pa_cons (pv 10) pa_nil)) pa_nil))))) (pa_cons (pe_tup (pa_cons pe_str (pa_cons (pe_callB call_len_seq (by rfl) T.b_len (by decide +kernel) (pa_cons (pe_ix ix_list (pv 3) pe_int (fun _ _ => rfl)) pa_nil)) pa_nil))) pa_nil)))))))))))))))))), ?_⟩
    obtain ⟨a, p, e, st, rfl, c, l, G, u, r, s1, s2, bv, b, und, cur, red, k, ht, ia, ncG, npG, hp, hel, l1, l6, lv, ⟨hed, ⟨c0, us, rs, hst, hc0, hs1, hus, hs2, hrs⟩, iu, ir, it, i1, i2, nd⟩, na, bn, ael, k30, kk⟩ := h
    walk_at "rd"
    refine ⟨_, ht, by decide, by decide, fun d0 H1 _ _ b1 t1 => ?_⟩
    have nd0 := nd
    simp only [List.nodup_cons, List.mem_cons, List.not_mem_nil, or_false, not_or, not_false_eq_true, List.nodup_nil, and_true] at nd na
    obtain ⟨⟨nur, nut, nu1, nu2⟩, ⟨nrt, nr1, nr2⟩, ⟨nt1, nt2⟩, n12⟩ := nd
    obtain ⟨nau, nar, nat, na1, na2⟩ := na
    obtain ⟨al, hal⟩ := ht.lst
    obtain ⟨dx, efs, hee⟩ : ∃ dx efs, H e = some (.ins C dx efs) := by
      obtain ⟨_, _, dx, cv, pv, us, rs, he, _⟩ := hed
      exact ⟨_, _, he⟩
    have nea : e ≠ a := ne_of hee hal (by intro z; cases z)
    have net : e ≠ st := ne_of hee hst (by intro z; cases z)
    have ne1 : e ≠ s1 := ne_of hee hs1 (by intro z; cases z)
    have ne2 : e ≠ s2 := ne_of hee hs2 (by intro z; cases z)
    have hF : ∀ x ∈ [a, e, u, r, st, s1, s2], (x ∈ G ∧ ∃ l, H x = some (.lst l)) ∨ ∃ C dx fs, H x = some (.ins C dx fs) := by
      intro x hx
      simp only [List.mem_cons, List.not_mem_nil, or_false] at hx
      rcases hx with rfl | rfl | rfl | rfl | rfl | rfl | rfl
      · exact .inl ⟨ia, lv _ ia⟩
      · exact .inr ⟨_, _, _, hee⟩
      · exact .inl ⟨iu, lv _ iu⟩
      · exact .inl ⟨ir, lv _ ir⟩
      · exact .inl ⟨it, lv _ it⟩
      · exact .inl ⟨i1, lv _ i1⟩
      · exact .inl ⟨i2, lv _ i2⟩
    have frG : ∀ {H'}, FrL [a, e, u, r, st, s1, s2] H H' → FrG G H H' := fun f => f.frg hF
    have nae : a ≠ e := Ne.symm nea
    have ncu : c ≠ u := fun z => ncG (z ▸ iu)
    have ncr : c ≠ r := fun z => ncG (z ▸ ir)
    have nct : c ≠ st := fun z => ncG (z ▸ it)
    have nc1 : c ≠ s1 := fun z => ncG (z ▸ i1)
    have nc2 : c ≠ s2 := fun z => ncG (z ▸ i2)
    have nce : c ≠ e := by
      obtain ⟨_, _, _, _, _, _, hc⟩ := ht
      exact ne_of hc hee (by intro z; cases z)
    have done : ∀ H' und' cur' red', FrL [a, e, u, r, st, s1, s2] H H' → TapeAt H' a c → EdO C H' e u r bv b und' cur' red' → StO G H' st s1 s2 und' cur' red' → Bnd b (k + 1) und' cur' red' → (∀ os, os ∈ und' ∨ os = cur' ∨ os ∈ red' → os ∈ und ∨ os = cur ∨ os ∈ red) → Q (.bl true) H' := by
      intro H' und' cur' red' ff tt ee ss bb pm
      obtain ⟨hu', hr'⟩ := ee.ls
      obtain ⟨q0, qu, qr, qst, _, q1, _, q2, _⟩ := id ss
      refine kk H' G r s2 und' cur' red' ff (fun g hg => ?_) (fun g hg _ => hg) (fun g hg => .inl hg) tt ⟨ee, ss, iu, ir, it, i1, i2, nd0⟩ (.inl rfl) (.inl rfl) bb (fun os m x hx => (ael os (pm os m) x hx).kp (frG ff).kp)
      by_cases m : g ∈ [a, e, u, r, st, s1, s2]
      · simp only [List.mem_cons, List.not_mem_nil, or_false] at m
        rcases m with rfl | rfl | rfl | rfl | rfl | rfl | rfl
        · exact tt.lst
        · obtain ⟨l', hl'⟩ := lv _ hg
          rw [hee] at hl'
          cases hl'
        · exact hu'
        · exact hr'
        · exact ⟨_, qst⟩
        · exact ⟨_, q1⟩
        · exact ⟨_, q2⟩
      · obtain ⟨l', hl'⟩ := lv g hg
        exact ⟨l', ff g _ m hl'⟩
    have f1 : FrL [a, e, u, r, st, s1, s2] H H1 := FrL.refl.but1 (by simp) b1
    have g1 := frG f1
    obtain ⟨ca, covs, rfl, nca, hca, hcog⟩ := hc0
    have hca1 := g1.ls _ _ nca hca
    have hst1 := b1 _ _ (Ne.symm nat) hst
    have hs11 := b1 _ _ (Ne.symm na1) hs1
    have hs21 := b1 _ _ (Ne.symm na2) hs2
    have ed1 : EdO C H1 e u r bv b und cur red := hed.fr g1.kp (fun o q => b1 _ _ nea q) (fun o q => b1 _ _ (Ne.symm nau) q) (fun o q => b1 _ _ (Ne.symm nar) q)
    have he1 := b1 _ _ nea hee
    have nm := bn.nm
    have so1 : StO G H1 st s1 s2 und cur red := ⟨.ref ca, us, rs, hst1, ⟨ca, covs, rfl, nca, hca1, hcog.kp g1.kp⟩, hs11, L2.Paired.mapP hus fun _ _ q => q.fr g1, hs21, L2.Paired.mapP hrs fun _ _ q => q.fr g1⟩
    walk_at "rl"
    refine iteC (fun cU => ?_) (fun cU => ?_)
    · -- undo
      walk_at "rl"
      obtain ⟨_, _, dx1, cv1, pv1, us1, rs1, he1, _⟩ := id ed1
      refine ⟨e, dx1, _, rfl, he1, ef_undo .., ?_⟩
      refine ⟨e, u, r, bv, b, und, cur, red, rfl, ed1, fun os h => ⟨(bn.fu os h).1, by have := (bn.fu os h).2; omega⟩, by omega, fun hn => ?_, fun und' o hn H2 f3 ed2 => ?_⟩
      · have e1 : us = [] := by
          rw [hn] at hus
          exact List.eq_nil_of_length_eq_zero (Paired.len hus)
        subst e1
        walk_at "rl"
        have q := done H1 _ _ _ f1 t1 ed1 so1 (bn.up k30) (fun _ m => m)
        rw [← decide_eq_true (Eq.refl (V.bl false))] at q
        exact q
      · have f2 := f1.but3 (by simp) (by simp) (by simp) f3
        have g2 := frG f2
        have hst2 := f3 _ _ (Ne.symm net) (Ne.symm nut) (Ne.symm nrt) hst1
        have hs12 := f3 _ _ (Ne.symm ne1) (Ne.symm nu1) (Ne.symm nr1) hs11
        have hs22 := f3 _ _ (Ne.symm ne2) (Ne.symm nu2) (Ne.symm nr2) hs21
        have hca2 := g2.ls _ _ nca hca
        obtain ⟨y, hy, hyo⟩ := Paired.last (hn ▸ hus) (last_snoc und' o)
        have lus : 0 < us.length := by
          cases us with
          | nil => cases hy
          | cons z r => exact Nat.succ_pos _
        walk_at "rl"
        refine iteC (fun _ => ?_) (fun c => absurd c (by omega))
        walk_at "rl"
        refine ⟨_, _, _, rfl, rfl, hs22, line_lt (by rw [Paired.len hrs]; omega), ?_⟩
        walk_at "rl"
        refine ⟨_, _, _, rfl, rfl, lk_ne n12 hs12, last_ix hy, ?_⟩
        walk_at "rl"
        have fF := ((f2.put (g := s2) (o := .lst (rs ++ [.ref ca])) (by simp)).put (g := s1) (o := .lst us.dropLast) (by simp)).put (g := st) (o := .lst [y, .ref s1, .ref s2]) (by simp)
        have gF := frG fF
        have ev2 : decide (V.bl true = V.bl (decide ((0 : Int) < (us.length : Int)))) = true := decide_eq_true (by rw [decide_eq_true (show (0 : Int) < (us.length : Int) by omega)])
        have q := done _ und' o (red ++ [cur]) fF ((((t1.but3 f3 nae nau nar nce ncu ncr).putNe (Ne.symm na2) (Ne.symm nc2)).putNe (Ne.symm na1) (Ne.symm nc1)).putNe (Ne.symm nat) (Ne.symm nct))
          (((ed2.put hs22 (Ne.symm nu2) (Ne.symm nr2)).put (lk_ne n12 hs12) (Ne.symm nu1) (Ne.symm nr1)).put (lk_ne nt1 (lk_ne nt2 hst2)) (Ne.symm nut) (Ne.symm nrt))
          ⟨y, us.dropLast, rs ++ [.ref ca], upd_same, hyo.fr gF, lk_ne (Ne.symm nt1) upd_same, ?_, lk_ne (Ne.symm nt2) (lk_ne (Ne.symm n12) upd_same), Paired.app (L2.Paired.mapP hrs fun _ _ q => q.fr gF) (Paired.one ⟨ca, covs, rfl, nca, gF.ls _ _ nca hca, hcog.kp gF.kp⟩)⟩
          (bn.undo k30 hn) (pm_undo hn)
        · rw [← ev2] at q
          exact q
        · have q := Paired.front (hn ▸ hus)
          rw [dropLast_snoc] at q
          exact L2.Paired.mapP q fun _ _ z => z.fr gF
    walk_at "rl"
    refine iteC (fun cR => ?_) (fun cR => ?_)
    · -- redo
      walk_at "rl"
      obtain ⟨_, _, dx1, cv1, pv1, us1, rs1, he1, _⟩ := id ed1
      refine ⟨e, dx1, _, rfl, he1, ef_redo .., ?_⟩
      refine ⟨e, u, r, bv, b, und, cur, red, rfl, ed1, fun os h => ⟨(bn.fr os h).1, by have := (bn.fr os h).2; omega⟩, by omega, fun hn => ?_, fun red' o hn H2 f3 ed2 => ?_⟩
      · have e1 : rs = [] := by
          rw [hn] at hrs
          exact List.eq_nil_of_length_eq_zero (Paired.len hrs)
        subst e1
        walk_at "rl"
        have q := done H1 _ _ _ f1 t1 ed1 so1 (bn.up k30) (fun _ m => m)
        rw [← decide_eq_true (Eq.refl (V.bl false))] at q
        exact q
      · have f2 := f1.but3 (by simp) (by simp) (by simp) f3
        have g2 := frG f2
        have hst2 := f3 _ _ (Ne.symm net) (Ne.symm nut) (Ne.symm nrt) hst1
        have hs12 := f3 _ _ (Ne.symm ne1) (Ne.symm nu1) (Ne.symm nr1) hs11
        have hs22 := f3 _ _ (Ne.symm ne2) (Ne.symm nu2) (Ne.symm nr2) hs21
        have hca2 := g2.ls _ _ nca hca
        obtain ⟨y, hy, hyo⟩ := Paired.last (hn ▸ hrs) (last_snoc red' o)
        have lrs : 0 < rs.length := by
          cases rs with
          | nil => cases hy
          | cons z r => exact Nat.succ_pos _
        walk_at "rl"
        refine iteC (fun _ => ?_) (fun c => absurd c (by omega))
        walk_at "rl"
        refine ⟨_, _, _, rfl, rfl, hs12, line_lt (by rw [Paired.len hus]; omega), ?_⟩
        walk_at "rl"
        refine ⟨_, _, _, rfl, rfl, lk_ne (Ne.symm n12) hs22, last_ix hy, ?_⟩
        walk_at "rl"
        have fF := ((f2.put (g := s1) (o := .lst (us ++ [.ref ca])) (by simp)).put (g := s2) (o := .lst rs.dropLast) (by simp)).put (g := st) (o := .lst [y, .ref s1, .ref s2]) (by simp)
        have gF := frG fF
        have ev2 : decide (V.bl true = V.bl (decide ((0 : Int) < (rs.length : Int)))) = true := decide_eq_true (by rw [decide_eq_true (show (0 : Int) < (rs.length : Int) by omega)])
        have q := done _ (und ++ [cur]) o red' fF ((((t1.but3 f3 nae nau nar nce ncu ncr).putNe (Ne.symm na1) (Ne.symm nc1)).putNe (Ne.symm na2) (Ne.symm nc2)).putNe (Ne.symm nat) (Ne.symm nct))
          (((ed2.put hs12 (Ne.symm nu1) (Ne.symm nr1)).put (lk_ne (Ne.symm n12) hs22) (Ne.symm nu2) (Ne.symm nr2)).put (lk_ne nt2 (lk_ne nt1 hst2)) (Ne.symm nut) (Ne.symm nrt))
          ⟨y, us ++ [.ref ca], rs.dropLast, upd_same, hyo.fr gF, lk_ne (Ne.symm nt1) (lk_ne n12 upd_same), Paired.app (L2.Paired.mapP hus fun _ _ q => q.fr gF) (Paired.one ⟨ca, covs, rfl, nca, gF.ls _ _ nca hca, hcog.kp gF.kp⟩), lk_ne (Ne.symm nt2) upd_same, ?_⟩
          (bn.redo k30 hn) (pm_redo hn)
        · rw [← ev2] at q
          exact q
        · have q := Paired.front (hn ▸ hrs)
          rw [dropLast_snoc] at q
          exact L2.Paired.mapP q fun _ _ z => z.fr gF
    -- the ways of replace_range
    have clen : covs.length = cur.length := Paired.len hcog
    have czl := bn.fc.2
    walk_at "rl"
    refine ⟨_, t1, by omega, by omega, fun dz H2 z0 z1 b2 t2 => ?_⟩
    obtain ⟨z, rfl⟩ : ∃ n : Nat, dz = (n : Int) := ⟨dz.toNat, by omega⟩
    walk_at "rl"
    refine ⟨_, t2, by omega, by omega, fun da H3 a0 a1 b3 t3 => ?_⟩
    obtain ⟨az, rfl⟩ : ∃ n : Nat, da = (n : Int) := ⟨da.toNat, by omega⟩
    walk_at "rl"
    refine ⟨_, t3, by decide, by decide, fun dn H4 n0 n1 b4 t4 => ?_⟩
    walk_at "rl"
    have bb4 : But1 a H H4 := ((b1.trans b2).trans b3).trans b4
    have npa : p ≠ a := fun z => npG (z ▸ ia)
    refine ⟨by omega, by omega, fun F nF => ?_⟩
    have nF0 := bb4.nn t4 nF
    have nFG : F ∉ G := fun m => by
      obtain ⟨l, q⟩ := lv _ m
      rw [nF0] at q
      cases q
    have nFp : p ≠ F := ne_of_none hp nF0
    refine lc_range (lo := 0) (n := dn.toNat) (fun i H' => ivCo a c F H i H' ∧ H' p = some (.lst l)) ⟨⟨[], upd_same, rfl, (fun _ h => by cases h), bb4.new nF, t4.put nF⟩, lk_ne nFp (bb4 _ _ npa hp)⟩ ?_ ?_
    · rintro i H' hi ⟨⟨l', hl, le, he', b7, t7⟩, hp7⟩
      walk_at "rl"
      refine ⟨_, t7, by omega, by omega, fun d H6 g0 g1 b8 t8 => ?_⟩
      have hp8 := b8 _ _ npa hp7
      have hl8 := b8 _ _ (t4.nn nF) hl
      obtain ⟨v, ev, mv⟩ := atI_in (xs := l) g0 g1
      refine ⟨p, _, d, v, rfl, rfl, SqL.of hp8, ev, ?_⟩
      refine ⟨l', hl8, line_lt (by omega), ?_⟩
      exact ⟨ivCo.more le hl8 (he'.kp (t7.kp b8)) (b7.trans b8) t8 nF0 (t4.nn nF) (t4.nc nF) ((hel v mv).kp (ht.kp (b7.trans b8))), lk_ne nFp hp8⟩
    rintro H5 ⟨⟨l', hF5, le, he5, b5, t5⟩, hp5⟩
    have at6 : ∀ {H6 : Hp}, But1 a H H6 → FrL [a, e, u, r, st, s1, s2] H H6 ∧ EdO C H6 e u r bv b und cur red ∧ StO G H6 st s1 s2 und cur red ∧ H6 st = some (.lst [.ref ca, .ref s1, .ref s2]) ∧ H6 s1 = some (.lst us) ∧ H6 s2 = some (.lst rs) ∧ H6 ca = some (.lst covs) ∧ OgsAt H6 covs cur := by
      intro H6 b6
      have f6 : FrL [a, e, u, r, st, s1, s2] H H6 := FrL.refl.but1 (by simp) b6
      have g6 := frG f6
      have hst6 := b6 _ _ (Ne.symm nat) hst
      have hs16 := b6 _ _ (Ne.symm na1) hs1
      have hs26 := b6 _ _ (Ne.symm na2) hs2
      have hca6 := g6.ls _ _ nca hca
      exact ⟨f6, hed.fr g6.kp (fun o q => b6 _ _ nea q) (fun o q => b6 _ _ (Ne.symm nau) q) (fun o q => b6 _ _ (Ne.symm nar) q),
        ⟨.ref ca, us, rs, hst6, ⟨ca, covs, rfl, nca, hca6, hcog.kp g6.kp⟩, hs16, L2.Paired.mapP hus fun _ _ q => q.fr g6, hs26, L2.Paired.mapP hrs fun _ _ q => q.fr g6⟩, hst6, hs16, hs26, hca6, hcog.kp g6.kp⟩
    have nFa : F ≠ a := t4.nn nF
    walk_at "rl"
    refine iteC (fun c5 => ?_) (fun c5 => ?_)
    · walk_at "rl"
      refine iteC (fun c6 => ?_) (fun c6 => ?_)
      · walk_at "rl"
        refine ⟨_, t5, by decide, by decide, fun d6 H6 _ _ b6' t6 => ?_⟩
        have b6 := b5.trans b6'
        have hF6 := b6' _ _ nFa hF5
        obtain ⟨f6, ed6, so6, hst6, hs16, hs26, hca6, hco6⟩ := at6 b6
        walk_at "rl"
        refine iteC (fun c7 => ?_) (fun c7 => ?_)
        · -- too many
          walk_at "rl"
          intro p7 np7
          walk_at "rl"
          refine ⟨_, _, _, rfl, rfl, SqT.of upd_same, by decide, by decide, fun p8 np8 => ?_⟩
          walk_at "rl"
          refine ⟨e, u, r, bv, _, b, List.replicate (Int.toNat 2000) (.int 7), und, cur, red, az, az, rfl, (ed6.same (Same_new np7)).same (Same_new np8), ⟨p8, rfl, upd_same⟩, Nat.le_refl _, bn.fc.1, by omega, by rw [List.length_replicate]; decide, by omega,
            fun c' => absurd c' (by omega), fun _ _ H7 v s7 hv => ?_, fun _ c' => absurd c' (by rw [List.length_replicate]; show ¬ _ - _ + 2000 ≤ 2000; omega)⟩
          obtain ⟨x7, rfl, hx7⟩ := hv
          rw [List.length_replicate] at hx7
          walk_at "rl"
          intro p9 np9
          walk_at "rl"
          refine ⟨alk2 (lk_new np9 hx7) upd_same (by show ((_ - _ + 2000 : Nat) : Int) = _; omega), fun H8 s8 => ?_⟩
          have S68 := ((((Same_new np7).trans (Same_new np8)).trans s7).trans (Same_new np9)).trans s8
          walk_at "rq"
          exact done H8 und cur red (f6.same S68) (t6.same S68) (ed6.same S68) (so6.same S68) (bn.up k30) (fun _ m => m)
        walk_at "rl"
        refine iteD c5 ?_
        walk_at "rl"
        refine ⟨_, _, rfl, .inl ⟨SqL.of hF6, fun q nq => ?_⟩⟩
        walk_at "rl"
        refine ⟨e, u, r, bv, _, b, l', und, cur, red, az, covs.length + 1 + z, rfl, ed6.same (Same_new nq), ⟨q, rfl, upd_same⟩, by omega, bn.fc.1, by omega, by omega, by omega, fun _ H7 v s7 hv => ?_, fun c' => absurd c' (by omega), fun c' => absurd c' (by omega)⟩
        obtain ⟨x7, rfl, hx7⟩ := hv
        walk_at "rl"
        intro p9 np9
        walk_at "rl"
        refine ⟨alk2 (lk_new np9 hx7) upd_same (by omega), fun H8 s8 => ?_⟩
        have S68 := (((Same_new nq).trans s7).trans (Same_new np9)).trans s8
        walk_at "rq"
        exact done H8 und cur red (f6.same S68) (t6.same S68) (ed6.same S68) (so6.same S68) (bn.up k30) (fun _ m => m)
      walk_at "rl"
      refine iteD c5 ?_
      obtain ⟨f5, ed5, so5, hst5, hs15, hs25, hca5, hco5⟩ := at6 b5
      walk_at "rl"
      refine ⟨_, _, rfl, .inl ⟨SqL.of hF5, fun q nq => ?_⟩⟩
      walk_at "rl"
      refine ⟨e, u, r, bv, _, b, l', und, cur, red, az, covs.length + 1 + z, rfl, ed5.same (Same_new nq), ⟨q, rfl, upd_same⟩, by omega, bn.fc.1, by omega, by omega, by omega, fun _ H7 v s7 hv => ?_, fun c' => absurd c' (by omega), fun c' => absurd c' (by omega)⟩
      obtain ⟨x7, rfl, hx7⟩ := hv
      walk_at "rl"
      intro p9 np9
      walk_at "rl"
      refine ⟨alk2 (lk_new np9 hx7) upd_same (by omega), fun H8 s8 => ?_⟩
      have S68 := (((Same_new nq).trans s7).trans (Same_new np9)).trans s8
      walk_at "rq"
      exact done H8 und cur red (f5.same S68) (t5.same S68) (ed5.same S68) (so5.same S68) (bn.up k30) (fun _ m => m)
    walk_at "rl"
    refine iteN c5 ?_
    walk_at "rl"
    have ncat : ca ≠ st := fun z => nca (z ▸ it)
    have nca1 : ca ≠ s1 := fun z => nca (z ▸ i1)
    refine iteC (fun c6 => ?_) (fun c6 => ?_)
    walk_at "rl"
    intro F nFx
    walk_at "rl"
    have b6 := b5.new (o := .lst []) nFx
    have t6 := t5.put (o := .lst []) nFx
    obtain ⟨lx, hlx, lx3⟩ : ∃ lx : List V, lx = [] ∧ lx.length ≤ 3 := ⟨[], rfl, by decide⟩
    have hElx : Els (upd H5 F (.lst [])) lx := by
      rw [hlx]
      intro x hx
      cases hx
    have hFx : upd H5 F (.lst []) F = some (.lst lx) := by rw [hlx]; exact upd_same
    have nFx0 := b5.nn t5 nFx
    rotate_left
    walk_at "rl"
    have b6 := b5
    have t6 := t5
    obtain ⟨lx, hlx, lx3⟩ : ∃ lx : List V, lx = l' ∧ lx.length ≤ 3 := ⟨l', rfl, by omega⟩
    rw [← hlx] at hF5
    have hElx : Els H5 lx := by
      rw [hlx]
      exact he5
    have hFx := hF5
    have nFx0 := nF0
    rotate_left
    all_goals
      obtain ⟨f6, ed6, so6, hst6, hs16, hs26, hca6, hco6⟩ := at6 b6
      have nFt : F ≠ st := Ne.symm (ne_of_none hst nFx0)
      have nF1 : F ≠ s1 := Ne.symm (ne_of_none hs1 nFx0)
      walk_at "rl"
      refine ⟨_, _, _, rfl, rfl, hs16, line_lt (by rw [Paired.len hus]; omega), ?_⟩
      walk_at "rl"
      intro s3 ns3
      walk_at "rl"
      refine ⟨ca, covs, rfl, SqL.of (by walk_at "lk"), fun p1 n1 => ?_⟩
      have hFx4 : ∀ {o : HO}, upd _ p1 o F = some (.lst lx) := fun {o} => lk_new (o := o) n1 (lk_ne nFt (lk_new ns3 (lk_ne nF1 hFx)))
      walk_at "rl"
      refine ⟨⟨_, SqL.of hFx4⟩, fun D nD => lc_list (K := K) (a := F) (xs := lx) (ivNew _ D lx) ⟨[], upd_same, .nil, Same_new nD⟩ (fun i H' _ ⟨_, _, _, s4⟩ => SqL.of (s4 _ _ hFx4)) ?_ ?_⟩
      · rintro i x H' hi ⟨ovs', hD, ho, s4⟩
        walk_at "rl"
        intro q nq
        walk_at "rl"
        refine ⟨ovs', lk_new nq hD, line_lt (by rw [Paired.len ho, List.length_map, List.length_take]; omega), ?_⟩
        refine ⟨ovs' ++ [.ref q], upd_same, ?_, Same_put (s4.trans (Same_new nq)) nD⟩
        rw [take_more hi, List.map_append]
        have kk := (Kp_new (o := .tup [x]) nq).trans (Kp_lst (o := .lst (ovs' ++ [.ref q])) (lk_new nq hD))
        exact Paired.app (ho.kp kk) (Paired.one ⟨q, rfl, Kp_lst (lk_new nq hD) _ _ upd_same⟩)
      rintro H' ⟨ovs', hD, ho, s4⟩
      rw [List.take_length] at ho
      have lo : ovs'.length ≤ 3 := by
        rw [Paired.len ho, List.length_map]
        exact lx3
      have s3H : H s3 = none := b6.nn t6 (nn_of ns3)
      have nt3 : st ≠ s3 := ne_of_none hst s3H
      have n13 : s1 ≠ s3 := ne_of_none hs1 s3H
      have n23 : s2 ≠ s3 := ne_of_none hs2 s3H
      obtain ⟨lu, hlu⟩ := lv _ iu
      obtain ⟨lr, hlr⟩ := lv _ ir
      walk_at "rl"
      refine ⟨p1, D, _, ovs', rfl, rfl, s4 _ _ upd_same, hD, line_of (Nat.le_trans (Nat.add_le_add (cutV_length _ _ _) lo) (by omega)), fun p2 n2 => ?_⟩
      walk_at "rl"
      refine ⟨ca, covs, rfl, SqL.of (by walk_at "lk"), fun p3 n3 => ?_⟩
      walk_at "rl"
      refine ⟨p2, p3, _, _, rfl, rfl, lk_new n3 upd_same, upd_same, line_of (by rw [List.length_append]; exact Nat.le_trans (Nat.add_le_add (Nat.add_le_add (cutV_length _ _ _) lo) (cutV_length _ _ _)) (by omega)), fun n0 nn0 => ?_⟩
      have S38 := fun {o : HO} => (Same_new n1).trans (s4.trans ((Same_new n2).trans ((Same_new n3).trans (Same_new (o := o) nn0))))
      have hs3' := s4 s3 _ (lk_new n1 (lk_ne (Ne.symm nt3) upd_same))
      have n0H : H n0 = none := b6.nn t6 (nn_of (nn_of (nn_of (nn_of (s4.free (nn_of (nn_of nn0)))))))
      have n03 : s3 ≠ n0 := ne_of_none hs3' (nn_of (nn_of nn0))
      have n0t : st ≠ n0 := ne_of_none hst n0H
      have n01 : s1 ≠ n0 := ne_of_none hs1 n0H
      walk_at "rl"
      refine ⟨_, _, rfl, .inl ⟨SqL.of (lk_ne nFt (S38 _ _ (lk_ne nFt (lk_new ns3 (lk_ne nF1 hFx))))), fun q nq => ?_⟩⟩
      walk_at "rl"
      have edA3 := ((ed6.put (l' := us ++ [.ref ca]) hs16 (Ne.symm nu1) (Ne.symm nr1)).same (Same_new (o := .lst []) ns3)).put (l' := [.ref ca, .ref s1, .ref s3]) (x := st) (lk_new ns3 (lk_ne nt1 hst6)) (Ne.symm nut) (Ne.symm nrt)
      have S38 := pin (fun o => S38 (o := o)) nq
      have edA8 := edA3.same S38
      have hstA8 := S38 st _ upd_same
      have edA9 := edA8.put (l' := [.ref n0, .ref s1, .ref s3]) hstA8 (Ne.symm nut) (Ne.symm nrt)
      have ed10 := edA9.same (Same_new (o := .tup lx) nq)
      refine ⟨e, u, r, bv, _, b, lx, und, cur, red, _, z, rfl, ed10, ⟨q, rfl, upd_same⟩, by omega, bn.fc.1, by omega, by omega, by omega, fun c' => absurd c' (by omega), fun _ c' => absurd c' (by omega), fun _ _ H11 v r' f11 nr' ed11 hv => ?_⟩
      obtain ⟨x11, rfl, hx11⟩ := hv
      have st10 := lk_new (o := .tup lx) nq (upd_same (a := st) (o := .lst [.ref n0, .ref s1, .ref s3]))
      have s110 := lk_new (o := .tup lx) nq (lk_ne (o := .lst [.ref n0, .ref s1, .ref s3]) (Ne.symm nt1) (S38 s1 _ (lk_ne (Ne.symm nt1) (lk_new ns3 upd_same))))
      have s310 := lk_new (o := .tup lx) nq (lk_ne (o := .lst [.ref n0, .ref s1, .ref s3]) (Ne.symm nt3) (S38 s3 _ (lk_ne (Ne.symm nt3) upd_same)))
      have n010 := lk_new (o := .tup lx) nq (lk_ne (o := .lst [.ref n0, .ref s1, .ref s3]) (Ne.symm n0t) upd_same)
      have s210 := lk_new (o := .tup lx) nq (lk_ne (o := .lst [.ref n0, .ref s1, .ref s3]) (Ne.symm nt2) (S38 s2 _ (lk_ne (Ne.symm nt2) (lk_new ns3 (lk_ne (Ne.symm n12) hs26)))))
      have t10 := (((((t6.putNe (o := .lst (us ++ [.ref ca])) (Ne.symm na1) (Ne.symm nc1)).put (o := .lst []) ns3).putNe (o := .lst [.ref ca, .ref s1, .ref s3]) (Ne.symm nat) (Ne.symm nct)).same S38).putNe (o := .lst [.ref n0, .ref s1, .ref s3]) (Ne.symm nat) (Ne.symm nct)).put (o := .tup lx) nq
      have fr10 := (((((f6.put (g := s1) (o := .lst (us ++ [.ref ca])) (by simp)).new (o := .lst []) ns3).put (g := st) (o := .lst [.ref ca, .ref s1, .ref s3]) (by simp)).same S38).put (g := st) (o := .lst [.ref n0, .ref s1, .ref s3]) (by simp)).new (o := .tup lx) nq
      have k10 := (((Kp_new (o := .lst (cutV covs none _ ++ ovs')) n2).trans (Kp_new n3)).trans (Kp_new nn0)).trans ((Kp_lst (o := .lst [.ref n0, .ref s1, .ref s3]) hstA8).trans (Kp_new (o := .tup lx) nq))
      have fr11 := fr10.but3 (by simp) (by simp) (by simp) f11
      have t11 := t10.but3 f11 nae nau nar nce ncu ncr
      have n3e : s3 ≠ e := Ne.symm (ne_of_none hee s3H)
      have n3u : s3 ≠ u := Ne.symm (ne_of_none hlu s3H)
      have n3r : s3 ≠ r := Ne.symm (ne_of_none hlr s3H)
      have st11 := f11 _ _ (Ne.symm net) (Ne.symm nut) (Ne.symm nrt) st10
      have s111 := f11 _ _ (Ne.symm ne1) (Ne.symm nu1) (Ne.symm nr1) s110
      have s211 := f11 _ _ (Ne.symm ne2) (Ne.symm nu2) (Ne.symm nr2) s210
      have s311 := f11 _ _ n3e n3u n3r s310
      have n011 := f11 _ _ (Ne.symm (ne_of_none hee n0H)) (Ne.symm (ne_of_none hlu n0H)) (Ne.symm (ne_of_none hlr n0H)) n010
      have r'H : H r' = none := b6.nn t6 (nn_of (nn_of (nn_of (S38.free (nn_of (nn_of nr'))))))
      have ho11 := (ho.kp k10).kp (But3.kp ed10 f11)
      have hco11 := hcog.kp (frG fr11).kp
      walk_at "rl"
      intro p9 np9
      walk_at "rl"
      refine ⟨alk2 (lk_new np9 hx11) upd_same ?_, fun H12 s12 => ?_⟩
      · rw [List.length_append, List.length_append, cutV_to, cutV_from, List.length_take, List.length_drop, Paired.len ho, List.length_map]
        omega
      have S112 := (Same_new np9).trans s12
      have t12 := t11.same S112
      have ed12 := ed11.same S112
      have fr12 := fr11.same S112
      have g12 := frG fr12
      have hG' : ∀ g ∈ r' :: s3 :: G.filter (fun x => decide (x ≠ r)), g ∈ G ∨ H g = none := by
        intro g hg
        rcases List.mem_cons.mp hg with rfl | hg
        · exact .inr r'H
        rcases List.mem_cons.mp hg with rfl | hg
        · exact .inr s3H
        · exact .inl (List.mem_filter.mp hg).1
      have inG' : ∀ {g}, g ∈ G → g ≠ r → g ∈ r' :: s3 :: G.filter (fun x => decide (x ≠ r)) := fun hg m => List.mem_cons_of_mem _ (List.mem_cons_of_mem _ (List.mem_filter.mpr ⟨hg, decide_eq_true m⟩))
      have n0G' : n0 ∉ r' :: s3 :: G.filter (fun x => decide (x ≠ r)) := by
        intro m
        rcases List.mem_cons.mp m with m | m
        · exact ne_of_none n010 nr' m
        rcases List.mem_cons.mp m with m | m
        · exact n03 m.symm
        · obtain ⟨l0, hl0⟩ := lv _ (List.mem_filter.mp m).1
          rw [n0H] at hl0
          cases hl0
      have hco12 := hco11.kp (Kp.of S112)
      walk_at "rq"
      refine kk H12 (r' :: s3 :: G.filter (fun x => decide (x ≠ r))) r' s3 (und ++ [cur]) (putOgs cur _ z lx) [] fr12 (fun g hg => ?_) (fun g hg m => inG' hg (fun e => m (by rw [e]; simp))) hG' t12
        ⟨ed12, ⟨.ref n0, us ++ [.ref ca], [], S112 _ _ st11, ⟨n0, _, rfl, n0G', S112 _ _ n011, ?_⟩, S112 _ _ s111, Paired.app (L2.Paired.mapP hus fun _ _ q => q.up g12 hG') (Paired.one (OgL.up g12 hG' ⟨ca, covs, rfl, nca, hca, hcog⟩)), S112 _ _ s311, .nil⟩,
          inG' iu nur, List.mem_cons_self, inG' it (Ne.symm nrt), inG' i1 (Ne.symm nr1), List.mem_cons_of_mem _ List.mem_cons_self, ?_⟩
        (.inr r'H) (.inr s3H) (bn.rep k30 (by omega) (by omega) lx3) (ael_rep ael g12.kp (hElx.kp (((((((Kp_lst hs16).trans (Kp_new ns3)).trans (Kp_lst (lk_new ns3 (lk_ne nt1 hst6)))).trans (Kp.of S38)).trans (Kp_lst (o := .lst [.ref n0, .ref s1, .ref s3]) hstA8)).trans (Kp_new nq)).trans ((But3.kp ed10 f11).trans (Kp.of S112)))))
      · rcases List.mem_cons.mp hg with rfl | hg
        · exact ed12.ls.2
        rcases List.mem_cons.mp hg with rfl | hg
        · exact ⟨_, S112 _ _ s311⟩
        obtain ⟨hg, hgr⟩ := List.mem_filter.mp hg
        have hgr := of_decide_eq_true hgr
        by_cases m : g ∈ [a, e, u, r, st, s1, s2]
        · simp only [List.mem_cons, List.not_mem_nil, or_false] at m
          rcases m with rfl | rfl | rfl | rfl | rfl | rfl | rfl
          · exact t12.lst
          · obtain ⟨l0, hl0⟩ := lv _ hg
            rw [hee] at hl0
            cases hl0
          · exact ed12.ls.1
          · exact absurd rfl hgr
          · exact ⟨_, S112 _ _ st11⟩
          · exact ⟨_, S112 _ _ s111⟩
          · exact ⟨_, S112 _ _ s211⟩
        · obtain ⟨l0, hl0⟩ := lv g hg
          exact ⟨l0, fr12 g _ m hl0⟩
      · rw [cutV_to, cutV_from]
        exact Paired.app (Paired.app (Paired.takeN _ hco12) (ho11.kp (Kp.of S112))) (Paired.dropN _ hco12)
      · simp only [List.nodup_cons, List.mem_cons, List.not_mem_nil, or_false, not_or, not_false_eq_true, List.nodup_nil, and_true]
        exact ⟨⟨ne_of_none hlu r'H, nut, nu1, Ne.symm n3u⟩, ⟨Ne.symm (ne_of_none hst r'H), Ne.symm (ne_of_none hs1 r'H), Ne.symm (ne_of_none s310 nr')⟩, ⟨nt1, nt3⟩, n13⟩
end
end K7

set_option Elab.async false
set_option linter.all false
set_option maxRecDepth 100000
set_option maxHeartbeats 4000000
namespace K7
open PySem PySem.Spec PyProof.Rows L2 Ed
open C8 (Cal Met Mak pe_c pe_mk pe_mt pe_mt0)
/-! ### small words of the proofs: walk_at "lk" (what stands at an address), "ne" (two addresses differ), "rd" (the plain steps of a reading) -/
local macro_rules | `(tactic| walk_at "ne") => `(tactic| first
  | assumption
  | exact Ne.symm (by assumption)
  | exact ne_of_none (by assumption) (by assumption)
  | exact Ne.symm (ne_of_none (by assumption) (by assumption))
  | exact ne_of (by assumption) (by assumption) (by intro z; cases z)
  | exact ne_of_none (by walk_at "lk") (by assumption)
  | exact Ne.symm (ne_of_none (by walk_at "lk") (by assumption))
  | exact ne_of (by walk_at "lk") (by walk_at "lk") (by intro z; cases z))
local macro_rules | `(tactic| walk_at "lk") => `(tactic| first
  | assumption
  | exact upd_same
  | (refine lk_new (by assumption) ?_; walk_at "lk")
  | (refine Same.at (by assumption) ?_; walk_at "lk")
  | (refine Kp.at (by assumption) ?_; walk_at "lk")
  | (refine lk_ne (by walk_at "ne") ?_; walk_at "lk"))
local macro_rules | `(tactic| walk_at "at") => `(tactic| first
  | rfl
  | exact atI_last _ _
  | exact atI_neg1 (by assumption)
  | exact atI_nat (by first | assumption | rfl))
local macro_rules | `(tactic| walk_at "ix") => `(tactic| first
  | refine ⟨_, _, _, _, rfl, rfl, SqT.of (by walk_at "lk"), by walk_at "at", ?_⟩
  | refine ⟨_, _, _, _, rfl, rfl, SqL.of (by walk_at "lk"), by walk_at "at", ?_⟩)
local macro_rules | `(tactic| walk_at "ty") => `(tactic| first
  | exact TyOf.int _
  | exact TyOf.str _
  | exact TyOf.bl _
  | exact TyOf.tup (by walk_at "lk"))
local macro_rules | `(tactic| walk_at "isi") => `(tactic| first
  | refine ⟨_, _, _, _, true, rfl, .ty _, .base (by walk_at "ty"), kit_ty (by decide +kernel), ?_⟩
  | refine ⟨_, _, _, _, false, rfl, .ty _, .base (by walk_at "ty"), kit_ty (by decide +kernel), ?_⟩)
local macro_rules | `(tactic| walk_at "cnd") => `(tactic| first
  | exact ⟨by decide, by decide, by decide⟩
  | exact Or.inr ⟨by decide, by decide⟩
  | (show (0 : Int) < _; decide))
local macro_rules | `(tactic| walk_at "rd1") => `(tactic| first
  | (with_reducible refine iteN kept_ne ?_)
  | (with_reducible refine iteN ins_ne ?_)
  | refine ⟨_, rfl, ?_⟩
  | refine ⟨_, _, rfl, rfl, ?_⟩
  | walk_at "ix"
  | refine ⟨rfl, ?_⟩
  | refine ⟨_, _, rfl, ?_⟩
  | refine ⟨Nat.le_of_ble_eq_true rfl, ?_⟩
  | walk_at "isi"
  | refine .inl ⟨_, rfl, ?_⟩
  | refine ⟨_, _, _, _, rfl, rfl, (by walk_at "lk"), rfl, ?_⟩
  | refine ⟨(by walk_at "cnd"), ?_⟩
  | refine ⟨.inl ⟨rfl, _, SqL.of (by walk_at "lk")⟩, ?_⟩)
local macro_rules | `(tactic| walk_at "rd") => `(tactic| repeat (walk_at "rd1"))
local macro_rules | `(tactic| walk_at "rq") => `(tactic| ((repeat (walk_at "rd1")); (try dsimp only)))
local macro_rules | `(tactic| walk_at "ln") => `(tactic| first
  | refine ⟨_, _, rfl, .inr (SqT.of (by walk_at "lk")), ?_⟩
  | refine ⟨_, _, rfl, .inl (SqL.of (by walk_at "lk")), ?_⟩)
local macro_rules | `(tactic| walk_at "rl") => `(tactic| repeat (first | walk_at "rd1" | walk_at "ln"))
local macro_rules | `(tactic| walk_at "rlq") => `(tactic| ((repeat (first | walk_at "rd1" | walk_at "ln")); (try dsimp only)))

theorem Paired.join {α β γ : Type} {R : α → γ → Prop} {S : β → γ → Prop} {T : α → β → Prop} : ∀ {xs : List α} {ys : List β} {zs : List γ}, Paired R xs zs → Paired S ys zs → (∀ z ∈ zs, ∀ x y, R x z → S y z → T x y) → Paired T xs ys
  | _, _, _, .nil, .nil, _ => .nil
  | _, _, _, .cons a r, .cons b s, h => .cons (h _ List.mem_cons_self _ _ a b) (Paired.join r s fun z hz => h z (List.mem_cons_of_mem _ hz))
theorem Paired.self {α : Type} {T : α → α → Prop} : ∀ {xs : List α}, (∀ x ∈ xs, T x x) → Paired T xs xs
  | [], _ => .nil
  | x :: r, h => .cons (h x List.mem_cons_self) (Paired.self fun y hy => h y (List.mem_cons_of_mem _ hy))
theorem alk_sc {H : Hp} {v : V} {n : Nat} (h : Sc v) : Alk H (n + 1) v v := .inl ⟨rfl, h⟩
theorem alk_el {H : Hp} {v : V} (h : El H v) : Alk H 2 v v := by
  cases v with
  | int i => exact alk_sc trivial
  | str x => exact alk_sc trivial
  | ref a =>
    obtain ⟨x, y, ha, sx, sy⟩ := h
    exact .inr ⟨a, a, _, _, rfl, rfl, ha, ha, (by simp), .cons (alk_sc sx) (.cons (alk_sc sy) .nil)⟩
  | _ => exact h.elim
theorem alk_els {H : Hp} {a b : Addr} {l : List V} (h : Els H l) (ha : H a = some (.tup l)) (hb : H b = some (.tup l)) (hz : l.length ≤ 100000) : Alk H 3 (.ref a) (.ref b) :=
  .inr ⟨a, b, l, l, rfl, rfl, ha, hb, hz, Paired.self fun x hx => alk_el (h x hx)⟩
/-- what a piece holds: elements, not many -/
def PcEl (H : Hp) : Pc V → Prop
  | .kept _ _ => True
  | .ins l => Els H l ∧ l.length ≤ 100000
theorem alk_pc {H : Hp} {u v : V} {p : Pc V} (hu : PcAt H u p) (hv : PcAt H v p) (h : PcEl H p) : Alk H 4 u v := by
  cases p with
  | kept s e =>
    obtain ⟨a, rfl, ha⟩ := hu
    obtain ⟨b, rfl, hb⟩ := hv
    exact .inr ⟨a, b, _, _, rfl, rfl, ha, hb, (by simp), .cons (alk_sc trivial) (.cons (alk_sc trivial) (.cons (alk_sc trivial) .nil))⟩
  | ins l =>
    obtain ⟨a, a', rfl, ha, ha'⟩ := hu
    obtain ⟨b, b', rfl, hb, hb'⟩ := hv
    exact .inr ⟨a, b, _, _, rfl, rfl, ha, hb, (by simp), .cons (alk_sc trivial) (.cons (alk_els h.1 ha' hb' h.2) .nil)⟩
theorem alk_pcs {H : Hp} {u v : V} {ps : List (Pc V)} (hu : PcsT H u ps) (hv : PcsT H v ps) (h : ∀ p ∈ ps, PcEl H p) (hz : ps.length ≤ 1000) : Alk H 5 u v := by
  obtain ⟨us, ⟨a, rfl, ha⟩, pu⟩ := hu
  obtain ⟨vs, ⟨b, rfl, hb⟩, pv⟩ := hv
  exact .inr ⟨a, b, us, vs, rfl, rfl, ha, hb, (by rw [Paired.len pu]; omega), Paired.join pu pv fun p hp x y hx hy => alk_pc hx hy (h p hp)⟩
theorem alk_eds {H : Hp} {a b : Addr} {us vs : List V} {ds : List (Nat × Nat × List V)} (ha : H a = some (.tup us)) (hb : H b = some (.tup vs)) (pu : EdsAt H us ds) (pv : EdsAt H vs ds) (h : ∀ d ∈ ds, Els H d.2.2 ∧ d.2.2.length ≤ 100000) (hz : ds.length ≤ 100000) : Alk H 5 (.ref a) (.ref b) := by
  refine .inr ⟨a, b, us, vs, rfl, rfl, ha, hb, (by rw [Paired.len pu]; exact hz), Paired.join pu pv fun d hd x y hx hy => ?_⟩
  obtain ⟨x1, x2, rfl, hx1, hx2⟩ := hx
  obtain ⟨y1, y2, rfl, hy1, hy2⟩ := hy
  obtain ⟨e, z⟩ := h d hd
  exact .inr ⟨x1, y1, _, _, rfl, rfl, hx1, hy1, (by simp), .cons (alk_sc trivial) (.cons (alk_sc trivial) (.cons (alk_els e hx2 hy2 z) .nil))⟩
/-- what edits hold stood in a piece -/
theorem editFold_of (Pr : List V → Prop) : ∀ (ps : List (Pc V)) (s : List (Nat × Nat × List V) × Nat × List V), Pr [] → (∀ l, Pc.ins l ∈ ps → Pr l) → (∀ d ∈ s.1, Pr d.2.2) → Pr s.2.2 → ∀ d ∈ (ps.foldl editStep s).1, Pr d.2.2
  | [], s, _, _, h, _ => h
  | p :: r, s, h0, hp, h1, h2 => by
    rw [List.foldl_cons]
    refine editFold_of Pr r _ h0 (fun l hl => hp l (List.mem_cons_of_mem _ hl)) ?_ ?_
    · cases p with
      | kept a b =>
        intro d hd
        have hd : d ∈ (if s.2.1 < a ∨ s.2.2 ≠ [] then s.1 ++ [(s.2.1, a, s.2.2)] else s.1) := hd
        split at hd
        · rcases List.mem_append.mp hd with hd | hd
          · exact h1 d hd
          · rw [List.mem_singleton.mp hd]
            exact h2
        · exact h1 d hd
      | ins l => exact h1
    · cases p with
      | kept a b => exact h0
      | ins l => exact hp l List.mem_cons_self
theorem pcs_el {H : Hp} {n : Nat} {os : List (Og V)} (hf : OgFine n os) (he : OgEl H os) (hz : os.length ≤ 1000) : ∀ p ∈ pcsOf os, PcEl H p := by
  intro p hp
  cases p with
  | kept a b => trivial
  | ins l =>
    have e := ogs_pcsOf hf
    refine ⟨fun x hx => he x ?_, ?_⟩
    · rw [← e]
      exact List.mem_flatMap.mpr ⟨_, hp, List.mem_map_of_mem hx⟩
    · have q := len_mem hp
      rw [← ogsOf_len, e] at q
      have q2 : (Pc.ins l : Pc V).len = l.length := rfl
      omega
section
variable {P : Program} {w : World} {K : PySem.W.Frag} {mg : Str → Option Value} {base : Heap} {C : Addr}
/-! ### _law_right -/
abbrev s__law_right : Stmt := top 31
theorem sc__law_right : FnScope ["_law_editor", "_law_base", "_law_origins", "_law_pieces_here", "_law_due"] ["_law_editor", "_law_base", "_law_origins"] (defScope s__law_right) := ⟨rfl, rfl, rfl, by decide +kernel, rfl, by decide +kernel, by decide +kernel⟩
def spRight (C : Addr) : Sp := fun vs H Q _ => ∃ (e s : Addr) (bv : V), vs = [.ref e, bv, .ref s] ∧ ∃ (u r : Addr) (b ovs : List V) (und : List (List (Og V))) (cur : List (Og V)) (red : List (List (Og V))), EdO C H e u r bv b und cur red ∧ H s = some (.lst ovs) ∧ OgsAt H ovs cur ∧
  OgFine b.length cur ∧ cur.length ≤ 900 ∧ Els H b ∧ OgEl H cur ∧ ∀ H', Same H H' → Q (.bl true) H'
theorem ok_right (D : Dn K mg "_law_right" s__law_right ["_law_editor", "_law_base", "_law_origins"]) (T : Blt mg) (TC : EdC K C) (lenE : Lno P w K mg base 1 C (spLenE C)) (p_pieces : Prp P w K mg base 1 C "pieces" (spPcs C)) (p_contents : Prp P w K mg base 1 C "contents" (spCon C))
    (p_edits : Prp P w K mg base 2 C "edits" (spEdi C)) (c__law_pieces : Cal P w K mg base 1 "_law_pieces" spLpieces []) (c__law_of_origins : Cal P w K mg base 1 "_law_of_origins" spLof []) (c__law_edits_of : Cal P w K mg base 1 "_law_edits_of" spLed [])
    (c__law_alike : Cal P w K mg base 6 "_law_alike" (spAlike 6) []) : Cal P w K mg base 7 "_law_right" (spRight C) [] := by
  refine cal_of D sc__law_right (fun vs H Q E h => ?_) (fun f cdv A outer s H vs Q E hr h => ?_)
  · obtain ⟨e, s, bv, rfl, _⟩ := h
    rfl
  · refine ⟨_, (pss_cons (ps_if (pt_cmpR op_ne (pe_callB (call_lno lenE hr (by decide)) (by rfl) T.b_len (by decide +kernel) (pa_cons (pv 0) pa_nil)) (pe_callB call_len_seq (by rfl) T.b_len (by decide +kernel) (pa_cons (pv 2) pa_nil)) (nomark _)) (pss_one (ps_ret pe_bl)) pss_nil)
  (pss_cons (ps_set (i := 3) sc__law_right.nd rfl (Or.inl rfl) (pe_c c__law_pieces hr (by decide) (by rfl) (pa_cons (pv 2) pa_nil)))
  (pss_cons (ps_set (i := 4) sc__law_right.nd rfl (Or.inl rfl) (pe_tup (pa_cons (pv 3) (pa_cons (pe_c c__law_of_origins hr (by decide) (by rfl) (pa_cons (pv 1) (pa_cons (pv 2) pa_nil))) (pa_cons (pe_c c__law_edits_of hr (by decide) (by rfl) (pa_cons (pv 1) (pa_cons (pv 3) pa_nil))) pa_nil)))))
  (pss_one (ps_ret (pe_c c__law_alike hr (by decide) (by rfl) (pa_cons (pe_tup (pa_cons (pe_pr p_pieces TC.cl hr (by decide) (pv 0)) (pa_cons (pe_pr p_contents TC.cl hr (by decide) (pv 0)) (pa_cons (pe_pr p_edits TC.cl hr (by decide) (pv 0)) pa_nil)))) (pa_cons (pv 4) pa_nil)))))))), ?_⟩
    obtain ⟨e, s, bv, rfl, u, r, b, ovs, und, cur, red, hed, hs, ho, hf, hz, hb, hel, k⟩ := h
    obtain ⟨nur, hbv, dx, cv, pv, us, rs, he, hcv, hpv, hu, hus, hrr, hrs⟩ := id hed
    have lc : (tellOgs b cur).length = cur.length := tellOgs_len hf
    have lo : ovs.length = cur.length := Paired.len ho
    walk_at "rd"
    refine ⟨e, dx, _, rfl, he, e, dx, bv, cv, pv, .ref u, .ref r, _, rfl, he, hcv, (tellOgs b cur).length, rfl, by rw [lc]; omega, ?_⟩
    rw [lc]
    walk_at "rd"
    refine ⟨_, _, rfl, .inl (SqL.of hs), ?_⟩
    rw [lo]
    walk_at "rd"
    refine iteNS (Eq.refl (V.int (cur.length : Int))) ?_
    walk_at "rd"
    refine ⟨s, ovs, cur, rfl, hs, ho, by omega, ⟨_, hf⟩, fun H1 v1 s1 hv1 => ?_⟩
    walk_at "rd"
    obtain ⟨ba, rfl, hba⟩ := id hbv
    refine ⟨ba, s, b, ovs, cur, rfl, s1 _ _ hba, s1 _ _ hs, ho.kp (Kp.of s1), by omega, hf, fun H2 v2 s2 hv2 => ?_⟩
    walk_at "rd"
    have pl := pcsOf_len cur
    refine ⟨.ref ba, v1, b, pcsOf cur, rfl, ⟨ba, rfl, s2 _ _ (s1 _ _ hba)⟩, hv1.kp (Kp.of s2), by omega, fun H3 v3 us3 s3 hv3 he3 => ?_⟩
    walk_at "rd"
    intro p4 np4
    walk_at "rd"
    have S4 := (s1.trans s2).trans (s3.trans (Same_new (o := .tup [v1, v2, v3]) np4))
    have he4 := S4 _ _ he
    refine ⟨e, dx, _, rfl, he4, e, dx, .ref ba, cv, pv, .ref u, .ref r, rfl, he4, ?_⟩
    walk_at "rd"
    refine ⟨e, dx, _, rfl, he4, e, dx, .ref ba, cv, pv, .ref u, .ref r, rfl, he4, ?_⟩
    walk_at "rd"
    refine ⟨e, dx, _, rfl, he4, e, dx, .ref ba, cv, pv, .ref u, .ref r, b, pcsOf cur, rfl, he4, ⟨ba, rfl, S4 _ _ hba⟩, hpv.kp (Kp.of S4), by omega, fun H5 v5 us5 s5 hv5 he5 => ?_⟩
    walk_at "rd"
    intro p6 np6
    walk_at "rd"
    have S5 := S4.trans (s5.trans (Same_new (o := .tup [pv, cv, v5]) np6))
    have S35 := (Same_new (o := .tup [v1, v2, v3]) np4).trans (s5.trans (Same_new (o := .tup [pv, cv, v5]) np6))
    have S25 := s3.trans S35
    have S15 := s2.trans S25
    obtain ⟨x3, rfl, hx3⟩ := hv3
    obtain ⟨x5, rfl, hx5⟩ := hv5
    obtain ⟨x2, rfl, hx2⟩ := hv2
    obtain ⟨cx, rfl, hcx⟩ := hcv
    have elb : Els (upd H5 p6 (.tup [pv, .ref cx, .ref x5])) (tellOgs b cur) := by
      intro v hv
      obtain ⟨o, ho, eo⟩ := List.mem_filterMap.mp hv
      cases o with
      | base i => exact (hb v (List.mem_of_getElem? eo)).kp (Kp.of S5)
      | new x =>
        injection eo with eo
        rw [← eo]
        exact (hel x ho).kp (Kp.of S5)
    have hel5 : OgEl (upd H5 p6 (.tup [pv, .ref cx, .ref x5])) cur := fun x hx => (hel x hx).kp (Kp.of S5)
    have pe := pcs_el hf hel5 (by omega)
    have edl : ∀ d ∈ editsOf (pcsOf cur) b.length, Els (upd H5 p6 (.tup [pv, .ref cx, .ref x5])) d.2.2 ∧ d.2.2.length ≤ 100000 := by
      refine editFold_of (fun l => Els (upd H5 p6 (.tup [pv, .ref cx, .ref x5])) l ∧ l.length ≤ 100000) _ _ ⟨fun _ h => (by cases h), by simp⟩ (fun l hl => ?_) (fun _ h => (by cases h)) ⟨fun _ h => (by cases h), by simp⟩
      rcases List.mem_append.mp hl with hl | hl
      · exact pe _ hl
      · cases List.mem_singleton.mp hl
    have edn : (editsOf (pcsOf cur) b.length).length ≤ 100000 := by
      have q := editFold_len (pcsOf cur ++ [Pc.kept b.length b.length]) ([], 0, [])
      simp only [List.length_append, List.length_singleton, List.length_nil] at q
      unfold editsOf
      omega
    refine ⟨.inr ⟨p6, p4, _, _, rfl, rfl, upd_same, lk_new np6 (s5 _ _ upd_same), (by simp), .cons ?_ (.cons ?_ (.cons ?_ .nil))⟩, fun H7 s7 => ?_⟩
    · exact alk_pcs (hpv.kp (Kp.of S5)) (hv1.kp (Kp.of S15)) pe (by omega)
    · exact (alk_els elb (S5 _ _ hcx) (S25 _ _ hx2) (by omega)).up.up
    · exact alk_eds (lk_new np6 hx5) (S35 _ _ hx3) (he5.kp (Kp_new np6)) (he3.kp (Kp.of S35)) edl edn
    · walk_at "rq"
      exact k _ (S5.trans s7)
end
end K7

set_option Elab.async false
set_option linter.all false
set_option maxRecDepth 100000
set_option maxHeartbeats 4000000
namespace K7
open PySem PySem.Spec PyProof.Rows L2 Ed
open C8 (Cal Met Mak pe_c pe_mk pe_mt pe_mt0)
/-! ### small words of the proofs: walk_at "lk" (what stands at an address), "ne" (two addresses differ), "rd" (the plain steps of a reading) -/
local macro_rules | `(tactic| walk_at "ne") => `(tactic| first
  | assumption
  | exact Ne.symm (by assumption)
  | exact ne_of_none (by assumption) (by assumption)
  | exact Ne.symm (ne_of_none (by assumption) (by assumption))
  | exact ne_of (by assumption) (by assumption) (by intro z; cases z)
  | exact ne_of_none (by walk_at "lk") (by assumption)
  | exact Ne.symm (ne_of_none (by walk_at "lk") (by assumption))
  | exact ne_of (by walk_at "lk") (by walk_at "lk") (by intro z; cases z))
local macro_rules | `(tactic| walk_at "lk") => `(tactic| first
  | assumption
  | exact upd_same
  | (refine lk_new (by assumption) ?_; walk_at "lk")
  | (refine Same.at (by assumption) ?_; walk_at "lk")
  | (refine Kp.at (by assumption) ?_; walk_at "lk")
  | (refine lk_ne (by walk_at "ne") ?_; walk_at "lk"))
local macro_rules | `(tactic| walk_at "at") => `(tactic| first
  | rfl
  | exact atI_last _ _
  | exact atI_neg1 (by assumption)
  | exact atI_nat (by first | assumption | rfl))
local macro_rules | `(tactic| walk_at "ix") => `(tactic| first
  | refine ⟨_, _, _, _, rfl, rfl, SqT.of (by walk_at "lk"), by walk_at "at", ?_⟩
  | refine ⟨_, _, _, _, rfl, rfl, SqL.of (by walk_at "lk"), by walk_at "at", ?_⟩)
local macro_rules | `(tactic| walk_at "ty") => `(tactic| first
  | exact TyOf.int _
  | exact TyOf.str _
  | exact TyOf.bl _
  | exact TyOf.tup (by walk_at "lk"))
local macro_rules | `(tactic| walk_at "isi") => `(tactic| first
  | refine ⟨_, _, _, _, true, rfl, .ty _, .base (by walk_at "ty"), kit_ty (by decide +kernel), ?_⟩
  | refine ⟨_, _, _, _, false, rfl, .ty _, .base (by walk_at "ty"), kit_ty (by decide +kernel), ?_⟩)
local macro_rules | `(tactic| walk_at "cnd") => `(tactic| first
  | exact ⟨by decide, by decide, by decide⟩
  | exact Or.inr ⟨by decide, by decide⟩
  | (show (0 : Int) < _; decide))
local macro_rules | `(tactic| walk_at "rd1") => `(tactic| first
  | (with_reducible refine iteN kept_ne ?_)
  | (with_reducible refine iteN ins_ne ?_)
  | refine ⟨_, rfl, ?_⟩
  | refine ⟨_, _, rfl, rfl, ?_⟩
  | walk_at "ix"
  | refine ⟨rfl, ?_⟩
  | refine ⟨_, _, rfl, ?_⟩
  | refine ⟨Nat.le_of_ble_eq_true rfl, ?_⟩
  | walk_at "isi"
  | refine .inl ⟨_, rfl, ?_⟩
  | refine ⟨_, _, _, _, rfl, rfl, (by walk_at "lk"), rfl, ?_⟩
  | refine ⟨(by walk_at "cnd"), ?_⟩
  | refine ⟨.inl ⟨rfl, _, SqL.of (by walk_at "lk")⟩, ?_⟩)
local macro_rules | `(tactic| walk_at "rd") => `(tactic| repeat (walk_at "rd1"))
local macro_rules | `(tactic| walk_at "rq") => `(tactic| ((repeat (walk_at "rd1")); (try dsimp only)))
local macro_rules | `(tactic| walk_at "ln") => `(tactic| first
  | refine ⟨_, _, rfl, .inr (SqT.of (by walk_at "lk")), ?_⟩
  | refine ⟨_, _, rfl, .inl (SqL.of (by walk_at "lk")), ?_⟩)
local macro_rules | `(tactic| walk_at "rl") => `(tactic| repeat (first | walk_at "rd1" | walk_at "ln"))
local macro_rules | `(tactic| walk_at "rlq") => `(tactic| ((repeat (first | walk_at "rd1" | walk_at "ln")); (try dsimp only)))

theorem But3.refl {e u r : Addr} {H : Hp} : But3 e u r H H := fun _ _ _ _ _ h => h
theorem But3.trans {e u r : Addr} {H H1 H2 : Hp} (x : But3 e u r H H1) (y : But3 e u r H1 H2) : But3 e u r H H2 := fun a o n1 n2 n3 h => y a o n1 n2 n3 (x a o n1 n2 n3 h)
theorem But3.same {e u r : Addr} {H H1 H2 : Hp} (x : But3 e u r H H1) (y : Same H1 H2) : But3 e u r H H2 := fun a o n1 n2 n3 h => y a o (x a o n1 n2 n3 h)
theorem base_len (n : Nat) : (baseOgs n : List (Og V)).length = n := by simp [baseOgs]
theorem Paired.map2 {α β γ : Type} {R : β → γ → Prop} {f : α → β} {g : α → γ} : ∀ {l : List α}, (∀ x ∈ l, R (f x) (g x)) → Paired R (l.map f) (l.map g)
  | [], _ => .nil
  | _ :: _, h => .cons (h _ List.mem_cons_self) (Paired.map2 fun y hy => h y (List.mem_cons_of_mem _ hy))
theorem rg_base {H : Hp} (n : Nat) : OgsAt H (rgV 0 (n : Int)) (baseOgs n) := by
  unfold rgV baseOgs
  rw [Int.sub_zero, Int.toNat_natCast]
  refine Paired.map2 fun x _ => ?_
  show V.int (0 + (x : Int)) = V.int x
  rw [Int.zero_add]
section
variable {P : Program} {w : World} {K : PySem.W.Frag} {mg : Str → Option Value} {base : Heap} {C : Addr}
/-! ### _law_back_and_forth -/
abbrev s__law_back_and_forth : Stmt := top 32
theorem sc__law_back_and_forth : FnScope ["_law_editor", "_law_base", "_law_state", "_law_last", "_law_k"] ["_law_editor", "_law_base", "_law_state"] (defScope s__law_back_and_forth) := ⟨rfl, rfl, rfl, by decide +kernel, rfl, by decide +kernel, by decide +kernel⟩
def spBaf (C : Addr) : Sp := fun vs H Q _ => ∃ (e st : Addr) (bv : V), vs = [.ref e, bv, .ref st] ∧ ∃ (G : List Addr) (u r s1 s2 : Addr) (b : List V) (und : List (List (Og V))) (cur : List (Og V)) (red : List (List (Og V))) (k : Nat), Sd C G H e u r st s1 s2 bv b und cur red ∧
  Bnd b k und cur red ∧ k ≤ 28 ∧ AllEl H und cur red ∧ Els H b ∧ ∀ H', But3 e u r H H' → Q (.bl true) H'
/-- behind i undoes, or redoes: the row of all the histories stays -/
def ivUn (C : Addr) (H : Hp) (e st u r : Addr) (bv lv : V) (b : List V) (L : List (List (Og V))) (m i : Nat) (σ : L2.St) (H' : Hp) : Prop := ∃ (und : List (List (Og V))) (cur : List (Og V)) (red : List (List (Og V))) (x : Option V),
  σ = [some (.ref e), some bv, some (.ref st), some lv, x] ∧ But3 e u r H H' ∧ EdO C H' e u r bv b und cur red ∧ und ++ [cur] ++ red.reverse = L ∧ und.length + i = m
def ivRe (C : Addr) (H : Hp) (e st u r : Addr) (bv lv : V) (b : List V) (L : List (List (Og V))) (m i : Nat) (σ : L2.St) (H' : Hp) : Prop := ∃ (und : List (List (Og V))) (cur : List (Og V)) (red : List (List (Og V))) (x : Option V),
  σ = [some (.ref e), some bv, some (.ref st), some lv, x] ∧ But3 e u r H H' ∧ EdO C H' e u r bv b und cur red ∧ und ++ [cur] ++ red.reverse = L ∧ red.length + i = m
theorem ok_baf (D : Dn K mg "_law_back_and_forth" s__law_back_and_forth ["_law_editor", "_law_base", "_law_state"]) (T : Blt mg) (m_undo : Met P w K mg base 3 C "undo" (spUndo C) []) (m_redo : Met P w K mg base 3 C "redo" (spRedo C) [])
    (c__law_right : Cal P w K mg base 7 "_law_right" (spRight C) []) : Cal P w K mg base 8 "_law_back_and_forth" (spBaf C) [] := by
  refine cal_of D sc__law_back_and_forth (fun vs H Q E h => ?_) (fun f cdv A outer s H vs Q E hr h => ?_)
  · obtain ⟨e, st, bv, rfl, _⟩ := h
    rfl
  · refine ⟨_, (pss_cons (ps_set (i := 3) sc__law_back_and_forth.nd rfl (Or.inl rfl) (pe_ix ix_list (pv 2) pe_int (fun _ _ => rfl)))
  (pss_cons (ps_if (pt_cmpR op_gt (pe_callB call_len_seq (by rfl) T.b_len (by decide +kernel) (pa_cons (pe_ix ix_list (pv 2) pe_int (fun _ _ => rfl)) pa_nil)) pe_int (nomark _)) (pss_one (ps_set (i := 3) sc__law_back_and_forth.nd rfl (Or.inl rfl) (pe_ix ix_list (pe_ix ix_list (pv 2) pe_int (fun _ _ => rfl)) pe_int (fun _ _ => rfl)))) pss_nil)
  (pss_cons (ps_for PassesOwn.never rfl (pi_range1 (by rfl) T.b_range (pa_cons pe_int pa_nil)) (pg_name (i := 4) sc__law_back_and_forth.nd rfl (Or.inl rfl))
  (pss_one (ps_if (pt_not (pt_val (pe_mt0 m_undo hr (by decide) (pv 0)))) (pss_one ps_break) pss_nil)))
  (pss_cons (ps_if (pt_not (pt_val (pe_c c__law_right hr (by decide) (by rfl) (pa_cons (pv 0) (pa_cons (pv 1) (pa_cons (pe_listRg rfl (by rfl) T.b_list (prg_1 (by rfl) T.b_range (pe_callB call_len_seq (by rfl) T.b_len (by decide +kernel) (pa_cons (pv 1) pa_nil)))) pa_nil)))))) (pss_one (ps_ret pe_bl)) pss_nil)
  (pss_cons (ps_for PassesOwn.never rfl (pi_range1 (by rfl) T.b_range (pa_cons pe_int pa_nil)) (pg_name (i := 4) sc__law_back_and_forth.nd rfl (Or.inl rfl))
  (pss_one (ps_if (pt_not (pt_val (pe_mt0 m_redo hr (by decide) (pv 0)))) (pss_one ps_break) pss_nil)))
  (pss_one (ps_ret (pe_c c__law_right hr (by decide) (by rfl) (pa_cons (pv 0) (pa_cons (pv 1) (pa_cons (pv 3) pa_nil))))))))))), ?_⟩
    obtain ⟨e, st, bv, rfl, G, u, r, s1, s2, b, und, cur, red, k, ⟨hed, ⟨c0, us, rs, hst, hc0, hs1, hus, hs2, hrs⟩, iu, ir, it, i1, i2, nd⟩, bn, k28, ael, hb, kk⟩ := h
    obtain ⟨ca, covs, rfl, nca, hca, hcog⟩ := hc0
    obtain ⟨ae, dx, efs, hee⟩ : ∃ a dx fs, H e = some (.ins a dx fs) := by
      obtain ⟨_, _, dx, cv, pv, us, rs, he, _⟩ := hed
      exact ⟨_, _, _, he⟩
    -- the row, its last
    obtain ⟨L, hL⟩ : ∃ L, und ++ [cur] ++ red.reverse = L := ⟨_, rfl⟩
    have hLn : L.length = und.length + 1 + red.length := by
      rw [← hL]
      simp only [List.length_append, List.length_singleton, List.length_reverse]
    have nm := bn.nm
    have memL : ∀ os ∈ L, os ∈ und ∨ os = cur ∨ os ∈ red := by
      intro os hos
      rw [← hL] at hos
      rcases List.mem_append.mp hos with h | h
      · rcases List.mem_append.mp h with h | h
        · exact .inl h
        · exact .inr (.inl (List.mem_singleton.mp h))
      · exact .inr (.inr (List.mem_reverse.mp h))
    have fineL : ∀ os ∈ L, OgFine b.length os ∧ os.length ≤ 200 := by
      intro os hos
      have k30 := bn.k30
      rcases memL os hos with h | h | h
      · exact ⟨(bn.fu os h).1, by have := (bn.fu os h).2; omega⟩
      · rw [h]
        exact ⟨bn.fc.1, by have := bn.fc.2; omega⟩
      · exact ⟨(bn.fr os h).1, by have := (bn.fr os h).2; omega⟩
    have elL : ∀ os ∈ L, OgEl H os := fun os hos => ael os (memL os hos)
    have headL : L.head? = some (baseOgs b.length) := by
      rw [← bn.bt, ← hL]
      cases und <;> rfl
    -- the loops, from «last» on
    walk_at "rl"
    refine iteC (fun c1 => ?_) (fun c1 => ?_)
    obtain ⟨y, hy, o, ho, hyo⟩ : ∃ y, rs[0]? = some y ∧ ∃ o, red[0]? = some o ∧ OgL G H y o := by
      cases hrs with
      | nil => simp at c1
      | cons r t => exact ⟨_, rfl, _, rfl, r⟩
    obtain ⟨la, lovs, rfl, nla, hla, hlo⟩ := hyo
    walk_at "rl"
    have hlast : L.getLast? = some o := by
      rw [← hL]
      cases red with
      | nil => cases ho
      | cons o' t =>
        cases ho
        rw [List.reverse_cons, ← List.append_assoc]
        exact last_snoc _ _
    rotate_left
    walk_at "rl"
    have nla := nca
    have hla := hca
    have hlo := hcog
    have hlast : L.getLast? = some cur := by
      rw [← hL]
      cases hrs with
      | nil => exact (by simp)
      | cons r t => simp at c1
    rotate_left
    all_goals
      refine ⟨by decide, by decide, for_range (ivUn C H e st u r bv _ b L und.length) ⟨und, cur, red, _, rfl, But3.refl, hed, hL, rfl⟩ ?_ ?_⟩
      · rintro i σ H1 hi ⟨und1, cur1, red1, x, rfl, f1, ed1, eL, en⟩
        obtain ⟨_, _, dx1, cv1, pv1, us1, rs1, he1, _⟩ := id ed1
        walk_at "rd"
        refine ⟨e, dx1, _, rfl, he1, ef_undo .., ?_⟩
        have m1 : ∀ os ∈ und1, os ∈ L := fun os h => by
          rw [← eL]
          exact List.mem_append_left _ (List.mem_append_left _ h)
        have l1 : und1.length + 1 + red1.length = L.length := by
          rw [← eL]
          simp only [List.length_append, List.length_singleton, List.length_reverse]
        refine ⟨e, u, r, bv, b, und1, cur1, red1, rfl, ed1, fun os h => ⟨(fineL os (m1 os h)).1, by have := (fineL os (m1 os h)).2; omega⟩, by omega, fun hn => ?_, fun und' o hn H2 f3 ed2 => ?_⟩
        · -- all undone: the base, then all the redoes
          subst hn
          have hc1 : cur1 = baseOgs b.length := by
            rw [← eL] at headL
            exact Option.some.inj headL
          obtain ⟨ba, rfl, hba⟩ := ed1.bs
          walk_at "rl"
          have b8 := bn.b8
          refine ⟨RgOk.of_le (by omega) (by omega) (by omega) (by omega), fun q nq => ?_⟩
          walk_at "rl"
          have bE : OgFine b.length cur1 := by rw [hc1]; exact baseOgs_fine _
          have bN : cur1.length ≤ 8 := by rw [hc1, base_len]; exact b8
          have mc : cur1 ∈ L := by
            rw [← eL]
            simp
          refine ⟨e, q, .ref ba, rfl, u, r, b, _, [], cur1, red1, ed1.same (Same_new nq), upd_same, ?_, bE, by omega, fun v hv => ?_, fun v hv => ?_, fun H3 s3 => ?_⟩
          · rw [hc1]
            exact rg_base _
          · exact ((hb v hv).kp (But3.kp hed f1)).kp (Kp_new nq)
          · exact ((elL _ mc v hv).kp (But3.kp hed f1)).kp (Kp_new nq)
          walk_at "rl"
          have f3 := (f1.same (Same_new nq)).same s3
          refine ⟨by decide, by decide, for_range (ivRe C H e st u r _ _ b L red1.length) ⟨[], cur1, red1, _, rfl, f3, (ed1.same (Same_new nq)).same s3, eL, rfl⟩ ?_ ?_⟩
          · rintro j σ H4 hj ⟨und4, cur4, red4, x, rfl, f4, ed4, eL4, en4⟩
            obtain ⟨_, _, dx4, cv4, pv4, us4, rs4, he4, _⟩ := id ed4
            walk_at "rd"
            refine ⟨e, dx4, _, rfl, he4, ef_redo .., ?_⟩
            have m4 : ∀ os ∈ red4, os ∈ L := fun os h => by
              rw [← eL4]
              exact List.mem_append_right _ (List.mem_reverse.mpr h)
            have l4 : und4.length + 1 + red4.length = L.length := by
              rw [← eL4]
              simp only [List.length_append, List.length_singleton, List.length_reverse]
            refine ⟨e, u, r, _, b, und4, cur4, red4, rfl, ed4, fun os h => ⟨(fineL os (m4 os h)).1, by have := (fineL os (m4 os h)).2; omega⟩, by omega, fun hn => ?_, fun red' o hn H5 f5 ed5 => ?_⟩
            · subst hn
              have hc4 := hlast
              rw [← eL4, List.reverse_nil, List.append_nil, last_snoc] at hc4
              have hc4 := Option.some.inj hc4
              have mc4 : cur4 ∈ L := by
                rw [← eL4]
                simp
              have fin4 := fineL _ mc4
              walk_at "rl"
              refine ⟨e, _, _, rfl, u, r, b, _, und4, cur4, [], ed4, f4 _ _ (ne_of hla hee (by intro z; cases z)) (fun z => nla (z ▸ iu)) (fun z => nla (z ▸ ir)) hla, ?_, fin4.1, by omega, fun v hv => (hb v hv).kp (But3.kp hed f4), fun v hv => (elL _ mc4 v hv).kp (But3.kp hed f4), fun H6 s6 => ?_⟩
              · rw [hc4]
                exact hlo.kp (But3.kp hed f4)
              · walk_at "rq"
                exact kk _ (f4.same s6)
            · walk_at "rl"
              refine ⟨und4 ++ [cur4], o, red', _, rfl, f4.trans f5, ed5, ?_, ?_⟩
              · rw [← eL4, hn, List.reverse_append]
                simp
              · rw [hn, List.length_append, List.length_singleton] at en4
                omega
          · rintro σ H4 ⟨und4, cur4, red4, x, rfl, f4, ed4, eL4, en4⟩
            omega
        · walk_at "rl"
          refine ⟨und', o, red1 ++ [cur1], _, rfl, f1.trans f3, ed2, ?_, ?_⟩
          · rw [← eL, hn, List.reverse_append]
            simp
          · rw [hn, List.length_append, List.length_singleton] at en
            omega
      · rintro σ H1 ⟨und1, cur1, red1, x, rfl, f1, ed1, eL, en⟩
        omega
end
end K7

set_option Elab.async false
set_option linter.all false
set_option maxRecDepth 100000
set_option maxHeartbeats 4000000
namespace K7
open PySem PySem.Spec PyProof.Rows L2 Ed
open C8 (Cal Met Mak pe_c pe_mk pe_mt pe_mt0)
/-! ### small words of the proofs: walk_at "lk" (what stands at an address), "ne" (two addresses differ), "rd" (the plain steps of a reading) -/
local macro_rules | `(tactic| walk_at "ne") => `(tactic| first
  | assumption
  | exact Ne.symm (by assumption)
  | exact ne_of_none (by assumption) (by assumption)
  | exact Ne.symm (ne_of_none (by assumption) (by assumption))
  | exact ne_of (by assumption) (by assumption) (by intro z; cases z)
  | exact ne_of_none (by walk_at "lk") (by assumption)
  | exact Ne.symm (ne_of_none (by walk_at "lk") (by assumption))
  | exact ne_of (by walk_at "lk") (by walk_at "lk") (by intro z; cases z))
local macro_rules | `(tactic| walk_at "lk") => `(tactic| first
  | assumption
  | exact upd_same
  | (refine lk_new (by assumption) ?_; walk_at "lk")
  | (refine Same.at (by assumption) ?_; walk_at "lk")
  | (refine Kp.at (by assumption) ?_; walk_at "lk")
  | (refine lk_ne (by walk_at "ne") ?_; walk_at "lk"))
local macro_rules | `(tactic| walk_at "at") => `(tactic| first
  | rfl
  | exact atI_last _ _
  | exact atI_neg1 (by assumption)
  | exact atI_nat (by first | assumption | rfl))
local macro_rules | `(tactic| walk_at "ix") => `(tactic| first
  | refine ⟨_, _, _, _, rfl, rfl, SqT.of (by walk_at "lk"), by walk_at "at", ?_⟩
  | refine ⟨_, _, _, _, rfl, rfl, SqL.of (by walk_at "lk"), by walk_at "at", ?_⟩)
local macro_rules | `(tactic| walk_at "ty") => `(tactic| first
  | exact TyOf.int _
  | exact TyOf.str _
  | exact TyOf.bl _
  | exact TyOf.tup (by walk_at "lk"))
local macro_rules | `(tactic| walk_at "isi") => `(tactic| first
  | refine ⟨_, _, _, _, true, rfl, .ty _, .base (by walk_at "ty"), kit_ty (by decide +kernel), ?_⟩
  | refine ⟨_, _, _, _, false, rfl, .ty _, .base (by walk_at "ty"), kit_ty (by decide +kernel), ?_⟩)
local macro_rules | `(tactic| walk_at "cnd") => `(tactic| first
  | exact ⟨by decide, by decide, by decide⟩
  | exact Or.inr ⟨by decide, by decide⟩
  | (show (0 : Int) < _; decide))
local macro_rules | `(tactic| walk_at "rd1") => `(tactic| first
  | (with_reducible refine iteN kept_ne ?_)
  | (with_reducible refine iteN ins_ne ?_)
  | refine ⟨_, rfl, ?_⟩
  | refine ⟨_, _, rfl, rfl, ?_⟩
  | walk_at "ix"
  | refine ⟨rfl, ?_⟩
  | refine ⟨_, _, rfl, ?_⟩
  | refine ⟨Nat.le_of_ble_eq_true rfl, ?_⟩
  | walk_at "isi"
  | refine .inl ⟨_, rfl, ?_⟩
  | refine ⟨_, _, _, _, rfl, rfl, (by walk_at "lk"), rfl, ?_⟩
  | refine ⟨(by walk_at "cnd"), ?_⟩
  | refine ⟨.inl ⟨rfl, _, SqL.of (by walk_at "lk")⟩, ?_⟩)
local macro_rules | `(tactic| walk_at "rd") => `(tactic| repeat (walk_at "rd1"))
local macro_rules | `(tactic| walk_at "rq") => `(tactic| ((repeat (walk_at "rd1")); (try dsimp only)))
local macro_rules | `(tactic| walk_at "ln") => `(tactic| first
  | refine ⟨_, _, rfl, .inr (SqT.of (by walk_at "lk")), ?_⟩
  | refine ⟨_, _, rfl, .inl (SqL.of (by walk_at "lk")), ?_⟩)
local macro_rules | `(tactic| walk_at "rl") => `(tactic| repeat (first | walk_at "rd1" | walk_at "ln"))
local macro_rules | `(tactic| walk_at "rlq") => `(tactic| ((repeat (first | walk_at "rd1" | walk_at "ln")); (try dsimp only)))

/-- one editor with its state -/
structure Side where
  e : Addr
  u : Addr
  r : Addr
  t : Addr
  s1 : Addr
  s2 : Addr
  v : V
  b : List V
  und : List (List (Og V))
  cur : List (Og V)
  red : List (List (Og V))
def Side.mut (S : Side) : List Addr := [S.u, S.r, S.t, S.s1, S.s2]
structure Side.ok (C : Addr) (G : List Addr) (H : Hp) (k : Nat) (S : Side) : Prop where
  sd : Sd C G H S.e S.u S.r S.t S.s1 S.s2 S.v S.b S.und S.cur S.red
  bn : Bnd S.b k S.und S.cur S.red
  ae : AllEl H S.und S.cur S.red
  eb : Els H S.b
theorem Side.ok.fr {C : Addr} {G G' : List Addr} {H H' : Hp} {k k' : Nat} {S : Side} (h : S.ok C G H k) (f : FrG G H H') (s : ∀ g ∈ G', g ∈ G ∨ H g = none) (ms : ∀ g ∈ S.mut, g ∈ G') (h0 : ∀ o, H S.e = some o → H' S.e = some o) (h1 : ∀ x ∈ S.mut, ∀ o, H x = some o → H' x = some o) (b' : Bnd S.b k' S.und S.cur S.red) : S.ok C G' H' k' := by
  obtain ⟨⟨hed, hso, iu, ir, it, i1, i2, nd⟩, bn, ae, eb⟩ := h
  have m1 : S.u ∈ S.mut := by simp [Side.mut]
  have m2 : S.r ∈ S.mut := by simp [Side.mut]
  have m3 : S.t ∈ S.mut := by simp [Side.mut]
  have m4 : S.s1 ∈ S.mut := by simp [Side.mut]
  have m5 : S.s2 ∈ S.mut := by simp [Side.mut]
  exact ⟨⟨hed.fr f.kp h0 (h1 _ m1) (h1 _ m2), hso.fr f s (fun l q => h1 _ m3 _ q) (fun l q => h1 _ m4 _ q) (fun l q => h1 _ m5 _ q), ms _ m1, ms _ m2, ms _ m3, ms _ m4, ms _ m5, nd⟩, b', fun os m x hx => (ae os m x hx).kp f.kp, fun x hx => (eb x hx).kp f.kp⟩
theorem Side.ok.ins {C : Addr} {G : List Addr} {H : Hp} {k : Nat} {S : Side} (h : S.ok C G H k) : ∃ dx fs, H S.e = some (.ins C dx fs) := by
  obtain ⟨_, _, dx, cv, pv, us, rs, he, _⟩ := h.sd.ed
  exact ⟨_, _, he⟩
theorem Side.ok.inG {C : Addr} {G : List Addr} {H : Hp} {k : Nat} {S : Side} (h : S.ok C G H k) : ∀ g ∈ S.mut, g ∈ G := by
  obtain ⟨⟨hed, hso, iu, ir, it, i1, i2, nd⟩, bn, ae, eb⟩ := h
  intro g hg
  simp only [Side.mut, List.mem_cons, List.not_mem_nil, or_false] at hg
  rcases hg with rfl | rfl | rfl | rfl | rfl <;> assumption
/-- the law's state: the tape, the lists that stay, the two sides -/
structure Tw (C : Addr) (G : List Addr) (H : Hp) (k : Nat) (a c : Addr) (X : List (Addr × List V)) (l : List V) (A B : Side) : Prop where
  tp : TapeAt H a c
  ia : a ∈ G
  nc : c ∉ G
  xs : ∀ y ∈ X, y.1 ∉ G ∧ H y.1 = some (.lst y.2)
  el : Els H l
  lv : Liv G H
  sA : A.ok C G H k
  sB : B.ok C G H k
  na : a ∉ A.mut
  nb : a ∉ B.mut
  dj : ∀ x ∈ A.mut, x ∉ B.mut
  ne : A.e ≠ B.e
theorem Tw.swap {C : Addr} {G : List Addr} {H : Hp} {k : Nat} {a c : Addr} {X : List (Addr × List V)} {l : List V} {A B : Side} (h : Tw C G H k a c X l A B) : Tw C G H k a c X l B A :=
  ⟨h.tp, h.ia, h.nc, h.xs, h.el, h.lv, h.sB, h.sA, h.nb, h.na, fun x hx m => h.dj x m hx, h.ne.symm⟩
theorem Tw.same {C : Addr} {G : List Addr} {H H' : Hp} {k : Nat} {a c : Addr} {X : List (Addr × List V)} {l : List V} {A B : Side} (h : Tw C G H k a c X l A B) (s : Same H H') : Tw C G H' k a c X l A B :=
  ⟨h.tp.same s, h.ia, h.nc, fun y hy => ⟨(h.xs y hy).1, s _ _ (h.xs y hy).2⟩, fun x hx => (h.el x hx).kp (Kp.of s), fun g hg => (h.lv g hg).imp fun l q => s _ _ q,
    h.sA.fr (FrG.of_same s) (fun g hg => .inl hg) h.sA.inG (fun o q => s _ _ q) (fun x _ o q => s _ _ q) h.sA.bn, h.sB.fr (FrG.of_same s) (fun g hg => .inl hg) h.sB.inG (fun o q => s _ _ q) (fun x _ o q => s _ _ q) h.sB.bn, h.na, h.nb, h.dj, h.ne⟩
theorem Tw.but1 {C : Addr} {G : List Addr} {H H' : Hp} {k : Nat} {a c : Addr} {X : List (Addr × List V)} {l : List V} {A B : Side} (h : Tw C G H k a c X l A B) (s : But1 a H H') (t : TapeAt H' a c) : Tw C G H' k a c X l A B := by
  have f : FrG G H H' := ⟨fun x l n q => s x _ (fun e => n (e ▸ h.ia)) q, h.tp.kp s⟩
  obtain ⟨al, hal⟩ := h.tp.lst
  have one : ∀ S : Side, S.ok C G H k → a ∉ S.mut → S.ok C G H' k := by
    intro S hS na
    obtain ⟨dx, fs, he⟩ := hS.ins
    exact hS.fr f (fun g hg => .inl hg) hS.inG (fun o q => s _ _ (ne_of he hal (by intro z; cases z)) q) (fun x hx o q => s _ _ (fun e => na (e ▸ hx)) q) hS.bn
  refine ⟨t, h.ia, h.nc, fun y hy => ⟨(h.xs y hy).1, f.ls _ _ (h.xs y hy).1 (h.xs y hy).2⟩, fun x hx => (h.el x hx).kp f.kp, fun g hg => ?_, one A h.sA h.na, one B h.sB h.nb, h.na, h.nb, h.dj, h.ne⟩
  by_cases e : g = a
  · rw [e]
    exact t.lst
  · obtain ⟨l, q⟩ := h.lv g hg
    exact ⟨l, s _ _ e q⟩
/-- behind a deed of the first -/
theorem Tw.deed {C : Addr} {G G' : List Addr} {H H' : Hp} {k : Nat} {a c r' s2' : Addr} {X : List (Addr × List V)} {l : List V} {A B : Side} {und' : List (List (Og V))} {cur' : List (Og V)} {red' : List (List (Og V))} (h : Tw C G H k a c X l A B) (hk : k < 30)
    (f : FrL [a, A.e, A.u, A.r, A.t, A.s1, A.s2] H H') (lv : Liv G' H') (g1 : ∀ g ∈ G, g ∉ [A.u, A.r, A.t, A.s1, A.s2] → g ∈ G') (g2 : ∀ g ∈ G', g ∈ G ∨ H g = none) (t : TapeAt H' a c) (sd : Sd C G' H' A.e A.u r' A.t A.s1 s2' A.v A.b und' cur' red')
    (hr : r' = A.r ∨ H r' = none) (hs : s2' = A.s2 ∨ H s2' = none) (bn : Bnd A.b (k + 1) und' cur' red') (ae : AllEl H' und' cur' red') : Tw C G' H' (k + 1) a c X l ⟨A.e, A.u, r', A.t, A.s1, s2', A.v, A.b, und', cur', red'⟩ B := by
  obtain ⟨al, hal⟩ := h.tp.lst
  obtain ⟨_, _, _, _, _, _, hcc⟩ := id h.tp
  obtain ⟨dA, fA, heA⟩ := h.sA.ins
  obtain ⟨dB, fB, heB⟩ := h.sB.ins
  have fg : FrG G H H' := f.frg (by
    intro x hx
    rcases List.mem_cons.mp hx with rfl | hx
    · exact .inl ⟨h.ia, h.lv _ h.ia⟩
    rcases List.mem_cons.mp hx with rfl | hx
    · exact .inr ⟨_, _, _, heA⟩
    · exact .inl ⟨h.sA.inG x hx, h.lv _ (h.sA.inG x hx)⟩)
  have nB : ∀ x ∈ B.mut, x ∉ [a, A.e, A.u, A.r, A.t, A.s1, A.s2] := by
    intro x hx m
    rcases List.mem_cons.mp m with rfl | m
    · exact h.nb hx
    rcases List.mem_cons.mp m with rfl | m
    · obtain ⟨l, q⟩ := h.lv _ (h.sB.inG _ hx)
      rw [heA] at q
      cases q
    · exact h.dj x m hx
  have nBe : B.e ∉ [a, A.e, A.u, A.r, A.t, A.s1, A.s2] := by
    intro m
    rcases List.mem_cons.mp m with m | m
    · rw [m, hal] at heB
      cases heB
    rcases List.mem_cons.mp m with m | m
    · exact h.ne m.symm
    · obtain ⟨l, q⟩ := h.lv _ (h.sA.inG _ m)
      rw [heB] at q
      cases q
  have liveB : ∀ x ∈ B.mut, H x ≠ none := by
    intro x hx e
    obtain ⟨l, q⟩ := h.lv _ (h.sB.inG x hx)
    rw [e] at q
    cases q
  have mA : ∀ x ∈ [A.u, r', A.t, A.s1, s2'], x ∈ A.mut ∨ H x = none := by
    intro x hx
    simp only [List.mem_cons, List.not_mem_nil, or_false] at hx
    rcases hx with rfl | rfl | rfl | rfl | rfl
    · exact .inl (by simp [Side.mut])
    · exact hr.imp (fun e => by rw [e]; simp [Side.mut]) id
    · exact .inl (by simp [Side.mut])
    · exact .inl (by simp [Side.mut])
    · exact hs.imp (fun e => by rw [e]; simp [Side.mut]) id
  refine ⟨t, g1 _ h.ia h.na, nin_of g2 h.nc hcc, fun y hy => ⟨nin_of g2 (h.xs y hy).1 (h.xs y hy).2, fg.ls _ _ (h.xs y hy).1 (h.xs y hy).2⟩, fun x hx => (h.el x hx).kp fg.kp, lv, ⟨sd, bn, ae, fun x hx => (h.sA.eb x hx).kp fg.kp⟩,
    h.sB.fr fg g2 (fun g hg => g1 g (h.sB.inG g hg) (fun m => h.dj g m hg)) (fun o q => f _ _ nBe q) (fun x hx o q => f _ _ (nB x hx) q) (h.sB.bn.up hk), ?_, h.nb, ?_, h.ne⟩
  · intro m
    rcases mA a m with m | m
    · exact h.na m
    · rw [hal] at m
      cases m
  · intro x hx m
    rcases mA x hx with q | q
    · exact h.dj x q m
    · exact liveB x m q
/-- a deed with the first -/
theorem Tw.call {C : Addr} {G : List Addr} {H : Hp} {k : Nat} {a c p : Addr} {X : List (Addr × List V)} {l : List V} {A B : Side} {Q : VK} {E : XK} (h : Tw C G H k a c X l A B) (hp : (p, l) ∈ X) (l1 : 1 ≤ l.length) (l6 : l.length ≤ 6) (hk : k < 30)
    (kk : ∀ H' G' A', Tw C G' H' (k + 1) a c X l A' B → A'.e = A.e → A'.t = A.t → A'.v = A.v → Q (.bl true) H') : spDeed C [.ref a, .ref p, .ref A.e, .ref A.t] H Q E :=
  ⟨a, p, A.e, A.t, rfl, c, l, G, A.u, A.r, A.s1, A.s2, A.v, A.b, A.und, A.cur, A.red, k, h.tp, h.ia, h.nc, (h.xs _ hp).1, (h.xs _ hp).2, h.el, l1, l6, h.lv, h.sA.sd, h.na, h.sA.bn, h.sA.ae, hk,
    fun H' G' r' s2' und' cur' red' f lv g1 g2 t sd hr hs bn ae => kk H' G' _ (h.deed hk f lv g1 g2 t sd hr hs bn ae) rfl rfl rfl⟩
theorem Side.ok.right {C : Addr} {G : List Addr} {H : Hp} {k : Nat} {S : Side} (h : S.ok C G H k) : ∃ ca, H S.t = some (.lst [.ref ca, .ref S.s1, .ref S.s2]) ∧ ∀ (Q : VK) (E : XK), (∀ H', Same H H' → Q (.bl true) H') → spRight C [.ref S.e, S.v, .ref ca] H Q E := by
  obtain ⟨⟨hed, ⟨c0, us, rs, hst, ⟨ca, covs, rfl, nca, hca, hco⟩, _⟩, iu, ir, it, i1, i2, nd⟩, bn, ae, eb⟩ := h
  have b1 := bn.fc
  have b2 := bn.k30
  exact ⟨ca, hst, fun Q E kk => ⟨S.e, ca, S.v, rfl, S.u, S.r, S.b, covs, S.und, S.cur, S.red, hed, hca, hco, b1.1, by omega, eb, ae _ (.inr (.inl rfl)), kk⟩⟩
theorem Side.ok.baf {C : Addr} {G : List Addr} {H : Hp} {k : Nat} {S : Side} {Q : VK} {E : XK} (h : S.ok C G H k) (hk : k ≤ 28) (kk : ∀ H', But3 S.e S.u S.r H H' → Q (.bl true) H') : spBaf C [.ref S.e, S.v, .ref S.t] H Q E :=
  ⟨S.e, S.t, S.v, rfl, G, S.u, S.r, S.s1, S.s2, S.b, S.und, S.cur, S.red, k, h.sd, h.bn, hk, h.ae, h.eb, kk⟩
theorem Tw.after {C : Addr} {G : List Addr} {H H' : Hp} {k : Nat} {a c : Addr} {X : List (Addr × List V)} {l : List V} {A B : Side} (h : Tw C G H k a c X l A B) (f : But3 A.e A.u A.r H H') : B.ok C G H' k ∧ ∀ y ∈ X, H' y.1 = some (.lst y.2) := by
  obtain ⟨dA, fA, heA⟩ := h.sA.ins
  obtain ⟨dB, fB, heB⟩ := h.sB.ins
  have mu : A.u ∈ A.mut := by simp [Side.mut]
  have mr : A.r ∈ A.mut := by simp [Side.mut]
  have fg : FrG G H H' := ⟨fun x l n q => f x _ (ne_of q heA (by intro z; cases z)) (fun e => n (e ▸ h.sA.inG _ mu)) (fun e => n (e ▸ h.sA.inG _ mr)) q, But3.kp h.sA.sd.ed f⟩
  have ls : ∀ {x}, x ∈ G → x ≠ A.e := fun hx e => by
    obtain ⟨l, q⟩ := h.lv _ hx
    rw [e, heA] at q
    cases q
  have lB : ∀ {x}, x ∈ G → B.e ≠ x := fun hx e => by
    obtain ⟨l, q⟩ := h.lv _ hx
    rw [← e, heB] at q
    cases q
  exact ⟨h.sB.fr fg (fun g hg => .inl hg) h.sB.inG (fun o q => f _ _ h.ne.symm (lB (h.sA.inG _ mu)) (lB (h.sA.inG _ mr)) q)
    (fun x hx o q => f _ _ (ls (h.sB.inG x hx)) (fun e => h.dj _ mu (e ▸ hx)) (fun e => h.dj _ mr (e ▸ hx)) q) h.sB.bn, fun y hy => fg.ls _ _ (h.xs y hy).1 (h.xs y hy).2⟩
theorem Tw.call' {C : Addr} {G : List Addr} {H : Hp} {k : Nat} {a c p e t : Addr} {X : List (Addr × List V)} {l : List V} {A B : Side} {Q : VK} {E : XK} (h : Tw C G H k a c X l A B) (hp : (p, l) ∈ X) (l1 : 1 ≤ l.length) (l6 : l.length ≤ 6) (hk : k < 30) (he : A.e = e) (ht : A.t = t)
    (kk : ∀ H' G' A', Tw C G' H' (k + 1) a c X l A' B → A'.e = A.e → A'.t = A.t → A'.v = A.v → Q (.bl true) H') : spDeed C [.ref a, .ref p, .ref e, .ref t] H Q E := by
  subst he ht
  exact h.call hp l1 l6 hk kk
theorem Side.ok.right' {C : Addr} {G : List Addr} {H : Hp} {k : Nat} {S : Side} {e t : Addr} {v : V} (h : S.ok C G H k) (he : S.e = e) (ht : S.t = t) (hv : S.v = v) : ∃ ca, H t = some (.lst [.ref ca, .ref S.s1, .ref S.s2]) ∧ ∀ (Q : VK) (E : XK), (∀ H', Same H H' → Q (.bl true) H') → spRight C [.ref e, v, .ref ca] H Q E := by
  subst he ht hv
  exact h.right
theorem Side.ok.baf' {C : Addr} {G : List Addr} {H : Hp} {k : Nat} {S : Side} {e t : Addr} {v : V} {Q : VK} {E : XK} (h : S.ok C G H k) (hk : k ≤ 28) (he : S.e = e) (ht : S.t = t) (hv : S.v = v) (kk : ∀ H', But3 S.e S.u S.r H H' → Q (.bl true) H') : spBaf C [.ref e, v, .ref t] H Q E := by
  subst he ht hv
  exact h.baf hk kk
end K7

set_option Elab.async false
set_option linter.all false
set_option maxRecDepth 100000
set_option maxHeartbeats 4000000
namespace K7
open PySem PySem.Spec PyProof.Rows L2 Ed
open C8 (Cal Met Mak pe_c pe_mk pe_mt pe_mt0)
/-! ### small words of the proofs: walk_at "lk" (what stands at an address), "ne" (two addresses differ), "rd" (the plain steps of a reading) -/
local macro_rules | `(tactic| walk_at "ne") => `(tactic| first
  | assumption
  | exact Ne.symm (by assumption)
  | exact ne_of_none (by assumption) (by assumption)
  | exact Ne.symm (ne_of_none (by assumption) (by assumption))
  | exact ne_of (by assumption) (by assumption) (by intro z; cases z)
  | exact ne_of_none (by walk_at "lk") (by assumption)
  | exact Ne.symm (ne_of_none (by walk_at "lk") (by assumption))
  | exact ne_of (by walk_at "lk") (by walk_at "lk") (by intro z; cases z))
local macro_rules | `(tactic| walk_at "lk") => `(tactic| first
  | assumption
  | exact upd_same
  | (refine lk_new (by assumption) ?_; walk_at "lk")
  | (refine Same.at (by assumption) ?_; walk_at "lk")
  | (refine Kp.at (by assumption) ?_; walk_at "lk")
  | (refine lk_ne (by walk_at "ne") ?_; walk_at "lk"))
local macro_rules | `(tactic| walk_at "at") => `(tactic| first
  | rfl
  | exact atI_last _ _
  | exact atI_neg1 (by assumption)
  | exact atI_nat (by first | assumption | rfl))
local macro_rules | `(tactic| walk_at "ix") => `(tactic| first
  | refine ⟨_, _, _, _, rfl, rfl, SqT.of (by walk_at "lk"), by walk_at "at", ?_⟩
  | refine ⟨_, _, _, _, rfl, rfl, SqL.of (by walk_at "lk"), by walk_at "at", ?_⟩)
local macro_rules | `(tactic| walk_at "ty") => `(tactic| first
  | exact TyOf.int _
  | exact TyOf.str _
  | exact TyOf.bl _
  | exact TyOf.tup (by walk_at "lk"))
local macro_rules | `(tactic| walk_at "isi") => `(tactic| first
  | refine ⟨_, _, _, _, true, rfl, .ty _, .base (by walk_at "ty"), kit_ty (by decide +kernel), ?_⟩
  | refine ⟨_, _, _, _, false, rfl, .ty _, .base (by walk_at "ty"), kit_ty (by decide +kernel), ?_⟩)
local macro_rules | `(tactic| walk_at "cnd") => `(tactic| first
  | exact ⟨by decide, by decide, by decide⟩
  | exact Or.inr ⟨by decide, by decide⟩
  | (show (0 : Int) < _; decide))
local macro_rules | `(tactic| walk_at "rd1") => `(tactic| first
  | (with_reducible refine iteN kept_ne ?_)
  | (with_reducible refine iteN ins_ne ?_)
  | refine ⟨_, rfl, ?_⟩
  | refine ⟨_, _, rfl, rfl, ?_⟩
  | walk_at "ix"
  | refine ⟨rfl, ?_⟩
  | refine ⟨_, _, rfl, ?_⟩
  | refine ⟨Nat.le_of_ble_eq_true rfl, ?_⟩
  | walk_at "isi"
  | refine .inl ⟨_, rfl, ?_⟩
  | refine ⟨_, _, _, _, rfl, rfl, (by walk_at "lk"), rfl, ?_⟩
  | refine ⟨(by walk_at "cnd"), ?_⟩
  | refine ⟨.inl ⟨rfl, _, SqL.of (by walk_at "lk")⟩, ?_⟩)
local macro_rules | `(tactic| walk_at "rd") => `(tactic| repeat (walk_at "rd1"))
local macro_rules | `(tactic| walk_at "rq") => `(tactic| ((repeat (walk_at "rd1")); (try dsimp only)))
local macro_rules | `(tactic| walk_at "ln") => `(tactic| first
  | refine ⟨_, _, rfl, .inr (SqT.of (by walk_at "lk")), ?_⟩
  | refine ⟨_, _, rfl, .inl (SqL.of (by walk_at "lk")), ?_⟩)
local macro_rules | `(tactic| walk_at "rl") => `(tactic| repeat (first | walk_at "rd1" | walk_at "ln"))
local macro_rules | `(tactic| walk_at "rlq") => `(tactic| ((repeat (first | walk_at "rd1" | walk_at "ln")); (try dsimp only)))

def ivEd (C : Addr) (Hc : Hp) (F : Addr) (v1 v2 : V) (b1 b2 : List V) (i : Nat) (H' : Hp) : Prop := Same Hc H' ∧ (i = 0 → H' F = some (.lst [])) ∧
  (i = 1 → ∃ e u r, H' F = some (.lst [.ref e]) ∧ EdO C H' e u r v1 b1 [] (baseOgs b1.length) [] ∧ Hc u = none ∧ Hc r = none ∧ F ≠ u ∧ F ≠ r) ∧
  (i = 2 → ∃ e u r e' u' r', H' F = some (.lst [.ref e, .ref e']) ∧ EdO C H' e u r v1 b1 [] (baseOgs b1.length) [] ∧ EdO C H' e' u' r' v2 b2 [] (baseOgs b2.length) [] ∧ Hc u = none ∧ Hc r = none ∧ Hc u' = none ∧ Hc r' = none ∧ F ≠ u ∧ F ≠ r ∧ F ≠ u' ∧ F ≠ r' ∧
    u ≠ u' ∧ u ≠ r' ∧ r ≠ u' ∧ r ≠ r' ∧ e ≠ e')
structure StN (He H' : Hp) (D q s1 s2 t : Addr) (n : Nat) : Prop where
  ht : H' t = some (.lst [.ref q, .ref s1, .ref s2])
  hq : H' q = some (.lst (rgV 0 (n : Int)))
  h1 : H' s1 = some (.lst [])
  h2 : H' s2 = some (.lst [])
  nq : He q = none
  n1 : He s1 = none
  n2 : He s2 = none
  nt : He t = none
  q1 : q ≠ s1
  q2 : q ≠ s2
  qt : q ≠ t
  d12 : s1 ≠ s2
  d1t : s1 ≠ t
  d2t : s2 ≠ t
  dq : D ≠ q
  d1 : D ≠ s1
  d2 : D ≠ s2
  dt : D ≠ t
def ivSt (He : Hp) (D : Addr) (n1 n2 : Nat) (i : Nat) (H' : Hp) : Prop := Same He H' ∧ (i = 0 → H' D = some (.lst [])) ∧
  (i = 1 → ∃ q s1 s2 t, H' D = some (.lst [.ref t]) ∧ StN He H' D q s1 s2 t n1) ∧
  (i = 2 → ∃ q s1 s2 t q' s1' s2' t', H' D = some (.lst [.ref t, .ref t']) ∧ StN He H' D q s1 s2 t n1 ∧ StN He H' D q' s1' s2' t' n2 ∧ (∀ x ∈ [q, s1, s2, t], x ∉ [q', s1', s2', t']))
theorem StN.put {He H' : Hp} {D q s1 s2 t : Addr} {n : Nat} {o : HO} (h : StN He H' D q s1 s2 t n) : StN He (upd H' D o) D q s1 s2 t n :=
  ⟨lk_ne (Ne.symm h.dt) h.ht, lk_ne (Ne.symm h.dq) h.hq, lk_ne (Ne.symm h.d1) h.h1, lk_ne (Ne.symm h.d2) h.h2, h.nq, h.n1, h.n2, h.nt, h.q1, h.q2, h.qt, h.d12, h.d1t, h.d2t, h.dq, h.d1, h.d2, h.dt⟩
theorem StN.same {He H' H'' : Hp} {D q s1 s2 t : Addr} {n : Nat} (h : StN He H' D q s1 s2 t n) (s : Same H' H'') : StN He H'' D q s1 s2 t n :=
  ⟨s _ _ h.ht, s _ _ h.hq, s _ _ h.h1, s _ _ h.h2, h.nq, h.n1, h.n2, h.nt, h.q1, h.q2, h.qt, h.d12, h.d1t, h.d2t, h.dq, h.d1, h.d2, h.dt⟩
def ivLaw (C : Addr) (a c : Addr) (X : List (Addr × List V)) (l : List V) (s p ba F D e1 t1 e2 t2 : Addr) (v1 v2 : V) (i : Nat) (σ : L2.St) (H' : Hp) : Prop := ∃ (G : List Addr) (A B : Side) (x6 x7 x8 x9 : Option V),
  σ = [some (.ref s), some (.ref a), some (.ref p), some (.ref ba), some (.ref F), some (.ref D), x6, x7, x8, x9] ∧ Tw C G H' i a c X l A B ∧ A.e = e1 ∧ A.t = t1 ∧ A.v = v1 ∧ B.e = e2 ∧ B.t = t2 ∧ B.v = v2
def ivIn (C : Addr) (G : List Addr) (k a c : Addr) (X : List (Addr × List V)) (l : List V) (A B : Side) (s p ba F D : Addr) (x6 x7 x9 : Option V) (_ : Nat) (σ : L2.St) (H' : Hp) : Prop := ∃ (x8 : Option V),
  σ = [some (.ref s), some (.ref a), some (.ref p), some (.ref ba), some (.ref F), some (.ref D), x6, x7, x8, x9] ∧ Tw C G H' k a c X l A B
def ivOut (C : Addr) (G : List Addr) (k a c : Addr) (X : List (Addr × List V)) (l : List V) (A B : Side) (s p ba F D : Addr) (x6 x7 x9 : Option V) (j : Nat) (σ : L2.St) (H' : Hp) : Prop := ∃ (x8 : Option V),
  σ = [some (.ref s), some (.ref a), some (.ref p), some (.ref ba), some (.ref F), some (.ref D), x6, x7, x8, x9] ∧ (j = 0 → Tw C G H' k a c X l A B) ∧ (j = 1 → B.ok C G H' k ∧ ∀ y ∈ X, H' y.1 = some (.lst y.2))
section
variable {P : Program} {w : World} {K : PySem.W.Frag} {mg : Str → Option Value} {base : Heap} {C : Addr}
/-! ### law -/
abbrev s_law : Stmt := top 33
theorem sc_law : FnScope ["_law_script", "_law_tape_here", "_law_pool_here", "_law_bases", "_law_editors", "_law_states", "_law_k", "_law_turn", "_law_place", "_law_base"] ["_law_script"] (defScope s_law) := ⟨rfl, rfl, rfl, by decide +kernel, rfl, by decide +kernel, by decide +kernel⟩
def spLaw (K : PySem.W.Frag) : Sp := fun vs H Q _ => ∃ (s : Addr) (ns : List Int), vs = [.ref s] ∧ SqL K H s (ns.map V.int) ∧ ∀ H', Q (.bl true) H'
theorem ok_law {f : Addr} {fd : FuncData} (F0 : L2.Fun K "law" "law" s_law f fd) (T : Blt mg) (c__law_tape : Cal P w K mg base 1 "_law_tape" (spTape K) []) (c__law_draw : Cal P w K mg base 1 "_law_draw" spDraw []) (c__law_pool : Cal P w K mg base 4 "_law_pool" spPool [])
    (c__law_contents : Cal P w K mg base 2 "_law_contents" spLcontents []) (mk_Editor : Mak P w K mg base 3 "Editor" C (spInit C) []) (c__law_deed : Cal P w K mg base 5 "_law_deed" (spDeed C) [])
    (c__law_right : Cal P w K mg base 7 "_law_right" (spRight C) []) (c__law_back_and_forth : Cal P w K mg base 8 "_law_back_and_forth" (spBaf C) []) : FnOk P w K mg base CX0 9 f fd ["_law_script"] (spLaw K) := by
  refine F0.ok sc_law (fun vs H Q E h => ?_) (fun cdv A outer s H vs Q E hr h => ?_)
  · obtain ⟨s, ns, rfl, _⟩ := h
    rfl
  · refine ⟨_, (pss_cons (ps_set (i := 1) sc_law.nd rfl (Or.inl rfl) (pe_c c__law_tape hr (by decide) (by rfl) (pa_cons (pv 0) pa_nil)))
  (pss_cons (ps_set (i := 2) sc_law.nd rfl (Or.inl rfl) (pe_c c__law_pool hr (by decide) (by rfl) (pa_cons (pv 1) pa_nil)))
  (pss_cons (ps_set (i := 3) sc_law.nd rfl (Or.inl rfl) (pe_lst (pa_cons (pe_c c__law_contents hr (by decide) (by rfl) (pa_cons (pv 1) (pa_cons (pv 2) (pa_cons pe_int pa_nil)))) (pa_cons (pe_c c__law_contents hr (by decide) (by rfl) (pa_cons (pv 1) (pa_cons (pv 2) (pa_cons pe_int pa_nil)))) pa_nil))))
  (pss_cons (ps_setLc (i := 4) (own := [("_law_base", 9)]) (g := gName 9) (tt := tYes) rfl sc_law.nd rfl rfl (sw_true rfl rfl rfl (by decide +kernel)) (pi_list (pv 3)) (blkOk_by (own := [("_law_base", 9)]) (N := ["_law_script", "_law_tape_here", "_law_pool_here", "_law_bases", "_law_editors", "_law_states", "_law_k", "_law_turn", "_law_place", "_law_base"]) (sc := defScope s_law) (by decide +kernel)) (fun _ _ _ _ _ => pg_name (i := 9) sc_law.nd rfl (Or.inl rfl)) (fun _ _ _ _ _ => pts_nil) (fun _ _ _ _ _ => (pe_mk mk_Editor hr (by decide) (by rfl) (pa_cons (pv 9) pa_nil))))
  (pss_cons (ps_setLc (i := 5) (own := [("_law_base", 9)]) (g := gName 9) (tt := tYes) rfl sc_law.nd rfl rfl (sw_true rfl rfl rfl (by decide +kernel)) (pi_list (pv 3)) (blkOk_by (own := [("_law_base", 9)]) (N := ["_law_script", "_law_tape_here", "_law_pool_here", "_law_bases", "_law_editors", "_law_states", "_law_k", "_law_turn", "_law_place", "_law_base"]) (sc := defScope s_law) (by decide +kernel)) (fun _ _ _ _ _ => pg_name (i := 9) sc_law.nd rfl (Or.inl rfl)) (fun _ _ _ _ _ => pts_nil) (fun _ _ _ _ _ => (pe_lst (pa_cons (pe_listRg rfl (by rfl) T.b_list (prg_1 (by rfl) T.b_range (pe_callB (show CallR _ (.builtin "len") (rLenS K) from call_len_seq) (by rfl) T.b_len (by decide +kernel) (pa_cons (pv 9) pa_nil)))) (pa_cons (pe_lst pa_nil) (pa_cons (pe_lst pa_nil) pa_nil))))))
  (pss_cons (ps_for PassesOwn.never rfl (pi_range1 (by rfl) T.b_range (pa_cons (pe_op op_add pe_int (pe_c c__law_draw hr (by decide) (by rfl) (pa_cons (pv 1) (pa_cons pe_int pa_nil)))) pa_nil)) (pg_name (i := 6) sc_law.nd rfl (Or.inl rfl))
  (pss_cons (ps_set (i := 7) sc_law.nd rfl (Or.inl rfl) (pe_callTy call_int1 (by rfl) T.b_int (by decide +kernel) (pa_cons (pe_cmpR op_eq (pe_c c__law_draw hr (by decide) (by rfl) (pa_cons (pv 1) (pa_cons pe_int pa_nil))) pe_int (nomark _)) pa_nil)))
  (pss_cons (ps_if (pt_not (pt_val (pe_c c__law_deed hr (by decide) (by rfl) (pa_cons (pv 1) (pa_cons (pv 2) (pa_cons (pe_ix ix_list (pv 4) (pv 7) (fun _ _ => rfl)) (pa_cons (pe_ix ix_list (pv 5) (pv 7) (fun _ _ => rfl)) pa_nil))))))) (pss_one (ps_ret pe_bl)) pss_nil)
  (pss_one (ps_for PassesOwn.never rfl (pi_range1 (by rfl) T.b_range (pa_cons pe_int pa_nil)) (pg_name (i := 8) sc_law.nd rfl (Or.inl rfl))
  (pss_one (ps_if (pt_not (pt_val (pe_c c__law_right hr (by decide) (by rfl) (pa_cons (pe_ix ix_list (pv 4) (pv 8) (fun _ _ => rfl)) (pa_cons (pe_ix ix_list (pv 3) (pv 8) (fun _ _ => rfl)) (pa_cons (pe_ix ix_list (pe_ix ix_list (pv 5) (pv 8) (fun _ _ => rfl)) pe_int (fun _ _ => rfl)) pa_nil)))))) (pss_one (ps_ret pe_bl)) pss_nil)))))))
  (pss_cons (ps_for PassesOwn.never rfl (pi_range1 (by rfl) T.b_range (pa_cons pe_int pa_nil)) (pg_name (i := 8) sc_law.nd rfl (Or.inl rfl))
  (pss_one (ps_if (pt_not (pt_val (pe_c c__law_back_and_forth hr (by decide) (by rfl) (pa_cons (pe_ix ix_list (pv 4) (pv 8) (fun _ _ => rfl)) (pa_cons (pe_ix ix_list (pv 3) (pv 8) (fun _ _ => rfl)) (pa_cons (pe_ix ix_list (pv 5) (pv 8) (fun _ _ => rfl)) pa_nil)))))) (pss_one (ps_ret pe_bl)) pss_nil)))
  (pss_one (ps_ret pe_bl))))))))), ?_⟩
    obtain ⟨s, ns, rfl, hs, kk⟩ := h
    walk_at "rd"
    refine ⟨s, ns, rfl, hs, fun H1 a c s1 na nc t1 => ?_⟩
    walk_at "rd"
    refine ⟨_, t1, fun p l H2 np hp l1 l6 hel b2 t2 => ?_⟩
    walk_at "rd"
    have npa : p ≠ a := t1.nn np
    refine ⟨a, p, 8, rfl, c, l, t2, hp, npa, hel, l1, l6, by decide, fun v1 b1 H3 hv1 z1 e1' b3 t3 => ?_⟩
    walk_at "rd"
    have hp3 := b3 _ _ npa hp
    have hel3 := fun x hx => (hel x hx).kp (t2.kp b3)
    refine ⟨a, p, 3, rfl, c, l, t3, hp3, npa, hel3, l1, l6, by decide, fun v2 b2' H4 hv2 z2 e2' b4 t4 => ?_⟩
    walk_at "rd"
    intro ba nba
    walk_at "rd"
    have Hc0 := hv1.kp (t3.kp b4)
    have hv1c := Hc0.kp (Kp_new (o := .lst [v1, v2]) nba)
    have hv2c := hv2.kp (Kp_new (o := .lst [v1, v2]) nba)
    have hbac := upd_same (H := H4) (a := ba) (o := .lst [v1, v2])
    refine ⟨⟨_, SqL.of hbac⟩, fun F nF => lc_list (K := K) (a := ba) (xs := [v1, v2]) (ivEd C _ F v1 v2 b1 b2') ⟨Same_new nF, fun _ => upd_same, fun h => absurd h (by decide), fun h => absurd h (by decide)⟩ (fun i H' _ h => SqL.of (h.1 _ _ hbac)) ?_ ?_⟩
    · rintro i x H' hi ⟨S, h0, h1, -⟩
      match i, hi with
      | 0, hi =>
        have hi : v1 = x := Option.some.inj hi
        subst hi
        have hF := h0 rfl
        walk_at "rd"
        intro e dx ne nd ndx
        have S1 := (Same_new (o := .own e) nd).trans (Same_new (o := .ins C dx []) (by rw [upd_ne (fun z => ndx z.symm)]; exact ne))
        refine ⟨e, dx, v1, b1, H', rfl, upd_same, hv1c.kp (Kp.of S), by omega, S1, ne, fun H2 u r s2 nu nr ed => ⟨rfl, [], s2 _ _ hF, line_lt (by simp), ?_⟩⟩
        refine ⟨Same_put (S.trans s2) nF, (fun h => absurd h (by decide)), fun _ => ⟨e, u, r, upd_same, ed.put (s2 _ _ hF) (ne_of_none hF nu) (ne_of_none hF nr), S.free nu, S.free nr, ne_of_none hF nu, ne_of_none hF nr⟩, (fun h => absurd h (by decide))⟩
      | 1, hi =>
        have hi : v2 = x := Option.some.inj hi
        subst hi
        obtain ⟨e1, u1, r1, hF, ed1, nu1, nr1, fu1, fr1⟩ := h1 rfl
        obtain ⟨⟨lu, hlu⟩, ⟨lr, hlr⟩⟩ := ed1.ls
        obtain ⟨_, _, dx1, _, _, _, _, he1, _⟩ := id ed1
        walk_at "rd"
        intro e dx ne nd ndx
        have S1 := (Same_new (o := .own e) nd).trans (Same_new (o := .ins C dx []) (by rw [upd_ne (fun z => ndx z.symm)]; exact ne))
        refine ⟨e, dx, v2, b2', H', rfl, upd_same, hv2c.kp (Kp.of S), by omega, S1, ne, fun H2 u r s2 nu nr ed => ⟨rfl, [.ref e1], s2 _ _ hF, line_lt (by simp), ?_⟩⟩
        refine ⟨Same_put (S.trans s2) nF, (fun h => absurd h (by decide)), (fun h => absurd h (by decide)), fun _ => ⟨e1, u1, r1, e, u, r, upd_same, (ed1.same s2).put (s2 _ _ hF) fu1 fr1, ed.put (s2 _ _ hF) (ne_of_none hF nu) (ne_of_none hF nr), nu1, nr1, S.free nu, S.free nr, fu1, fr1, ne_of_none hF nu, ne_of_none hF nr,
          ne_of_none hlu nu, ne_of_none hlu nr, ne_of_none hlr nu, ne_of_none hlr nr, ne_of_none he1 ne⟩⟩
      | i + 2, hi => simp at hi
    rintro H5 ⟨S5, -, -, h2⟩
    obtain ⟨e1, u1, r1, e2, u2, r2, hF5, ed1, ed2, nu1, nr1, nu2, nr2, fu1, fr1, fu2, fr2, duu, dur, dru, drr, dee⟩ := h2 rfl
    have hba5 := S5 _ _ hbac
    have hv15 := hv1c.kp (Kp.of S5)
    have hv25 := hv2c.kp (Kp.of S5)
    obtain ⟨va1, rfl, hva1⟩ := hv15
    obtain ⟨va2, rfl, hva2⟩ := hv25
    walk_at "rd"
    refine ⟨⟨_, SqL.of hba5⟩, fun D nD => lc_list (K := K) (a := ba) (xs := [.ref va1, .ref va2]) (ivSt _ D b1.length b2'.length) ⟨Same_new nD, fun _ => upd_same, fun h => absurd h (by decide), fun h => absurd h (by decide)⟩ (fun i H' _ h => SqL.of (h.1 _ _ hba5)) ?_ ?_⟩
    · rintro i x H' hi ⟨S, h0, h1, -⟩
      match i, hi with
      | 0, hi =>
        have hi : V.ref va1 = x := Option.some.inj hi
        subst hi
        have hD := h0 rfl
        have hva := S _ _ hva1
        walk_at "rl"
        refine ⟨RgOk.of_le (by omega) (by omega) (by omega) (by omega), fun q nq => ?_⟩
        walk_at "rl"
        intro s1 ns1
        walk_at "rl"
        intro s2 ns2
        walk_at "rl"
        intro t nt
        have S6 := (((Same_new nq).trans (Same_new ns1)).trans (Same_new ns2)).trans (Same_new (o := .lst [.ref q, .ref s1, .ref s2]) nt)
        have hD6 := S6 _ _ hD
        have n1' := nn_of ns1
        have n2' := nn_of (nn_of ns2)
        have nt' := nn_of (nn_of (nn_of nt))
        have st : StN H5 _ D q s1 s2 t b1.length := ⟨upd_same, lk_new nt (lk_new ns2 (lk_new ns1 upd_same)), lk_new nt (lk_new ns2 upd_same), lk_new nt upd_same, S.free nq, S.free n1', S.free n2', S.free nt',
          ne_of_none upd_same ns1, ne_of_none (lk_new ns1 upd_same) ns2, ne_of_none (lk_new ns2 (lk_new ns1 upd_same)) nt, ne_of_none upd_same ns2, ne_of_none (lk_new ns2 upd_same) nt, ne_of_none upd_same nt,
          ne_of_none hD nq, ne_of_none hD n1', ne_of_none hD n2', ne_of_none hD nt'⟩
        refine ⟨_, hD6, line_lt (by simp), ?_⟩
        exact ⟨Same_put (S.trans S6) nD, (fun h => absurd h (by decide)), fun _ => ⟨q, s1, s2, t, upd_same, st.put⟩, (fun h => absurd h (by decide))⟩
      | 1, hi =>
        have hi : V.ref va2 = x := Option.some.inj hi
        subst hi
        obtain ⟨q1, s11, s21, t1, hD, st1⟩ := h1 rfl
        have hva := S _ _ hva2
        walk_at "rl"
        refine ⟨RgOk.of_le (by omega) (by omega) (by omega) (by omega), fun q nq => ?_⟩
        walk_at "rl"
        intro s1 ns1
        walk_at "rl"
        intro s2 ns2
        walk_at "rl"
        intro t nt
        have S6 := (((Same_new nq).trans (Same_new ns1)).trans (Same_new ns2)).trans (Same_new (o := .lst [.ref q, .ref s1, .ref s2]) nt)
        have hD6 := S6 _ _ hD
        have n1' := nn_of ns1
        have n2' := nn_of (nn_of ns2)
        have nt' := nn_of (nn_of (nn_of nt))
        have st : StN H5 _ D q s1 s2 t b2'.length := ⟨upd_same, lk_new nt (lk_new ns2 (lk_new ns1 upd_same)), lk_new nt (lk_new ns2 upd_same), lk_new nt upd_same, S.free nq, S.free n1', S.free n2', S.free nt',
          ne_of_none upd_same ns1, ne_of_none (lk_new ns1 upd_same) ns2, ne_of_none (lk_new ns2 (lk_new ns1 upd_same)) nt, ne_of_none upd_same ns2, ne_of_none (lk_new ns2 upd_same) nt, ne_of_none upd_same nt,
          ne_of_none hD nq, ne_of_none hD n1', ne_of_none hD n2', ne_of_none hD nt'⟩
        refine ⟨_, hD6, line_lt (by simp), ?_⟩
        refine ⟨Same_put (S.trans S6) nD, (fun h => absurd h (by decide)), (fun h => absurd h (by decide)), fun _ => ⟨q1, s11, s21, t1, q, s1, s2, t, upd_same, (st1.same S6).put, st.put, ?_⟩⟩
        intro x hx m
        have lx : ∃ l, H' x = some (.lst l) := by
          simp only [List.mem_cons, List.not_mem_nil, or_false] at hx
          rcases hx with rfl | rfl | rfl | rfl
          · exact ⟨_, st1.hq⟩
          · exact ⟨_, st1.h1⟩
          · exact ⟨_, st1.h2⟩
          · exact ⟨_, st1.ht⟩
        obtain ⟨l, hl⟩ := lx
        simp only [List.mem_cons, List.not_mem_nil, or_false] at m
        rcases m with rfl | rfl | rfl | rfl
        · exact ne_of_none hl nq rfl
        · exact ne_of_none hl n1' rfl
        · exact ne_of_none hl n2' rfl
        · exact ne_of_none hl nt' rfl
      | i + 2, hi => simp at hi
    rintro H6 ⟨S6, -, -, h2⟩
    obtain ⟨q1, s11, s21, st1, q2, s12, s22, st2, hD6, T1, T2, dis⟩ := h2 rfl
    -- the state before the deeds
    have tw : Tw C [a, u1, r1, st1, s11, s21, u2, r2, st2, s12, s22] H6 0 a c [(p, l), (ba, [.ref va1, .ref va2]), (F, [.ref e1, .ref e2]), (D, [.ref st1, .ref st2])] l
        ⟨e1, u1, r1, st1, s11, s21, .ref va1, b1, [], baseOgs b1.length, []⟩ ⟨e2, u2, r2, st2, s12, s22, .ref va2, b2', [], baseOgs b2'.length, []⟩ := by
      have t4' := t4.put (o := .lst [.ref va1, .ref va2]) nba
      have tH := (t4'.same S5).same S6
      have nca : c ≠ a := let ⟨_, _, _, _, q1, _, q2⟩ := t4; tape_ne q1 q2
      have nba' : ba ≠ a := t4.nn nba
      have La : ∃ o, upd H4 ba (.lst [.ref va1, .ref va2]) a = some o := let ⟨_, q⟩ := t4'.lst; ⟨_, q⟩
      have Lc : ∃ o, upd H4 ba (.lst [.ref va1, .ref va2]) c = some o := let ⟨_, _, _, _, _, _, q⟩ := t4'; ⟨_, q⟩
      have hp4 := lk_new (o := .lst [.ref va1, .ref va2]) nba (b4 _ _ npa hp3)
      have Lp : ∃ o, upd H4 ba (.lst [.ref va1, .ref va2]) p = some o := ⟨_, hp4⟩
      have Lb : ∃ o, upd H4 ba (.lst [.ref va1, .ref va2]) ba = some o := ⟨_, upd_same⟩
      have nD0 := S5.free nD
      obtain ⟨xt1, xq1, x11, x21, nq1, n11, n21, nt1, y1, y2, y3, y4, y5, y6, y7, y8, y9, y10⟩ := id T1
      obtain ⟨xt2, xq2, x12, x22, nq2, n12, n22, nt2, z1', z2', z3, z4, z5, z6, z7, z8, z9, z10⟩ := id T2
      have mq1 := S5.free nq1
      have m11 := S5.free n11
      have m21 := S5.free n21
      have mt1 := S5.free nt1
      have mq2 := S5.free nq2
      have m12 := S5.free n12
      have m22 := S5.free n22
      have mt2 := S5.free nt2
      obtain ⟨⟨w1, hw1⟩, ⟨w2, hw2⟩⟩ := ed1.ls
      obtain ⟨⟨w3, hw3⟩, ⟨w4, hw4⟩⟩ := ed2.ls
      have k1 : ∃ o, H5 u1 = some o := ⟨_, hw1⟩
      have k2 : ∃ o, H5 r1 = some o := ⟨_, hw2⟩
      have k3 : ∃ o, H5 u2 = some o := ⟨_, hw3⟩
      have k4 : ∃ o, H5 r2 = some o := ⟨_, hw4⟩
      have k5 : ∃ o, H5 F = some o := ⟨_, hF5⟩
      have c1' : ∀ {x y}, (∃ o, upd H4 ba (.lst [.ref va1, .ref va2]) x = some o) → upd H4 ba (.lst [.ref va1, .ref va2]) y = none → x ≠ y := fun ⟨o, h⟩ n => ne_of_none h n
      have c2' : ∀ {x y}, (∃ o, H5 x = some o) → H5 y = none → x ≠ y := fun ⟨o, h⟩ n => ne_of_none h n
      have dur1 := ed1.ne
      have dur2 := ed2.ne
      simp only [List.mem_cons, List.not_mem_nil, or_false, not_or, forall_eq_or_imp, forall_eq] at dis
      obtain ⟨⟨dqq, dq1, dq2, dqt⟩, ⟨d1q, d11, d12, d1t⟩, ⟨d2q, d21, d22, d2t⟩, dtq, dt1, dt2, dtt⟩ := dis
      have kel : Els H6 l := fun x hx => ((((hel x hx).kp (t2.kp b3)).kp (t3.kp b4)).kp (Kp_new nba)).kp ((Kp.of S5).trans (Kp.of S6))
      have eb1 : Els H6 b1 := fun x hx => (((e1' x hx).kp (t3.kp b4)).kp (Kp_new nba)).kp ((Kp.of S5).trans (Kp.of S6))
      have eb2 : Els H6 b2' := fun x hx => ((e2' x hx).kp (Kp_new nba)).kp ((Kp.of S5).trans (Kp.of S6))
      have noNew : ∀ (n : Nat) (os : List (Og V)), (os ∈ ([] : List (List (Og V))) ∨ os = baseOgs n ∨ os ∈ ([] : List (List (Og V)))) → OgEl H6 os := by
        intro n os m x hx
        rcases m with m | rfl | m
        · cases m
        · simp [baseOgs] at hx
        · cases m
      refine ⟨tH, by simp, ?nc, ?xs, kel, ?lv, ⟨⟨ed1.same S6, ⟨.ref q1, [], [], xt1, ⟨q1, _, rfl, ?q1, xq1, rg_base _⟩, x11, .nil, x21, .nil⟩, by simp, by simp, by simp, by simp, by simp, ?nd1⟩, ⟨z1, by decide, (by intro os h; cases h), ⟨baseOgs_fine _, by rw [base_len]; omega⟩, (by intro os h; cases h), Nat.le_refl 0, rfl⟩, noNew _, eb1⟩,
        ⟨⟨ed2.same S6, ⟨.ref q2, [], [], xt2, ⟨q2, _, rfl, ?q2, xq2, rg_base _⟩, x12, .nil, x22, .nil⟩, by simp, by simp, by simp, by simp, by simp, ?nd2⟩, ⟨by omega, by decide, (by intro os h; cases h), ⟨baseOgs_fine _, by rw [base_len]; omega⟩, (by intro os h; cases h), Nat.le_refl 0, rfl⟩, noNew _, eb2⟩, ?na, ?nb, ?dj, dee⟩
      case xs =>
        intro y hy
        simp only [List.mem_cons, List.not_mem_nil, or_false] at hy
        rcases hy with rfl | rfl | rfl | rfl
        · refine ⟨?_, S6 _ _ (S5 _ _ hp4)⟩
          simp only [List.mem_cons, List.not_mem_nil, or_false, not_or]
          repeat' apply And.intro
          all_goals first | assumption | exact c1' (by assumption) (by assumption)
        · refine ⟨?_, S6 _ _ hba5⟩
          simp only [List.mem_cons, List.not_mem_nil, or_false, not_or]
          repeat' apply And.intro
          all_goals first | assumption | exact c1' (by assumption) (by assumption)
        · refine ⟨?_, S6 _ _ hF5⟩
          simp only [List.mem_cons, List.not_mem_nil, or_false, not_or]
          repeat' apply And.intro
          all_goals first | assumption | exact Ne.symm (c1' (by assumption) (by assumption)) | exact c2' (by assumption) (by assumption)
        · refine ⟨?_, hD6⟩
          simp only [List.mem_cons, List.not_mem_nil, or_false, not_or]
          repeat' apply And.intro
          all_goals first | assumption | exact Ne.symm (c1' (by assumption) (by assumption)) | exact Ne.symm (c2' (by assumption) (by assumption))
      case lv =>
        intro g hg
        simp only [List.mem_cons, List.not_mem_nil, or_false] at hg
        rcases hg with rfl | rfl | rfl | rfl | rfl | rfl | rfl | rfl | rfl | rfl | rfl
        · exact tH.lst
        · exact ⟨_, S6 _ _ hw1⟩
        · exact ⟨_, S6 _ _ hw2⟩
        · exact ⟨_, xt1⟩
        · exact ⟨_, x11⟩
        · exact ⟨_, x21⟩
        · exact ⟨_, S6 _ _ hw3⟩
        · exact ⟨_, S6 _ _ hw4⟩
        · exact ⟨_, xt2⟩
        · exact ⟨_, x12⟩
        · exact ⟨_, x22⟩
      all_goals
        simp only [Side.mut, List.nodup_cons, List.mem_cons, List.not_mem_nil, or_false, not_or, not_false_eq_true, List.nodup_nil, and_true, forall_eq_or_imp, forall_eq]
        repeat' apply And.intro
        all_goals first | assumption | exact Ne.symm (by assumption) | exact c1' (by assumption) (by assumption) | exact Ne.symm (c1' (by assumption) (by assumption)) | exact c2' (by assumption) (by assumption) | exact Ne.symm (c2' (by assumption) (by assumption))
    have inP : (p, l) ∈ [(p, l), (ba, [.ref va1, .ref va2]), (F, [.ref e1, .ref e2]), (D, [V.ref st1, .ref st2])] := by simp
    have inB : (ba, [V.ref va1, .ref va2]) ∈ [(p, l), (ba, [.ref va1, .ref va2]), (F, [.ref e1, .ref e2]), (D, [V.ref st1, .ref st2])] := by simp
    have inF : (F, [V.ref e1, .ref e2]) ∈ [(p, l), (ba, [.ref va1, .ref va2]), (F, [.ref e1, .ref e2]), (D, [V.ref st1, .ref st2])] := by simp
    have inD : (D, [V.ref st1, .ref st2]) ∈ [(p, l), (ba, [.ref va1, .ref va2]), (F, [.ref e1, .ref e2]), (D, [V.ref st1, .ref st2])] := by simp
    generalize hX : [(p, l), (ba, [V.ref va1, .ref va2]), (F, [.ref e1, .ref e2]), (D, [.ref st1, .ref st2])] = X at tw inP inB inF inD
    walk_at "rd"
    refine ⟨_, tw.tp, by decide, by decide, fun dn H7 d0 d1 b7 t7 => ?_⟩
    have tw7 := tw.but1 b7 t7
    walk_at "rd"
    refine ⟨by omega, by omega, for_range (ivLaw C a c X l s p ba F D e1 st1 e2 st2 (.ref va1) (.ref va2)) ⟨_, _, _, _, _, _, _, rfl, tw7, rfl, rfl, rfl, rfl, rfl, rfl⟩ ?_ ?_⟩
    · rintro i σ H8 hi ⟨G, A, B, x6, x7, x8, x9, rfl, tw8, aE, aT, aV, bE, bT, bV⟩
      have hi' : i < 24 := by omega
      walk_at "rd"
      refine ⟨_, tw8.tp, by decide, by decide, fun d4 H9 _ _ b9 t9 => ?_⟩
      have tw9 := tw8.but1 b9 t9
      have hB9 := (tw9.xs _ inB).2
      have hF9 := (tw9.xs _ inF).2
      have hD9 := (tw9.xs _ inD).2
      dsimp only at hB9 hF9 hD9
      walk_at "rd"
      refine .inr ⟨_, rfl, ?_⟩
      by_cases ct : V.int d4 = V.int 0
      rw [decide_eq_true ct]
      walk_at "rd"
      (try unfold tNil)
      dsimp only
      refine Tw.call' tw9.swap inP l1 l6 (by omega) bE bT (fun H10 G2 A2 tw10 qe qt qv => ?_)
      obtain ⟨A', B', tw', aE', aT', aV', bE', bT', bV'⟩ : ∃ A' B', Tw C G2 H10 (i + 1) a c X l A' B' ∧ A'.e = e1 ∧ A'.t = st1 ∧ A'.v = .ref va1 ∧ B'.e = e2 ∧ B'.t = st2 ∧ B'.v = .ref va2 := ⟨A, A2, tw10.swap, aE, aT, aV, qe.trans bE, qt.trans bT, qv.trans bV⟩
      rotate_left
      rw [decide_eq_false ct]
      walk_at "rd"
      (try unfold tNil)
      dsimp only
      refine Tw.call' tw9 inP l1 l6 (by omega) aE aT (fun H10 G2 A2 tw10 qe qt qv => ?_)
      obtain ⟨A', B', tw', aE', aT', aV', bE', bT', bV'⟩ : ∃ A' B', Tw C G2 H10 (i + 1) a c X l A' B' ∧ A'.e = e1 ∧ A'.t = st1 ∧ A'.v = .ref va1 ∧ B'.e = e2 ∧ B'.t = st2 ∧ B'.v = .ref va2 := ⟨A2, B, tw10, qe.trans aE, qt.trans aT, qv.trans aV, bE, bT, bV⟩
      rotate_left
      all_goals
        walk_at "rd"
        refine ⟨by decide, by decide, for_range (ivIn C G2 (i + 1) a c X l A' B' s p ba F D _ _ _) ⟨_, rfl, tw'⟩ ?_ ?_⟩
        · rintro j σ H11 hj ⟨x8, rfl, twj⟩
          have hB := (twj.xs _ inB).2
          have hF := (twj.xs _ inF).2
          have hD := (twj.xs _ inD).2
          dsimp only at hB hF hD
          match j, hj with
          | 0, _ =>
            obtain ⟨ca, hca, hr⟩ := twj.sA.right' aE' aT' aV'
            walk_at "rd"
            (try unfold tNil)
            dsimp only
            refine hr _ _ (fun H12 s12 => ?_)
            walk_at "rd"
            exact twj.same s12
          | 1, _ =>
            obtain ⟨ca, hca, hr⟩ := twj.sB.right' bE' bT' bV'
            walk_at "rd"
            (try unfold tNil)
            dsimp only
            refine hr _ _ (fun H12 s12 => ?_)
            walk_at "rd"
            exact twj.same s12
          | j + 2, hj => omega
        · rintro σ H11 ⟨x8, rfl, twj⟩
          walk_at "rd"
          exact ⟨G2, A', B', _, _, _, _, rfl, twj, aE', aT', aV', bE', bT', bV'⟩
    · rintro σ H8 ⟨G, A, B, x6, x7, x8, x9, rfl, tw8, aE, aT, aV, bE, bT, bV⟩
      have k28 : (4 + dn).toNat ≤ 28 := by omega
      walk_at "rd"
      refine ⟨by decide, by decide, for_range (ivOut C G (4 + dn).toNat a c X l A B s p ba F D _ _ _) ⟨_, rfl, fun _ => tw8, fun h => absurd h (by decide)⟩ ?_ ?_⟩
      · rintro j σ H11 hj ⟨x8, rfl, g0, g1⟩
        match j, hj with
        | 0, _ =>
          have twj := g0 rfl
          have hB := (twj.xs _ inB).2
          have hF := (twj.xs _ inF).2
          have hD := (twj.xs _ inD).2
          dsimp only at hB hF hD
          walk_at "rd"
          (try unfold tNil)
          dsimp only
          refine twj.sA.baf' k28 aE aT aV (fun H12 f12 => ?_)
          walk_at "rd"
          exact ⟨fun h => absurd h (by decide), fun _ => twj.after f12⟩
        | 1, _ =>
          obtain ⟨okB, xs⟩ := g1 rfl
          have hB := xs _ inB
          have hF := xs _ inF
          have hD := xs _ inD
          dsimp only at hB hF hD
          walk_at "rd"
          (try unfold tNil)
          dsimp only
          refine okB.baf' k28 bE bT bV (fun H12 f12 => ?_)
          walk_at "rd"
          exact ⟨fun h => absurd h (by decide), fun h => absurd h (by decide)⟩
        | j + 2, hj => omega
      · rintro σ H11 ⟨x8, rfl, g0, g1⟩
        walk_at "rq"
        exact kk _
end
end K7

set_option Elab.async false
set_option linter.all false
set_option maxRecDepth 100000
set_option maxHeartbeats 4000000
namespace K7
open PySem PySem.Spec PyProof.Rows L2 Ed
open C8 (Cal Met Mak pe_c pe_mk pe_mt pe_mt0)
/-! ### small words of the proofs: walk_at "lk" (what stands at an address), "ne" (two addresses differ), "rd" (the plain steps of a reading) -/
local macro_rules | `(tactic| walk_at "ne") => `(tactic| first
  | assumption
  | exact Ne.symm (by assumption)
  | exact ne_of_none (by assumption) (by assumption)
  | exact Ne.symm (ne_of_none (by assumption) (by assumption))
  | exact ne_of (by assumption) (by assumption) (by intro z; cases z)
  | exact ne_of_none (by walk_at "lk") (by assumption)
  | exact Ne.symm (ne_of_none (by walk_at "lk") (by assumption))
  | exact ne_of (by walk_at "lk") (by walk_at "lk") (by intro z; cases z))
local macro_rules | `(tactic| walk_at "lk") => `(tactic| first
  | assumption
  | exact upd_same
  | (refine lk_new (by assumption) ?_; walk_at "lk")
  | (refine Same.at (by assumption) ?_; walk_at "lk")
  | (refine Kp.at (by assumption) ?_; walk_at "lk")
  | (refine lk_ne (by walk_at "ne") ?_; walk_at "lk"))
local macro_rules | `(tactic| walk_at "at") => `(tactic| first
  | rfl
  | exact atI_last _ _
  | exact atI_neg1 (by assumption)
  | exact atI_nat (by first | assumption | rfl))
local macro_rules | `(tactic| walk_at "ix") => `(tactic| first
  | refine ⟨_, _, _, _, rfl, rfl, SqT.of (by walk_at "lk"), by walk_at "at", ?_⟩
  | refine ⟨_, _, _, _, rfl, rfl, SqL.of (by walk_at "lk"), by walk_at "at", ?_⟩)
local macro_rules | `(tactic| walk_at "ty") => `(tactic| first
  | exact TyOf.int _
  | exact TyOf.str _
  | exact TyOf.bl _
  | exact TyOf.tup (by walk_at "lk"))
local macro_rules | `(tactic| walk_at "isi") => `(tactic| first
  | refine ⟨_, _, _, _, true, rfl, .ty _, .base (by walk_at "ty"), kit_ty (by decide +kernel), ?_⟩
  | refine ⟨_, _, _, _, false, rfl, .ty _, .base (by walk_at "ty"), kit_ty (by decide +kernel), ?_⟩)
local macro_rules | `(tactic| walk_at "cnd") => `(tactic| first
  | exact ⟨by decide, by decide, by decide⟩
  | exact Or.inr ⟨by decide, by decide⟩
  | (show (0 : Int) < _; decide))
local macro_rules | `(tactic| walk_at "rd1") => `(tactic| first
  | (with_reducible refine iteN kept_ne ?_)
  | (with_reducible refine iteN ins_ne ?_)
  | refine ⟨_, rfl, ?_⟩
  | refine ⟨_, _, rfl, rfl, ?_⟩
  | walk_at "ix"
  | refine ⟨rfl, ?_⟩
  | refine ⟨_, _, rfl, ?_⟩
  | refine ⟨Nat.le_of_ble_eq_true rfl, ?_⟩
  | walk_at "isi"
  | refine .inl ⟨_, rfl, ?_⟩
  | refine ⟨_, _, _, _, rfl, rfl, (by walk_at "lk"), rfl, ?_⟩
  | refine ⟨(by walk_at "cnd"), ?_⟩
  | refine ⟨.inl ⟨rfl, _, SqL.of (by walk_at "lk")⟩, ?_⟩)
local macro_rules | `(tactic| walk_at "rd") => `(tactic| repeat (walk_at "rd1"))
local macro_rules | `(tactic| walk_at "rq") => `(tactic| ((repeat (walk_at "rd1")); (try dsimp only)))
local macro_rules | `(tactic| walk_at "ln") => `(tactic| first
  | refine ⟨_, _, rfl, .inr (SqT.of (by walk_at "lk")), ?_⟩
  | refine ⟨_, _, rfl, .inl (SqL.of (by walk_at "lk")), ?_⟩)
local macro_rules | `(tactic| walk_at "rl") => `(tactic| repeat (first | walk_at "rd1" | walk_at "ln"))
local macro_rules | `(tactic| walk_at "rlq") => `(tactic| ((repeat (first | walk_at "rd1" | walk_at "ln")); (try dsimp only)))

section
variable {P : Program} {w : World} {K : PySem.W.Frag} {mg : Str → Option Value} {base h : Heap} {C CI CT fI fT : Addr}
/-! ### from the written part -/
theorem mkD {x : Str} {st : Stmt} {ps : List Str} {f : Addr} {oc : Value} {od an : Option Addr} {osl : Array (Option Value)} {kV doc pm cdv ct : Value} (X : K.In h) (G : h.Ns mainGlobals mg) (a : PySem.W.nsIn K mainGlobals x = some (some (.ref f)))
    (l : K.lookup f = some ⟨oc, od, .func (PySem.W.fnOf x x (defArgs st) (defBody st) (defScope st) .none kV doc pm an cdv ct), osl⟩) (c : PySem.W.codeIn K cdv x = true) (k : PySem.W.keepIn K (.ref f) = true)
    (b : ∀ (kV doc pm : Value) (an : Option Addr) (cdv ct : Value) (us : List Value), us.length = ps.length → bindArgs (PySem.W.fnOf x x (defArgs st) (defBody st) (defScope st) .none kV doc pm an cdv ct) ⟨us, []⟩ = pure (ps.zip us)) : Dn K mg x st ps :=
  ⟨f, _, fun_mk l c k, PySem.W.mg_of X G a, (fun_mk l c k).binds b⟩
theorem mkM {m qual : Str} {st : Stmt} {ps : List Str} {f : Addr} {oc : Value} {od an : Option Addr} {osl : Array (Option Value)} {kV doc pm cdv ct : Value} (a : PySem.W.findIn K (.ref C) m = some (some (.ref f))) (i : PySem.W.isFn K (.ref f) = true)
    (l : K.lookup f = some ⟨oc, od, .func (PySem.W.fnOf m qual (defArgs st) (defBody st) (defScope st) .none kV doc pm an cdv ct), osl⟩) (c : PySem.W.codeIn K cdv qual = true) (k : PySem.W.keepIn K (.ref f) = true)
    (b : ∀ (kV doc pm : Value) (an : Option Addr) (cdv ct : Value) (us : List Value), us.length = ps.length → bindArgs (PySem.W.fnOf m qual (defArgs st) (defBody st) (defScope st) .none kV doc pm an cdv ct) ⟨us, []⟩ = pure (ps.zip us)) : Dm K C m qual st ps :=
  ⟨f, _, fun_mk l c k, ⟨a, i, k⟩, (fun_mk l c k).binds b⟩
theorem mkP {m qual : Str} {st : Stmt} {p f : Addr} {rest : List Value} {oc : Value} {od an : Option Addr} {osl : Array (Option Value)} {kV doc pm cdv ct : Value} (a : PySem.W.findIn K (.ref C) m = some (some (.ref p))) (g : PySem.W.specialIn K (.ref p) "__get__" = some (some (.builtin "property.__get__")))
    (t : PySem.W.takesIn K (.ref p) = some true) (r : PySem.W.recIn K p "property" = some (.ref f :: rest))
    (l : K.lookup f = some ⟨oc, od, .func (PySem.W.fnOf m qual (defArgs st) (defBody st) (defScope st) .none kV doc pm an cdv ct), osl⟩) (c : PySem.W.codeIn K cdv qual = true) (k : PySem.W.keepIn K (.ref f) = true)
    (b : ∀ (kV doc pm : Value) (an : Option Addr) (cdv ct : Value) (us : List Value), us.length = (["self"] : List Str).length → bindArgs (PySem.W.fnOf m qual (defArgs st) (defBody st) (defScope st) .none kV doc pm an cdv ct) ⟨us, []⟩ = pure ((["self"] : List Str).zip us)) : Dp K C m qual st :=
  ⟨p, f, _, ⟨a, g, t, _, r⟩, fun_mk l c k, (fun_mk l c k).binds b⟩
theorem mkI {qual : Str} {st : Stmt} {ps : List Str} {f : Addr} {oc : Value} {od an : Option Addr} {osl : Array (Option Value)} {kV doc pm cdv ct : Value} (a : PySem.W.findIn K (.ref C) "__init__" = some (some (.ref f))) (i : PySem.W.isFn K (.ref f) = true)
    (l : K.lookup f = some ⟨oc, od, .func (PySem.W.fnOf "__init__" qual (defArgs st) (defBody st) (defScope st) .none kV doc pm an cdv ct), osl⟩) (c : PySem.W.codeIn K cdv qual = true) (k : PySem.W.keepIn K (.ref f) = true) (mk : PySem.W.makesIn K C = true) (kc : PySem.W.keepIn K (.ref C) = true)
    (b : ∀ (kV doc pm : Value) (an : Option Addr) (cdv ct : Value) (us : List Value), us.length = ps.length → bindArgs (PySem.W.fnOf "__init__" qual (defArgs st) (defBody st) (defScope st) .none kV doc pm an cdv ct) ⟨us, []⟩ = pure (ps.zip us)) : Di K C qual st ps :=
  ⟨f, _, fun_mk l c k, ⟨mk, a, i, kc⟩, (fun_mk l c k).binds b⟩
abbrev veT : List Value := [.type "ValueError", .type "Exception", .type "BaseException", .type "object"]
theorem mkSup {x f : Str} {C fI S NS N : Addr} {nm q nmS qS : Str} {bs bsS : List Value} {sn snS : List Str} {sub subS : List Value} {ab abS hS : Bool} {col colS : Option Bool} {dd ddS : Option Addr} {k0 k1 k2 k3 k5 s0 s1 s2 s3 s5 : Option Value} {nS : String}
    {oc : Value} {od : Option Addr} {doc pm : Value} {an : Option Addr} {cda cc : Addr} {ct : Value} {osl : Array (Option Value)} {qual : Str} {sc : Scope} {params : Arguments} {ar : Arg} {msg : Str} {j : Nat} {p0 p1 p2 p3 p4 p5 p6 p7 p8 p9 : Pos}
    {ccl cl : Value} {cdd cld : Option Addr} {ccs csl : Array (Option Value)} {vs : Array Value} {file : Str} {tf : Tok}
    (X : K.In h) (G : h.Ns mainGlobals mg) (aC : PySem.W.nsIn K mainGlobals x = some (some (.ref C))) (zs : PySem.W.nsIn K mainGlobals "super" = some none)
    (aS : PySem.W.nsIn K mainGlobals "ShapeError" = some (some (.ref S)))
    (xC : K.lookup C = some (excClassObj nm q C N bs (.ref S :: veT) true sn sub ab col dd k0 k1 k2 k3 k5 "ValueError.__new__"))
    (xS : K.lookup S = some (excClassObj nmS qS S NS bsS veT hS snS subS abS colS ddS s0 s1 s2 s3 s5 nS))
    (iS : PySem.W.findIn K (.ref S) "__init__" = some (some (.builtin "ValueError.__init__")))
    (sa : PySem.W.findIn K (.ref C) "__setattr__" = some (some (.builtin "object.__setattr__"))) (nn : PySem.W.findIn K (.ref C) f = some none) (iC : PySem.W.findIn K (.ref C) "__init__" = some (some (.ref fI)))
    (tC : PySem.W.typeIn K (.ref fI) = some (.type "function")) (kC : PySem.W.keepIn K (.ref C) = true) (exC : PySem.W.subIn K (.ref C) (.type "BaseException") = some true) (veC : PySem.W.subIn K (.ref C) (.type "ValueError") = some true)
    (tyC : PySem.W.typeIn K (.ref C) = some (.type "type")) (opq : PySem.W.nsIn K cStatics "thirdparty.any" = some none)
    (l : K.lookup fI = some ⟨oc, od, .func (PySem.W.ksFn "__init__" qual params [.Expr (.Call (.Attribute (.Call (.Name "super" p0) [] [] p1) "__init__" p2) [.Constant (.str msg) j p3] [] p4) p5,
      .Assign [.Attribute (.Name "self" p6) f p7] (.Name f p8) p9] sc .none .none doc pm an (.ref cda) ct cc), osl⟩)
    (c : PySem.W.codeIn K (.ref cda) qual = true) (lc : K.lookup cda = some ⟨ccl, cdd, .fields vs, ccs⟩) (lx : K.lookup cc = some ⟨cl, cld, .cell (some (.ref C)), csl⟩) (htop : (P.main.scope.names.lookup ("super" : Str)).isSome = false)
    (v2 : vs[2]? = some (.str file tf)) (hf : ((P.main.file : Str) == file) = true)
    (sd : sc.kind = .function ∧ sc.isCoroutine = false ∧ sc.isGenerator = false ∧ (∀ y ∈ sc.names, y.2 ≠ .cell) ∧
      sc.names.lookup ("super" : Str) = some .globalImplicit ∧ sc.names.lookup ("__class__" : Str) = some .free ∧ sc.names.lookup ("self" : Str) = some .local ∧ sc.names.lookup f = some .local ∧
      p2.endLine = p4.line ∧ (params.posonlyargs ++ params.args).head? = some ar ∧ ar.arg = "self" ∧ f ≠ "self" ∧ (f == ("__debug__" : Str)) = false)
    (bd : ∀ (u v : Value), bindArgs (PySem.W.ksFn "__init__" qual params [.Expr (.Call (.Attribute (.Call (.Name "super" p0) [] [] p1) "__init__" p2) [.Constant (.str msg) j p3] [] p4) p5,
      .Assign [.Attribute (.Name "self" p6) f p7] (.Name f p8) p9] sc .none .none doc pm an (.ref cda) ct cc) ⟨[u, v], []⟩ = pure [(("self" : Str), u), (f, v)]) : PySem.SupE.SupTxt P K mg x f C fI := by
  obtain ⟨d1, d2, d3, d4, d5, d6, d7, d8, d9, d10, d11, d12, d13⟩ := sd
  have al : PySem.W.alongIn K "__init__" (.ref S :: veT) = some (some (.builtin "ValueError.__init__")) := by
    unfold PySem.W.findIn at iS
    dsimp only at iS
    rw [xS] at iS
    exact iS
  have vb : HandSPX.refsVE (.ref S :: veT) = true := by
    show HandSPX.refsVE veT = true
    decide +kernel
  exact ⟨PySem.W.mg_of X G aC, PySem.W.mg_none_of X G zs, ⟨nm, q, N, bs, _, sn, sub, ab, col, dd, k0, k1, k2, k3, k5, xC, vb, al⟩, sa, nn, iC, tC, kC, exC, veC, tyC, opq, htop,
    ⟨oc, od, doc, pm, an, cda, cc, ct, osl, qual, sc, params, ar, msg, j, p0, p1, p2, p3, p4, p5, p6, p7, p8, p9, ccl, cl, cdd, cld, ccs, csl, vs, file, tf, l, c, lc, v2, hf, lx, d1, d2, d3, d4, d5, d6, d7, d8, d9, d10, d11, d12, d13, bd⟩⟩
theorem all_ok {f : Addr} {fd : FuncData} (F0 : L2.Fun K "law" "law" s_law f fd)
  (D_check_count : Dn K mg "check_count" s_check_count ["count"])
  (D_length_of : Dn K mg "length_of" s_length_of ["piece"])
  (D_piece_part : Dn K mg "piece_part" s_piece_part ["piece", "start", "end"])
  (D_pieces_part : Dn K mg "pieces_part" s_pieces_part ["pieces", "start", "end"])
  (D_can_join : Dn K mg "can_join" s_can_join ["piece", "after"])
  (D_joined_piece : Dn K mg "joined_piece" s_joined_piece ["piece", "after"])
  (D_tidied : Dn K mg "tidied" s_tidied ["pieces"])
  (D_described : Dn K mg "described" s_described ["pieces", "base"])
  (D_edits_of : Dn K mg "edits_of" s_edits_of ["pieces", "length"])
  (D__law_tape : Dn K mg "_law_tape" s__law_tape ["_law_script"])
  (D__law_draw : Dn K mg "_law_draw" s__law_draw ["_law_tape_here", "_law_many"])
  (D__law_alike : Dn K mg "_law_alike" s__law_alike ["_law_told", "_law_due"])
  (D__law_scalar : Dn K mg "_law_scalar" s__law_scalar ["_law_tape_here"])
  (D__law_element : Dn K mg "_law_element" s__law_element ["_law_tape_here"])
  (D__law_pool : Dn K mg "_law_pool" s__law_pool ["_law_tape_here"])
  (D__law_contents : Dn K mg "_law_contents" s__law_contents ["_law_tape_here", "_law_pool_here", "_law_most"])
  (D__law_pieces : Dn K mg "_law_pieces" s__law_pieces ["_law_origins"])
  (D__law_of_origins : Dn K mg "_law_of_origins" s__law_of_origins ["_law_base", "_law_origins"])
  (D__law_edits_of : Dn K mg "_law_edits_of" s__law_edits_of ["_law_base", "_law_pieces_here"])
  (D__law_replace : Dn K mg "_law_replace" s__law_replace ["_law_editor", "_law_start", "_law_end", "_law_inserted"])
  (D__law_deed : Dn K mg "_law_deed" s__law_deed ["_law_tape_here", "_law_pool_here", "_law_editor", "_law_state"])
  (D__law_right : Dn K mg "_law_right" s__law_right ["_law_editor", "_law_base", "_law_origins"])
  (D__law_back_and_forth : Dn K mg "_law_back_and_forth" s__law_back_and_forth ["_law_editor", "_law_base", "_law_state"])
  (D_E_become : Dm K C "_become" "Editor._become" s_Editor__become ["self", "pieces"])
  (D_Ereplace_range : Dm K C "replace_range" "Editor.replace_range" s_Editor_replace_range ["self", "start", "end", "inserted"])
  (D_Eundo : Dm K C "undo" "Editor.undo" s_Editor_undo ["self"])
  (D_Eredo : Dm K C "redo" "Editor.redo" s_Editor_redo ["self"])
  (D_E__len__ : Dm K C "__len__" "Editor.__len__" s_Editor___len__ ["self"])
  (D_Epieces : Dp K C "pieces" "Editor.pieces" s_Editor_pieces)
  (D_Econtents : Dp K C "contents" "Editor.contents" s_Editor_contents)
  (D_Eedits : Dp K C "edits" "Editor.edits" s_Editor_edits)
  (D_Einit : Di K C "Editor.__init__" s_Editor___init__ ["self", "contents"])
  (gC : mg "Editor" = some (.ref C)) (T : Blt mg) (TC : EdC K C) (gM : ∃ t, mg "MOST_ELEMENTS" = some (.int 2000 t))
  (XI : PySem.SupE.SupTxt P K mg "IndexOutOfRange" "place" CI fI) (XT : PySem.SupE.SupTxt P K mg "TooManyElements" "count" CT fT) (EX : ExC K CI CT) :
    FnOk P w K mg base CX0 9 f fd ["_law_script"] (spLaw K) := by
  have c_len := ok_length_of (P := P) (w := w) (K := K) (mg := mg) (base := base) D_length_of T
  have c_part := ok_piece_part (P := P) (w := w) (K := K) (mg := mg) (base := base) D_piece_part T
  have c_can := ok_can_join (P := P) (w := w) (K := K) (mg := mg) (base := base) D_can_join T
  have c_join := ok_joined_piece (P := P) (w := w) (K := K) (mg := mg) (base := base) D_joined_piece T
  have c_parts := ok_pieces_part D_pieces_part T c_len c_part
  have c_tidy := ok_tidied D_tidied T c_len c_can c_join
  have c_desc := ok_described (P := P) (w := w) (K := K) (mg := mg) (base := base) D_described T
  have c_edits := ok_edits_of (P := P) (w := w) (K := K) (mg := mg) (base := base) D_edits_of T
  have m_bec := ok_become D_E_become T TC c_desc
  have p_pieces := ok_pieces (P := P) (w := w) (K := K) (mg := mg) (base := base) D_Epieces TC
  have p_contents := ok_contents (P := P) (w := w) (K := K) (mg := mg) (base := base) D_Econtents TC
  have p_edits := ok_edits D_Eedits T TC c_edits
  have l_len := ok_len (P := P) (w := w) (K := K) (mg := mg) (base := base) D_E__len__ T TC
  have mk_E := ok_init D_Einit gC T TC c_tidy
  have m_undo := ok_undo D_Eundo T TC m_bec
  have m_redo := ok_redo D_Eredo T TC m_bec
  have cc := ok_check_count (P := P) (w := w) (K := K) (mg := mg) (base := base) D_check_count gM XT
  have m_repl := ok_replace_range D_Ereplace_range T TC m_bec XI cc c_parts c_tidy
  have c_alike := fun n => ok_alike (P := P) (w := w) (K := K) (mg := mg) (base := base) D__law_alike T n
  have c_draw := ok_draw (P := P) (w := w) (K := K) (mg := mg) (base := base) D__law_draw T
  have c_tape := ok_tape (P := P) (w := w) (K := K) (mg := mg) (base := base) D__law_tape T
  have c_scalar := ok_scalar D__law_scalar T c_draw
  have c_element := ok_element D__law_element T c_draw c_scalar
  have c_pool := ok_pool D__law_pool T c_draw c_element
  have c_con := ok_lcontents D__law_contents T c_draw
  have c_lp := ok_lpieces (P := P) (w := w) (K := K) (mg := mg) (base := base) D__law_pieces T
  have c_lof := ok_lof (P := P) (w := w) (K := K) (mg := mg) (base := base) D__law_of_origins T
  have c_led := ok_led (P := P) (w := w) (K := K) (mg := mg) (base := base) D__law_edits_of T
  have c_rep := ok_lrep D__law_replace TC XI XT EX m_repl
  have c_deed := ok_deed D__law_deed T c_draw (c_alike 2) c_rep m_undo m_redo
  have c_right := ok_right D__law_right T TC l_len p_pieces p_contents p_edits c_lp c_lof c_led (c_alike 6)
  have c_baf := ok_baf D__law_back_and_forth T m_undo m_redo c_right
  exact ok_law F0 T c_tape c_draw c_pool c_con mk_E c_deed c_right c_baf
end
theorem walk {l : PySem.W.OpenLaw} {q : Program} {loose : List Str} {XP : (Str → Option Value) → Heap → Prop} {YP : World → Heap → Prop} {d : DefRec} {K : Params → PySem.W.Frag} (hn : l.most = some 63) (hdf : d.params.defaults = [])
    (hY : ∀ (w : World) (h : Heap), YP w h → (K w.params).In h)
    (F : ∀ (w : World) (mg : Str → Option Value) (fa : Addr) (h : Heap), (K w.params).In h → h.Ns mainGlobals mg → mg d.name = some (.ref fa) →
      ∃ fd : FuncData, (∀ (s : Shared) (u : Value), BindsTo s fd ⟨[u], []⟩ [("_law_script", u)]) ∧ ∀ base : Heap, (K w.params).In base → base.Ns mainGlobals mg → FnOk l.prog w (K w.params) mg base CX0 9 fa fd ["_law_script"] (spLaw (K w.params))) :
    PySem.W.WalkO q loose XP YP l.row.toRowW d [] (fun f vs => PySem.call f vs) :=
  L2.walk_of (n := 63) (k := 9) (x := "_law_script") (CX := fun _ => CX0) (sp := fun w => spLaw (K w.params)) hn (by decide) hdf ⟨rfl, by decide, by decide⟩ hY F (fun _ _ a ns hl _ hS => ⟨a, ns, rfl, hS, fun _ => rfl⟩) fun _ _ _ _ _ z => z
theorem fin {l : PySem.W.OpenLaw} {w : World} {K : PySem.W.Frag} {h : Heap} {mg : Str → Option Value} {fa f C CI CT fI fT : Addr} {oc : Value} {od an : Option Addr} {osl : Array (Option Value)} {kV doc pm cdv ct : Value} {tM : Tok}
  (X : K.In h) (G : h.Ns mainGlobals mg) (hfa : mg "law" = some (.ref fa))
  (aL : PySem.W.nsIn K mainGlobals "law" = some (some (.ref f))) (lL : K.lookup f = some ⟨oc, od, .func (PySem.W.fnOf "law" "law" (defArgs s_law) (defBody s_law) (defScope s_law) .none kV doc pm an cdv ct), osl⟩) (cL : PySem.W.codeIn K cdv "law" = true) (kL : PySem.W.keepIn K (.ref f) = true)
  (D_check_count : Dn K mg "check_count" s_check_count ["count"])
  (D_length_of : Dn K mg "length_of" s_length_of ["piece"])
  (D_piece_part : Dn K mg "piece_part" s_piece_part ["piece", "start", "end"])
  (D_pieces_part : Dn K mg "pieces_part" s_pieces_part ["pieces", "start", "end"])
  (D_can_join : Dn K mg "can_join" s_can_join ["piece", "after"])
  (D_joined_piece : Dn K mg "joined_piece" s_joined_piece ["piece", "after"])
  (D_tidied : Dn K mg "tidied" s_tidied ["pieces"])
  (D_described : Dn K mg "described" s_described ["pieces", "base"])
  (D_edits_of : Dn K mg "edits_of" s_edits_of ["pieces", "length"])
  (D__law_tape : Dn K mg "_law_tape" s__law_tape ["_law_script"])
  (D__law_draw : Dn K mg "_law_draw" s__law_draw ["_law_tape_here", "_law_many"])
  (D__law_alike : Dn K mg "_law_alike" s__law_alike ["_law_told", "_law_due"])
  (D__law_scalar : Dn K mg "_law_scalar" s__law_scalar ["_law_tape_here"])
  (D__law_element : Dn K mg "_law_element" s__law_element ["_law_tape_here"])
  (D__law_pool : Dn K mg "_law_pool" s__law_pool ["_law_tape_here"])
  (D__law_contents : Dn K mg "_law_contents" s__law_contents ["_law_tape_here", "_law_pool_here", "_law_most"])
  (D__law_pieces : Dn K mg "_law_pieces" s__law_pieces ["_law_origins"])
  (D__law_of_origins : Dn K mg "_law_of_origins" s__law_of_origins ["_law_base", "_law_origins"])
  (D__law_edits_of : Dn K mg "_law_edits_of" s__law_edits_of ["_law_base", "_law_pieces_here"])
  (D__law_replace : Dn K mg "_law_replace" s__law_replace ["_law_editor", "_law_start", "_law_end", "_law_inserted"])
  (D__law_deed : Dn K mg "_law_deed" s__law_deed ["_law_tape_here", "_law_pool_here", "_law_editor", "_law_state"])
  (D__law_right : Dn K mg "_law_right" s__law_right ["_law_editor", "_law_base", "_law_origins"])
  (D__law_back_and_forth : Dn K mg "_law_back_and_forth" s__law_back_and_forth ["_law_editor", "_law_base", "_law_state"])
  (aC : PySem.W.nsIn K mainGlobals "Editor" = some (some (.ref C)))
  (D_E_become : Dm K C "_become" "Editor._become" s_Editor__become ["self", "pieces"])
  (D_Ereplace_range : Dm K C "replace_range" "Editor.replace_range" s_Editor_replace_range ["self", "start", "end", "inserted"])
  (D_Eundo : Dm K C "undo" "Editor.undo" s_Editor_undo ["self"])
  (D_Eredo : Dm K C "redo" "Editor.redo" s_Editor_redo ["self"])
  (D_E__len__ : Dm K C "__len__" "Editor.__len__" s_Editor___len__ ["self"])
  (D_Epieces : Dp K C "pieces" "Editor.pieces" s_Editor_pieces)
  (D_Econtents : Dp K C "contents" "Editor.contents" s_Editor_contents)
  (D_Eedits : Dp K C "edits" "Editor.edits" s_Editor_edits)
  (D_Einit : Di K C "Editor.__init__" s_Editor___init__ ["self", "contents"])
  (z_len : PySem.W.nsIn K mainGlobals "len" = some none)
  (z_max : PySem.W.nsIn K mainGlobals "max" = some none)
  (z_min : PySem.W.nsIn K mainGlobals "min" = some none)
  (z_int : PySem.W.nsIn K mainGlobals "int" = some none)
  (z_abs : PySem.W.nsIn K mainGlobals "abs" = some none)
  (z_list : PySem.W.nsIn K mainGlobals "list" = some none)
  (z_tuple : PySem.W.nsIn K mainGlobals "tuple" = some none)
  (z_range : PySem.W.nsIn K mainGlobals "range" = some none)
  (z_isinstance : PySem.W.nsIn K mainGlobals "isinstance" = some none)
  (z_str : PySem.W.nsIn K mainGlobals "str" = some none)
  (z_bool : PySem.W.nsIn K mainGlobals "bool" = some none)
  (pg : PySem.W.plainGet K C Str.empty = true) (hd : PySem.W.hasDictIn K C = true) (po : PySem.W.plainOver K C = true) (sa : PySem.W.findIn K (.ref C) "__setattr__" = some (some (.builtin "object.__setattr__")))
  (n0 : PySem.W.findIn K (.ref C) "_base" = some none)
  (n1 : PySem.W.findIn K (.ref C) "_contents" = some none)
  (n2 : PySem.W.findIn K (.ref C) "_pieces" = some none)
  (n3 : PySem.W.findIn K (.ref C) "_undoable" = some none)
  (n4 : PySem.W.findIn K (.ref C) "_redoable" = some none)
  (aM : PySem.W.nsIn K mainGlobals "MOST_ELEMENTS" = some (some (.int 2000 tM)))
  (XI : PySem.SupE.SupTxt l.prog K mg "IndexOutOfRange" "place" CI fI) (XT : PySem.SupE.SupTxt l.prog K mg "TooManyElements" "count" CT fT) (EX : ExC K CI CT) :
    ∃ fd : FuncData, (∀ (s : Shared) (v : Value), BindsTo s fd ⟨[v], []⟩ [("_law_script", v)]) ∧ ∀ base : Heap, K.In base → base.Ns mainGlobals mg → FnOk l.prog w K mg base CX0 9 fa fd ["_law_script"] (spLaw K) := by
  have e := hfa.symm.trans (PySem.W.mg_of X G aL)
  cases e
  have nz : ∀ {x : Str}, PySem.W.nsIn K mainGlobals x = some none → mg x = none := fun q => PySem.W.mg_none_of X G q
  have T : Blt mg := ⟨nz z_len, nz z_max, nz z_min, nz z_int, nz z_abs, nz z_list, nz z_tuple, nz z_range, nz z_isinstance, nz z_str, nz z_bool⟩
  have TC : EdC K C := ⟨⟨pg, hd, po, sa⟩, n0, n1, n2, n3, n4⟩
  exact ⟨_, fun s v => .of_eq rfl, fun base _ _ => all_ok (fun_mk (st := s_law) lL cL kL) D_check_count D_length_of D_piece_part D_pieces_part D_can_join D_joined_piece D_tidied D_described D_edits_of D__law_tape D__law_draw D__law_alike D__law_scalar D__law_element D__law_pool D__law_contents D__law_pieces D__law_of_origins D__law_edits_of D__law_replace D__law_deed D__law_right D__law_back_and_forth D_E_become D_Ereplace_range D_Eundo D_Eredo D_E__len__ D_Epieces D_Econtents D_Eedits D_Einit (PySem.W.mg_of X G aC) T TC ⟨_, PySem.W.mg_of X G aM⟩ XI XT EX⟩
theorem mkEX {K : PySem.W.Frag} {CI CT : Addr} (a1 : PySem.W.findIn K (.ref CI) "__getattribute__" = some (some (.builtin "BaseException.__getattribute__"))) (a2 : PySem.W.findIn K (.ref CI) "__getattr__" = some none) (a3 : PySem.W.subIn K (.ref CI) (.type "BaseException") = some true) (a4 : PySem.W.hasDictIn K CI = true) (a5 : PySem.W.typeIn K (.ref CI) = some (.type "type"))
    (b1 : PySem.W.findIn K (.ref CT) "__getattribute__" = some (some (.builtin "BaseException.__getattribute__"))) (b2 : PySem.W.findIn K (.ref CT) "__getattr__" = some none) (b3 : PySem.W.subIn K (.ref CT) (.type "BaseException") = some true) (b4 : PySem.W.hasDictIn K CT = true) (b5 : PySem.W.typeIn K (.ref CT) = some (.type "type"))
    (e1 : PySem.W.subIn K (.ref CI) (.ref CI) = some true) (e2 : PySem.W.subIn K (.ref CT) (.ref CI) = some false) (e3 : PySem.W.subIn K (.ref CT) (.ref CT) = some true) : ExC K CI CT :=
  ⟨⟨a1, a2, a3, a4⟩, ⟨b1, b2, b3, b4⟩, PySem.W.exm_ref a3 a4 a5 e1, PySem.W.exm_ref a3 a4 a5 e2, PySem.W.exm_ref b3 b4 b5 e3⟩
end K7

open PySem PySem.W PyProof.Rows in
set_option maxRecDepth 100000 in
set_option maxHeartbeats 0 in
theorem PySem.Challenge.cw_sameshape_k72_whole_editor_undo_and_redo_holds : PySem.Challenge.rw_sameshape_k72_whole_editor_undo_and_redo.Holds := by
  w_on; o_law; k_head; (case hw => w_witness2)
  k_fill
  refine K7.walk (l := PySem.Challenge.rw_sameshape_k72_whole_editor_undo_and_redo) rfl rfl (fun w h Y => PySem.W.kIn_of Y) ?F
  case F =>
    intro w mg fa h KX G hmg
    refine' K7.fin (l := PySem.Challenge.rw_sameshape_k72_whole_editor_undo_and_redo) KX G hmg ?aL ?lL ?cL ?kL ?D_check_count ?D_length_of ?D_piece_part ?D_pieces_part ?D_can_join ?D_joined_piece ?D_tidied ?D_described ?D_edits_of ?D__law_tape ?D__law_draw ?D__law_alike ?D__law_scalar ?D__law_element ?D__law_pool ?D__law_contents ?D__law_pieces ?D__law_of_origins ?D__law_edits_of ?D__law_replace ?D__law_deed ?D__law_right ?D__law_back_and_forth ?aC ?D_E_become ?D_Ereplace_range ?D_Eundo ?D_Eredo ?D_E__len__ ?D_Epieces ?D_Econtents ?D_Eedits ?D_Einit ?z_len ?z_max ?z_min ?z_int ?z_abs ?z_list ?z_tuple ?z_range ?z_isinstance ?z_str ?z_bool ?pg ?hd ?po ?sa ?n0 ?n1 ?n2 ?n3 ?n4 ?aM ?XI ?XT ?EX
    (case aL => k_is)
    (case lL => k_is)
    (case cL => k_is)
    (case kL => k_is)
    case D_check_count =>
      refine' K7.mkD KX G ?a ?l ?c ?k (fun _ _ _ _ _ _ us hl => match us, hl with | [_], _ => rfl)
      (case a => k_is)
      (case l => k_is)
      (case c => k_is)
      (case k => k_is)
    case D_length_of =>
      refine' K7.mkD KX G ?a ?l ?c ?k (fun _ _ _ _ _ _ us hl => match us, hl with | [_], _ => rfl)
      (case a => k_is)
      (case l => k_is)
      (case c => k_is)
      (case k => k_is)
    case D_piece_part =>
      refine' K7.mkD KX G ?a ?l ?c ?k (fun _ _ _ _ _ _ us hl => match us, hl with | [_, _, _], _ => rfl)
      (case a => k_is)
      (case l => k_is)
      (case c => k_is)
      (case k => k_is)
    case D_pieces_part =>
      refine' K7.mkD KX G ?a ?l ?c ?k (fun _ _ _ _ _ _ us hl => match us, hl with | [_, _, _], _ => rfl)
      (case a => k_is)
      (case l => k_is)
      (case c => k_is)
      (case k => k_is)
    case D_can_join =>
      refine' K7.mkD KX G ?a ?l ?c ?k (fun _ _ _ _ _ _ us hl => match us, hl with | [_, _], _ => rfl)
      (case a => k_is)
      (case l => k_is)
      (case c => k_is)
      (case k => k_is)
    case D_joined_piece =>
      refine' K7.mkD KX G ?a ?l ?c ?k (fun _ _ _ _ _ _ us hl => match us, hl with | [_, _], _ => rfl)
      (case a => k_is)
      (case l => k_is)
      (case c => k_is)
      (case k => k_is)
    case D_tidied =>
      refine' K7.mkD KX G ?a ?l ?c ?k (fun _ _ _ _ _ _ us hl => match us, hl with | [_], _ => rfl)
      (case a => k_is)
      (case l => k_is)
      (case c => k_is)
      (case k => k_is)
    case D_described =>
      refine' K7.mkD KX G ?a ?l ?c ?k (fun _ _ _ _ _ _ us hl => match us, hl with | [_, _], _ => rfl)
      (case a => k_is)
      (case l => k_is)
      (case c => k_is)
      (case k => k_is)
    case D_edits_of =>
      refine' K7.mkD KX G ?a ?l ?c ?k (fun _ _ _ _ _ _ us hl => match us, hl with | [_, _], _ => rfl)
      (case a => k_is)
      (case l => k_is)
      (case c => k_is)
      (case k => k_is)
    case D__law_tape =>
      refine' K7.mkD KX G ?a ?l ?c ?k (fun _ _ _ _ _ _ us hl => match us, hl with | [_], _ => rfl)
      (case a => k_is)
      (case l => k_is)
      (case c => k_is)
      (case k => k_is)
    case D__law_draw =>
      refine' K7.mkD KX G ?a ?l ?c ?k (fun _ _ _ _ _ _ us hl => match us, hl with | [_, _], _ => rfl)
      (case a => k_is)
      (case l => k_is)
      (case c => k_is)
      (case k => k_is)
    case D__law_alike =>
      refine' K7.mkD KX G ?a ?l ?c ?k (fun _ _ _ _ _ _ us hl => match us, hl with | [_, _], _ => rfl)
      (case a => k_is)
      (case l => k_is)
      (case c => k_is)
      (case k => k_is)
    case D__law_scalar =>
      refine' K7.mkD KX G ?a ?l ?c ?k (fun _ _ _ _ _ _ us hl => match us, hl with | [_], _ => rfl)
      (case a => k_is)
      (case l => k_is)
      (case c => k_is)
      (case k => k_is)
    case D__law_element =>
      refine' K7.mkD KX G ?a ?l ?c ?k (fun _ _ _ _ _ _ us hl => match us, hl with | [_], _ => rfl)
      (case a => k_is)
      (case l => k_is)
      (case c => k_is)
      (case k => k_is)
    case D__law_pool =>
      refine' K7.mkD KX G ?a ?l ?c ?k (fun _ _ _ _ _ _ us hl => match us, hl with | [_], _ => rfl)
      (case a => k_is)
      (case l => k_is)
      (case c => k_is)
      (case k => k_is)
    case D__law_contents =>
      refine' K7.mkD KX G ?a ?l ?c ?k (fun _ _ _ _ _ _ us hl => match us, hl with | [_, _, _], _ => rfl)
      (case a => k_is)
      (case l => k_is)
      (case c => k_is)
      (case k => k_is)
    case D__law_pieces =>
      refine' K7.mkD KX G ?a ?l ?c ?k (fun _ _ _ _ _ _ us hl => match us, hl with | [_], _ => rfl)
      (case a => k_is)
      (case l => k_is)
      (case c => k_is)
      (case k => k_is)
    case D__law_of_origins =>
      refine' K7.mkD KX G ?a ?l ?c ?k (fun _ _ _ _ _ _ us hl => match us, hl with | [_, _], _ => rfl)
      (case a => k_is)
      (case l => k_is)
      (case c => k_is)
      (case k => k_is)
    case D__law_edits_of =>
      refine' K7.mkD KX G ?a ?l ?c ?k (fun _ _ _ _ _ _ us hl => match us, hl with | [_, _], _ => rfl)
      (case a => k_is)
      (case l => k_is)
      (case c => k_is)
      (case k => k_is)
    case D__law_replace =>
      refine' K7.mkD KX G ?a ?l ?c ?k (fun _ _ _ _ _ _ us hl => match us, hl with | [_, _, _, _], _ => rfl)
      (case a => k_is)
      (case l => k_is)
      (case c => k_is)
      (case k => k_is)
    case D__law_deed =>
      refine' K7.mkD KX G ?a ?l ?c ?k (fun _ _ _ _ _ _ us hl => match us, hl with | [_, _, _, _], _ => rfl)
      (case a => k_is)
      (case l => k_is)
      (case c => k_is)
      (case k => k_is)
    case D__law_right =>
      refine' K7.mkD KX G ?a ?l ?c ?k (fun _ _ _ _ _ _ us hl => match us, hl with | [_, _, _], _ => rfl)
      (case a => k_is)
      (case l => k_is)
      (case c => k_is)
      (case k => k_is)
    case D__law_back_and_forth =>
      refine' K7.mkD KX G ?a ?l ?c ?k (fun _ _ _ _ _ _ us hl => match us, hl with | [_, _, _], _ => rfl)
      (case a => k_is)
      (case l => k_is)
      (case c => k_is)
      (case k => k_is)
    (case aC => k_is)
    case D_E_become =>
      refine' K7.mkM ?a ?i ?l ?c ?k (fun _ _ _ _ _ _ us hl => match us, hl with | [_, _], _ => rfl)
      (case a => k_is)
      (case i => k_is)
      (case l => k_is)
      (case c => k_is)
      (case k => k_is)
    case D_Ereplace_range =>
      refine' K7.mkM ?a ?i ?l ?c ?k (fun _ _ _ _ _ _ us hl => match us, hl with | [_, _, _, _], _ => rfl)
      (case a => k_is)
      (case i => k_is)
      (case l => k_is)
      (case c => k_is)
      (case k => k_is)
    case D_Eundo =>
      refine' K7.mkM ?a ?i ?l ?c ?k (fun _ _ _ _ _ _ us hl => match us, hl with | [_], _ => rfl)
      (case a => k_is)
      (case i => k_is)
      (case l => k_is)
      (case c => k_is)
      (case k => k_is)
    case D_Eredo =>
      refine' K7.mkM ?a ?i ?l ?c ?k (fun _ _ _ _ _ _ us hl => match us, hl with | [_], _ => rfl)
      (case a => k_is)
      (case i => k_is)
      (case l => k_is)
      (case c => k_is)
      (case k => k_is)
    case D_E__len__ =>
      refine' K7.mkM ?a ?i ?l ?c ?k (fun _ _ _ _ _ _ us hl => match us, hl with | [_], _ => rfl)
      (case a => k_is)
      (case i => k_is)
      (case l => k_is)
      (case c => k_is)
      (case k => k_is)
    case D_Epieces =>
      refine' K7.mkP ?a ?g ?t ?r ?l ?c ?k (fun _ _ _ _ _ _ us hl => match us, hl with | [_], _ => rfl)
      (case a => k_is)
      (case g => k_is)
      (case t => k_is)
      (case r => k_is)
      (case l => k_is)
      (case c => k_is)
      (case k => k_is)
    case D_Econtents =>
      refine' K7.mkP ?a ?g ?t ?r ?l ?c ?k (fun _ _ _ _ _ _ us hl => match us, hl with | [_], _ => rfl)
      (case a => k_is)
      (case g => k_is)
      (case t => k_is)
      (case r => k_is)
      (case l => k_is)
      (case c => k_is)
      (case k => k_is)
    case D_Eedits =>
      refine' K7.mkP ?a ?g ?t ?r ?l ?c ?k (fun _ _ _ _ _ _ us hl => match us, hl with | [_], _ => rfl)
      (case a => k_is)
      (case g => k_is)
      (case t => k_is)
      (case r => k_is)
      (case l => k_is)
      (case c => k_is)
      (case k => k_is)
    case D_Einit =>
      refine' K7.mkI ?a ?i ?l ?c ?k ?mk ?kc (fun _ _ _ _ _ _ us hl => match us, hl with | [_, _], _ => rfl)
      (case a => k_is)
      (case i => k_is)
      (case l => k_is)
      (case c => k_is)
      (case k => k_is)
      (case mk => k_is)
      (case kc => k_is)
    (case z_len => k_is)
    (case z_max => k_is)
    (case z_min => k_is)
    (case z_int => k_is)
    (case z_abs => k_is)
    (case z_list => k_is)
    (case z_tuple => k_is)
    (case z_range => k_is)
    (case z_isinstance => k_is)
    (case z_str => k_is)
    (case z_bool => k_is)
    (case pg => k_is)
    (case hd => k_is)
    (case po => k_is)
    (case sa => k_is)
    (case n0 => k_is)
    (case n1 => k_is)
    (case n2 => k_is)
    (case n3 => k_is)
    (case n4 => k_is)
    (case aM => k_is)
    case XI =>
      refine' K7.mkSup KX G ?aC ?zs ?aS ?xC ?xS ?iS ?sa ?nn ?iC ?tC ?kC ?exC ?veC ?tyC ?opq ?l ?c ?lc ?lx ?htop ?v2 ?hf ?sd ?bd
      (case aC => k_is)
      (case zs => k_is)
      (case aS => k_is)
      (case xC => k_is)
      (case xS => k_is)
      (case iS => k_is)
      (case sa => k_is)
      (case nn => k_is)
      (case iC => k_is)
      (case tC => k_is)
      (case kC => k_is)
      (case exC => k_is)
      (case veC => k_is)
      (case tyC => k_is)
      (case opq => k_is)
      (case l => k_is)
      (case c => k_is)
      (case lc => k_is)
      (case lx => k_is)
      (case htop => decide +kernel)
      (case v2 => exact rfl)
      (case hf => exact rfl)
      (case sd => exact ⟨rfl, rfl, rfl, by decide +kernel, by decide +kernel, by decide +kernel, by decide +kernel, by decide +kernel, rfl, rfl, rfl, by decide +kernel, by decide +kernel⟩)
      (case bd => exact fun u v => rfl)
    case XT =>
      refine' K7.mkSup KX G ?aC ?zs ?aS ?xC ?xS ?iS ?sa ?nn ?iC ?tC ?kC ?exC ?veC ?tyC ?opq ?l ?c ?lc ?lx ?htop ?v2 ?hf ?sd ?bd
      (case aC => k_is)
      (case zs => k_is)
      (case aS => k_is)
      (case xC => k_is)
      (case xS => k_is)
      (case iS => k_is)
      (case sa => k_is)
      (case nn => k_is)
      (case iC => k_is)
      (case tC => k_is)
      (case kC => k_is)
      (case exC => k_is)
      (case veC => k_is)
      (case tyC => k_is)
      (case opq => k_is)
      (case l => k_is)
      (case c => k_is)
      (case lc => k_is)
      (case lx => k_is)
      (case htop => decide +kernel)
      (case v2 => exact rfl)
      (case hf => exact rfl)
      (case sd => exact ⟨rfl, rfl, rfl, by decide +kernel, by decide +kernel, by decide +kernel, by decide +kernel, by decide +kernel, rfl, rfl, rfl, by decide +kernel, by decide +kernel⟩)
      (case bd => exact fun u v => rfl)
    case EX =>
      refine' K7.mkEX ?a1 ?a2 ?a3 ?a4 ?a5 ?b1 ?b2 ?b3 ?b4 ?b5 ?e1 ?e2 ?e3
      (case a1 => k_is)
      (case a2 => k_is)
      (case a3 => k_is)
      (case a4 => k_is)
      (case a5 => k_is)
      (case b1 => k_is)
      (case b2 => k_is)
      (case b3 => k_is)
      (case b4 => k_is)
      (case b5 => k_is)
      (case e1 => k_is)
      (case e2 => k_is)
      (case e3 => k_is)
#print axioms PySem.Challenge.cw_sameshape_k72_whole_editor_undo_and_redo_holds
